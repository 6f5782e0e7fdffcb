import Derived.Test.YtpnfdhhfdidlmaaPrint26
namespace Go.Proofs.Ytpnfdhhfdidlmaa.Pure
open Go.RowKit Go.Proofs.Ytpnfdhhfdidlmaa.Print Go.Proofs.YtpnfdhhfdidlmaaW.PrintWords Go.Proofs.YtpnfdhhfdidlmaaW.PrintLast
set_option linter.unusedVariables false
set_option linter.unusedSimpArgs false

-- TELLS: what a printed function tells from some number of rounds on (ours; Ytpnfdhhfdidlmaa: the seat's name). Pasted at the head of a Pure text.
/-- From some number of rounds on f tells r. -/
def Tells {α : Type} (f : Nat → Option α) (r : α) : Prop := ∃ K, ∀ k, K ≤ k → f k = some r
namespace Tells
theorem leO {α : Type} {f : Nat → Option α} (hm : ∀ k, LeO (f k) (f (k + 1))) {K : Nat} {r : α} (h : f K = some r) : ∀ k, K ≤ k → f k = some r := by
  intro k hk
  induction hk with
  | refl => exact h
  | step _ ih => exact hm _ _ ih
theorem of {α : Type} {f : Nat → Option α} (hm : ∀ k, LeO (f k) (f (k + 1))) {r : α} (h : ∃ K, f K = some r) : Tells f r := by
  obtain ⟨K, h⟩ := h
  exact ⟨K, leO hm h⟩
theorem get {α : Type} {f : Nat → Option α} {r : α} (h : Tells f r) : ∃ k, f k = some r := by
  obtain ⟨K, h⟩ := h
  exact ⟨K, h K (Nat.le_refl K)⟩
theorem const {α : Type} (r : α) : Tells (fun _ => some r) r := ⟨0, fun _ _ => rfl⟩
theorem bind {α β : Type} {f : Nat → Option α} {g : Nat → α → Option β} {r : α} {s : β} (h : Tells f r) (h' : Tells (fun k => g k r) s) : Tells (fun k => (f k).bind (g k)) s := by
  obtain ⟨K, h⟩ := h
  obtain ⟨K', h'⟩ := h'
  refine ⟨max K K', fun k hk => ?_⟩
  show (f k).bind (g k) = some s
  rw [h k (by omega)]
  exact h' k (by omega)
theorem congr {α : Type} {f g : Nat → Option α} {r : α} (h : Tells g r) (e : ∀ k, f k = g k) : Tells f r := by
  obtain ⟨K, h⟩ := h
  exact ⟨K, fun k hk => (e k).trans (h k hk)⟩
theorem up {α : Type} {f g : Nat → Option α} {r : α} (h : Tells g r) (e : ∀ k, f (k + 1) = g k) : Tells f r := by
  obtain ⟨K, h⟩ := h
  refine ⟨K + 1, fun k hk => ?_⟩
  obtain ⟨m, rfl⟩ : ∃ m, k = m + 1 := ⟨k - 1, by omega⟩
  exact (e m).trans (h m (by omega))
theorem ite {α : Type} {c : Prop} [Decidable c] {f g : Nat → Option α} {r s : α} (h : c → Tells f r) (h' : ¬ c → Tells g s) : Tells (fun k => if c then f k else g k) (if c then r else s) := by
  by_cases hc : c
  · simp only [if_pos hc]; exact h hc
  · simp only [if_neg hc]; exact h' hc
theorem pos {α : Type} {c : Prop} [Decidable c] {f g : Nat → Option α} {r : α} (hc : c) (h : Tells f r) : Tells (fun k => if c then f k else g k) r := by
  simp only [if_pos hc]; exact h
theorem neg {α : Type} {c : Prop} [Decidable c] {f g : Nat → Option α} {r : α} (hc : ¬ c) (h : Tells g r) : Tells (fun k => if c then f k else g k) r := by
  simp only [if_neg hc]; exact h
end Tells
theorem wrap64_id {n : Int} (h0 : -9223372036854775808 ≤ n) (h1 : n < 9223372036854775808) : wrap64 n = n := by
  unfold wrap64; omega
theorem wf64 {n : Int} (h : (Lit.int .i64 n).wf = true) : -9223372036854775808 ≤ n ∧ n < 9223372036854775808 := by
  have h' : (decide (-9223372036854775808 ≤ n) && decide (n ≤ 9223372036854775807)) = true := h
  simp only [Bool.and_eq_true, decide_eq_true_eq] at h'
  omega

-- LISTS: what the printed texts' lists come to (ours). Behind tells.lean.
theorem rd_drop (l : List Int) (i : Nat) (h : i < l.length) : l.drop i = rd l (i : Int) :: l.drop (i + 1) := by
  rw [List.drop_eq_getElem_cons h]
  congr 1
  show l[i] = l.getD (i : Int).toNat 0
  simp [h]
theorem rd_at (l : List Int) (i : Nat) (h : i < l.length) : rd l (i : Int) = l[i] := by
  show l.getD (i : Int).toNat 0 = _
  simp [h]
theorem rd_mid (A : List Int) (x : Int) (B : List Int) : rd (A ++ x :: B) (A.length : Int) = x := by
  show (A ++ x :: B).getD (A.length : Int).toNat 0 = x
  simp
theorem rd_mid' {l A : List Int} {x : Int} {B : List Int} {i : Int} (h : l = A ++ x :: B) (hi : i = (A.length : Int)) : rd l i = x := by
  subst h hi; exact rd_mid A x B
theorem set_mid (A : List Int) (x v : Int) (B : List Int) : (A ++ x :: B).set ((A.length : Int)).toNat v = A ++ v :: B := by simp
theorem set_mid' {l A : List Int} {x v : Int} {B : List Int} {i : Int} (h : l = A ++ x :: B) (hi : i = (A.length : Int)) : l.set i.toNat v = A ++ v :: B := by
  subst h hi; exact set_mid A x v B
theorem rd_mem (l : List Int) (i : Int) (h0 : 0 ≤ i) (h : i < (l.length : Int)) : rd l i ∈ l := by
  obtain ⟨j, rfl⟩ : ∃ j : Nat, i = (j : Int) := ⟨i.toNat, by omega⟩
  rw [rd_at l j (by omega)]
  exact List.getElem_mem _
theorem ext_rd {a b : List Int} (hl : a.length = b.length) (h : ∀ i : Nat, i < a.length → rd a (i : Int) = rd b (i : Int)) : a = b := by
  apply List.ext_getElem hl
  intro i h1 h2
  have := h i h1
  rwa [rd_at a i h1, rd_at b i h2] at this
theorem rd_map (f : Int → Int) (l : List Int) (i : Nat) (h : i < l.length) : rd (l.map f) (i : Int) = f (rd l (i : Int)) := by
  rw [rd_at _ i (by simpa using h), rd_at l i h]
  simp
theorem rd_set (l : List Int) (i j : Nat) (v : Int) (h : j < l.length) : rd (l.set i v) (j : Int) = if i = j then v else rd l (j : Int) := by
  rw [rd_at _ j (by simpa using h), rd_at l j h, List.getElem_set]
theorem rd_replicate (n i : Nat) (v : Int) (h : i < n) : rd (List.replicate n v) (i : Int) = v := by
  rw [rd_at _ i (by simpa using h)]
  simp
/-- The sum, as the program adds it up. -/
def sumFrom (s : Int) : List Int → Int
  | [] => s
  | x :: l => sumFrom (wrap64 (s + x)) l
/-- All from 0 to most. -/
def inAll (most : Int) (l : List Int) : Bool := l.all fun x => decide (0 ≤ x) && decide (x ≤ most)
theorem inAll_iff {m : Int} {l : List Int} : inAll m l = true ↔ ∀ x ∈ l, 0 ≤ x ∧ x ≤ m := by
  unfold inAll
  simp [List.all_eq_true, Bool.and_eq_true, decide_eq_true_eq]
theorem inAll_cons {m x : Int} {l : List Int} : inAll m (x :: l) = ((decide (0 ≤ x) && decide (x ≤ m)) && inAll m l) := rfl
theorem sum_bounds {m : Int} {l : List Int} (h : inAll m l = true) : 0 ≤ l.sum ∧ l.sum ≤ m * l.length := by
  induction l with
  | nil => simp
  | cons x l ih =>
    rw [inAll_cons, Bool.and_eq_true, Bool.and_eq_true, decide_eq_true_eq, decide_eq_true_eq] at h
    have := ih h.2
    rw [List.sum_cons, List.length_cons]
    have e : m * ((l.length + 1 : Nat) : Int) = m * l.length + m := by rw [Int.natCast_add, Int.mul_add]; simp
    omega
theorem sum_mem_le {m : Int} {l : List Int} (h : inAll m l = true) : ∀ x ∈ l, x ≤ l.sum := by
  induction l with
  | nil => simp
  | cons y l ih =>
    have h' := h
    rw [inAll_cons, Bool.and_eq_true, Bool.and_eq_true, decide_eq_true_eq, decide_eq_true_eq] at h'
    have hb := sum_bounds h'.2
    intro x hx
    rw [List.sum_cons]
    rcases List.mem_cons.1 hx with rfl | hx
    · omega
    · have := ih h'.2 x hx; omega
theorem sumFrom_eq {m : Int} (l : List Int) (h : inAll m l = true) : ∀ s, 0 ≤ s → 0 ≤ m → s + m * l.length < 9223372036854775808 → sumFrom s l = s + l.sum := by
  induction l with
  | nil => intro s _ _ _; simp [sumFrom]
  | cons x l ih =>
    intro s h0 hm h1
    rw [inAll_cons, Bool.and_eq_true, Bool.and_eq_true, decide_eq_true_eq, decide_eq_true_eq] at h
    have e : m * ((l.length + 1 : Nat) : Int) = m * l.length + m := by rw [Int.natCast_add, Int.mul_add]; simp
    rw [List.length_cons, e] at h1
    have hp : 0 ≤ m * (l.length : Int) := Int.mul_nonneg hm (by omega)
    show sumFrom (wrap64 (s + x)) l = _
    rw [wrap64_id (by omega) (by omega), ih h.2 (s + x) (by omega) hm (by omega), List.sum_cons]
    omega
/-- 0, 1, .., n - 1 -/
def idx (n : Nat) : List Int := (List.range n).map (fun i : Nat => (i : Int))
theorem idx_len (n : Nat) : (idx n).length = n := by simp [idx]
theorem idx_succ (n : Nat) : idx (n + 1) = idx n ++ [(n : Int)] := by simp [idx, List.range_succ]
theorem mem_idx {n : Nat} {i : Int} : i ∈ idx n ↔ 0 ≤ i ∧ i < (n : Int) := by
  unfold idx
  rw [List.mem_map]
  constructor
  · rintro ⟨j, hj, rfl⟩
    have := List.mem_range.1 hj
    omega
  · rintro ⟨h0, h1⟩
    exact ⟨i.toNat, List.mem_range.2 (by omega), by omega⟩
theorem rd_idx (n i : Nat) (h : i < n) : rd (idx n) (i : Int) = i := by
  rw [rd_at _ i (by rw [idx_len]; exact h)]
  simp [idx]
theorem idx_nodup (n : Nat) : (idx n).Nodup := by
  induction n with
  | zero => simp [idx]
  | succ n ih =>
    rw [idx_succ, List.nodup_append]
    refine ⟨ih, by simp, ?_⟩
    intro a ha b hb
    rw [List.mem_singleton] at hb
    have := mem_idx.1 ha
    omega
theorem map_idx (l : List Int) : (idx l.length).map (rd l) = l := by
  apply ext_rd (by simp [idx_len])
  intro i hi
  have hi' : i < l.length := by simpa [idx_len] using hi
  rw [rd_map _ _ i (by rw [idx_len]; exact hi'), rd_idx _ _ hi']

-- SHARE: what share.check, share.quotient and share.Split compute (ours). Behind lists.lean.
theorem index_tells (l : List Int) (hl : l.length ≤ 1000000) : Tells (fun k => slices_ContainsFunc_int_int__share_check_1.f k l) (!(inAll 1125899906842624 l)) := by
  have lp : ∀ n i k, n < k → i + n = l.length → ∃ r, slices_IndexFunc_int_int__share_check_1.l0 k l (l.length : Int) (i : Int) = some r ∧ decide (r ≥ 0) = !(inAll 1125899906842624 (l.drop i)) := by
    intro n
    induction n with
    | zero =>
      intro i k hk hi
      obtain ⟨m, rfl⟩ : ∃ m, k = m + 1 := ⟨k - 1, by omega⟩
      refine ⟨-1, ?_, ?_⟩
      · unfold slices_IndexFunc_int_int__share_check_1.l0
        rw [if_neg (by omega)]
      · rw [List.drop_of_length_le (by omega)]; rfl
    | succ n ih =>
      intro i k hk hi
      obtain ⟨m, rfl⟩ : ∃ m, k = m + 1 := ⟨k - 1, by omega⟩
      have e : share_check_1.f (rd l (i : Int)) = some (!(decide (0 ≤ rd l (i : Int)) && decide (rd l (i : Int) ≤ 1125899906842624))) := by
        unfold share_check_1.f
        by_cases h : rd l (i : Int) < 0
        · rw [if_pos h, decide_eq_false (p := 0 ≤ rd l (i : Int)) (by omega)]; rfl
        · rw [if_neg h, decide_eq_true (p := 0 ≤ rd l (i : Int)) (by omega)]
          by_cases h2 : rd l (i : Int) ≤ 1125899906842624
          · rw [decide_eq_true h2, decide_eq_false (by omega)]; rfl
          · rw [decide_eq_false h2, decide_eq_true (by omega)]; rfl
      rw [rd_drop l i (by omega), inAll_cons]
      by_cases h : (decide (0 ≤ rd l (i : Int)) && decide (rd l (i : Int) ≤ 1125899906842624)) = true
      · obtain ⟨r, hr, hd⟩ := ih (i + 1) m (by omega) (by omega)
        refine ⟨r, ?_, ?_⟩
        · unfold slices_IndexFunc_int_int__share_check_1.l0
          rw [if_pos (by omega), if_pos (by omega), if_pos (by omega), e, h, wrap64_id (n := (i : Int) + 1) (by omega) (by omega)]
          exact hr
        · rw [h, Bool.true_and]; exact hd
      · refine ⟨i, ?_, ?_⟩
        · unfold slices_IndexFunc_int_int__share_check_1.l0
          rw [if_pos (by omega), if_pos (by omega), if_pos (by omega), e, eq_false_of_ne_true h]
          rfl
        · rw [eq_false_of_ne_true h, decide_eq_true (by omega)]; rfl
  obtain ⟨r, hr, hd⟩ := lp l.length 0 (l.length + 1) (by omega) (by omega)
  have hf : Tells (fun k => slices_IndexFunc_int_int__share_check_1.f k l) r := Tells.of (fun k => by apply slices_IndexFunc_int_int__share_check_1.mono) ⟨l.length + 1, hr⟩
  refine Tells.congr (g := fun k => (slices_IndexFunc_int_int__share_check_1.f k l).bind fun t => some (decide (t ≥ 0))) ?_ (fun k => by unfold slices_ContainsFunc_int_int__share_check_1.f; rfl)
  refine Tells.bind hf ?_
  rw [hd, List.drop_zero]
  exact Tells.const _
theorem in_tells (l : List Int) (hl : l.length ≤ 1000000) : Tells (fun k => num_in.f k l) (l.all num_MulDiv.inB) :=
  Tells.of (fun k => by apply num_in.mono) ⟨l.length + 1, num_MulDiv.in_f l (by omega)⟩
theorem inB_of {x : Int} (h0 : -1125899906842624 ≤ x) (h1 : x ≤ 1125899906842624) : num_MulDiv.inB x = true := by
  unfold num_MulDiv.inB
  rw [decide_eq_true h0, decide_eq_true h1]; rfl
theorem result_tells (x : Int) : Tells (fun k => num_result.f k x) (if num_MulDiv.inB x = true then (x, 0) else (0, 2)) := by
  refine Tells.congr (g := fun k => (num_in.f k [x]).bind fun t => if t = true then some (x, 0) else some (0, 2)) ?_ (fun k => by unfold num_result.f; rfl)
  refine Tells.bind (in_tells [x] (by simp)) ?_
  have e : [x].all num_MulDiv.inB = num_MulDiv.inB x := by simp
  rw [e]
  exact Tells.ite (fun _ => Tells.const _) (fun _ => Tells.const _)
theorem Sum_tells (l : List Int) (h : inAll 1125899906842624 l = true) (hl : l.length ≤ 65536) : Tells (fun k => num_Sum.f k l) (if l.sum > 1125899906842624 then (0, 2) else (l.sum, 0)) := by
  have hm := inAll_iff.1 h
  have lp : ∀ n i x4 x5, i + n = l.length → 0 ≤ x4 → x4 ≤ (i : Int) * 33554432 → 0 ≤ x5 → x5 ≤ (i : Int) * 33554432 → x4 * 33554432 + x5 + (l.drop i).sum = l.sum → Tells (fun k => num_Sum.l0 k x4 x5 l (l.length : Int) (i : Int)) (if l.sum > 1125899906842624 then (0, 2) else (l.sum, 0)) := by
    intro n
    induction n with
    | zero =>
      intro i x4 x5 hi h40 h41 h50 h51 hs
      rw [List.drop_of_length_le (by omega), List.sum_nil, Int.add_zero] at hs
      have d1 : Int.tdiv x5 33554432 = x5 / 33554432 := Int.tdiv_eq_ediv_of_nonneg h50
      have d2 : Int.tmod x5 33554432 = x5 % 33554432 := Int.tmod_eq_emod_of_nonneg h50
      refine Tells.up (g := fun k => if x4 + x5 / 33554432 > 33554433 then some (0, 2) else if x4 + x5 / 33554432 < -33554433 then some (0, 2) else (num_result.f k (wrap64 (wrap64 ((x4 + x5 / 33554432) * 33554432) + x5 % 33554432))).bind fun b => some (b.1, b.2)) ?_ (fun k => by
        rw [num_Sum.l0]
        rw [if_neg (by omega), d1, d2, wrap64_id (n := x5 / 33554432) (by omega) (by omega), wrap64_id (n := x4 + x5 / 33554432) (by omega) (by omega)])
      by_cases c1 : x4 + x5 / 33554432 > 33554433
      · rw [if_pos (by omega)]
        exact Tells.pos c1 (Tells.const _)
      · refine Tells.neg c1 (Tells.neg (by omega) ?_)
        rw [wrap64_id (n := (x4 + x5 / 33554432) * 33554432) (by omega) (by omega), wrap64_id (by omega) (by omega)]
        have e : (x4 + x5 / 33554432) * 33554432 + x5 % 33554432 = l.sum := by omega
        rw [e]
        refine Tells.bind (result_tells _) ?_
        have e2 : (if num_MulDiv.inB l.sum = true then (l.sum, (0 : Int)) else (0, 2)) = if l.sum > 1125899906842624 then (0, 2) else (l.sum, 0) := by
          by_cases c2 : l.sum > 1125899906842624
          · rw [if_pos c2, if_neg]
            unfold num_MulDiv.inB
            rw [decide_eq_false (p := l.sum ≤ 1125899906842624) (by omega), Bool.and_false]
            simp
          · rw [if_neg c2, if_pos (inB_of (by omega) (by omega))]
        rw [e2]
        exact Tells.const _
    | succ n ih =>
      intro i x4 x5 hi h40 h41 h50 h51 hs
      have hx := hm _ (rd_mem l (i : Int) (by omega) (by omega))
      rw [rd_drop l i (by omega), List.sum_cons] at hs
      generalize hx' : rd l (i : Int) = x at hx hs
      have d1 : Int.tdiv x 33554432 = x / 33554432 := Int.tdiv_eq_ediv_of_nonneg hx.1
      have d2 : Int.tmod x 33554432 = x % 33554432 := Int.tmod_eq_emod_of_nonneg hx.1
      refine Tells.up (g := fun k => num_Sum.l0 k (x4 + x / 33554432) (x5 + x % 33554432) l (l.length : Int) ((i + 1 : Nat) : Int)) ?_ (fun k => by
        rw [num_Sum.l0]
        rw [if_pos (by omega), if_pos (by omega), if_pos (by omega), hx', d1, d2, wrap64_id (n := x / 33554432) (by omega) (by omega), wrap64_id (n := x4 + x / 33554432) (by omega) (by omega), wrap64_id (n := x5 + x % 33554432) (by omega) (by omega), wrap64_id (n := (i : Int) + 1) (by omega) (by omega)]
        rfl)
      exact ih (i + 1) _ _ (by omega) (by omega) (by omega) (by omega) (by omega) (by omega)
  refine Tells.congr (g := fun k => (num_in.f k l).bind fun t => if t = true then num_Sum.l0 k 0 0 l (l.length : Int) ((0 : Nat) : Int) else some (0, 1)) ?_ (fun k => by
    unfold num_Sum.f
    rw [if_neg (by omega)]; rfl)
  refine Tells.bind (in_tells l (by omega)) ?_
  have ha : l.all num_MulDiv.inB = true := by
    rw [List.all_eq_true]
    intro x hx
    have := hm x hx
    exact inB_of (by omega) (by omega)
  refine Tells.pos ha ?_
  exact lp l.length 0 0 0 (by omega) (by omega) (by omega) (by omega) (by omega) (by simp)
/-- The sum of the weights, or the error. -/
def shCheckS (t : Int) (l : List Int) : Int × Int :=
  if t < 0 ∨ t > 1125899906842624 then (0, 1) else if (l.length : Int) = 0 then (0, 10) else if (l.length : Int) > 512 then (0, 8) else if inAll 1125899906842624 l = true then (if l.sum > 1125899906842624 then (0, 2) else if l.sum = 0 then (if t > 0 then (0, 16) else (l.sum, 0)) else (l.sum, 0)) else (0, 1)
theorem shCheck_tells (t : Int) (l : List Int) (hl : l.length ≤ 1000000) : Tells (fun k => share_check.f k t l) (shCheckS t l) := by
  refine Tells.congr (g := fun k => share_check.j0 k t l (decide (t < 0 ∨ t > 1125899906842624))) ?_ (fun k => by
    unfold share_check.f
    by_cases h : t < 0
    · rw [if_pos h, decide_eq_true (p := t < 0 ∨ t > 1125899906842624) (Or.inl h)]
    · rw [if_neg h]; congr 1; simp [h])
  refine Tells.up (g := fun k => if decide (t < 0 ∨ t > 1125899906842624) = true then some (0, 1) else if (l.length : Int) = 0 then some (0, 10) else if (l.length : Int) > 512 then some (0, 8) else (slices_ContainsFunc_int_int__share_check_1.f k l).bind fun b => if b = true then some (0, 1) else (num_Sum.f k l).bind fun s => if s.2 = 0 then (if s.1 = 0 then (if t > 0 then some (0, 16) else some (s.1, 0)) else some (s.1, 0)) else some (0, 2)) ?_ (fun k => by rw [share_check.j0])
  unfold shCheckS
  by_cases h1 : t < 0 ∨ t > 1125899906842624
  · rw [if_pos h1]; exact Tells.pos (decide_eq_true h1) (Tells.const _)
  rw [if_neg h1]
  refine Tells.neg (by simpa using h1) ?_
  refine Tells.ite (fun _ => Tells.const _) (fun h2 => ?_)
  refine Tells.ite (fun _ => Tells.const _) (fun h3 => ?_)
  refine Tells.bind (index_tells l hl) ?_
  by_cases h4 : inAll 1125899906842624 l = true
  · rw [if_pos h4]
    refine Tells.neg (by rw [h4]; simp) ?_
    refine Tells.bind (Sum_tells l h4 (by omega)) ?_
    by_cases h5 : l.sum > 1125899906842624
    · rw [if_pos h5, if_pos h5]
      exact Tells.neg (by decide) (Tells.const _)
    · rw [if_neg h5, if_neg h5]
      refine Tells.pos rfl ?_
      refine Tells.ite (fun _ => ?_) (fun _ => Tells.const _)
      exact Tells.ite (fun _ => Tells.const _) (fun _ => Tells.const _)
  · rw [if_neg h4]
    exact Tells.pos (by rw [eq_false_of_ne_true h4]; rfl) (Tells.const _)
theorem shCheck_ok {t : Int} {l : List Int} (h : (shCheckS t l).2 = 0) : 0 ≤ t ∧ t ≤ 1125899906842624 ∧ 0 < l.length ∧ l.length ≤ 512 ∧ inAll 1125899906842624 l = true ∧ l.sum ≤ 1125899906842624 ∧ (l.sum = 0 → t = 0) ∧ (shCheckS t l).1 = l.sum := by
  unfold shCheckS at h ⊢
  split at h
  · simp at h
  split at h
  · simp at h
  split at h
  · simp at h
  split at h
  · rename_i h1 h2 h3 h4
    split at h
    · simp at h
    split at h
    · split at h
      · simp at h
      · rename_i h5 h6 h7
        refine ⟨by omega, by omega, by omega, by omega, h4, by omega, fun _ => by omega, ?_⟩
        rw [if_neg h1, if_neg h2, if_neg h3, if_pos h4, if_neg h5, if_pos h6, if_neg h7]
    · rename_i h5 h6
      refine ⟨by omega, by omega, by omega, by omega, h4, by omega, fun h0 => absurd h0 h6, ?_⟩
      rw [if_neg h1, if_neg h2, if_neg h3, if_pos h4, if_neg h5, if_neg h6]
  · simp at h
theorem wrap64_mod (n : Int) : ∃ q, wrap64 n = n + q * 18446744073709551616 := by
  refine ⟨-((n + 9223372036854775808) / 18446744073709551616), ?_⟩
  unfold wrap64; omega
theorem quotient_val (t w s : Int) (ht0 : 0 ≤ t) (ht : t ≤ 1125899906842624) (hw0 : 0 ≤ w) (hws : w ≤ s) (hs : s ≤ 1125899906842624) : share_quotient.f t w s = some (t * w / s, t * w % s) := by
  unfold share_quotient.f
  by_cases h : s = 0
  · have hw : w = 0 := by omega
    rw [if_pos h, h, hw]; simp
  rw [if_neg h]
  have hs1 : 0 < s := by omega
  have hX0 : 0 ≤ t * w := Int.mul_nonneg ht0 hw0
  have hq0 : 0 ≤ t * w / s := Int.ediv_nonneg hX0 (by omega)
  have hq1 : t * w / s ≤ t := by
    have h1 : t * w ≤ t * s := Int.mul_le_mul_of_nonneg_left hws ht0
    have h2 := Int.ediv_le_ediv hs1 h1
    rwa [Int.mul_ediv_cancel _ h] at h2
  have hr0 : 0 ≤ t * w % s := Int.emod_nonneg _ h
  have hr1 : t * w % s < s := Int.emod_lt_of_pos _ hs1
  have hv : num_MulDiv.f t w s 0 = some (t * w / s, 0) := by
    unfold num_MulDiv.f
    rw [inB_of (x := t) (by omega) (by omega), inB_of (x := w) (by omega) (by omega), inB_of (x := s) (by omega) (by omega)]
    rw [if_pos (by rfl), if_neg h, if_neg (by omega), if_neg (by omega)]
    unfold num_MulDiv.val num_MulDiv.ab
    rw [if_neg (show ¬ t < 0 by omega), if_neg (show ¬ w < 0 by omega), if_neg (show ¬ s < 0 by omega), decide_eq_false (show ¬ t < 0 by omega), decide_eq_false (show ¬ w < 0 by omega), decide_eq_false (show ¬ s < 0 by omega)]
    unfold num_MulDiv.grows num_MulDiv.fin
    simp
    omega
  rw [hv]
  simp only [Option.bind_some]
  congr 2
  obtain ⟨a, ha⟩ := wrap64_mod (t * w)
  obtain ⟨b, hb⟩ := wrap64_mod (t * w / s * s)
  have hd : t * w / s * s + t * w % s = t * w := by rw [Int.mul_comm]; exact Int.mul_ediv_add_emod _ _
  unfold wrap64 at ha hb ⊢
  omega

-- SORT: the order of the largest remainders (ours). Behind share.lean.
/-- x goes from the right past the smaller ones (the list is turned round). -/
def insR (R : List Int) (x : Int) : List Int → List Int
  | [] => [x]
  | y :: l => if rd R x > rd R y then y :: insR R x l else x :: y :: l
def ltR (R : List Int) (u v : Int) : Prop := rd R u > rd R v ∨ (rd R u = rd R v ∧ u < v)
theorem insR_perm (R : List Int) (x : Int) (l : List Int) : (insR R x l).Perm (x :: l) := by
  induction l with
  | nil => exact List.Perm.refl _
  | cons y l ih =>
    unfold insR
    split
    · exact (List.Perm.cons y ih).trans (List.Perm.swap x y l)
    · exact List.Perm.refl _
theorem insR_sorted (R : List Int) (x : Int) (l : List Int) (h : l.Pairwise fun u v => ltR R v u) (hx : ∀ y ∈ l, y < x) : (insR R x l).Pairwise fun u v => ltR R v u := by
  induction l with
  | nil => simp [insR]
  | cons y l ih =>
    rw [List.pairwise_cons] at h
    unfold insR
    split
    · rename_i hc
      rw [List.pairwise_cons]
      refine ⟨?_, ih h.2 (fun z hz => hx z (List.mem_cons_of_mem _ hz))⟩
      intro z hz
      rcases List.mem_cons.1 ((insR_perm R x l).mem_iff.1 hz) with rfl | hz
      · exact Or.inl hc
      · exact h.1 z hz
    · rename_i hc
      rw [List.pairwise_cons, List.pairwise_cons]
      refine ⟨?_, h⟩
      intro z hz
      rcases List.mem_cons.1 hz with rfl | hz
      · have := hx z List.mem_cons_self
        unfold ltR; omega
      · have h1 := h.1 z hz
        have h2 := hx z (List.mem_cons_of_mem _ hz)
        unfold ltR at h1 ⊢; omega
/-- The insertion sort of some elements, turned round. -/
def insAll (R : List Int) : List Int → List Int → List Int
  | [], r => r
  | x :: l, r => insAll R l (insR R x r)
theorem insAll_append (R a b r : List Int) : insAll R (a ++ b) r = insAll R b (insAll R a r) := by
  induction a generalizing r with
  | nil => rfl
  | cons x a ih => exact ih _
theorem insAll_perm (R : List Int) (l : List Int) : ∀ r, (insAll R l r).Perm (l ++ r) := by
  induction l with
  | nil => intro r; exact List.Perm.refl _
  | cons x l ih =>
    intro r
    show (insAll R l (insR R x r)).Perm _
    refine (ih _).trans ?_
    refine (List.Perm.append_left l (insR_perm R x r)).trans ?_
    exact List.perm_middle
theorem insAll_sorted (R : List Int) (l : List Int) : ∀ r, r.Pairwise (fun u v => ltR R v u) → l.Pairwise (· < ·) → (∀ y ∈ r, ∀ x ∈ l, y < x) → (insAll R l r).Pairwise fun u v => ltR R v u := by
  induction l with
  | nil => intro r h _ _; exact h
  | cons x l ih =>
    intro r h hl hx
    rw [List.pairwise_cons] at hl
    show (insAll R l (insR R x r)).Pairwise _
    refine ih _ (insR_sorted R x r h (fun y hy => hx y hy x List.mem_cons_self)) hl.2 ?_
    intro y hy z hz
    rcases List.mem_cons.1 ((insR_perm R x r).mem_iff.1 hy) with rfl | hy
    · exact hl.1 z hz
    · exact hx y hy z (List.mem_cons_of_mem _ hz)
theorem idx_lt (n : Nat) : (idx n).Pairwise (· < ·) := by
  induction n with
  | zero => simp [idx]
  | succ n ih =>
    rw [idx_succ, List.pairwise_append]
    refine ⟨ih, by simp, ?_⟩
    intro a ha b hb
    rw [List.mem_singleton] at hb
    have := mem_idx.1 ha
    omega
/-- The indices by their remainders, the greatest first, of the same the first one first. -/
def ordS (R : List Int) (n : Nat) : List Int := (insAll R (idx n) []).reverse
theorem ordS_perm (R : List Int) (n : Nat) : (ordS R n).Perm (idx n) := by
  unfold ordS
  refine (List.reverse_perm _).trans ((insAll_perm R (idx n) []).trans ?_)
  rw [List.append_nil]
theorem ordS_sorted (R : List Int) (n : Nat) : (ordS R n).Pairwise (ltR R) := by
  unfold ordS
  rw [List.pairwise_reverse]
  exact insAll_sorted R (idx n) [] List.Pairwise.nil (idx_lt n) (by simp)
theorem ordS_len (R : List Int) (n : Nat) : (ordS R n).length = n := by rw [(ordS_perm R n).length_eq, idx_len]
theorem ordS_nodup (R : List Int) (n : Nat) : (ordS R n).Nodup := (ordS_perm R n).nodup_iff.2 (idx_nodup n)
theorem mem_ordS {R : List Int} {n : Nat} {i : Int} : i ∈ ordS R n ↔ 0 ≤ i ∧ i < (n : Int) := by rw [(ordS_perm R n).mem_iff, mem_idx]
theorem ordS_unique (R : List Int) (n : Nat) (l : List Int) (hp : l.Perm (idx n)) (hs : l.Pairwise (ltR R)) : l = ordS R n := by
  refine List.Perm.eq_of_pairwise (le := ltR R) ?_ hs (ordS_sorted R n) (hp.trans (ordS_perm R n).symm)
  intro a b _ _ h1 h2
  unfold ltR at h1 h2
  omega
-- the program's insertion sort
theorem ins_l1 (R : List Int) (pre post : List Int) (b x8 : Int) (out : List Int) (x : Int) (hx : 0 ≤ x ∧ x < (R.length : Int)) (hb : (pre.length : Int) + 1000000 < 9223372036854775808) (hR : ∀ y ∈ R, 0 ≤ y ∧ y ≤ 1125899906842624) : ∀ (r : List Int) (done : List Int), r.length ≤ 1000 → (∀ y ∈ r, 0 ≤ y ∧ y < (R.length : Int)) →
    Tells (fun k => slices_insertionSortCmpFunc_int__share_Split_1.l0 k (pre ++ (insR R x r).reverse ++ done ++ post) (pre.length : Int) b (wrap64 (x8 + 1)) [R]) out →
    Tells (fun k => slices_insertionSortCmpFunc_int__share_Split_1.l1 k (pre ++ r.reverse ++ x :: done ++ post) (pre.length : Int) b x8 ((pre.length : Int) + (r.length : Int)) [R]) out := by
  intro r
  induction r with
  | nil =>
    intro done _ _ h
    refine Tells.up h (fun k => ?_)
    rw [slices_insertionSortCmpFunc_int__share_Split_1.l1]
    rw [if_neg (by simp)]
    simp [insR]
  | cons y r ih =>
    intro done hr hm h
    have hy := hm y List.mem_cons_self
    have hx9 : wrap64 ((pre.length : Int) + ((y :: r).length : Int) - 1) = (pre.length : Int) + (r.length : Int) := by
      rw [List.length_cons]
      rw [wrap64_id (by omega) (by simp at hr; omega)]
      omega
    have e1 : rd (pre ++ (y :: r).reverse ++ x :: done ++ post) ((pre.length : Int) + ((y :: r).length : Int)) = x :=
      rd_mid' (A := pre ++ (y :: r).reverse) (B := done ++ post) (by simp) (by simp)
    have e2 : rd (pre ++ (y :: r).reverse ++ x :: done ++ post) ((pre.length : Int) + (r.length : Int)) = y :=
      rd_mid' (A := pre ++ r.reverse) (B := x :: done ++ post) (by simp) (by simp)
    have s1 : (pre ++ (y :: r).reverse ++ x :: done ++ post).set ((pre.length : Int) + ((y :: r).length : Int)).toNat y = pre ++ (y :: r).reverse ++ y :: (done ++ post) :=
      set_mid' (A := pre ++ (y :: r).reverse) (x := x) (B := done ++ post) (by simp) (by simp)
    have s2 : (pre ++ (y :: r).reverse ++ y :: (done ++ post)).set ((pre.length : Int) + (r.length : Int)).toNat x = pre ++ r.reverse ++ x :: (y :: (done ++ post)) :=
      set_mid' (A := pre ++ r.reverse) (x := y) (B := y :: (done ++ post)) (by simp) (by simp)
    have hlen : ((pre ++ (y :: r).reverse ++ x :: done ++ post).length : Int) = (pre.length : Int) + ((y :: r).length : Int) + 1 + (done.length : Int) + (post.length : Int) := by
      simp; omega
    have hl1 : (((y :: r).length : Nat) : Int) = (r.length : Int) + 1 := by simp
    have hc : share_Split_1.f x y [R] = some (wrap64 (rd R y - rd R x)) := by
      show (if 0 < (([R] : List (List Int)).length : Int) then (if 0 ≤ y then (if y < (R.length : Int) then (if 0 ≤ x then (if x < (R.length : Int) then some (wrap64 (rd R y - rd R x)) else none) else none) else none) else none) else none) = _
      rw [if_pos (by simp), if_pos (by omega), if_pos (by omega), if_pos (by omega), if_pos (by omega)]
    have hry := hR _ (rd_mem R y hy.1 hy.2)
    have hrx := hR _ (rd_mem R x hx.1 hx.2)
    rw [wrap64_id (by omega) (by omega)] at hc
    by_cases c : rd R x > rd R y
    · have e3 : insR R x (y :: r) = y :: insR R x r := by rw [insR]; rw [if_pos c]
      rw [e3] at h
      have := ih (y :: done) (by simp at hr; omega) (fun z hz => hm z (List.mem_cons_of_mem _ hz)) (by simpa using h)
      refine Tells.up this (fun k => ?_)
      rw [slices_insertionSortCmpFunc_int__share_Split_1.l1]
      rw [if_pos (by omega), if_pos (by omega), if_pos (by omega), hx9, if_pos (by omega), if_pos (by omega), e1, e2, hc]
      simp only [Option.bind_some]
      rw [if_pos (by omega), s1, s2]
      simp
    · have e3 : insR R x (y :: r) = x :: y :: r := by rw [insR]; rw [if_neg c]
      rw [e3] at h
      refine Tells.up h (fun k => ?_)
      rw [slices_insertionSortCmpFunc_int__share_Split_1.l1]
      rw [if_pos (by omega), if_pos (by omega), if_pos (by omega), hx9, if_pos (by omega), if_pos (by omega), e1, e2, hc]
      simp only [Option.bind_some]
      rw [if_neg (by omega)]
      simp
theorem ins_l0 (R : List Int) (pre post : List Int) (hb : (pre.length : Int) + 1000000 < 9223372036854775808) (hR : ∀ y ∈ R, 0 ≤ y ∧ y ≤ 1125899906842624) : ∀ (todo r : List Int), r.length + todo.length ≤ 1000 → (∀ y ∈ r, 0 ≤ y ∧ y < (R.length : Int)) → (∀ y ∈ todo, 0 ≤ y ∧ y < (R.length : Int)) →
    Tells (fun k => slices_insertionSortCmpFunc_int__share_Split_1.l0 k (pre ++ r.reverse ++ todo ++ post) (pre.length : Int) ((pre.length : Int) + (r.length : Int) + (todo.length : Int)) ((pre.length : Int) + (r.length : Int)) [R]) (pre ++ (insAll R todo r).reverse ++ post) := by
  intro todo
  induction todo with
  | nil =>
    intro r _ _ _
    refine Tells.up (Tells.const _) (fun k => ?_)
    rw [slices_insertionSortCmpFunc_int__share_Split_1.l0]
    rw [if_neg (by simp)]
    simp [insAll]
  | cons x todo ih =>
    intro r hl hr ht
    have hx := ht x List.mem_cons_self
    have hl1 : (((x :: todo).length : Nat) : Int) = (todo.length : Int) + 1 := by simp
    have hll : (x :: todo).length = todo.length + 1 := by simp
    have hp := insR_perm R x r
    have hpl : (insR R x r).length = r.length + 1 := by rw [hp.length_eq]; simp
    refine Tells.up (g := fun k => slices_insertionSortCmpFunc_int__share_Split_1.l1 k (pre ++ r.reverse ++ x :: todo ++ post) (pre.length : Int) ((pre.length : Int) + (r.length : Int) + ((x :: todo).length : Int)) ((pre.length : Int) + (r.length : Int)) ((pre.length : Int) + (r.length : Int)) [R]) ?_ (fun k => by
      rw [slices_insertionSortCmpFunc_int__share_Split_1.l0]
      rw [if_pos (by omega)])
    refine ins_l1 R pre post _ _ _ x hx hb hR r todo (by omega) hr ?_
    have := ih (insR R x r) (by omega) (fun y hy => by
      rcases List.mem_cons.1 (hp.mem_iff.1 hy) with rfl | hy
      · exact hx
      · exact hr y hy) (fun y hy => ht y (List.mem_cons_of_mem _ hy))
    rw [wrap64_id (by omega) (by omega)]
    have e1 : (pre.length : Int) + ((insR R x r).length : Int) + (todo.length : Int) = (pre.length : Int) + (r.length : Int) + ((x :: todo).length : Int) := by omega
    have e2 : (pre.length : Int) + ((insR R x r).length : Int) = (pre.length : Int) + (r.length : Int) + 1 := by omega
    rw [e1, e2] at this
    exact this
theorem ins_tells (R : List Int) (pre mid post : List Int) (hb : (pre.length : Int) + 1000000 < 9223372036854775808) (hR : ∀ y ∈ R, 0 ≤ y ∧ y ≤ 1125899906842624) (hl : mid.length ≤ 1000) (hm : ∀ y ∈ mid, 0 ≤ y ∧ y < (R.length : Int)) :
    Tells (fun k => slices_insertionSortCmpFunc_int__share_Split_1.f k (pre ++ mid ++ post) (pre.length : Int) ((pre.length : Int) + (mid.length : Int)) [R]) (pre ++ (insAll R mid []).reverse ++ post) := by
  refine Tells.congr (g := fun k => slices_insertionSortCmpFunc_int__share_Split_1.l0 k (pre ++ mid ++ post) (pre.length : Int) ((pre.length : Int) + (mid.length : Int)) ((pre.length : Int) + 1) [R]) ?_ (fun k => by
    unfold slices_insertionSortCmpFunc_int__share_Split_1.f
    rw [wrap64_id (by omega) (by omega)])
  cases mid with
  | nil =>
    refine Tells.up (Tells.const _) (fun k => ?_)
    rw [slices_insertionSortCmpFunc_int__share_Split_1.l0]
    rw [if_neg (by simp; omega)]
    simp [insAll]
  | cons x mid =>
    have hx := hm x List.mem_cons_self
    have := ins_l0 R pre post hb hR mid [x] (by simp at hl ⊢; omega) (by simpa using hx) (fun y hy => hm y (List.mem_cons_of_mem _ hy))
    have e : (pre.length : Int) + (([x] : List Int).length : Int) + (mid.length : Int) = (pre.length : Int) + ((x :: mid).length : Int) := by simp; omega
    rw [e] at this
    have e2 : pre ++ ([x] : List Int).reverse ++ mid ++ post = pre ++ x :: mid ++ post := by simp
    rw [e2] at this
    exact this
/-- At most 20: one insertion sort. -/
theorem sort20_tells (R : List Int) (n : Nat) (hn : n ≤ 20) (hRn : R.length = n) (hR : ∀ y ∈ R, 0 ≤ y ∧ y ≤ 1125899906842624) : Tells (fun k => slices_SortStableFunc_int_int__share_Split_1.f k (idx n) [R]) (ordS R n) := by
  refine Tells.congr (g := fun k => (slices_stableCmpFunc_int__share_Split_1.l0 k (idx n) ((idx n).length : Int) 20 0 20 [R]).bind fun t => some t) ?_ (fun k => by
    unfold slices_SortStableFunc_int_int__share_Split_1.f slices_stableCmpFunc_int__share_Split_1.f; rfl)
  rw [idx_len]
  have hend : Tells (fun k => slices_stableCmpFunc_int__share_Split_1.l1 k (ordS R n) (n : Int) 20 [R]) (ordS R n) := by
    refine Tells.up (Tells.const _) (fun k => ?_)
    rw [slices_stableCmpFunc_int__share_Split_1.l1]
    rw [if_neg (by omega)]
  have hins : Tells (fun k => slices_insertionSortCmpFunc_int__share_Split_1.f k (idx n) 0 (n : Int) [R]) (ordS R n) := by
    have := ins_tells R [] (idx n) [] (by simp) hR (by rw [idx_len]; omega) (fun y hy => by have := mem_idx.1 hy; rw [hRn]; exact this)
    simpa [idx_len, ordS] using this
  refine Tells.bind (r := ordS R n) ?_ (Tells.const _)
  by_cases h20 : n = 20
  · subst h20
    refine Tells.up (g := fun k => (slices_insertionSortCmpFunc_int__share_Split_1.f k (idx 20) 0 20 [R]).bind fun t => slices_stableCmpFunc_int__share_Split_1.l0 k t 20 20 20 40 [R]) ?_ (fun k => by
      rw [slices_stableCmpFunc_int__share_Split_1.l0]
      rw [if_pos (by omega), wrap64_id (n := 20 + 20) (by omega) (by omega)]
      rfl)
    refine Tells.bind hins ?_
    refine Tells.up (g := fun k => (slices_insertionSortCmpFunc_int__share_Split_1.f k (ordS R 20) 20 20 [R]).bind fun t => slices_stableCmpFunc_int__share_Split_1.l1 k t 20 20 [R]) ?_ (fun k => by
      rw [slices_stableCmpFunc_int__share_Split_1.l0]
      rw [if_neg (by omega)])
    refine Tells.bind (r := ordS R 20) ?_ hend
    refine Tells.congr (g := fun k => slices_insertionSortCmpFunc_int__share_Split_1.l0 k (ordS R 20) 20 20 21 [R]) ?_ (fun k => by
      unfold slices_insertionSortCmpFunc_int__share_Split_1.f; rw [wrap64_id (n := 20 + 1) (by omega) (by omega)]; rfl)
    refine Tells.up (Tells.const _) (fun k => ?_)
    rw [slices_insertionSortCmpFunc_int__share_Split_1.l0]
    rw [if_neg (by omega)]
  · refine Tells.up (g := fun k => (slices_insertionSortCmpFunc_int__share_Split_1.f k (idx n) 0 (n : Int) [R]).bind fun t => slices_stableCmpFunc_int__share_Split_1.l1 k t (n : Int) 20 [R]) ?_ (fun k => by
      rw [slices_stableCmpFunc_int__share_Split_1.l0]
      rw [if_neg (by omega)])
    exact Tells.bind hins hend

-- SPLIT: share.Split for at most 20 weights (ours). Behind sort.lean.
def remS (t s : Int) (l : List Int) : List Int := l.map fun w => t * w % s
def quoS (t s : Int) (l : List Int) : List Int := l.map fun w => t * w / s
/-- What the quotients leave. -/
def leftS (t s : Int) (l : List Int) : Int := t - (quoS t s l).sum
/-- The parts: rounded down, and one more for those of D. -/
def bumpS (t s : Int) (l D : List Int) : List Int := (idx l.length).map fun i => t * rd l i / s + if i ∈ D then 1 else 0
def partsSp (t s : Int) (l : List Int) : List Int := bumpS t s l ((ordS (remS t s l) l.length).take (leftS t s l).toNat)
def splitS (t : Int) (l : List Int) : List Int × Int := if (shCheckS t l).2 = 0 then (partsSp t l.sum l, 0) else ([], (shCheckS t l).2)
theorem bumpS_len (t s : Int) (l D : List Int) : (bumpS t s l D).length = l.length := by simp [bumpS, idx_len]
theorem rd_bumpS (t s : Int) (l D : List Int) (i : Nat) (h : i < l.length) : rd (bumpS t s l D) (i : Int) = t * rd l i / s + if (i : Int) ∈ D then 1 else 0 := by
  unfold bumpS
  rw [rd_map _ _ i (by rw [idx_len]; exact h), rd_idx _ _ h]
theorem bumpS_nil (t s : Int) (l : List Int) : bumpS t s l [] = quoS t s l := by
  apply ext_rd (by simp [bumpS_len, quoS])
  intro i hi
  rw [bumpS_len] at hi
  rw [rd_bumpS _ _ _ _ _ hi]
  unfold quoS
  rw [rd_map _ _ i hi]
  simp
theorem bumpS_step (t s : Int) (l D : List Int) (i : Nat) (h : i < l.length) (hD : (i : Int) ∉ D) : (bumpS t s l D).set i (rd (bumpS t s l D) (i : Int) + 1) = bumpS t s l (D ++ [(i : Int)]) := by
  apply ext_rd (by simp [bumpS_len])
  intro j hj
  have hj' : j < l.length := by simpa [bumpS_len] using hj
  rw [rd_set _ _ _ _ (by rw [bumpS_len]; exact hj'), rd_bumpS _ _ _ _ _ hj', rd_bumpS _ _ _ _ _ hj', rd_bumpS _ _ _ _ _ h]
  by_cases e : i = j
  · subst e
    simp [hD]
  · rw [if_neg e]
    have : ((j : Int) ∈ D ++ [(i : Int)]) ↔ (j : Int) ∈ D := by
      rw [List.mem_append, List.mem_singleton]
      constructor
      · rintro (h | h)
        · exact h
        · omega
      · exact Or.inl
    simp only [this]
-- facts of the quotients
theorem quo_le {t w s : Int} (ht0 : 0 ≤ t) (hw0 : 0 ≤ w) (hws : w ≤ s) : 0 ≤ t * w / s ∧ t * w / s ≤ t := by
  by_cases h : s = 0
  · rw [h, Int.ediv_zero]; omega
  have hX0 : 0 ≤ t * w := Int.mul_nonneg ht0 hw0
  refine ⟨Int.ediv_nonneg hX0 (by omega), ?_⟩
  have h1 : t * w ≤ t * s := Int.mul_le_mul_of_nonneg_left hws ht0
  have h2 := Int.ediv_le_ediv (show 0 < s by omega) h1
  rwa [Int.mul_ediv_cancel _ h] at h2
theorem sum_quo_rem (t s : Int) (l : List Int) : s * (quoS t s l).sum + (remS t s l).sum = t * l.sum := by
  induction l with
  | nil => simp [quoS, remS]
  | cons x l ih =>
    unfold quoS remS at ih ⊢
    rw [List.map_cons, List.map_cons, List.sum_cons, List.sum_cons, List.sum_cons, Int.mul_add, Int.mul_add, ← ih]
    have := Int.mul_ediv_add_emod (t * x) s
    omega
theorem rem_bounds {t s : Int} {l : List Int} (hs : 0 < s) : ∀ y ∈ remS t s l, 0 ≤ y ∧ y < s := by
  intro y hy
  unfold remS at hy
  obtain ⟨w, _, rfl⟩ := List.mem_map.1 hy
  exact ⟨Int.emod_nonneg _ (by omega), Int.emod_lt_of_pos _ hs⟩
theorem sum_le_mul {m : Int} {l : List Int} (h : ∀ y ∈ l, 0 ≤ y ∧ y ≤ m) : 0 ≤ l.sum ∧ l.sum ≤ m * l.length := sum_bounds (inAll_iff.2 h)
theorem sum_nonneg {l : List Int} (h : ∀ w ∈ l, 0 ≤ w) : 0 ≤ l.sum := by
  induction l with
  | nil => simp
  | cons x l ih =>
    have h1 := h x List.mem_cons_self
    have h2 := ih (fun w hw => h w (List.mem_cons_of_mem _ hw))
    rw [List.sum_cons]; omega
theorem quoS_zero (t s : Int) (l : List Int) (h : ∀ w ∈ l, t * w / s = 0) : quoS t s l = List.replicate l.length 0 := by
  unfold quoS
  rw [List.eq_replicate_iff]
  refine ⟨by simp, ?_⟩
  intro b hb
  obtain ⟨w, hw, rfl⟩ := List.mem_map.1 hb
  exact h w hw
theorem left_bounds {t : Int} {l : List Int} (hl0 : 0 < l.length) (ht0 : 0 ≤ t) (hl : ∀ w ∈ l, 0 ≤ w) (hz : l.sum = 0 → t = 0) : 0 ≤ leftS t l.sum l ∧ leftS t l.sum l ≤ l.length ∧ (0 < l.sum → leftS t l.sum l < l.length) := by
  unfold leftS
  by_cases h0 : l.sum = 0
  · have ht := hz h0
    have : (quoS t l.sum l).sum = 0 := by
      rw [ht]; unfold quoS
      have e : l.map (fun w => 0 * w / l.sum) = List.replicate l.length 0 := by
        rw [List.eq_replicate_iff]
        refine ⟨by simp, ?_⟩
        intro b hb
        obtain ⟨w, _, rfl⟩ := List.mem_map.1 hb
        simp
      rw [e]; simp
    rw [this, ht, h0]
    refine ⟨by omega, by omega, by omega⟩
  · have hs : 0 ≤ l.sum := sum_nonneg hl
    have hs : 0 < l.sum := by omega
    have hq := sum_quo_rem t l.sum l
    have hr := sum_le_mul (m := l.sum - 1) (l := remS t l.sum l) (fun y hy => by have := rem_bounds hs y hy; omega)
    have hrl : ((remS t l.sum l).length : Int) = l.length := by simp [remS]
    rw [hrl] at hr
    generalize hS : l.sum = s at *
    generalize (quoS t s l).sum = q at *
    generalize (remS t s l).sum = r at *
    generalize hn : (l.length : Int) = n at *
    have hn0 : 0 < n := by omega
    have e : s * (t - q) = r := by
      rw [Int.mul_sub, Int.mul_comm s t]; omega
    have h1 : 0 ≤ t - q := by
      by_cases h : 0 ≤ t - q
      · exact h
      · have := Int.mul_le_mul_of_nonneg_left (show t - q ≤ -1 by omega) (show 0 ≤ s by omega)
        omega
    have h2 : t - q < n := by
      by_cases h : t - q < n
      · exact h
      · have := Int.mul_le_mul_of_nonneg_left (show n ≤ t - q by omega) (show 0 ≤ s by omega)
        rw [e] at this
        have e2 : (s - 1) * n = s * n - n := by rw [Int.sub_mul]; omega
        omega
    exact ⟨h1, by omega, fun _ => h2⟩
theorem split_l1 (t s : Int) (l L : List Int) (ht0 : 0 ≤ t) (ht : t ≤ 1125899906842624) (hw : ∀ w ∈ l, 0 ≤ w ∧ w ≤ s) (hn : L.Nodup) (hm : ∀ i ∈ L, 0 ≤ i ∧ i < (l.length : Int)) (hl : l.length ≤ 1000000) (hLl : L.length ≤ 1000000) :
    ∀ todo D, D ++ todo = L → Tells (fun k => share_Split.l1 k (bumpS t s l D) L (L.length : Int) (D.length : Int)) (bumpS t s l L, 0) := by
  intro todo
  induction todo with
  | nil =>
    intro D hD
    rw [List.append_nil] at hD
    subst hD
    refine Tells.up (Tells.const _) (fun k => ?_)
    rw [share_Split.l1]
    rw [if_neg (by omega)]
  | cons x todo ih =>
    intro D hD
    have hlen : L.length = D.length + todo.length + 1 := by rw [← hD]; simp; omega
    have hx := hm x (by rw [← hD]; simp)
    have hxD : x ∉ D := by
      rw [← hD, List.nodup_append] at hn
      intro h
      exact hn.2.2 x h x List.mem_cons_self rfl
    obtain ⟨i, rfl⟩ : ∃ i : Nat, x = (i : Int) := ⟨x.toNat, by omega⟩
    have hi : i < l.length := by omega
    have e1 : rd L (D.length : Int) = (i : Int) := rd_mid' hD.symm rfl
    have hb : rd (bumpS t s l D) (i : Int) = t * rd l i / s := by rw [rd_bumpS _ _ _ _ _ hi, if_neg hxD, Int.add_zero]
    have hq := quo_le ht0 (hw _ (rd_mem l i (by omega) (by omega))).1 (hw _ (rd_mem l i (by omega) (by omega))).2
    refine Tells.up (g := fun k => share_Split.l1 k (bumpS t s l (D ++ [(i : Int)])) L (L.length : Int) ((D ++ [(i : Int)]).length : Int)) ?_ (fun k => by
      rw [share_Split.l1]
      rw [if_pos (by omega), if_pos (by omega), if_pos (by omega), e1, if_pos (by omega), if_pos (by rw [bumpS_len]; omega), wrap64_id (n := rd (bumpS t s l D) (i : Int) + 1) (by rw [hb]; omega) (by rw [hb]; omega), wrap64_id (by omega) (by omega)]
      rw [Int.toNat_natCast, bumpS_step t s l D i hi hxD]
      simp)
    exact ih (D ++ [(i : Int)]) (by rw [← hD]; simp)
theorem split_l0 (t s : Int) (l : List Int) (out : List Int × Int) (ht0 : 0 ≤ t) (ht : t ≤ 1125899906842624) (hs : s ≤ 1125899906842624) (hw : ∀ w ∈ l, 0 ≤ w ∧ w ≤ s) (hl : l.length ≤ 1000)
    (hend : Tells (fun k => share_Split.l0 k t s (quoS t s l) (idx l.length) (leftS t s l) l (l.length : Int) (l.length : Int) (remS t s l)) out) :
    ∀ r pre, pre ++ r = l → Tells (fun k => share_Split.l0 k t s (quoS t s pre ++ List.replicate r.length 0) (idx pre.length ++ List.replicate r.length 0) (t - (quoS t s pre).sum) l (l.length : Int) (pre.length : Int) (remS t s pre ++ List.replicate r.length 0)) out := by
  intro r
  induction r with
  | nil =>
    intro pre h
    rw [List.append_nil] at h
    subst h
    simpa [leftS] using hend
  | cons x r ih =>
    intro pre h
    have hlen : l.length = pre.length + r.length + 1 := by rw [← h]; simp; omega
    have hx := hw x (by rw [← h]; simp)
    have e1 : rd l (pre.length : Int) = x := rd_mid' h.symm rfl
    have hq := quo_le ht0 hx.1 hx.2
    have hqs := sum_le_mul (m := t) (l := quoS t s pre) (fun y hy => by
      unfold quoS at hy
      obtain ⟨w, hw', rfl⟩ := List.mem_map.1 hy
      have := hw w (by rw [← h]; exact List.mem_append_left _ hw')
      exact quo_le ht0 this.1 this.2)
    have hql : (quoS t s pre).length = pre.length := by simp [quoS]
    have hrl : (remS t s pre).length = pre.length := by simp [remS]
    have hil : (idx pre.length).length = pre.length := idx_len _
    rw [hql] at hqs
    have hmul : t * (pre.length : Int) ≤ 1125899906842624 * 1000 := by
      have a := Int.mul_le_mul_of_nonneg_right ht (show (0 : Int) ≤ (pre.length : Int) by omega)
      omega
    have sA : (quoS t s pre ++ List.replicate (x :: r).length 0).set (pre.length : Int).toNat (t * x / s) = quoS t s (pre ++ [x]) ++ List.replicate r.length 0 := by
      rw [set_mid' (A := quoS t s pre) (x := 0) (B := List.replicate r.length 0) (by rw [List.length_cons, List.replicate_succ]) (by rw [hql])]
      simp [quoS]
    have sB : (remS t s pre ++ List.replicate (x :: r).length 0).set (pre.length : Int).toNat (t * x % s) = remS t s (pre ++ [x]) ++ List.replicate r.length 0 := by
      rw [set_mid' (A := remS t s pre) (x := 0) (B := List.replicate r.length 0) (by rw [List.length_cons, List.replicate_succ]) (by rw [hrl])]
      simp [remS]
    have sC : (idx pre.length ++ List.replicate (x :: r).length 0).set (pre.length : Int).toNat (pre.length : Int) = idx (pre ++ [x]).length ++ List.replicate r.length 0 := by
      rw [set_mid' (A := idx pre.length) (x := 0) (B := List.replicate r.length 0) (by rw [List.length_cons, List.replicate_succ]) (by rw [hil])]
      rw [List.length_append, List.length_singleton, idx_succ]
      simp
    have eq : rd (quoS t s (pre ++ [x]) ++ List.replicate r.length 0) (pre.length : Int) = t * x / s :=
      rd_mid' (A := quoS t s pre) (B := List.replicate r.length 0) (by simp [quoS]) (by rw [hql])
    refine Tells.up (ih (pre ++ [x]) (by rw [← h]; simp)) (fun k => ?_)
    rw [share_Split.l0]
    rw [if_pos (by omega), if_pos (by omega), if_pos (by omega), e1, quotient_val t x s ht0 ht hx.1 hx.2 hs]
    simp only [Option.bind_some]
    rw [if_pos (by simp [hql]; omega), sA, if_pos (by simp [hrl]; omega), if_pos (by simp [hil]; omega), sC, eq, sB, wrap64_id (by omega) (by omega), wrap64_id (by omega) (by omega)]
    have e2 : t - (quoS t s (pre ++ [x])).sum = t - (quoS t s pre).sum - t * x / s := by
      simp [quoS]; omega
    rw [e2, List.length_append, List.length_singleton]
    rfl
theorem split_tells_of {N : Nat} (hsort : ∀ (R : List Int) (n : Nat), R.length = n → n ≤ N → (∀ y ∈ R, 0 ≤ y ∧ y ≤ 1125899906842624) → Tells (fun k => slices_SortStableFunc_int_int__share_Split_1.f k (idx n) [R]) (ordS R n)) (t : Int) (l : List Int) (hl : l.length ≤ N) (hN : N ≤ 1000) : Tells (fun k => share_Split.f k t l) (splitS t l) := by
  refine Tells.congr (g := fun k => (share_check.f k t l).bind fun b => if b.2 = 0 then share_Split.l0 k t b.1 (List.replicate l.length 0) (List.replicate l.length 0) t l (l.length : Int) 0 (List.replicate l.length 0) else some ([], b.2)) ?_ (fun k => by
    unfold share_Split.f
    congr 1; funext b
    rw [if_pos (show 0 ≤ (l.length : Int) by omega), if_pos (show ((l.length : Int) : Int).toNat ≤ 35184372088832 by omega)]
    rfl)
  refine Tells.bind (shCheck_tells t l (by omega)) ?_
  unfold splitS
  refine Tells.ite (fun hc => ?_) (fun _ => Tells.const _)
  obtain ⟨ht0, ht, hl0, hl1, hin, hs, hz, he⟩ := shCheck_ok hc
  rw [he]
  have hw : ∀ w ∈ l, 0 ≤ w ∧ w ≤ l.sum := fun w hw => ⟨(inAll_iff.1 hin w hw).1, sum_mem_le hin w hw⟩
  have hlb := left_bounds hl0 ht0 (fun w h => (hw w h).1) hz
  have := split_l0 t l.sum l (partsSp t l.sum l, 0) ht0 ht hs hw (by omega) ?_ l [] rfl
  · simpa [quoS, remS, idx] using this
  have hR : ∀ y ∈ remS t l.sum l, 0 ≤ y ∧ y ≤ 1125899906842624 := by
    intro y hy
    by_cases h0 : l.sum = 0
    · have ht := hz h0
      unfold remS at hy
      obtain ⟨w, _, rfl⟩ := List.mem_map.1 hy
      rw [ht]; simp
    · have hs0 : 0 ≤ l.sum := sum_nonneg (fun w h => (hw w h).1)
      have := rem_bounds (show 0 < l.sum by omega) y hy
      omega
  refine Tells.up (g := fun k => (slices_SortStableFunc_int_int__share_Split_1.f k (idx l.length) [remS t l.sum l]).bind fun o => share_Split.l1 k (quoS t l.sum l) (o.take (leftS t l.sum l).toNat) ((o.take (leftS t l.sum l).toNat).length : Int) 0) ?_ (fun k => by
    rw [share_Split.l0]
    rw [if_neg (by omega)]
    congr 1; funext o
    rw [if_pos hlb.1, if_pos (by rw [idx_len]; exact hlb.2.1)]
    rfl)
  refine Tells.bind (hsort _ l.length (by simp [remS]) hl hR) ?_
  have hsub := List.take_sublist (leftS t l.sum l).toNat (ordS (remS t l.sum l) l.length)
  have := split_l1 t l.sum l ((ordS (remS t l.sum l) l.length).take (leftS t l.sum l).toNat) ht0 ht hw (hsub.nodup (ordS_nodup _ _)) (fun i hi => mem_ordS.1 (hsub.subset hi)) (by omega) (by rw [List.length_take, ordS_len]; omega) _ [] rfl
  rw [bumpS_nil] at this
  exact this
theorem split20_tells (t : Int) (l : List Int) (hl : l.length ≤ 20) : Tells (fun k => share_Split.f k t l) (splitS t l) :=
  split_tells_of (N := 20) (fun R n hRn hn hR => sort20_tells R n hn hRn hR) t l hl (by omega)

-- SPLITPROPS: the parts add up to the total, and none is more than its weight (ours). Behind split.lean.
theorem set_sum (l : List Int) (i : Nat) (v : Int) (h : i < l.length) : (l.set i v).sum = l.sum - rd l i + v := by
  induction l generalizing i with
  | nil => simp at h
  | cons x l ih =>
    cases i with
    | zero => simp [rd]; omega
    | succ i =>
      have := ih i (by simpa using h)
      have e : rd (x :: l) ((i + 1 : Nat) : Int) = rd l (i : Int) := by
        rw [rd_at _ _ h, rd_at _ _ (by simpa using h)]; rfl
      rw [List.set_cons_succ, List.sum_cons, List.sum_cons, this, e]
      omega
theorem bumpS_sum (t s : Int) (l : List Int) : ∀ (todo D : List Int), (D ++ todo).Nodup → (∀ i ∈ todo, 0 ≤ i ∧ i < (l.length : Int)) → (bumpS t s l (D ++ todo)).sum = (bumpS t s l D).sum + todo.length := by
  intro todo
  induction todo with
  | nil => intro D _ _; simp
  | cons x todo ih =>
    intro D hn hm
    have hx := hm x List.mem_cons_self
    have hxD : x ∉ D := fun h => by
      rw [List.nodup_append] at hn
      exact hn.2.2 x h x List.mem_cons_self rfl
    obtain ⟨i, rfl⟩ : ∃ i : Nat, x = (i : Int) := ⟨x.toNat, by omega⟩
    have hi : i < l.length := by omega
    have := ih (D ++ [(i : Int)]) (by simpa using hn) (fun j hj => hm j (List.mem_cons_of_mem _ hj))
    rw [← bumpS_step t s l D i hi hxD, set_sum _ _ _ (by rw [bumpS_len]; exact hi)] at this
    rw [show D ++ (i : Int) :: todo = D ++ [(i : Int)] ++ todo by simp, this, List.length_cons]
    omega
theorem perm_map_sum {a b : List Int} (f : Int → Int) (h : a.Perm b) : (a.map f).sum = (b.map f).sum := by
  induction h with
  | nil => rfl
  | cons x _ ih => simp [ih]
  | swap x y l => simp; omega
  | trans _ _ h1 h2 => exact h1.trans h2
/-- What splitS tells of weights that are all right. -/
structure GoodSplit (t : Int) (l p : List Int) : Prop where
  len : p.length = l.length
  sum : p.sum = t
  low : ∀ i : Nat, i < l.length → 0 ≤ rd p i
  high : t ≤ l.sum → ∀ i : Nat, i < l.length → rd p i ≤ rd l i
  near : 0 < l.sum → ∀ i : Nat, i < l.length → -l.sum < l.sum * rd p i - t * rd l i ∧ l.sum * rd p i - t * rd l i < l.sum
/-- Whoever gets one more has a remainder. -/
theorem bump_rem (t : Int) (l : List Int) (hs : 0 < l.sum) (i : Nat) (hi : i < l.length) (hmem : (i : Int) ∈ (ordS (remS t l.sum l) l.length).take (leftS t l.sum l).toNat) (hr : t * rd l i % l.sum = 0) : False := by
  obtain ⟨A, B, hAB⟩ := List.append_of_mem hmem
  have hO : ordS (remS t l.sum l) l.length = A ++ (i : Int) :: (B ++ (ordS (remS t l.sum l) l.length).drop (leftS t l.sum l).toNat) := by
    have := List.take_append_drop (leftS t l.sum l).toNat (ordS (remS t l.sum l) l.length)
    rw [hAB] at this
    rw [← List.cons_append, ← List.append_assoc]
    exact this.symm
  have hso := ordS_sorted (remS t l.sum l) l.length
  have hpm := perm_map_sum (rd (remS t l.sum l)) (ordS_perm (remS t l.sum l) l.length)
  have hmi : (idx l.length).map (rd (remS t l.sum l)) = remS t l.sum l := by
    have := map_idx (remS t l.sum l)
    simpa [remS] using this
  rw [hmi, hO, List.map_append, List.map_cons, List.sum_append, List.sum_cons] at hpm
  have hri : rd (remS t l.sum l) (i : Int) = 0 := by
    unfold remS
    rw [rd_map _ _ i hi]; exact hr
  have hAl : A.length < (leftS t l.sum l).toNat := by
    have := congrArg List.length hAB
    rw [List.length_take, List.length_append, List.length_cons] at this
    omega
  rw [hO, List.pairwise_append] at hso
  have hs2 := hso.2.1
  rw [List.pairwise_cons] at hs2
  have hmemO : ∀ x, x ∈ A ++ (i : Int) :: (B ++ (ordS (remS t l.sum l) l.length).drop (leftS t l.sum l).toNat) → 0 ≤ rd (remS t l.sum l) x ∧ rd (remS t l.sum l) x < l.sum := by
    intro x hx
    rw [← hO] at hx
    have := mem_ordS.1 hx
    exact rem_bounds hs _ (rd_mem _ x this.1 (by simpa [remS] using this.2))
  have hA := sum_le_mul (m := l.sum - 1) (l := A.map (rd (remS t l.sum l))) (fun y hy => by
    obtain ⟨x, hx, rfl⟩ := List.mem_map.1 hy
    have := hmemO x (List.mem_append_left _ hx)
    omega)
  have hB := sum_le_mul (m := 0) (l := (B ++ (ordS (remS t l.sum l) l.length).drop (leftS t l.sum l).toNat).map (rd (remS t l.sum l))) (fun y hy => by
    obtain ⟨x, hx, rfl⟩ := List.mem_map.1 hy
    have h1 := hmemO x (List.mem_append_right _ (List.mem_cons_of_mem _ hx))
    have h2 := hs2.1 x hx
    unfold ltR at h2
    omega)
  have hsq := sum_quo_rem t l.sum l
  rw [List.length_map] at hA
  have hleft : l.sum * leftS t l.sum l = (remS t l.sum l).sum := by
    unfold leftS
    rw [Int.mul_sub, Int.mul_comm l.sum t]; omega
  have hlt : (A.length : Int) ≤ leftS t l.sum l - 1 := by omega
  have h3 := Int.mul_le_mul_of_nonneg_left hlt (show 0 ≤ l.sum - 1 by omega)
  have h4 : (l.sum - 1) * (leftS t l.sum l - 1) = l.sum * leftS t l.sum l - leftS t l.sum l - l.sum + 1 := by
    rw [Int.sub_mul, Int.mul_sub, Int.one_mul, Int.mul_one]; omega
  rw [hri] at hpm
  omega
theorem partsSp_good (t : Int) (l : List Int) (hl0 : 0 < l.length) (ht0 : 0 ≤ t) (hw : ∀ w ∈ l, 0 ≤ w ∧ w ≤ l.sum) (hz : l.sum = 0 → t = 0) : GoodSplit t l (partsSp t l.sum l) := by
  have hlb := left_bounds hl0 ht0 (fun w h => (hw w h).1) hz
  have hsub := List.take_sublist (leftS t l.sum l).toNat (ordS (remS t l.sum l) l.length)
  have hnd := hsub.nodup (ordS_nodup (remS t l.sum l) l.length)
  have hq : ∀ i : Nat, i < l.length → 0 ≤ t * rd l i / l.sum ∧ t * rd l i / l.sum ≤ t := fun i hi => by
    have := hw _ (rd_mem l i (by omega) (by omega))
    exact quo_le ht0 this.1 this.2
  refine ⟨bumpS_len _ _ _ _, ?_, ?_, ?_, ?_⟩
  · unfold partsSp
    have := bumpS_sum t l.sum l ((ordS (remS t l.sum l) l.length).take (leftS t l.sum l).toNat) [] (by simpa using hnd) (fun i hi => mem_ordS.1 (hsub.subset hi))
    rw [List.nil_append] at this
    rw [this, bumpS_nil, List.length_take, ordS_len]
    unfold leftS at hlb ⊢
    omega
  · intro i hi
    unfold partsSp
    rw [rd_bumpS _ _ _ _ _ hi]
    have := (hq i hi).1
    split <;> omega
  · intro hts i hi
    unfold partsSp
    rw [rd_bumpS _ _ _ _ _ hi]
    have hwi := hw _ (rd_mem l i (by omega) (by omega))
    have hq0 := hq i hi
    by_cases h0 : l.sum = 0
    · have ht := hz h0
      have e0 : (leftS t l.sum l).toNat = 0 := by
        unfold leftS
        rw [quoS_zero t l.sum l (fun w _ => by rw [ht]; simp)]
        rw [ht]; simp
      rw [e0, List.take_zero, h0, Int.ediv_zero]
      simp
      omega
    have hs : 0 < l.sum := by have := sum_nonneg (fun w h => (hw w h).1); omega
    have hdm := Int.mul_ediv_add_emod (t * rd l i) l.sum
    have hle : t * rd l i ≤ l.sum * rd l i := Int.mul_le_mul_of_nonneg_right hts hwi.1
    have hqw : t * rd l i / l.sum ≤ rd l i := by
      have h2 := Int.ediv_le_ediv hs hle
      rwa [Int.mul_ediv_cancel_left _ h0] at h2
    split
    · rename_i hmem
      have hr0 : 0 ≤ t * rd l i % l.sum := Int.emod_nonneg _ h0
      by_cases hr : t * rd l i % l.sum = 0
      · exfalso
        exact bump_rem t l hs i hi hmem hr
      · have h5 : l.sum * (t * rd l i / l.sum) < l.sum * rd l i := by omega
        have h6 := Int.lt_of_mul_lt_mul_left h5 (by omega)
        omega
    · omega
  · intro hs i hi
    unfold partsSp
    rw [rd_bumpS _ _ _ _ _ hi]
    have hdm := Int.mul_ediv_add_emod (t * rd l i) l.sum
    have hr0 : 0 ≤ t * rd l i % l.sum := Int.emod_nonneg _ (by omega)
    have hr1 : t * rd l i % l.sum < l.sum := Int.emod_lt_of_pos _ hs
    rw [Int.mul_add]
    split
    · rename_i hmem
      by_cases hr : t * rd l i % l.sum = 0
      · exact absurd (bump_rem t l hs i hi hmem hr) (by simp)
      · rw [Int.mul_one]; omega
    · rw [Int.mul_zero]; omega
theorem splitS_good {t : Int} {l : List Int} (h : (splitS t l).2 = 0) : GoodSplit t l (splitS t l).1 := by
  unfold splitS at h ⊢
  split at h
  · rename_i hc
    rw [if_pos hc]
    obtain ⟨ht0, ht, hl0, hl1, hin, hs, hz, he⟩ := shCheck_ok hc
    exact partsSp_good t l hl0 ht0 (fun w hw => ⟨(inAll_iff.1 hin w hw).1, sum_mem_le hin w hw⟩) hz
  · rename_i hc
    exact absurd h hc

-- FIBREPARTS: fibre.Parts (ours). Behind lists.lean
theorem within_tells (l : List Int) (m : Int) (hl : l.length ≤ 1000) : Tells (fun k => fibre_within.f k l m) (inAll m l) := by
  have lp : ∀ n i k, n < k → i + n = l.length → fibre_all_int__fibre_within_1.l0 k l (l.length : Int) (i : Int) [m] = some (inAll m (l.drop i)) := by
    intro n
    induction n with
    | zero =>
      intro i k hk hi
      obtain ⟨j, rfl⟩ : ∃ j, k = j + 1 := ⟨k - 1, by omega⟩
      unfold fibre_all_int__fibre_within_1.l0
      rw [if_neg (by omega), List.drop_of_length_le (by omega)]
      rfl
    | succ n ih =>
      intro i k hk hi
      obtain ⟨j, rfl⟩ : ∃ j, k = j + 1 := ⟨k - 1, by omega⟩
      unfold fibre_all_int__fibre_within_1.l0
      rw [if_pos (by omega), if_pos (by omega), if_pos (by omega), wrap64_id (n := (i : Int) + 1) (by omega) (by omega), rd_drop l i (by omega)]
      have e : fibre_within_1.f (rd l (i : Int)) [m] = some (decide (0 ≤ rd l (i : Int)) && decide (rd l (i : Int) ≤ m)) := by
        unfold fibre_within_1.f
        by_cases h : rd l (i : Int) ≥ 0
        · have h' : 0 ≤ rd l (i : Int) := h
          rw [if_pos h, if_pos (by simp)]
          rw [decide_eq_true h', Bool.true_and]
          rfl
        · have h' : ¬ 0 ≤ rd l (i : Int) := h
          rw [if_neg h]
          simp [h']
      rw [e]
      show (if _ = true then _ else _) = _
      unfold inAll
      rw [List.all_cons]
      by_cases h : (decide (0 ≤ rd l (i : Int)) && decide (rd l (i : Int) ≤ m)) = true
      · rw [if_pos h, h, Bool.true_and]
        exact ih (i + 1) j (by omega) (by omega)
      · rw [if_neg h, eq_false_of_ne_true h]
        rfl
  refine ⟨l.length + 1, fun k hk => ?_⟩
  show fibre_within.f k l m = _
  unfold fibre_within.f fibre_all_int__fibre_within_1.f
  have := lp l.length 0 k (by omega) (by omega)
  rw [show ((0 : Nat) : Int) = 0 from rfl] at this
  rw [this]
  rfl
def partsS (l : List Int) (n : Int) : Int := if 1 ≤ n ∧ n ≤ 8 ∧ (l.length : Int) = n then (if inAll 1099511627776 l then 0 else 1) else 17
theorem parts_tells (l : List Int) (n : Int) (hl : l.length ≤ 1000) : Tells (fun k => fibre_Parts.f k l n) (partsS l n) := by
  have e : fibre_listed.f l n = some (decide (1 ≤ n ∧ n ≤ 8 ∧ (l.length : Int) = n)) := by
    unfold fibre_listed.f
    by_cases h1 : n ≥ 1
    · by_cases h2 : n ≤ 8
      · have h1' : 1 ≤ n := h1
        rw [if_pos h1, if_pos h2]
        by_cases h3 : (l.length : Int) = n
        · simp [h1', h2, h3]
        · simp [h1', h2, h3]
      · rw [if_pos h1, if_neg h2]; simp [h2]
    · have h1' : ¬ 1 ≤ n := h1
      rw [if_neg h1]; simp [h1']
  refine Tells.congr (g := fun k => if (1 ≤ n ∧ n ≤ 8 ∧ (l.length : Int) = n) then ((fibre_within.f k l 1099511627776).bind fun t => if t = true then some 0 else some 1) else some 17) ?_ (fun k => by
    unfold fibre_Parts.f
    rw [e]
    by_cases h : (1 ≤ n ∧ n ≤ 8 ∧ (l.length : Int) = n)
    · rw [if_pos h]; simp only [Option.bind_some, decide_eq_true h, if_true]
    · rw [if_neg h]; simp only [Option.bind_some, decide_eq_false h, Bool.false_eq_true, if_false])
  unfold partsS
  refine Tells.ite (fun h => ?_) (fun h => Tells.const 17)
  refine Tells.bind (within_tells l _ hl) ?_
  exact Tells.ite (fun _ => Tells.const 0) (fun _ => Tells.const 1)

-- PSUM (ours)
theorem psum_tells (l : List Int) (hl : l.length ≤ 1000) : Tells (fun k => pipe_sum.f k l) (sumFrom 0 l) := by
  have lp : ∀ n i k s, n < k → i + n = l.length → pipe_sum.l0 k s l (l.length : Int) (i : Int) = some (sumFrom s (l.drop i)) := by
    intro n
    induction n with
    | zero =>
      intro i k s hk hi
      obtain ⟨m, rfl⟩ : ∃ m, k = m + 1 := ⟨k - 1, by omega⟩
      unfold pipe_sum.l0
      rw [if_neg (by omega), List.drop_of_length_le (by omega)]
      rfl
    | succ n ih =>
      intro i k s hk hi
      obtain ⟨m, rfl⟩ : ∃ m, k = m + 1 := ⟨k - 1, by omega⟩
      unfold pipe_sum.l0
      rw [if_pos (by omega), if_pos (by omega), if_pos (by omega), wrap64_id (n := (i : Int) + 1) (by omega) (by omega), rd_drop l i (by omega)]
      exact ih (i + 1) m _ (by omega) (by omega)
  refine ⟨l.length + 1, fun k hk => ?_⟩
  show pipe_sum.f k l = _
  unfold pipe_sum.f
  exact lp l.length 0 k 0 (by omega) (by omega)

-- ZIP (ours). Behind lists.lean
/-- The parts changed by some masses, times a sign. -/
def zipS (sg : Int) (l m : List Int) : List Int := (idx l.length).map fun i => wrap64 (rd l i + sg * rd m i)
theorem zipS_len (sg : Int) (l m : List Int) : (zipS sg l m).length = l.length := by simp [zipS, idx_len]
theorem rd_zipS (sg : Int) (l m : List Int) (i : Nat) (h : i < l.length) : rd (zipS sg l m) (i : Int) = wrap64 (rd l i + sg * rd m i) := by
  unfold zipS
  rw [rd_map _ _ i (by rw [idx_len]; exact h), rd_idx _ _ h]
theorem wrap64_in (a b : Int) : wrap64 (a + wrap64 b) = wrap64 (a + b) := by
  unfold wrap64; omega

-- PIPECHECK: pipes (ours; rd_L1: this seat's lists of lists). Behind fibreparts, psum
theorem rdL_drop (l : List (List Int)) (i : Nat) (h : i < l.length) : l.drop i = rd_L1 l (i : Int) :: l.drop (i + 1) := by
  rw [List.drop_eq_getElem_cons h]
  congr 1
  show l[i] = l.getD (i : Int).toNat []
  simp [h]
theorem rdL_mem (l : List (List Int)) (i : Nat) (h : i < l.length) : rd_L1 l (i : Int) ∈ l := by
  have := rdL_drop l i h
  have hm : rd_L1 l (i : Int) ∈ l.drop i := by rw [this]; exact List.mem_cons_self
  exact List.mem_of_mem_drop hm

-- PIPECHECK (ours)
theorem great_tells (h : Int) (l : List (List Int)) (hl : l.length ≤ maxLen) : ∃ b, Tells (fun k => papermilllaw19_great.f k h l) b ∧ (b = false → l.length ≤ 300 ∧ ∀ x ∈ l, x.length ≤ 20) := by
  by_cases c : (l.length : Int) > 300
  · refine ⟨true, Tells.congr (Tells.const true) (fun k => ?_), by simp⟩
    unfold papermilllaw19_great.f
    rw [if_pos c]
  · have lp : ∀ d i, i + d = l.length → ∃ b, Tells (fun k => papermilllaw19_great.l0 k (i : Int) h l) b ∧ (b = false → ∀ x ∈ l.drop i, x.length ≤ 20) := by
      intro d
      induction d with
      | zero =>
        intro i hi
        refine ⟨false, Tells.up (Tells.const _) (fun k => ?_), fun _ x hx => ?_⟩
        · rw [papermilllaw19_great.l0]
          rw [if_neg (by omega)]
        · rw [List.drop_of_length_le (by omega)] at hx; simp at hx
      | succ d ih =>
        intro i hi
        obtain ⟨b, hb, hb2⟩ := ih (i + 1) (by omega)
        by_cases c2 : ((rd_L1 l (i : Int)).length : Int) > 20
        · refine ⟨true, Tells.up (Tells.const _) (fun k => ?_), by simp⟩
          rw [papermilllaw19_great.l0]
          rw [if_pos (by omega), if_pos (by omega), if_pos c2]
        · refine ⟨b, Tells.up hb (fun k => ?_), fun h2 x hx => ?_⟩
          · rw [papermilllaw19_great.l0]
            rw [if_pos (by omega), if_pos (by omega), if_neg c2, wrap64_id (by omega) (by omega)]
            rfl
          · rw [rdL_drop l i (by omega)] at hx
            rcases List.mem_cons.1 hx with rfl | hx
            · omega
            · exact hb2 h2 x hx
    obtain ⟨b, hb, hb2⟩ := lp l.length 0 (by omega)
    refine ⟨b, Tells.congr hb (fun k => ?_), fun h2 => ⟨by omega, hb2 h2⟩⟩
    unfold papermilllaw19_great.f
    rw [if_neg c]
    rfl
def errP (n : Int) : List (List Int) → Int
  | [] => 0
  | x :: l => if partsS x n = 0 then (if sumFrom 0 x = 0 then 10 else errP n l) else partsS x n
def sumAll (s : Int) : List (List Int) → Int
  | [] => s
  | x :: l => sumAll (wrap64 (s + sumFrom 0 x)) l
def checkP (h : Int) (l : List (List Int)) : Int := if h < 1 ∨ h > 1099511627776 then 1 else if (l.length : Int) = 0 then 10 else if (l.length : Int) > 256 then 8 else if errP ((rd_L1 l 0).length : Int) l = 0 then (if sumAll 0 l = h then 0 else 39) else errP ((rd_L1 l 0).length : Int) l
theorem checkP_tells (h : Int) (l : List (List Int)) (hl : l.length ≤ 300) (hx : ∀ x ∈ l, x.length ≤ 20) : Tells (fun k => pipe_Check.f k h l) (checkP h l) := by
  have lp : ∀ d i s, i + d = l.length → Tells (fun k => pipe_Check.l0 k s l (l.length : Int) (i : Int) h l) (if errP ((rd_L1 l 0).length : Int) (l.drop i) = 0 then (if sumAll s (l.drop i) = h then 0 else 39) else errP ((rd_L1 l 0).length : Int) (l.drop i)) := by
    intro d
    induction d with
    | zero =>
      intro i s hi
      rw [List.drop_of_length_le (by omega)]
      refine Tells.up (g := fun k => if s = h then some 0 else some 39) ?_ (fun k => by
        rw [pipe_Check.l0]
        rw [if_neg (by omega)])
      exact Tells.ite (fun _ => Tells.const _) (fun _ => Tells.const _)
    | succ d ih =>
      intro i s hi
      have hm := hx _ (rdL_mem l i (by omega))
      rw [rdL_drop l i (by omega)]
      refine Tells.up (g := fun k => (fibre_Parts.f k (rd_L1 l (i : Int)) ((rd_L1 l 0).length : Int)).bind fun t => if t = 0 then ((pipe_sum.f k (rd_L1 l (i : Int))).bind fun t => if t = 0 then some 10 else ((pipe_sum.f k (rd_L1 l (i : Int))).bind fun t => pipe_Check.l0 k (wrap64 (s + t)) l (l.length : Int) ((i + 1 : Nat) : Int) h l)) else some t) ?_ (fun k => by
        rw [pipe_Check.l0]
        rw [if_pos (by omega), if_pos (by omega), if_pos (by omega), if_pos (by omega), wrap64_id (n := (i : Int) + 1) (by omega) (by omega)]
        rfl)
      refine Tells.bind (parts_tells _ _ (by omega)) ?_
      rw [errP]
      by_cases c1 : partsS (rd_L1 l (i : Int)) ((rd_L1 l 0).length : Int) = 0
      · rw [if_pos c1]
        refine Tells.pos c1 (Tells.bind (psum_tells _ (by omega)) ?_)
        by_cases c2 : sumFrom 0 (rd_L1 l (i : Int)) = 0
        · rw [if_pos c2]
          exact Tells.pos c2 (Tells.const _)
        · rw [if_neg c2]
          refine Tells.neg c2 (Tells.bind (psum_tells _ (by omega)) ?_)
          exact ih (i + 1) _ (by omega)
      · rw [if_neg c1, if_neg c1]
        exact Tells.neg c1 (Tells.const _)
  refine Tells.congr (g := fun k => pipe_Check.j0 k (decide (h < 1 ∨ h > 1099511627776)) h l) ?_ (fun k => by
    unfold pipe_Check.f
    by_cases c : h < 1
    · rw [if_pos c, decide_eq_true (p := h < 1 ∨ h > 1099511627776) (Or.inl c)]
    · rw [if_neg c]; congr 1; simp [c])
  refine Tells.up (g := fun k => if decide (h < 1 ∨ h > 1099511627776) = true then some 1 else if (l.length : Int) = 0 then some 10 else if (l.length : Int) > 256 then some 8 else pipe_Check.l0 k 0 l (l.length : Int) ((0 : Nat) : Int) h l) ?_ (fun k => by rw [pipe_Check.j0]; rfl)
  unfold checkP
  by_cases c : h < 1 ∨ h > 1099511627776
  · rw [if_pos c]; exact Tells.pos (decide_eq_true c) (Tells.const _)
  rw [if_neg c]
  refine Tells.neg (by simpa using c) (Tells.ite (fun _ => Tells.const _) (fun _ => Tells.ite (fun _ => Tells.const _) (fun _ => ?_)))
  exact lp l.length 0 0 (by omega)

-- AWAKE19
theorem awake_tells : Tells (fun k => papermilllaw19_awake.f k) true := Tells.of (fun k => papermilllaw19_awake.mono k) ⟨200, by decide +kernel⟩

-- PIPEOK (ours)
theorem errP_ok {n : Int} {l : List (List Int)} (h : errP n l = 0) : ∀ x ∈ l, partsS x n = 0 ∧ sumFrom 0 x ≠ 0 := by
  induction l with
  | nil => simp
  | cons y l ih =>
    rw [errP] at h
    split at h
    · rename_i h1
      split at h
      · simp at h
      · rename_i h2
        intro x hx
        rcases List.mem_cons.1 hx with rfl | hx
        · exact ⟨h1, h2⟩
        · exact ih h x hx
    · rename_i h1
      exact absurd h h1
theorem plen {m : List Int} {n : Int} (h : partsS m n = 0) : 1 ≤ n ∧ n ≤ 8 ∧ (m.length : Int) = n ∧ inAll 1099511627776 m = true := by
  unfold partsS at h
  split at h
  · rename_i h1
    split at h
    · rename_i h2; exact ⟨h1.1, h1.2.1, h1.2.2, h2⟩
    · simp at h
  · simp at h
theorem checkP_ok {h : Int} {l : List (List Int)} (c : checkP h l = 0) : 1 ≤ h ∧ h ≤ 1099511627776 ∧ 0 < l.length ∧ l.length ≤ 256 ∧ errP ((rd_L1 l 0).length : Int) l = 0 ∧ sumAll 0 l = h := by
  unfold checkP at c
  split at c
  · simp at c
  split at c
  · simp at c
  split at c
  · simp at c
  split at c
  · rename_i h1 h2 h3 h4
    split at c
    · rename_i h5
      exact ⟨by omega, by omega, by omega, by omega, h4, h5⟩
    · simp at c
  · rename_i h1 h2 h3 h4
    exact absurd c h4
theorem rows_len {h : Int} {l : List (List Int)} (c : checkP h l = 0) (i : Nat) (hi : i < l.length) : (rd_L1 l (i : Int)).length = (rd_L1 l 0).length ∧ (rd_L1 l 0).length ≤ 8 := by
  obtain ⟨h0, h1, l0, l1, he, hs⟩ := checkP_ok c
  have := plen (errP_ok he _ (rdL_mem l i hi)).1
  omega

-- PIPEAGE (ours)
def ageP (h : Int) (l : List (List Int)) (a : Int) : Int × Int := if checkP h l = 0 then (if a < 0 ∨ a ≥ (l.length : Int) then (0, 7) else (sumAll 0 (l.take (a + 1).toNat), 0)) else (0, checkP h l)
theorem age_tells (h : Int) (l : List (List Int)) (a : Int) (hl : l.length ≤ 300) (hx : ∀ x ∈ l, x.length ≤ 20) : Tells (fun k => pipe_Age.f k h l a) (ageP h l a) := by
  refine Tells.congr (g := fun k => (pipe_Check.f k h l).bind fun t => if t = 0 then pipe_Age.j0 k a (decide (a < 0 ∨ a ≥ (l.length : Int))) h l else some (0, t)) ?_ (fun k => by
    unfold pipe_Age.f
    congr 1; funext t
    by_cases c : a < 0
    · rw [if_pos c, decide_eq_true (p := a < 0 ∨ a ≥ (l.length : Int)) (Or.inl c)]
    · rw [if_neg c]; congr 2; simp [c])
  unfold ageP
  refine Tells.bind (checkP_tells h l hl hx) (Tells.ite (fun c => ?_) (fun _ => Tells.const _))
  by_cases c2 : a < 0 ∨ a ≥ (l.length : Int)
  · rw [if_pos c2]
    refine Tells.up (Tells.const _) (fun k => ?_)
    rw [pipe_Age.j0]
    rw [if_pos (decide_eq_true c2)]
  rw [if_neg c2]
  have hta : ∀ x ∈ l.take (a + 1).toNat, x.length ≤ 20 := fun x h => hx x (List.mem_of_mem_take h)
  have htl : (l.take (a + 1).toNat).length ≤ 300 := by rw [List.length_take]; omega
  have lp : ∀ (m : List (List Int)), m.length ≤ 300 → (∀ x ∈ m, x.length ≤ 20) → ∀ d i s, i + d = m.length → Tells (fun k => pipe_Age.l0 k s m (m.length : Int) (i : Int)) (sumAll s (m.drop i), 0) := by
    intro m hml hmx d
    induction d with
    | zero =>
      intro i s hi
      rw [List.drop_of_length_le (by omega)]
      refine Tells.up (Tells.const _) (fun k => ?_)
      rw [pipe_Age.l0]
      rw [if_neg (by omega)]
      rfl
    | succ d ih =>
      intro i s hi
      have hm := hmx _ (rdL_mem m i (by omega))
      rw [rdL_drop m i (by omega)]
      refine Tells.up (g := fun k => (pipe_sum.f k (rd_L1 m (i : Int))).bind fun t => pipe_Age.l0 k (wrap64 (s + t)) m (m.length : Int) ((i + 1 : Nat) : Int)) ?_ (fun k => by
        rw [pipe_Age.l0]
        rw [if_pos (by omega), if_pos (by omega), if_pos (by omega), wrap64_id (n := (i : Int) + 1) (by omega) (by omega)]
        rfl)
      exact Tells.bind (psum_tells _ (by omega)) (ih (i + 1) _ (by omega))
  refine Tells.up (lp (l.take (a + 1).toNat) htl hta (l.take (a + 1).toNat).length 0 0 (by omega)) (fun k => ?_)
  rw [pipe_Age.j0]
  rw [if_neg (by simpa using c2), wrap64_id (n := a + 1) (by omega) (by omega), if_pos (by omega), if_pos (by omega)]
  rfl

-- PIPECOPIED (ours)
theorem copied_val (l : List Int) (hl : l.length ≤ 1000) : pipe_copied.f l = some l := by
  have hc : ∃ q, copy_int.f (List.replicate l.length 0) l = some (q, l) := by
    unfold copy_int.f
    simp
  obtain ⟨q, hc⟩ := hc
  unfold pipe_copied.f
  rw [if_pos (by omega), if_pos (by omega), Int.toNat_natCast, hc]
  rfl

-- PIPEPUSH: what Push tells (ours). Behind split, splitprops, zip, piperd, pipecheck, pipeok, pipesame
theorem leave_tells (p left : List Int) (m : Int) (hp : inAll 1099511627776 p = true) (hl : p.length = left.length) (hl8 : p.length ≤ 8) (hm : p.sum ≤ m) (hm2 : m ≤ 1099511627776) : Tells (fun k => pipe_Push_1.f k p left m) (m - p.sum, zipS 1 left p) := by
  have lp : ∀ d i X xm, i + d = p.length → X.length = left.length → (∀ q : Nat, q < left.length → rd X q = if q < i then wrap64 (rd left q + 1 * rd p q) else rd left q) → xm - (p.drop i).sum = m - p.sum → xm ≤ m → Tells (fun k => pipe_Push_1.l0 k X xm p (p.length : Int) (i : Int)) (m - p.sum, zipS 1 left p) := by
    intro d
    induction d with
    | zero =>
      intro i X xm hi hX hq hx hxm
      rw [List.drop_of_length_le (by omega), List.sum_nil, Int.sub_zero] at hx
      have : X = zipS 1 left p := by
        apply ext_rd (by rw [zipS_len, hX])
        intro q h
        rw [hq q (by omega), if_pos (by omega), rd_zipS _ _ _ _ (by omega)]
      rw [this, ← hx]
      refine Tells.up (Tells.const _) (fun k => ?_)
      rw [pipe_Push_1.l0]
      rw [if_neg (by omega)]
    | succ d ih =>
      intro i X xm hi hX hq hx hxm
      rw [rd_drop p i (by omega), List.sum_cons] at hx
      have h1 := inAll_iff.1 hp _ (rd_mem p i (by omega) (by omega))
      have h2 := sum_nonneg (l := p.drop (i + 1)) (fun w hw => (inAll_iff.1 hp w (List.mem_of_mem_drop hw)).1)
      refine Tells.up (ih (i + 1) (X.set i (wrap64 (rd left i + 1 * rd p i))) (xm - rd p i) (by omega) (by simpa using hX) ?_ (by omega) (by omega)) (fun k => ?_)
      · intro q h
        rw [rd_set _ _ _ _ (by omega)]
        by_cases e2 : i = q
        · subst e2; rw [if_pos rfl, if_pos (by omega)]
        · rw [if_neg e2, hq q h]
          by_cases h2 : q < i
          · rw [if_pos h2, if_pos (by omega)]
          · rw [if_neg h2, if_neg (by omega)]
      · rw [pipe_Push_1.l0]
        rw [if_pos (by omega), if_pos (by omega), if_pos (by omega), if_pos (by omega), hq i (by omega), if_neg (by omega), Int.one_mul, wrap64_id (n := xm - rd p i) (by omega) (by omega), wrap64_id (n := (i : Int) + 1) (by omega) (by omega)]
        rfl
  refine Tells.congr (lp p.length 0 left m (by omega) rfl (fun q _ => by rw [if_neg (by omega)]) (by rw [List.drop_zero]) (by omega)) (fun k => ?_)
  unfold pipe_Push_1.f
  rfl
def pushS : Int → List Int → List (List Int) → List (List Int) → List (List Int) × List Int
  | _, left, out, [] => (out, left)
  | m, left, out, p :: ps => if m ≥ sumFrom 0 p then pushS (m - sumFrom 0 p) (zipS 1 left p) out ps else if m > 0 then pushS 0 (zipS 1 left (splitS m p).1) (out ++ [zipS (-1) p (splitS m p).1]) ps else pushS m left (out ++ [p]) ps
def endS (h : Int) (inn : List Int) (r : List (List Int) × List Int) : Int × List (List Int) × List Int × Int := if ((if sumFrom 0 inn > 0 then r.1 ++ [inn] else r.1).length : Int) > 256 then (0, [], [], 8) else (h, if sumFrom 0 inn > 0 then r.1 ++ [inn] else r.1, r.2, 0)
def pushP (h : Int) (l : List (List Int)) (inn : List Int) : Int × List (List Int) × List Int × Int := if checkP h l = 0 then (if partsS inn ((rd_L1 l 0).length : Int) = 0 then (if sumFrom 0 inn > h then (0, [], [], 8) else endS h inn (pushS (sumFrom 0 inn) (List.replicate (rd_L1 l 0).length 0) [] l)) else (0, [], [], partsS inn ((rd_L1 l 0).length : Int))) else (0, [], [], checkP h l)
theorem sum_ok {x : List Int} {n : Int} (h : partsS x n = 0) : sumFrom 0 x = x.sum ∧ 0 ≤ x.sum ∧ x.sum ≤ 8796093022208 := by
  obtain ⟨a1, a2, a3, a4⟩ := plen h
  have hs := sumFrom_eq x a4 0 (by omega) (by omega) (by omega)
  have hb := sum_bounds a4
  omega
theorem part_ok {p : List Int} {n m : Int} (h : partsS p n = 0) (h0 : 0 < m) (hm : m < p.sum) (hm2 : m ≤ 1099511627776) : (splitS m p).2 = 0 ∧ GoodSplit m p (splitS m p).1 ∧ inAll 1099511627776 (splitS m p).1 = true := by
  obtain ⟨a1, a2, a3, a4⟩ := plen h
  have hs := sum_ok h
  have hin : inAll 1125899906842624 p = true := by
    rw [inAll_iff] at a4 ⊢
    intro x hx
    have := a4 x hx
    omega
  have : (shCheckS m p).2 = 0 := by
    unfold shCheckS
    rw [if_neg (by omega), if_neg (by omega), if_neg (by omega), if_pos hin, if_neg (by omega), if_neg (by omega)]
  have hok : (splitS m p).2 = 0 := by
    unfold splitS
    rw [if_pos this]
  have g := splitS_good hok
  refine ⟨hok, g, ?_⟩
  rw [inAll_iff]
  intro x hx
  obtain ⟨i, hi, rfl⟩ := List.getElem_of_mem hx
  rw [← rd_at _ i hi]
  have hi' : i < p.length := by rw [← g.len]; exact hi
  have h1 := g.low i hi'
  have h2 := g.high (by omega) i hi'
  have h3 := inAll_iff.1 a4 _ (rd_mem p i (by omega) (by omega))
  omega
theorem push_tells (h : Int) (l : List (List Int)) (inn : List Int) (hl : l.length ≤ 300) (hx : ∀ x ∈ l, x.length ≤ 20) (hi20 : inn.length ≤ 20) : Tells (fun k => pipe_Push.f k h l inn) (pushP h l inn) := by
  refine Tells.congr (g := fun k => (pipe_Check.f k h l).bind fun t => if t = 0 then (if 0 < (l.length : Int) then ((fibre_Parts.f k inn ((rd_L1 l 0).length : Int)).bind fun t => if t = 0 then ((pipe_sum.f k inn).bind fun s => if s > h then some (0, [], [], 8) else (if ((rd_L1 l 0).length : Int).toNat ≤ 35184372088832 then pipe_Push.l0 k inn l (l.length : Int) ((0 : Nat) : Int) s h [] (List.replicate (rd_L1 l 0).length 0) else none)) else some (0, [], [], t)) else none) else some (0, [], [], t)) ?_ (fun k => by
    unfold pipe_Push.f
    simp only [if_pos (show 0 ≤ ((rd_L1 l 0).length : Int) by omega)]
    rfl)
  unfold pushP
  refine Tells.bind (checkP_tells h l hl hx) (Tells.ite (fun c => ?_) (fun _ => Tells.const _))
  obtain ⟨h0, h1, l0, l1, he, hs⟩ := checkP_ok c
  refine Tells.pos (by omega) ?_
  refine Tells.bind (parts_tells inn _ (by omega)) (Tells.ite (fun ci => ?_) (fun _ => Tells.const _))
  refine Tells.bind (psum_tells inn (by omega)) (Tells.ite (fun _ => Tells.const _) (fun cs => ?_))
  have hn8 := rows_len c 0 l0
  refine Tells.pos (by omega) ?_
  have hsi := sum_ok ci
  have hil := plen ci
  have hvalid : ∀ x ∈ l, partsS x ((rd_L1 l 0).length : Int) = 0 ∧ sumFrom 0 x ≠ 0 := errP_ok he
  have lp : ∀ d i m left out, i + d = l.length → 0 ≤ m → m ≤ 1099511627776 → left.length = (rd_L1 l 0).length → out.length ≤ i → Tells (fun k => pipe_Push.l0 k inn l (l.length : Int) (i : Int) m h out left) (endS h inn (pushS m left out (l.drop i))) := by
    intro d
    induction d with
    | zero =>
      intro i m left out hi hm0 hm1 hleft hout
      rw [List.drop_of_length_le (by omega)]
      refine Tells.up (g := fun k => (pipe_sum.f k inn).bind fun t => if t > 0 then (if ((out ++ [inn]).length : Int) > 256 then some (0, [], [], 8) else some (h, out ++ [inn], left, 0)) else (if (out.length : Int) > 256 then some (0, [], [], 8) else some (h, out, left, 0))) ?_ (fun k => by
        rw [pipe_Push.l0]
        rw [if_neg (by omega), copied_val inn (by omega)]
        congr 1; funext t
        simp only [Option.bind_some]
        rw [if_pos (show out.length < 5864062014805 by omega)])
      refine Tells.bind (psum_tells inn (by omega)) ?_
      unfold endS pushS
      by_cases z : sumFrom 0 inn > 0
      · simp only [if_pos z]
        exact Tells.ite (fun _ => Tells.const _) (fun _ => Tells.const _)
      · simp only [if_neg z]
        exact Tells.ite (fun _ => Tells.const _) (fun _ => Tells.const _)
    | succ d ih =>
      intro i m left out hi hm0 hm1 hleft hout
      have hmem := rdL_mem l i (by omega)
      have hv := hvalid _ hmem
      have hp20 := hx _ hmem
      rw [rdL_drop l i (by omega)]
      generalize hp : rd_L1 l (i : Int) = p at *
      have hps := sum_ok hv.1
      have hpl := plen hv.1
      refine Tells.up (g := fun k => (pipe_sum.f k p).bind fun t => if m ≥ t then ((pipe_Push_1.f k p left m).bind fun b => pipe_Push.l0 k inn l (l.length : Int) ((i + 1 : Nat) : Int) b.1 h out b.2) else (if m > 0 then ((share_Split.f k m p).bind fun s => if s.2 = 0 then ((pipe_Push_1.f k s.1 left m).bind fun b => pipe_Push.l1 k inn p l (l.length : Int) (i : Int) s.1 (s.1.length : Int) ((0 : Nat) : Int) b.1 h out b.2) else some (0, [], [], s.2)) else pipe_Push.l0 k inn l (l.length : Int) ((i + 1 : Nat) : Int) m h (out ++ [p]) left)) ?_ (fun k => by
        rw [pipe_Push.l0]
        rw [if_pos (by omega), if_pos (by omega), if_pos (by omega), hp, copied_val p (by omega), wrap64_id (n := (i : Int) + 1) (by omega) (by omega)]
        simp only [Option.bind_some, if_pos (show out.length < 5864062014805 by omega)]
        rfl)
      refine Tells.bind (psum_tells p (by omega)) ?_
      rw [pushS]
      by_cases c1 : m ≥ sumFrom 0 p
      · rw [if_pos c1]
        refine Tells.pos c1 ?_
        refine Tells.bind (leave_tells p left m hpl.2.2.2 (by omega) (by omega) (by omega) hm1) ?_
        have := ih (i + 1) (m - sumFrom 0 p) (zipS 1 left p) out (by omega) (by omega) (by omega) (by rw [zipS_len, hleft]) (by omega)
        rw [hps.1] at this ⊢
        exact this
      rw [if_neg c1]
      refine Tells.neg c1 ?_
      by_cases c2 : m > 0
      · rw [if_pos c2]
        refine Tells.pos c2 ?_
        obtain ⟨hok, g, hin⟩ := part_ok hv.1 (by omega) (m := m) (by omega) (by omega)
        refine Tells.bind (split20_tells m p (by omega)) (Tells.pos hok ?_)
        have hql := g.len
        have hqs := g.sum
        refine Tells.bind (leave_tells (splitS m p).1 left m hin (by omega) (by omega) (by omega) hm1) ?_
        generalize (splitS m p).1 = q at *
        rw [hqs, Int.sub_self]
        have hn := ih (i + 1) 0 (zipS 1 left q) (out ++ [zipS (-1) p q]) (by omega) (by omega) (by omega) (by rw [zipS_len, hleft]) (by rw [List.length_append, List.length_singleton]; omega)
        have l1 : ∀ e j X, j + e = p.length → X.length = p.length → (∀ y : Nat, y < p.length → rd X y = if y < j then wrap64 (rd p y + -1 * rd q y) else rd p y) → Tells (fun k => pipe_Push.l1 k inn X l (l.length : Int) (i : Int) q (q.length : Int) (j : Int) 0 h out (zipS 1 left q)) (endS h inn (pushS 0 (zipS 1 left q) (out ++ [zipS (-1) p q]) (l.drop (i + 1)))) := by
          intro e
          induction e with
          | zero =>
            intro j X hj hX hy
            have : X = zipS (-1) p q := by
              apply ext_rd (by rw [zipS_len, hX])
              intro y h
              rw [hy y (by omega), if_pos (by omega), rd_zipS _ _ _ _ (by omega)]
            subst this
            refine Tells.up hn (fun k => ?_)
            rw [pipe_Push.l1]
            rw [if_neg (by omega), if_pos (by omega), wrap64_id (n := (i : Int) + 1) (by omega) (by omega)]
            rfl
          | succ e ih2 =>
            intro j X hj hX hy
            refine Tells.up (ih2 (j + 1) (X.set j (wrap64 (rd p j + -1 * rd q j))) (by omega) (by simpa using hX) ?_) (fun k => ?_)
            · intro y h
              rw [rd_set _ _ _ _ (by omega)]
              by_cases e2 : j = y
              · subst e2; rw [if_pos rfl, if_pos (by omega)]
              · rw [if_neg e2, hy y h]
                by_cases h2 : y < j
                · rw [if_pos h2, if_pos (by omega)]
                · rw [if_neg h2, if_neg (by omega)]
            · rw [pipe_Push.l1]
              have e3 : rd p (j : Int) - rd q (j : Int) = rd p (j : Int) + -1 * rd q (j : Int) := by omega
              rw [if_pos (by omega), if_pos (by omega), if_pos (by omega), if_pos (by omega), hy j (by omega), if_neg (by omega), e3, wrap64_id (n := (j : Int) + 1) (by omega) (by omega)]
              rfl
        exact l1 p.length 0 p (by omega) rfl (fun y _ => by rw [if_neg (by omega)])
      · rw [if_neg c2]
        refine Tells.neg c2 ?_
        exact ih (i + 1) m left (out ++ [p]) (by omega) hm0 hm1 hleft (by rw [List.length_append, List.length_singleton]; omega)
  have := lp l.length 0 (sumFrom 0 inn) (List.replicate (rd_L1 l 0).length 0) [] (by omega) (by omega) (by omega) (by simp) (by simp)
  rw [List.drop_zero] at this
  exact this

-- PIPETWIN: facts of pushes (ours). Behind pipepush
/-- What is left of the mass, what has left, and what stays. -/
def pushT : Int → List Int → List (List Int) → List (List Int) → Int × List (List Int) × List Int
  | m, left, out, [] => (m, out, left)
  | m, left, out, p :: ps => if m ≥ sumFrom 0 p then pushT (m - sumFrom 0 p) (zipS 1 left p) out ps else if m > 0 then pushT 0 (zipS 1 left (splitS m p).1) (out ++ [zipS (-1) p (splitS m p).1]) ps else pushT m left (out ++ [p]) ps
theorem pushS_T (ps : List (List Int)) : ∀ m left out, pushS m left out ps = (pushT m left out ps).2 := by
  induction ps with
  | nil => intro m left out; rfl
  | cons p ps ih =>
    intro m left out
    rw [pushS, pushT]
    split
    · exact ih _ _ _
    split
    · exact ih _ _ _
    · exact ih _ _ _
theorem pushT_one (m : Int) (left : List Int) (out : List (List Int)) (p : List Int) : pushT m left out [p] = if m ≥ sumFrom 0 p then (m - sumFrom 0 p, out, zipS 1 left p) else if m > 0 then (0, out ++ [zipS (-1) p (splitS m p).1], zipS 1 left (splitS m p).1) else (m, out ++ [p], left) := by
  rw [pushT]
  rfl
theorem pushT_append (a b : List (List Int)) : ∀ m left out, pushT m left out (a ++ b) = pushT (pushT m left out a).1 (pushT m left out a).2.2 (pushT m left out a).2.1 b := by
  induction a with
  | nil => intro m left out; rfl
  | cons p a ih =>
    intro m left out
    rw [List.cons_append, pushT, pushT]
    split
    · exact ih _ _ _
    split
    · exact ih _ _ _
    · exact ih _ _ _
theorem pushT_len (ps : List (List Int)) : ∀ m left out, (pushT m left out ps).2.2.length = left.length ∧ (pushT m left out ps).2.1.length ≤ out.length + ps.length ∧ ∀ x ∈ (pushT m left out ps).2.1, x ∈ out ∨ ∃ p ∈ ps, x.length = p.length := by
  induction ps with
  | nil => intro m left out; exact ⟨rfl, by simp [pushT], fun x hx => Or.inl hx⟩
  | cons p ps ih =>
    intro m left out
    rw [pushT]
    split
    · obtain ⟨h1, h2, h3⟩ := ih (m - sumFrom 0 p) (zipS 1 left p) out
      refine ⟨by rw [h1, zipS_len], by rw [List.length_cons]; omega, fun x hx => ?_⟩
      rcases h3 x hx with h | ⟨q, hq, e⟩
      · exact Or.inl h
      · exact Or.inr ⟨q, List.mem_cons_of_mem _ hq, e⟩
    split
    · obtain ⟨h1, h2, h3⟩ := ih 0 (zipS 1 left (splitS m p).1) (out ++ [zipS (-1) p (splitS m p).1])
      rw [List.length_append, List.length_singleton] at h2
      refine ⟨by rw [h1, zipS_len], by rw [List.length_cons]; omega, fun x hx => ?_⟩
      rcases h3 x hx with h | ⟨q, hq, e⟩
      · rcases List.mem_append.1 h with h | h
        · exact Or.inl h
        · rw [List.mem_singleton] at h
          exact Or.inr ⟨p, List.mem_cons_self, by rw [h, zipS_len]⟩
      · exact Or.inr ⟨q, List.mem_cons_of_mem _ hq, e⟩
    · obtain ⟨h1, h2, h3⟩ := ih m left (out ++ [p])
      rw [List.length_append, List.length_singleton] at h2
      refine ⟨h1, by rw [List.length_cons]; omega, fun x hx => ?_⟩
      rcases h3 x hx with h | ⟨q, hq, e⟩
      · rcases List.mem_append.1 h with h | h
        · exact Or.inl h
        · rw [List.mem_singleton] at h
          exact Or.inr ⟨p, List.mem_cons_self, by rw [h]⟩
      · exact Or.inr ⟨q, List.mem_cons_of_mem _ hq, e⟩
def sums (l : List (List Int)) : Int := (l.map List.sum).sum
theorem sums_cons (p : List Int) (l : List (List Int)) : sums (p :: l) = p.sum + sums l := rfl
theorem sums_append (a b : List (List Int)) : sums (a ++ b) = sums a + sums b := by
  induction a with
  | nil => simp [sums]
  | cons p a ih => rw [List.cons_append, sums_cons, sums_cons, ih]; omega
structure Plugs (n : Int) (l : List (List Int)) : Prop where
  ok : ∀ x ∈ l, partsS x n = 0 ∧ sumFrom 0 x ≠ 0
theorem Plugs.tail {n : Int} {p : List Int} {l : List (List Int)} (h : Plugs n (p :: l)) : Plugs n l := ⟨fun x hx => h.ok x (List.mem_cons_of_mem _ hx)⟩
theorem Plugs.head {n : Int} {p : List Int} {l : List (List Int)} (h : Plugs n (p :: l)) : sumFrom 0 p = p.sum ∧ 1 ≤ p.sum ∧ p.sum ≤ 8796093022208 ∧ (p.length : Int) = n := by
  have h1 := h.ok p List.mem_cons_self
  have := sum_ok h1.1
  have hl := plen h1.1
  omega
theorem Plugs.left {n : Int} {a b : List (List Int)} (h : Plugs n (a ++ b)) : Plugs n a := ⟨fun x hx => h.ok x (List.mem_append_left _ hx)⟩
theorem Plugs.right {n : Int} {a b : List (List Int)} (h : Plugs n (a ++ b)) : Plugs n b := ⟨fun x hx => h.ok x (List.mem_append_right _ hx)⟩
theorem Plugs.sums {n : Int} {l : List (List Int)} (h : Plugs n l) : (l.length : Int) ≤ sums l ∧ sums l ≤ 8796093022208 * l.length := by
  induction l with
  | nil => simp [_root_.Go.Proofs.Ytpnfdhhfdidlmaa.Pure.sums]
  | cons p l ih =>
    have h1 := h.head
    have h2 := ih h.tail
    rw [sums_cons, List.length_cons]
    omega
theorem sumAll_eq {n : Int} (l : List (List Int)) : Plugs n l → ∀ s : Int, 0 ≤ s → s + 8796093022208 * l.length ≤ 9000000000000000000 → sumAll s l = s + sums l := by
  induction l with
  | nil => intro _ s _ _; simp [sumAll, sums]
  | cons p l ih =>
    intro h s h0 h1
    have hh := h.head
    rw [List.length_cons] at h1
    rw [sumAll, hh.1, wrap64_id (by omega) (by omega), ih h.tail (s + p.sum) (by omega) (by omega), sums_cons]
    omega
theorem checkP_plugs {h : Int} {l : List (List Int)} (c : checkP h l = 0) : Plugs ((rd_L1 l 0).length : Int) l ∧ sums l = h := by
  obtain ⟨h0, h1, l0, l1, he, hs⟩ := checkP_ok c
  have hp : Plugs ((rd_L1 l 0).length : Int) l := ⟨errP_ok he⟩
  refine ⟨hp, ?_⟩
  rw [← hs, sumAll_eq l hp 0 (by omega) (by omega)]
  omega
theorem pushT_mass {n : Int} (ps : List (List Int)) : Plugs n ps → ∀ m left out, 0 ≤ m → (pushT m left out ps).1 = 0 ∨ (pushT m left out ps).1 = m - sums ps := by
  induction ps with
  | nil => intro _ m left out h0; right; simp [pushT, sums]
  | cons p ps ih =>
    intro h m left out h0
    have hh := h.head
    rw [pushT, sums_cons]
    split
    · rename_i c
      rcases ih h.tail (m - sumFrom 0 p) (zipS 1 left p) out (by omega) with e | e
      · exact Or.inl e
      · right; rw [e]; omega
    split
    · rcases ih h.tail 0 (zipS 1 left (splitS m p).1) (out ++ [zipS (-1) p (splitS m p).1]) (by omega) with e | e
      · exact Or.inl e
      · left
        have := h.tail.sums
        have h2 : ∀ (qs : List (List Int)), Plugs n qs → ∀ left out, (pushT 0 left out qs).1 = 0 := by
          intro qs
          induction qs with
          | nil => intro _ left out; rfl
          | cons q qs ih2 =>
            intro hq left out
            have hqh := hq.head
            rw [pushT, if_neg (by omega), if_neg (by omega)]
            exact ih2 hq.tail _ _
        exact h2 ps h.tail _ _
    · rename_i c1 c2
      obtain rfl : m = 0 := by omega
      left
      have h2 : ∀ (qs : List (List Int)), Plugs n qs → ∀ left out, (pushT 0 left out qs).1 = 0 := by
        intro qs
        induction qs with
        | nil => intro _ left out; rfl
        | cons q qs ih2 =>
          intro hq left out
          have hqh := hq.head
          rw [pushT, if_neg (by omega), if_neg (by omega)]
          exact ih2 hq.tail _ _
      exact h2 ps h.tail _ _
theorem endS_len {h : Int} {inn : List Int} {r : List (List Int) × List Int} (hr : r.2.length ≤ 20) (hi : inn.length ≤ 20) (hx : ∀ x ∈ r.1, x.length ≤ 20) : (endS h inn r).2.1.length ≤ 256 ∧ (∀ x ∈ (endS h inn r).2.1, x.length ≤ 20) ∧ (endS h inn r).2.2.1.length ≤ 20 := by
  unfold endS
  by_cases z : sumFrom 0 inn > 0
  · rw [if_pos z]
    split
    · simp
    · rename_i c
      refine ⟨by show (r.1 ++ [inn]).length ≤ 256; omega, ?_, hr⟩
      intro x hx'
      rcases List.mem_append.1 hx' with h | h
      · exact hx x h
      · rw [List.mem_singleton] at h; rw [h]; exact hi
  · rw [if_neg z]
    split
    · simp
    · rename_i c
      exact ⟨by show r.1.length ≤ 256; omega, hx, hr⟩
theorem pushP_len {h : Int} {l : List (List Int)} {inn : List Int} (hx : ∀ x ∈ l, x.length ≤ 20) (hi : inn.length ≤ 20) : (pushP h l inn).2.1.length ≤ 256 ∧ (∀ x ∈ (pushP h l inn).2.1, x.length ≤ 20) ∧ (pushP h l inn).2.2.1.length ≤ 20 := by
  unfold pushP
  split
  · rename_i c
    split
    · split
      · simp
      · have hr := rows_len c 0 (checkP_ok c).2.2.1
        rw [pushS_T]
        obtain ⟨h1, h2, h3⟩ := pushT_len l (sumFrom 0 inn) (List.replicate (rd_L1 l 0).length 0) []
        refine endS_len (by rw [h1]; simp; omega) hi (fun x hx' => ?_)
        rcases h3 x hx' with e | ⟨p, hp, e⟩
        · simp at e
        · rw [e]; exact hx p hp
    · simp
  · simp

def colS (s : Int) (i : Nat) : List (List Int) → Int
  | [] => s
  | p :: ps => colS (wrap64 (s + rd p (i : Int))) i ps
theorem colS_fold (i : Nat) (ps : List (List Int)) : ∀ o : List Int, i < o.length → rd (ps.foldl (fun o p => zipS 1 o p) o) (i : Int) = colS (rd o (i : Int)) i ps := by
  induction ps with
  | nil => intro o _; rfl
  | cons p ps ih =>
    intro o h
    rw [List.foldl_cons, ih _ (by rw [zipS_len]; exact h), rd_zipS _ _ _ _ h, Int.one_mul]
    rfl
theorem pushT_zero {n : Int} (qs : List (List Int)) : Plugs n qs → ∀ left out, pushT 0 left out qs = (0, out ++ qs, left) := by
  induction qs with
  | nil => intro _ left out; simp [pushT]
  | cons q qs ih =>
    intro hq left out
    have hqh := hq.head
    rw [pushT, if_neg (by omega), if_neg (by omega), ih hq.tail]
    simp
theorem pushT_all {n : Int} (ps : List (List Int)) : Plugs n ps → ∀ m left out, sums ps ≤ m → pushT m left out ps = (m - sums ps, out, ps.foldl (fun o p => zipS 1 o p) left) := by
  induction ps with
  | nil => intro _ m left out _; simp [pushT, sums]
  | cons p ps ih =>
    intro h m left out hm
    have hh := h.head
    have hs := h.tail.sums
    rw [sums_cons] at hm
    rw [pushT, if_pos (by omega), ih h.tail _ _ _ (by omega), sums_cons, hh.1, List.foldl_cons]
    congr 1
    omega
theorem sumAll_take {h : Int} {l : List (List Int)} (c : checkP h l = 0) (j : Nat) : sumAll 0 (l.take j) = sums (l.take j) := by
  have hp := (checkP_plugs c).1
  have hl := (checkP_ok c).2.2.2.1
  have hpt : Plugs ((rd_L1 l 0).length : Int) (l.take j) := ⟨fun x hx => hp.ok x (List.mem_of_mem_take hx)⟩
  have : ((l.take j).length : Int) ≤ 256 := by rw [List.length_take]; omega
  rw [sumAll_eq _ hpt 0 (by omega) (by omega)]
  omega
theorem PipeAges : papermilllaw19_PipeAges.Pure := by
  intro h l a _ hl _ _ ha
  apply Tells.get
  obtain ⟨b, hb, hb2⟩ := great_tells h l hl
  have hT : Tells (fun k => papermilllaw19_PipeAges.j0 k a true h l) true := by
    refine Tells.up (g := fun k => (papermilllaw19_awake.f k).bind fun t => some t) (Tells.bind awake_tells (Tells.const true)) (fun k => ?_)
    rw [papermilllaw19_PipeAges.j0]
    rw [if_pos rfl]
  refine Tells.congr (g := fun k => (papermilllaw19_great.f k h l).bind fun b => if b = true then papermilllaw19_PipeAges.j0 k a true h l else ((pipe_Check.f k h l).bind fun t => if t = 0 then papermilllaw19_PipeAges.j0 k a ((l.length : Int) == 0) h l else papermilllaw19_PipeAges.j0 k a true h l)) ?_ (fun k => by unfold papermilllaw19_PipeAges.f; rfl)
  refine Tells.bind hb ?_
  by_cases c0 : b = true
  · exact Tells.pos c0 hT
  refine Tells.neg c0 ?_
  obtain ⟨hlen, hrow⟩ := hb2 (eq_false_of_ne_true c0)
  refine Tells.bind (checkP_tells h l hlen hrow) ?_
  by_cases c : checkP h l = 0
  · refine Tells.pos c ?_
    obtain ⟨h0, h1, l0, l1, he, hs⟩ := checkP_ok c
    obtain ⟨hp, hsum⟩ := checkP_plugs c
    have hn8 := rows_len c 0 l0
    have hn1 := plen (hp.ok _ (rdL_mem l 0 l0)).1
    have hwa : 0 ≤ a ∧ a ≤ 255 := by
      have h' : (decide (0 ≤ a) && decide (a ≤ 255)) = true := ha
      simp only [Bool.and_eq_true, decide_eq_true_eq] at h'
      exact h'
    have hz : ((l.length : Int) == 0) = false := beq_eq_false_iff_ne.2 (by omega)
    rw [hz]
    have hk : Int.tmod (wrap64 a) (l.length : Int) = a % (l.length : Int) := by
      rw [wrap64_id (by omega) (by omega), Int.tmod_eq_emod_of_nonneg hwa.1]
    have hk0 : 0 ≤ a % (l.length : Int) := Int.emod_nonneg _ (by omega)
    have hk1 : a % (l.length : Int) < (l.length : Int) := Int.emod_lt_of_pos _ (by omega)
    obtain ⟨q, hq⟩ : ∃ q : Nat, a % (l.length : Int) = (q : Int) := ⟨(a % (l.length : Int)).toNat, (Int.toNat_of_nonneg hk0).symm⟩
    rw [hq] at hk hk1
    have hsp : sums (l.take (q + 1)) + sums (l.drop (q + 1)) = h := by
      rw [← sums_append, List.take_append_drop]; exact hsum
    have hpt : Plugs ((rd_L1 l 0).length : Int) (l.take (q + 1)) := ⟨fun x hx => hp.ok x (List.mem_of_mem_take hx)⟩
    have hpd : Plugs ((rd_L1 l 0).length : Int) (l.drop (q + 1)) := ⟨fun x hx => hp.ok x (List.mem_of_mem_drop hx)⟩
    have hst := hpt.sums
    have hsd := hpd.sums
    have htl : ((l.take (q + 1)).length : Int) = q + 1 := by rw [List.length_take]; omega
    have hdl : ((l.drop (q + 1)).length : Int) = l.length - (q + 1) := by rw [List.length_drop]; omega
    have a1 : ageP h l (q : Int) = (sums (l.take (q + 1)), 0) := by
      unfold ageP
      rw [if_pos c, if_neg (by omega), show ((q : Int) + 1).toNat = q + 1 by omega, sumAll_take c]
    have a2 : ageP h l ((l.length : Int) - 1) = (h, 0) := by
      unfold ageP
      rw [if_pos c, if_neg (by omega), show ((l.length : Int) - 1 + 1).toNat = l.length by omega, List.take_length, hs]
    refine Tells.up (g := fun k => (pipe_Age.f k h l (q : Int)).bind fun x => (pipe_Age.f k h l ((l.length : Int) - 1)).bind fun y => if x.2 = 0 then (if y.2 = 0 then (if y.1 = h then (if x.1 < 1 then papermilllaw19_PipeAges.j1 k (q : Int) x.1 true h l else if x.1 > h then papermilllaw19_PipeAges.j1 k (q : Int) x.1 true h l else papermilllaw19_PipeAges.j1 k (q : Int) x.1 ((x.1 == y.1) != ((q : Int) == (l.length : Int) - 1)) h l) else papermilllaw19_PipeAges.j1 k (q : Int) x.1 true h l) else papermilllaw19_PipeAges.j1 k (q : Int) x.1 true h l) else papermilllaw19_PipeAges.j1 k (q : Int) x.1 true h l) ?_ (fun k => by
      rw [papermilllaw19_PipeAges.j0]
      rw [if_neg (by simp), if_neg (by omega), hk, wrap64_id (n := (l.length : Int) - 1) (by omega) (by omega)])
    refine Tells.bind (age_tells h l _ hlen hrow) (Tells.bind (age_tells h l _ hlen hrow) ?_)
    rw [a1, a2]
    refine Tells.pos rfl (Tells.pos rfl (Tells.pos rfl (Tells.neg (by show ¬ sums (l.take (q + 1)) < 1; omega) (Tells.neg (by show ¬ sums (l.take (q + 1)) > h; omega) ?_))))
    have hbe : ((sums (l.take (q + 1)) == h) != ((q : Int) == (l.length : Int) - 1)) = false := by
      by_cases e : (q : Int) = (l.length : Int) - 1
      · have : sums (l.drop (q + 1)) = 0 := by
          rw [List.drop_of_length_le (by omega)]; rfl
        have e2 : sums (l.take (q + 1)) = h := by omega
        simp [e, e2]
      · have e2 : sums (l.take (q + 1)) ≠ h := by omega
        rw [beq_eq_false_iff_ne.2 e2, beq_eq_false_iff_ne.2 e]
        rfl
    show Tells (fun k => papermilllaw19_PipeAges.j1 k (q : Int) (sums (l.take (q + 1))) ((sums (l.take (q + 1)) == h) != ((q : Int) == (l.length : Int) - 1)) h l) true
    rw [hbe]
    generalize hn : sums (l.take (q + 1)) = n at *
    -- the push
    have hrep : (List.replicate (rd_L1 l 0).length (0 : Int)).set (0 : Int).toNat n = n :: List.replicate ((rd_L1 l 0).length - 1) 0 := by
      obtain ⟨m, hm⟩ : ∃ m, (rd_L1 l 0).length = m + 1 := ⟨(rd_L1 l 0).length - 1, by omega⟩
      rw [hm, List.replicate_succ]
      rfl
    have hnl : (n :: List.replicate ((rd_L1 l 0).length - 1) (0 : Int)).length = (rd_L1 l 0).length := by simp; omega
    have hns : (n :: List.replicate ((rd_L1 l 0).length - 1) (0 : Int)).sum = n := by simp
    have hnp : partsS (n :: List.replicate ((rd_L1 l 0).length - 1) (0 : Int)) ((rd_L1 l 0).length : Int) = 0 := by
      unfold partsS
      have hin : inAll 1099511627776 (n :: List.replicate ((rd_L1 l 0).length - 1) (0 : Int)) = true := by
        rw [inAll_iff]
        intro x hx
        rcases List.mem_cons.1 hx with rfl | hx
        · omega
        · have := List.eq_of_mem_replicate hx; omega
      rw [hnl, if_pos (by omega), hin]
      rfl
    generalize hy : (n :: List.replicate ((rd_L1 l 0).length - 1) (0 : Int)) = y at *
    have hys : sumFrom 0 y = n := by rw [(sum_ok hnp).1, hns]
    have hpush : pushP h l y = (h, l.drop (q + 1) ++ [y], (l.take (q + 1)).foldl (fun o p => zipS 1 o p) (List.replicate (rd_L1 l 0).length 0), 0) := by
      unfold pushP
      rw [if_pos c, if_pos hnp, if_neg (show ¬ sumFrom 0 y > h by omega), hys, pushS_T]
      have e : l = l.take (q + 1) ++ l.drop (q + 1) := (List.take_append_drop _ _).symm
      have e1 : pushT n (List.replicate (rd_L1 l 0).length 0) [] l = (0, l.drop (q + 1), (l.take (q + 1)).foldl (fun o p => zipS 1 o p) (List.replicate (rd_L1 l 0).length 0)) := by
        conv => lhs; rw [e]
        rw [pushT_append, List.take_append_drop, pushT_all _ hpt n _ _ (by omega), hn, Int.sub_self]
        show pushT 0 _ _ (l.drop (q + 1)) = _
        rw [pushT_zero _ hpd]
        rfl
      rw [e1]
      unfold endS
      rw [hys]
      simp only [if_pos (show n > 0 by omega)]
      rw [if_neg (by rw [List.length_append, List.length_singleton]; omega)]
    have hpt' := push_tells h l y hlen hrow (by omega)
    rw [hpush] at hpt'
    have hfl : ((l.take (q + 1)).foldl (fun o p => zipS 1 o p) (List.replicate (rd_L1 l 0).length (0 : Int))).length = (rd_L1 l 0).length := by
      have : ∀ (m : List (List Int)) (o : List Int), (m.foldl (fun o p => zipS 1 o p) o).length = o.length := by
        intro m
        induction m with
        | nil => intro o; rfl
        | cons x m ih => intro o; rw [List.foldl_cons, ih, zipS_len]
      rw [this]; simp
    generalize hL : (l.take (q + 1)).foldl (fun o p => zipS 1 o p) (List.replicate (rd_L1 l 0).length (0 : Int)) = L at *
    refine Tells.up (g := fun k => (pipe_Push.f k h l y).bind fun r => if r.2.2.2 = 0 then (if (r.2.2.1.length : Int) = ((rd_L1 l 0).length : Int) then papermilllaw19_PipeAges.j2 k (q : Int) y r.2.2.1 ((r.2.1.length : Int) != (l.length : Int) - (q : Int)) h l else papermilllaw19_PipeAges.j2 k (q : Int) y r.2.2.1 true h l) else papermilllaw19_PipeAges.j2 k (q : Int) y r.2.2.1 true h l) ?_ (fun k => by
      rw [papermilllaw19_PipeAges.j1]
      rw [if_neg (by simp), if_pos (by omega), if_pos (by omega), if_pos (by omega), Int.toNat_natCast]
      simp only [Option.bind_some]
      rw [if_neg (show ¬ ((List.replicate (rd_L1 l 0).length (0 : Int)).length : Int) = 0 by rw [List.length_replicate]; omega), if_pos (show 0 < ((List.replicate (rd_L1 l 0).length (0 : Int)).length : Int) by rw [List.length_replicate]; omega), hrep, wrap64_id (n := (l.length : Int) - (q : Int)) (by omega) (by omega), List.length_replicate])
    refine Tells.bind hpt' (Tells.pos rfl (Tells.pos (by show (L.length : Int) = _; omega) ?_))
    have hb3 : (((l.drop (q + 1) ++ [y]).length : Int) != (l.length : Int) - (q : Int)) = false := by
      rw [List.length_append, List.length_singleton]
      simp
      omega
    show Tells (fun k => papermilllaw19_PipeAges.j2 k (q : Int) y L (((l.drop (q + 1) ++ [y]).length : Int) != (l.length : Int) - (q : Int)) h l) true
    rw [hb3]
    have lp : ∀ d i, i + d = y.length → Tells (fun k => papermilllaw19_PipeAges.l0 k (q : Int) y L (i : Int) h l) true := by
      intro d
      induction d with
      | zero =>
        intro i hi
        refine Tells.up (g := fun k => (papermilllaw19_awake.f k).bind fun t => some t) (Tells.bind awake_tells (Tells.const true)) (fun k => ?_)
        rw [papermilllaw19_PipeAges.l0]
        rw [if_neg (by omega)]
      | succ d ih =>
        intro i hi
        have hend : rd L (i : Int) = colS 0 i (l.take (q + 1)) := by
          rw [← hL, colS_fold i _ _ (by simp; omega), rd_replicate _ _ _ (by omega)]
        have l1 : ∀ e j s, j + e = q + 1 → colS s i ((l.take (q + 1)).drop j) = colS 0 i (l.take (q + 1)) → Tells (fun k => papermilllaw19_PipeAges.l1 k (q : Int) y L (i : Int) s (j : Int) h l) true := by
          intro e
          induction e with
          | zero =>
            intro j s hj hc
            rw [List.drop_of_length_le (by omega)] at hc
            have hc : s = colS 0 i (l.take (q + 1)) := hc
            refine Tells.up (ih (i + 1) (by omega)) (fun k => ?_)
            rw [papermilllaw19_PipeAges.l1]
            rw [if_neg (by omega), if_pos (by omega), if_pos (by omega), if_pos (by rw [hend, hc]), wrap64_id (n := (i : Int) + 1) (by omega) (by omega)]
            rfl
          | succ e ih2 =>
            intro j s hj hc
            have hr := rows_len c j (by omega)
            have hd : (l.take (q + 1)).drop j = rd_L1 l (j : Int) :: (l.take (q + 1)).drop (j + 1) := by
              have h := rdL_drop (l.take (q + 1)) j (by omega)
              have e2 : rd_L1 (l.take (q + 1)) (j : Int) = rd_L1 l (j : Int) := by
                show (l.take (q + 1)).getD (j : Int).toNat [] = l.getD (j : Int).toNat []
                rw [Int.toNat_natCast, List.getD_eq_getElem?_getD, List.getD_eq_getElem?_getD, List.getElem?_take, if_pos (by omega)]
              rw [e2] at h
              exact h
            rw [hd] at hc
            refine Tells.up (ih2 (j + 1) (wrap64 (s + rd (rd_L1 l (j : Int)) (i : Int))) (by omega) hc) (fun k => ?_)
            rw [papermilllaw19_PipeAges.l1]
            rw [if_pos (by omega), if_pos (by omega), if_pos (by omega), if_pos (by omega), if_pos (by omega), wrap64_id (n := (j : Int) + 1) (by omega) (by omega)]
            rfl
        refine Tells.up (l1 (q + 1) 0 0 (by omega) (by rw [List.drop_zero])) (fun k => ?_)
        rw [papermilllaw19_PipeAges.l0]
        rw [if_pos (by omega)]
        rfl
    refine Tells.up (lp y.length 0 (by omega)) (fun k => ?_)
    rw [papermilllaw19_PipeAges.j2]
    rw [if_neg (by simp)]
    rfl
  · exact Tells.neg c hT

end Go.Proofs.Ytpnfdhhfdidlmaa.Pure
