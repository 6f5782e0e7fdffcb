import Derived.Test.YtlnboodobmbcjaaPrint33
namespace Go.Proofs.Ytlnboodobmbcjaa.Pure
open Go.RowKit Go.Proofs.Ytlnboodobmbcjaa.Print Go.Proofs.YtlnboodobmbcjaaW.PrintWords Go.Proofs.YtlnboodobmbcjaaW.PrintLast
set_option linter.unusedVariables false
set_option linter.unusedSimpArgs false

-- TELLS: what a printed function tells from some number of rounds on (ours; Ytlnboodobmbcjaa: the seat's name). Pasted at the head of a Pure text.
/-- From some number of rounds on f tells r. -/
def Tells {α : Type} (f : Nat → Option α) (r : α) : Prop := ∃ K, ∀ k, K ≤ k → f k = some r
namespace Tells
theorem leO {α : Type} {f : Nat → Option α} (hm : ∀ k, LeO (f k) (f (k + 1))) {K : Nat} {r : α} (h : f K = some r) : ∀ k, K ≤ k → f k = some r := by
  intro k hk
  induction hk with
  | refl => exact h
  | step _ ih => exact hm _ _ ih
theorem of {α : Type} {f : Nat → Option α} (hm : ∀ k, LeO (f k) (f (k + 1))) {r : α} (h : ∃ K, f K = some r) : Tells f r := by
  obtain ⟨K, h⟩ := h
  exact ⟨K, leO hm h⟩
theorem get {α : Type} {f : Nat → Option α} {r : α} (h : Tells f r) : ∃ k, f k = some r := by
  obtain ⟨K, h⟩ := h
  exact ⟨K, h K (Nat.le_refl K)⟩
theorem const {α : Type} (r : α) : Tells (fun _ => some r) r := ⟨0, fun _ _ => rfl⟩
theorem bind {α β : Type} {f : Nat → Option α} {g : Nat → α → Option β} {r : α} {s : β} (h : Tells f r) (h' : Tells (fun k => g k r) s) : Tells (fun k => (f k).bind (g k)) s := by
  obtain ⟨K, h⟩ := h
  obtain ⟨K', h'⟩ := h'
  refine ⟨max K K', fun k hk => ?_⟩
  show (f k).bind (g k) = some s
  rw [h k (by omega)]
  exact h' k (by omega)
theorem congr {α : Type} {f g : Nat → Option α} {r : α} (h : Tells g r) (e : ∀ k, f k = g k) : Tells f r := by
  obtain ⟨K, h⟩ := h
  exact ⟨K, fun k hk => (e k).trans (h k hk)⟩
theorem up {α : Type} {f g : Nat → Option α} {r : α} (h : Tells g r) (e : ∀ k, f (k + 1) = g k) : Tells f r := by
  obtain ⟨K, h⟩ := h
  refine ⟨K + 1, fun k hk => ?_⟩
  obtain ⟨m, rfl⟩ : ∃ m, k = m + 1 := ⟨k - 1, by omega⟩
  exact (e m).trans (h m (by omega))
theorem ite {α : Type} {c : Prop} [Decidable c] {f g : Nat → Option α} {r s : α} (h : c → Tells f r) (h' : ¬ c → Tells g s) : Tells (fun k => if c then f k else g k) (if c then r else s) := by
  by_cases hc : c
  · simp only [if_pos hc]; exact h hc
  · simp only [if_neg hc]; exact h' hc
theorem pos {α : Type} {c : Prop} [Decidable c] {f g : Nat → Option α} {r : α} (hc : c) (h : Tells f r) : Tells (fun k => if c then f k else g k) r := by
  simp only [if_pos hc]; exact h
theorem neg {α : Type} {c : Prop} [Decidable c] {f g : Nat → Option α} {r : α} (hc : ¬ c) (h : Tells g r) : Tells (fun k => if c then f k else g k) r := by
  simp only [if_neg hc]; exact h
end Tells
theorem wrap64_id {n : Int} (h0 : -9223372036854775808 ≤ n) (h1 : n < 9223372036854775808) : wrap64 n = n := by
  unfold wrap64; omega
theorem wf64 {n : Int} (h : (Lit.int .i64 n).wf = true) : -9223372036854775808 ≤ n ∧ n < 9223372036854775808 := by
  have h' : (decide (-9223372036854775808 ≤ n) && decide (n ≤ 9223372036854775807)) = true := h
  simp only [Bool.and_eq_true, decide_eq_true_eq] at h'
  omega

-- LISTS: what the printed texts' lists come to (ours). Behind tells.lean.
theorem rd_drop (l : List Int) (i : Nat) (h : i < l.length) : l.drop i = rd l (i : Int) :: l.drop (i + 1) := by
  rw [List.drop_eq_getElem_cons h]
  congr 1
  show l[i] = l.getD (i : Int).toNat 0
  simp [h]
theorem rd_at (l : List Int) (i : Nat) (h : i < l.length) : rd l (i : Int) = l[i] := by
  show l.getD (i : Int).toNat 0 = _
  simp [h]
theorem rd_mid (A : List Int) (x : Int) (B : List Int) : rd (A ++ x :: B) (A.length : Int) = x := by
  show (A ++ x :: B).getD (A.length : Int).toNat 0 = x
  simp
theorem rd_mid' {l A : List Int} {x : Int} {B : List Int} {i : Int} (h : l = A ++ x :: B) (hi : i = (A.length : Int)) : rd l i = x := by
  subst h hi; exact rd_mid A x B
theorem set_mid (A : List Int) (x v : Int) (B : List Int) : (A ++ x :: B).set ((A.length : Int)).toNat v = A ++ v :: B := by simp
theorem set_mid' {l A : List Int} {x v : Int} {B : List Int} {i : Int} (h : l = A ++ x :: B) (hi : i = (A.length : Int)) : l.set i.toNat v = A ++ v :: B := by
  subst h hi; exact set_mid A x v B
theorem rd_mem (l : List Int) (i : Int) (h0 : 0 ≤ i) (h : i < (l.length : Int)) : rd l i ∈ l := by
  obtain ⟨j, rfl⟩ : ∃ j : Nat, i = (j : Int) := ⟨i.toNat, by omega⟩
  rw [rd_at l j (by omega)]
  exact List.getElem_mem _
theorem ext_rd {a b : List Int} (hl : a.length = b.length) (h : ∀ i : Nat, i < a.length → rd a (i : Int) = rd b (i : Int)) : a = b := by
  apply List.ext_getElem hl
  intro i h1 h2
  have := h i h1
  rwa [rd_at a i h1, rd_at b i h2] at this
theorem rd_map (f : Int → Int) (l : List Int) (i : Nat) (h : i < l.length) : rd (l.map f) (i : Int) = f (rd l (i : Int)) := by
  rw [rd_at _ i (by simpa using h), rd_at l i h]
  simp
theorem rd_set (l : List Int) (i j : Nat) (v : Int) (h : j < l.length) : rd (l.set i v) (j : Int) = if i = j then v else rd l (j : Int) := by
  rw [rd_at _ j (by simpa using h), rd_at l j h, List.getElem_set]
theorem rd_replicate (n i : Nat) (v : Int) (h : i < n) : rd (List.replicate n v) (i : Int) = v := by
  rw [rd_at _ i (by simpa using h)]
  simp
/-- The sum, as the program adds it up. -/
def sumFrom (s : Int) : List Int → Int
  | [] => s
  | x :: l => sumFrom (wrap64 (s + x)) l
/-- All from 0 to most. -/
def inAll (most : Int) (l : List Int) : Bool := l.all fun x => decide (0 ≤ x) && decide (x ≤ most)
theorem inAll_iff {m : Int} {l : List Int} : inAll m l = true ↔ ∀ x ∈ l, 0 ≤ x ∧ x ≤ m := by
  unfold inAll
  simp [List.all_eq_true, Bool.and_eq_true, decide_eq_true_eq]
theorem inAll_cons {m x : Int} {l : List Int} : inAll m (x :: l) = ((decide (0 ≤ x) && decide (x ≤ m)) && inAll m l) := rfl
theorem sum_bounds {m : Int} {l : List Int} (h : inAll m l = true) : 0 ≤ l.sum ∧ l.sum ≤ m * l.length := by
  induction l with
  | nil => simp
  | cons x l ih =>
    rw [inAll_cons, Bool.and_eq_true, Bool.and_eq_true, decide_eq_true_eq, decide_eq_true_eq] at h
    have := ih h.2
    rw [List.sum_cons, List.length_cons]
    have e : m * ((l.length + 1 : Nat) : Int) = m * l.length + m := by rw [Int.natCast_add, Int.mul_add]; simp
    omega
theorem sum_mem_le {m : Int} {l : List Int} (h : inAll m l = true) : ∀ x ∈ l, x ≤ l.sum := by
  induction l with
  | nil => simp
  | cons y l ih =>
    have h' := h
    rw [inAll_cons, Bool.and_eq_true, Bool.and_eq_true, decide_eq_true_eq, decide_eq_true_eq] at h'
    have hb := sum_bounds h'.2
    intro x hx
    rw [List.sum_cons]
    rcases List.mem_cons.1 hx with rfl | hx
    · omega
    · have := ih h'.2 x hx; omega
theorem sumFrom_eq {m : Int} (l : List Int) (h : inAll m l = true) : ∀ s, 0 ≤ s → 0 ≤ m → s + m * l.length < 9223372036854775808 → sumFrom s l = s + l.sum := by
  induction l with
  | nil => intro s _ _ _; simp [sumFrom]
  | cons x l ih =>
    intro s h0 hm h1
    rw [inAll_cons, Bool.and_eq_true, Bool.and_eq_true, decide_eq_true_eq, decide_eq_true_eq] at h
    have e : m * ((l.length + 1 : Nat) : Int) = m * l.length + m := by rw [Int.natCast_add, Int.mul_add]; simp
    rw [List.length_cons, e] at h1
    have hp : 0 ≤ m * (l.length : Int) := Int.mul_nonneg hm (by omega)
    show sumFrom (wrap64 (s + x)) l = _
    rw [wrap64_id (by omega) (by omega), ih h.2 (s + x) (by omega) hm (by omega), List.sum_cons]
    omega
/-- 0, 1, .., n - 1 -/
def idx (n : Nat) : List Int := (List.range n).map (fun i : Nat => (i : Int))
theorem idx_len (n : Nat) : (idx n).length = n := by simp [idx]
theorem idx_succ (n : Nat) : idx (n + 1) = idx n ++ [(n : Int)] := by simp [idx, List.range_succ]
theorem mem_idx {n : Nat} {i : Int} : i ∈ idx n ↔ 0 ≤ i ∧ i < (n : Int) := by
  unfold idx
  rw [List.mem_map]
  constructor
  · rintro ⟨j, hj, rfl⟩
    have := List.mem_range.1 hj
    omega
  · rintro ⟨h0, h1⟩
    exact ⟨i.toNat, List.mem_range.2 (by omega), by omega⟩
theorem rd_idx (n i : Nat) (h : i < n) : rd (idx n) (i : Int) = i := by
  rw [rd_at _ i (by rw [idx_len]; exact h)]
  simp [idx]
theorem idx_nodup (n : Nat) : (idx n).Nodup := by
  induction n with
  | zero => simp [idx]
  | succ n ih =>
    rw [idx_succ, List.nodup_append]
    refine ⟨ih, by simp, ?_⟩
    intro a ha b hb
    rw [List.mem_singleton] at hb
    have := mem_idx.1 ha
    omega
theorem map_idx (l : List Int) : (idx l.length).map (rd l) = l := by
  apply ext_rd (by simp [idx_len])
  intro i hi
  have hi' : i < l.length := by simpa [idx_len] using hi
  rw [rd_map _ _ i (by rw [idx_len]; exact hi'), rd_idx _ _ hi']

-- SHARE: what share.check, share.quotient and share.Split compute (ours). Behind lists.lean.
theorem index_tells (l : List Int) (hl : l.length ≤ 1000000) : Tells (fun k => slices_ContainsFunc_int_int__share_check_1.f k l) (!(inAll 1125899906842624 l)) := by
  have lp : ∀ n i k, n < k → i + n = l.length → ∃ r, slices_IndexFunc_int_int__share_check_1.l0 k l (l.length : Int) (i : Int) = some r ∧ decide (r ≥ 0) = !(inAll 1125899906842624 (l.drop i)) := by
    intro n
    induction n with
    | zero =>
      intro i k hk hi
      obtain ⟨m, rfl⟩ : ∃ m, k = m + 1 := ⟨k - 1, by omega⟩
      refine ⟨-1, ?_, ?_⟩
      · unfold slices_IndexFunc_int_int__share_check_1.l0
        rw [if_neg (by omega)]
      · rw [List.drop_of_length_le (by omega)]; rfl
    | succ n ih =>
      intro i k hk hi
      obtain ⟨m, rfl⟩ : ∃ m, k = m + 1 := ⟨k - 1, by omega⟩
      have e : share_check_1.f (rd l (i : Int)) = some (!(decide (0 ≤ rd l (i : Int)) && decide (rd l (i : Int) ≤ 1125899906842624))) := by
        unfold share_check_1.f
        by_cases h : rd l (i : Int) < 0
        · rw [if_pos h, decide_eq_false (p := 0 ≤ rd l (i : Int)) (by omega)]; rfl
        · rw [if_neg h, decide_eq_true (p := 0 ≤ rd l (i : Int)) (by omega)]
          by_cases h2 : rd l (i : Int) ≤ 1125899906842624
          · rw [decide_eq_true h2, decide_eq_false (by omega)]; rfl
          · rw [decide_eq_false h2, decide_eq_true (by omega)]; rfl
      rw [rd_drop l i (by omega), inAll_cons]
      by_cases h : (decide (0 ≤ rd l (i : Int)) && decide (rd l (i : Int) ≤ 1125899906842624)) = true
      · obtain ⟨r, hr, hd⟩ := ih (i + 1) m (by omega) (by omega)
        refine ⟨r, ?_, ?_⟩
        · unfold slices_IndexFunc_int_int__share_check_1.l0
          rw [if_pos (by omega), if_pos (by omega), if_pos (by omega), e, h, wrap64_id (n := (i : Int) + 1) (by omega) (by omega)]
          exact hr
        · rw [h, Bool.true_and]; exact hd
      · refine ⟨i, ?_, ?_⟩
        · unfold slices_IndexFunc_int_int__share_check_1.l0
          rw [if_pos (by omega), if_pos (by omega), if_pos (by omega), e, eq_false_of_ne_true h]
          rfl
        · rw [eq_false_of_ne_true h, decide_eq_true (by omega)]; rfl
  obtain ⟨r, hr, hd⟩ := lp l.length 0 (l.length + 1) (by omega) (by omega)
  have hf : Tells (fun k => slices_IndexFunc_int_int__share_check_1.f k l) r := Tells.of (fun k => by apply slices_IndexFunc_int_int__share_check_1.mono) ⟨l.length + 1, hr⟩
  refine Tells.congr (g := fun k => (slices_IndexFunc_int_int__share_check_1.f k l).bind fun t => some (decide (t ≥ 0))) ?_ (fun k => by unfold slices_ContainsFunc_int_int__share_check_1.f; rfl)
  refine Tells.bind hf ?_
  rw [hd, List.drop_zero]
  exact Tells.const _
theorem in_tells (l : List Int) (hl : l.length ≤ 1000000) : Tells (fun k => num_in.f k l) (l.all num_MulDiv.inB) :=
  Tells.of (fun k => by apply num_in.mono) ⟨l.length + 1, num_MulDiv.in_f l (by omega)⟩
theorem inB_of {x : Int} (h0 : -1125899906842624 ≤ x) (h1 : x ≤ 1125899906842624) : num_MulDiv.inB x = true := by
  unfold num_MulDiv.inB
  rw [decide_eq_true h0, decide_eq_true h1]; rfl
theorem result_tells (x : Int) : Tells (fun k => num_result.f k x) (if num_MulDiv.inB x = true then (x, 0) else (0, 2)) := by
  refine Tells.congr (g := fun k => (num_in.f k [x]).bind fun t => if t = true then some (x, 0) else some (0, 2)) ?_ (fun k => by unfold num_result.f; rfl)
  refine Tells.bind (in_tells [x] (by simp)) ?_
  have e : [x].all num_MulDiv.inB = num_MulDiv.inB x := by simp
  rw [e]
  exact Tells.ite (fun _ => Tells.const _) (fun _ => Tells.const _)
theorem Sum_tells (l : List Int) (h : inAll 1125899906842624 l = true) (hl : l.length ≤ 65536) : Tells (fun k => num_Sum.f k l) (if l.sum > 1125899906842624 then (0, 2) else (l.sum, 0)) := by
  have hm := inAll_iff.1 h
  have lp : ∀ n i x4 x5, i + n = l.length → 0 ≤ x4 → x4 ≤ (i : Int) * 33554432 → 0 ≤ x5 → x5 ≤ (i : Int) * 33554432 → x4 * 33554432 + x5 + (l.drop i).sum = l.sum → Tells (fun k => num_Sum.l0 k x4 x5 l (l.length : Int) (i : Int)) (if l.sum > 1125899906842624 then (0, 2) else (l.sum, 0)) := by
    intro n
    induction n with
    | zero =>
      intro i x4 x5 hi h40 h41 h50 h51 hs
      rw [List.drop_of_length_le (by omega), List.sum_nil, Int.add_zero] at hs
      have d1 : Int.tdiv x5 33554432 = x5 / 33554432 := Int.tdiv_eq_ediv_of_nonneg h50
      have d2 : Int.tmod x5 33554432 = x5 % 33554432 := Int.tmod_eq_emod_of_nonneg h50
      refine Tells.up (g := fun k => if x4 + x5 / 33554432 > 33554433 then some (0, 2) else if x4 + x5 / 33554432 < -33554433 then some (0, 2) else (num_result.f k (wrap64 (wrap64 ((x4 + x5 / 33554432) * 33554432) + x5 % 33554432))).bind fun b => some (b.1, b.2)) ?_ (fun k => by
        rw [num_Sum.l0]
        rw [if_neg (by omega), d1, d2, wrap64_id (n := x5 / 33554432) (by omega) (by omega), wrap64_id (n := x4 + x5 / 33554432) (by omega) (by omega)])
      by_cases c1 : x4 + x5 / 33554432 > 33554433
      · rw [if_pos (by omega)]
        exact Tells.pos c1 (Tells.const _)
      · refine Tells.neg c1 (Tells.neg (by omega) ?_)
        rw [wrap64_id (n := (x4 + x5 / 33554432) * 33554432) (by omega) (by omega), wrap64_id (by omega) (by omega)]
        have e : (x4 + x5 / 33554432) * 33554432 + x5 % 33554432 = l.sum := by omega
        rw [e]
        refine Tells.bind (result_tells _) ?_
        have e2 : (if num_MulDiv.inB l.sum = true then (l.sum, (0 : Int)) else (0, 2)) = if l.sum > 1125899906842624 then (0, 2) else (l.sum, 0) := by
          by_cases c2 : l.sum > 1125899906842624
          · rw [if_pos c2, if_neg]
            unfold num_MulDiv.inB
            rw [decide_eq_false (p := l.sum ≤ 1125899906842624) (by omega), Bool.and_false]
            simp
          · rw [if_neg c2, if_pos (inB_of (by omega) (by omega))]
        rw [e2]
        exact Tells.const _
    | succ n ih =>
      intro i x4 x5 hi h40 h41 h50 h51 hs
      have hx := hm _ (rd_mem l (i : Int) (by omega) (by omega))
      rw [rd_drop l i (by omega), List.sum_cons] at hs
      generalize hx' : rd l (i : Int) = x at hx hs
      have d1 : Int.tdiv x 33554432 = x / 33554432 := Int.tdiv_eq_ediv_of_nonneg hx.1
      have d2 : Int.tmod x 33554432 = x % 33554432 := Int.tmod_eq_emod_of_nonneg hx.1
      refine Tells.up (g := fun k => num_Sum.l0 k (x4 + x / 33554432) (x5 + x % 33554432) l (l.length : Int) ((i + 1 : Nat) : Int)) ?_ (fun k => by
        rw [num_Sum.l0]
        rw [if_pos (by omega), if_pos (by omega), if_pos (by omega), hx', d1, d2, wrap64_id (n := x / 33554432) (by omega) (by omega), wrap64_id (n := x4 + x / 33554432) (by omega) (by omega), wrap64_id (n := x5 + x % 33554432) (by omega) (by omega), wrap64_id (n := (i : Int) + 1) (by omega) (by omega)]
        rfl)
      exact ih (i + 1) _ _ (by omega) (by omega) (by omega) (by omega) (by omega) (by omega)
  refine Tells.congr (g := fun k => (num_in.f k l).bind fun t => if t = true then num_Sum.l0 k 0 0 l (l.length : Int) ((0 : Nat) : Int) else some (0, 1)) ?_ (fun k => by
    unfold num_Sum.f
    rw [if_neg (by omega)]; rfl)
  refine Tells.bind (in_tells l (by omega)) ?_
  have ha : l.all num_MulDiv.inB = true := by
    rw [List.all_eq_true]
    intro x hx
    have := hm x hx
    exact inB_of (by omega) (by omega)
  refine Tells.pos ha ?_
  exact lp l.length 0 0 0 (by omega) (by omega) (by omega) (by omega) (by omega) (by simp)
/-- The sum of the weights, or the error. -/
def shCheckS (t : Int) (l : List Int) : Int × Int :=
  if t < 0 ∨ t > 1125899906842624 then (0, 1) else if (l.length : Int) = 0 then (0, 10) else if (l.length : Int) > 512 then (0, 8) else if inAll 1125899906842624 l = true then (if l.sum > 1125899906842624 then (0, 2) else if l.sum = 0 then (if t > 0 then (0, 16) else (l.sum, 0)) else (l.sum, 0)) else (0, 1)
theorem shCheck_tells (t : Int) (l : List Int) (hl : l.length ≤ 1000000) : Tells (fun k => share_check.f k t l) (shCheckS t l) := by
  refine Tells.congr (g := fun k => share_check.j0 k t l (decide (t < 0 ∨ t > 1125899906842624))) ?_ (fun k => by
    unfold share_check.f
    by_cases h : t < 0
    · rw [if_pos h, decide_eq_true (p := t < 0 ∨ t > 1125899906842624) (Or.inl h)]
    · rw [if_neg h]; congr 1; simp [h])
  refine Tells.up (g := fun k => if decide (t < 0 ∨ t > 1125899906842624) = true then some (0, 1) else if (l.length : Int) = 0 then some (0, 10) else if (l.length : Int) > 512 then some (0, 8) else (slices_ContainsFunc_int_int__share_check_1.f k l).bind fun b => if b = true then some (0, 1) else (num_Sum.f k l).bind fun s => if s.2 = 0 then (if s.1 = 0 then (if t > 0 then some (0, 16) else some (s.1, 0)) else some (s.1, 0)) else some (0, 2)) ?_ (fun k => by rw [share_check.j0])
  unfold shCheckS
  by_cases h1 : t < 0 ∨ t > 1125899906842624
  · rw [if_pos h1]; exact Tells.pos (decide_eq_true h1) (Tells.const _)
  rw [if_neg h1]
  refine Tells.neg (by simpa using h1) ?_
  refine Tells.ite (fun _ => Tells.const _) (fun h2 => ?_)
  refine Tells.ite (fun _ => Tells.const _) (fun h3 => ?_)
  refine Tells.bind (index_tells l hl) ?_
  by_cases h4 : inAll 1125899906842624 l = true
  · rw [if_pos h4]
    refine Tells.neg (by rw [h4]; simp) ?_
    refine Tells.bind (Sum_tells l h4 (by omega)) ?_
    by_cases h5 : l.sum > 1125899906842624
    · rw [if_pos h5, if_pos h5]
      exact Tells.neg (by decide) (Tells.const _)
    · rw [if_neg h5, if_neg h5]
      refine Tells.pos rfl ?_
      refine Tells.ite (fun _ => ?_) (fun _ => Tells.const _)
      exact Tells.ite (fun _ => Tells.const _) (fun _ => Tells.const _)
  · rw [if_neg h4]
    exact Tells.pos (by rw [eq_false_of_ne_true h4]; rfl) (Tells.const _)
theorem shCheck_ok {t : Int} {l : List Int} (h : (shCheckS t l).2 = 0) : 0 ≤ t ∧ t ≤ 1125899906842624 ∧ 0 < l.length ∧ l.length ≤ 512 ∧ inAll 1125899906842624 l = true ∧ l.sum ≤ 1125899906842624 ∧ (l.sum = 0 → t = 0) ∧ (shCheckS t l).1 = l.sum := by
  unfold shCheckS at h ⊢
  split at h
  · simp at h
  split at h
  · simp at h
  split at h
  · simp at h
  split at h
  · rename_i h1 h2 h3 h4
    split at h
    · simp at h
    split at h
    · split at h
      · simp at h
      · rename_i h5 h6 h7
        refine ⟨by omega, by omega, by omega, by omega, h4, by omega, fun _ => by omega, ?_⟩
        rw [if_neg h1, if_neg h2, if_neg h3, if_pos h4, if_neg h5, if_pos h6, if_neg h7]
    · rename_i h5 h6
      refine ⟨by omega, by omega, by omega, by omega, h4, by omega, fun h0 => absurd h0 h6, ?_⟩
      rw [if_neg h1, if_neg h2, if_neg h3, if_pos h4, if_neg h5, if_neg h6]
  · simp at h
theorem wrap64_mod (n : Int) : ∃ q, wrap64 n = n + q * 18446744073709551616 := by
  refine ⟨-((n + 9223372036854775808) / 18446744073709551616), ?_⟩
  unfold wrap64; omega
theorem quotient_val (t w s : Int) (ht0 : 0 ≤ t) (ht : t ≤ 1125899906842624) (hw0 : 0 ≤ w) (hws : w ≤ s) (hs : s ≤ 1125899906842624) : share_quotient.f t w s = some (t * w / s, t * w % s) := by
  unfold share_quotient.f
  by_cases h : s = 0
  · have hw : w = 0 := by omega
    rw [if_pos h, h, hw]; simp
  rw [if_neg h]
  have hs1 : 0 < s := by omega
  have hX0 : 0 ≤ t * w := Int.mul_nonneg ht0 hw0
  have hq0 : 0 ≤ t * w / s := Int.ediv_nonneg hX0 (by omega)
  have hq1 : t * w / s ≤ t := by
    have h1 : t * w ≤ t * s := Int.mul_le_mul_of_nonneg_left hws ht0
    have h2 := Int.ediv_le_ediv hs1 h1
    rwa [Int.mul_ediv_cancel _ h] at h2
  have hr0 : 0 ≤ t * w % s := Int.emod_nonneg _ h
  have hr1 : t * w % s < s := Int.emod_lt_of_pos _ hs1
  have hv : num_MulDiv.f t w s 0 = some (t * w / s, 0) := by
    unfold num_MulDiv.f
    rw [inB_of (x := t) (by omega) (by omega), inB_of (x := w) (by omega) (by omega), inB_of (x := s) (by omega) (by omega)]
    rw [if_pos (by rfl), if_neg h, if_neg (by omega), if_neg (by omega)]
    unfold num_MulDiv.val num_MulDiv.ab
    rw [if_neg (show ¬ t < 0 by omega), if_neg (show ¬ w < 0 by omega), if_neg (show ¬ s < 0 by omega), decide_eq_false (show ¬ t < 0 by omega), decide_eq_false (show ¬ w < 0 by omega), decide_eq_false (show ¬ s < 0 by omega)]
    unfold num_MulDiv.grows num_MulDiv.fin
    simp
    omega
  rw [hv]
  simp only [Option.bind_some]
  congr 2
  obtain ⟨a, ha⟩ := wrap64_mod (t * w)
  obtain ⟨b, hb⟩ := wrap64_mod (t * w / s * s)
  have hd : t * w / s * s + t * w % s = t * w := by rw [Int.mul_comm]; exact Int.mul_ediv_add_emod _ _
  unfold wrap64 at ha hb ⊢
  omega

-- SORT: the order of the largest remainders (ours). Behind share.lean.
/-- x goes from the right past the smaller ones (the list is turned round). -/
def insR (R : List Int) (x : Int) : List Int → List Int
  | [] => [x]
  | y :: l => if rd R x > rd R y then y :: insR R x l else x :: y :: l
def ltR (R : List Int) (u v : Int) : Prop := rd R u > rd R v ∨ (rd R u = rd R v ∧ u < v)
theorem insR_perm (R : List Int) (x : Int) (l : List Int) : (insR R x l).Perm (x :: l) := by
  induction l with
  | nil => exact List.Perm.refl _
  | cons y l ih =>
    unfold insR
    split
    · exact (List.Perm.cons y ih).trans (List.Perm.swap x y l)
    · exact List.Perm.refl _
theorem insR_sorted (R : List Int) (x : Int) (l : List Int) (h : l.Pairwise fun u v => ltR R v u) (hx : ∀ y ∈ l, y < x) : (insR R x l).Pairwise fun u v => ltR R v u := by
  induction l with
  | nil => simp [insR]
  | cons y l ih =>
    rw [List.pairwise_cons] at h
    unfold insR
    split
    · rename_i hc
      rw [List.pairwise_cons]
      refine ⟨?_, ih h.2 (fun z hz => hx z (List.mem_cons_of_mem _ hz))⟩
      intro z hz
      rcases List.mem_cons.1 ((insR_perm R x l).mem_iff.1 hz) with rfl | hz
      · exact Or.inl hc
      · exact h.1 z hz
    · rename_i hc
      rw [List.pairwise_cons, List.pairwise_cons]
      refine ⟨?_, h⟩
      intro z hz
      rcases List.mem_cons.1 hz with rfl | hz
      · have := hx z List.mem_cons_self
        unfold ltR; omega
      · have h1 := h.1 z hz
        have h2 := hx z (List.mem_cons_of_mem _ hz)
        unfold ltR at h1 ⊢; omega
/-- The insertion sort of some elements, turned round. -/
def insAll (R : List Int) : List Int → List Int → List Int
  | [], r => r
  | x :: l, r => insAll R l (insR R x r)
theorem insAll_append (R a b r : List Int) : insAll R (a ++ b) r = insAll R b (insAll R a r) := by
  induction a generalizing r with
  | nil => rfl
  | cons x a ih => exact ih _
theorem insAll_perm (R : List Int) (l : List Int) : ∀ r, (insAll R l r).Perm (l ++ r) := by
  induction l with
  | nil => intro r; exact List.Perm.refl _
  | cons x l ih =>
    intro r
    show (insAll R l (insR R x r)).Perm _
    refine (ih _).trans ?_
    refine (List.Perm.append_left l (insR_perm R x r)).trans ?_
    exact List.perm_middle
theorem insAll_sorted (R : List Int) (l : List Int) : ∀ r, r.Pairwise (fun u v => ltR R v u) → l.Pairwise (· < ·) → (∀ y ∈ r, ∀ x ∈ l, y < x) → (insAll R l r).Pairwise fun u v => ltR R v u := by
  induction l with
  | nil => intro r h _ _; exact h
  | cons x l ih =>
    intro r h hl hx
    rw [List.pairwise_cons] at hl
    show (insAll R l (insR R x r)).Pairwise _
    refine ih _ (insR_sorted R x r h (fun y hy => hx y hy x List.mem_cons_self)) hl.2 ?_
    intro y hy z hz
    rcases List.mem_cons.1 ((insR_perm R x r).mem_iff.1 hy) with rfl | hy
    · exact hl.1 z hz
    · exact hx y hy z (List.mem_cons_of_mem _ hz)
theorem idx_lt (n : Nat) : (idx n).Pairwise (· < ·) := by
  induction n with
  | zero => simp [idx]
  | succ n ih =>
    rw [idx_succ, List.pairwise_append]
    refine ⟨ih, by simp, ?_⟩
    intro a ha b hb
    rw [List.mem_singleton] at hb
    have := mem_idx.1 ha
    omega
/-- The indices by their remainders, the greatest first, of the same the first one first. -/
def ordS (R : List Int) (n : Nat) : List Int := (insAll R (idx n) []).reverse
theorem ordS_perm (R : List Int) (n : Nat) : (ordS R n).Perm (idx n) := by
  unfold ordS
  refine (List.reverse_perm _).trans ((insAll_perm R (idx n) []).trans ?_)
  rw [List.append_nil]
theorem ordS_sorted (R : List Int) (n : Nat) : (ordS R n).Pairwise (ltR R) := by
  unfold ordS
  rw [List.pairwise_reverse]
  exact insAll_sorted R (idx n) [] List.Pairwise.nil (idx_lt n) (by simp)
theorem ordS_len (R : List Int) (n : Nat) : (ordS R n).length = n := by rw [(ordS_perm R n).length_eq, idx_len]
theorem ordS_nodup (R : List Int) (n : Nat) : (ordS R n).Nodup := (ordS_perm R n).nodup_iff.2 (idx_nodup n)
theorem mem_ordS {R : List Int} {n : Nat} {i : Int} : i ∈ ordS R n ↔ 0 ≤ i ∧ i < (n : Int) := by rw [(ordS_perm R n).mem_iff, mem_idx]
theorem ordS_unique (R : List Int) (n : Nat) (l : List Int) (hp : l.Perm (idx n)) (hs : l.Pairwise (ltR R)) : l = ordS R n := by
  refine List.Perm.eq_of_pairwise (le := ltR R) ?_ hs (ordS_sorted R n) (hp.trans (ordS_perm R n).symm)
  intro a b _ _ h1 h2
  unfold ltR at h1 h2
  omega
-- the program's insertion sort
theorem ins_l1 (R : List Int) (pre post : List Int) (b x8 : Int) (out : List Int) (x : Int) (hx : 0 ≤ x ∧ x < (R.length : Int)) (hb : (pre.length : Int) + 1000000 < 9223372036854775808) (hR : ∀ y ∈ R, 0 ≤ y ∧ y ≤ 1125899906842624) : ∀ (r : List Int) (done : List Int), r.length ≤ 1000 → (∀ y ∈ r, 0 ≤ y ∧ y < (R.length : Int)) →
    Tells (fun k => slices_insertionSortCmpFunc_int__share_Split_1.l0 k (pre ++ (insR R x r).reverse ++ done ++ post) (pre.length : Int) b (wrap64 (x8 + 1)) [R]) out →
    Tells (fun k => slices_insertionSortCmpFunc_int__share_Split_1.l1 k (pre ++ r.reverse ++ x :: done ++ post) (pre.length : Int) b x8 ((pre.length : Int) + (r.length : Int)) [R]) out := by
  intro r
  induction r with
  | nil =>
    intro done _ _ h
    refine Tells.up h (fun k => ?_)
    rw [slices_insertionSortCmpFunc_int__share_Split_1.l1]
    rw [if_neg (by simp)]
    simp [insR]
  | cons y r ih =>
    intro done hr hm h
    have hy := hm y List.mem_cons_self
    have hx9 : wrap64 ((pre.length : Int) + ((y :: r).length : Int) - 1) = (pre.length : Int) + (r.length : Int) := by
      rw [List.length_cons]
      rw [wrap64_id (by omega) (by simp at hr; omega)]
      omega
    have e1 : rd (pre ++ (y :: r).reverse ++ x :: done ++ post) ((pre.length : Int) + ((y :: r).length : Int)) = x :=
      rd_mid' (A := pre ++ (y :: r).reverse) (B := done ++ post) (by simp) (by simp)
    have e2 : rd (pre ++ (y :: r).reverse ++ x :: done ++ post) ((pre.length : Int) + (r.length : Int)) = y :=
      rd_mid' (A := pre ++ r.reverse) (B := x :: done ++ post) (by simp) (by simp)
    have s1 : (pre ++ (y :: r).reverse ++ x :: done ++ post).set ((pre.length : Int) + ((y :: r).length : Int)).toNat y = pre ++ (y :: r).reverse ++ y :: (done ++ post) :=
      set_mid' (A := pre ++ (y :: r).reverse) (x := x) (B := done ++ post) (by simp) (by simp)
    have s2 : (pre ++ (y :: r).reverse ++ y :: (done ++ post)).set ((pre.length : Int) + (r.length : Int)).toNat x = pre ++ r.reverse ++ x :: (y :: (done ++ post)) :=
      set_mid' (A := pre ++ r.reverse) (x := y) (B := y :: (done ++ post)) (by simp) (by simp)
    have hlen : ((pre ++ (y :: r).reverse ++ x :: done ++ post).length : Int) = (pre.length : Int) + ((y :: r).length : Int) + 1 + (done.length : Int) + (post.length : Int) := by
      simp; omega
    have hl1 : (((y :: r).length : Nat) : Int) = (r.length : Int) + 1 := by simp
    have hc : share_Split_1.f x y [R] = some (wrap64 (rd R y - rd R x)) := by
      show (if 0 < (([R] : List (List Int)).length : Int) then (if 0 ≤ y then (if y < (R.length : Int) then (if 0 ≤ x then (if x < (R.length : Int) then some (wrap64 (rd R y - rd R x)) else none) else none) else none) else none) else none) = _
      rw [if_pos (by simp), if_pos (by omega), if_pos (by omega), if_pos (by omega), if_pos (by omega)]
    have hry := hR _ (rd_mem R y hy.1 hy.2)
    have hrx := hR _ (rd_mem R x hx.1 hx.2)
    rw [wrap64_id (by omega) (by omega)] at hc
    by_cases c : rd R x > rd R y
    · have e3 : insR R x (y :: r) = y :: insR R x r := by rw [insR]; rw [if_pos c]
      rw [e3] at h
      have := ih (y :: done) (by simp at hr; omega) (fun z hz => hm z (List.mem_cons_of_mem _ hz)) (by simpa using h)
      refine Tells.up this (fun k => ?_)
      rw [slices_insertionSortCmpFunc_int__share_Split_1.l1]
      rw [if_pos (by omega), if_pos (by omega), if_pos (by omega), hx9, if_pos (by omega), if_pos (by omega), e1, e2, hc]
      simp only [Option.bind_some]
      rw [if_pos (by omega), s1, s2]
      simp
    · have e3 : insR R x (y :: r) = x :: y :: r := by rw [insR]; rw [if_neg c]
      rw [e3] at h
      refine Tells.up h (fun k => ?_)
      rw [slices_insertionSortCmpFunc_int__share_Split_1.l1]
      rw [if_pos (by omega), if_pos (by omega), if_pos (by omega), hx9, if_pos (by omega), if_pos (by omega), e1, e2, hc]
      simp only [Option.bind_some]
      rw [if_neg (by omega)]
      simp
theorem ins_l0 (R : List Int) (pre post : List Int) (hb : (pre.length : Int) + 1000000 < 9223372036854775808) (hR : ∀ y ∈ R, 0 ≤ y ∧ y ≤ 1125899906842624) : ∀ (todo r : List Int), r.length + todo.length ≤ 1000 → (∀ y ∈ r, 0 ≤ y ∧ y < (R.length : Int)) → (∀ y ∈ todo, 0 ≤ y ∧ y < (R.length : Int)) →
    Tells (fun k => slices_insertionSortCmpFunc_int__share_Split_1.l0 k (pre ++ r.reverse ++ todo ++ post) (pre.length : Int) ((pre.length : Int) + (r.length : Int) + (todo.length : Int)) ((pre.length : Int) + (r.length : Int)) [R]) (pre ++ (insAll R todo r).reverse ++ post) := by
  intro todo
  induction todo with
  | nil =>
    intro r _ _ _
    refine Tells.up (Tells.const _) (fun k => ?_)
    rw [slices_insertionSortCmpFunc_int__share_Split_1.l0]
    rw [if_neg (by simp)]
    simp [insAll]
  | cons x todo ih =>
    intro r hl hr ht
    have hx := ht x List.mem_cons_self
    have hl1 : (((x :: todo).length : Nat) : Int) = (todo.length : Int) + 1 := by simp
    have hll : (x :: todo).length = todo.length + 1 := by simp
    have hp := insR_perm R x r
    have hpl : (insR R x r).length = r.length + 1 := by rw [hp.length_eq]; simp
    refine Tells.up (g := fun k => slices_insertionSortCmpFunc_int__share_Split_1.l1 k (pre ++ r.reverse ++ x :: todo ++ post) (pre.length : Int) ((pre.length : Int) + (r.length : Int) + ((x :: todo).length : Int)) ((pre.length : Int) + (r.length : Int)) ((pre.length : Int) + (r.length : Int)) [R]) ?_ (fun k => by
      rw [slices_insertionSortCmpFunc_int__share_Split_1.l0]
      rw [if_pos (by omega)])
    refine ins_l1 R pre post _ _ _ x hx hb hR r todo (by omega) hr ?_
    have := ih (insR R x r) (by omega) (fun y hy => by
      rcases List.mem_cons.1 (hp.mem_iff.1 hy) with rfl | hy
      · exact hx
      · exact hr y hy) (fun y hy => ht y (List.mem_cons_of_mem _ hy))
    rw [wrap64_id (by omega) (by omega)]
    have e1 : (pre.length : Int) + ((insR R x r).length : Int) + (todo.length : Int) = (pre.length : Int) + (r.length : Int) + ((x :: todo).length : Int) := by omega
    have e2 : (pre.length : Int) + ((insR R x r).length : Int) = (pre.length : Int) + (r.length : Int) + 1 := by omega
    rw [e1, e2] at this
    exact this
theorem ins_tells (R : List Int) (pre mid post : List Int) (hb : (pre.length : Int) + 1000000 < 9223372036854775808) (hR : ∀ y ∈ R, 0 ≤ y ∧ y ≤ 1125899906842624) (hl : mid.length ≤ 1000) (hm : ∀ y ∈ mid, 0 ≤ y ∧ y < (R.length : Int)) :
    Tells (fun k => slices_insertionSortCmpFunc_int__share_Split_1.f k (pre ++ mid ++ post) (pre.length : Int) ((pre.length : Int) + (mid.length : Int)) [R]) (pre ++ (insAll R mid []).reverse ++ post) := by
  refine Tells.congr (g := fun k => slices_insertionSortCmpFunc_int__share_Split_1.l0 k (pre ++ mid ++ post) (pre.length : Int) ((pre.length : Int) + (mid.length : Int)) ((pre.length : Int) + 1) [R]) ?_ (fun k => by
    unfold slices_insertionSortCmpFunc_int__share_Split_1.f
    rw [wrap64_id (by omega) (by omega)])
  cases mid with
  | nil =>
    refine Tells.up (Tells.const _) (fun k => ?_)
    rw [slices_insertionSortCmpFunc_int__share_Split_1.l0]
    rw [if_neg (by simp; omega)]
    simp [insAll]
  | cons x mid =>
    have hx := hm x List.mem_cons_self
    have := ins_l0 R pre post hb hR mid [x] (by simp at hl ⊢; omega) (by simpa using hx) (fun y hy => hm y (List.mem_cons_of_mem _ hy))
    have e : (pre.length : Int) + (([x] : List Int).length : Int) + (mid.length : Int) = (pre.length : Int) + ((x :: mid).length : Int) := by simp; omega
    rw [e] at this
    have e2 : pre ++ ([x] : List Int).reverse ++ mid ++ post = pre ++ x :: mid ++ post := by simp
    rw [e2] at this
    exact this
/-- At most 20: one insertion sort. -/
theorem sort20_tells (R : List Int) (n : Nat) (hn : n ≤ 20) (hRn : R.length = n) (hR : ∀ y ∈ R, 0 ≤ y ∧ y ≤ 1125899906842624) : Tells (fun k => slices_SortStableFunc_int_int__share_Split_1.f k (idx n) [R]) (ordS R n) := by
  refine Tells.congr (g := fun k => (slices_stableCmpFunc_int__share_Split_1.l0 k (idx n) ((idx n).length : Int) 20 0 20 [R]).bind fun t => some t) ?_ (fun k => by
    unfold slices_SortStableFunc_int_int__share_Split_1.f slices_stableCmpFunc_int__share_Split_1.f; rfl)
  rw [idx_len]
  have hend : Tells (fun k => slices_stableCmpFunc_int__share_Split_1.l1 k (ordS R n) (n : Int) 20 [R]) (ordS R n) := by
    refine Tells.up (Tells.const _) (fun k => ?_)
    rw [slices_stableCmpFunc_int__share_Split_1.l1]
    rw [if_neg (by omega)]
  have hins : Tells (fun k => slices_insertionSortCmpFunc_int__share_Split_1.f k (idx n) 0 (n : Int) [R]) (ordS R n) := by
    have := ins_tells R [] (idx n) [] (by simp) hR (by rw [idx_len]; omega) (fun y hy => by have := mem_idx.1 hy; rw [hRn]; exact this)
    simpa [idx_len, ordS] using this
  refine Tells.bind (r := ordS R n) ?_ (Tells.const _)
  by_cases h20 : n = 20
  · subst h20
    refine Tells.up (g := fun k => (slices_insertionSortCmpFunc_int__share_Split_1.f k (idx 20) 0 20 [R]).bind fun t => slices_stableCmpFunc_int__share_Split_1.l0 k t 20 20 20 40 [R]) ?_ (fun k => by
      rw [slices_stableCmpFunc_int__share_Split_1.l0]
      rw [if_pos (by omega), wrap64_id (n := 20 + 20) (by omega) (by omega)]
      rfl)
    refine Tells.bind hins ?_
    refine Tells.up (g := fun k => (slices_insertionSortCmpFunc_int__share_Split_1.f k (ordS R 20) 20 20 [R]).bind fun t => slices_stableCmpFunc_int__share_Split_1.l1 k t 20 20 [R]) ?_ (fun k => by
      rw [slices_stableCmpFunc_int__share_Split_1.l0]
      rw [if_neg (by omega)])
    refine Tells.bind (r := ordS R 20) ?_ hend
    refine Tells.congr (g := fun k => slices_insertionSortCmpFunc_int__share_Split_1.l0 k (ordS R 20) 20 20 21 [R]) ?_ (fun k => by
      unfold slices_insertionSortCmpFunc_int__share_Split_1.f; rw [wrap64_id (n := 20 + 1) (by omega) (by omega)]; rfl)
    refine Tells.up (Tells.const _) (fun k => ?_)
    rw [slices_insertionSortCmpFunc_int__share_Split_1.l0]
    rw [if_neg (by omega)]
  · refine Tells.up (g := fun k => (slices_insertionSortCmpFunc_int__share_Split_1.f k (idx n) 0 (n : Int) [R]).bind fun t => slices_stableCmpFunc_int__share_Split_1.l1 k t (n : Int) 20 [R]) ?_ (fun k => by
      rw [slices_stableCmpFunc_int__share_Split_1.l0]
      rw [if_neg (by omega)])
    exact Tells.bind hins hend

-- SPLIT: share.Split for at most 20 weights (ours). Behind sort.lean.
def remS (t s : Int) (l : List Int) : List Int := l.map fun w => t * w % s
def quoS (t s : Int) (l : List Int) : List Int := l.map fun w => t * w / s
/-- What the quotients leave. -/
def leftS (t s : Int) (l : List Int) : Int := t - (quoS t s l).sum
/-- The parts: rounded down, and one more for those of D. -/
def bumpS (t s : Int) (l D : List Int) : List Int := (idx l.length).map fun i => t * rd l i / s + if i ∈ D then 1 else 0
def partsSp (t s : Int) (l : List Int) : List Int := bumpS t s l ((ordS (remS t s l) l.length).take (leftS t s l).toNat)
def splitS (t : Int) (l : List Int) : List Int × Int := if (shCheckS t l).2 = 0 then (partsSp t l.sum l, 0) else ([], (shCheckS t l).2)
theorem bumpS_len (t s : Int) (l D : List Int) : (bumpS t s l D).length = l.length := by simp [bumpS, idx_len]
theorem rd_bumpS (t s : Int) (l D : List Int) (i : Nat) (h : i < l.length) : rd (bumpS t s l D) (i : Int) = t * rd l i / s + if (i : Int) ∈ D then 1 else 0 := by
  unfold bumpS
  rw [rd_map _ _ i (by rw [idx_len]; exact h), rd_idx _ _ h]
theorem bumpS_nil (t s : Int) (l : List Int) : bumpS t s l [] = quoS t s l := by
  apply ext_rd (by simp [bumpS_len, quoS])
  intro i hi
  rw [bumpS_len] at hi
  rw [rd_bumpS _ _ _ _ _ hi]
  unfold quoS
  rw [rd_map _ _ i hi]
  simp
theorem bumpS_step (t s : Int) (l D : List Int) (i : Nat) (h : i < l.length) (hD : (i : Int) ∉ D) : (bumpS t s l D).set i (rd (bumpS t s l D) (i : Int) + 1) = bumpS t s l (D ++ [(i : Int)]) := by
  apply ext_rd (by simp [bumpS_len])
  intro j hj
  have hj' : j < l.length := by simpa [bumpS_len] using hj
  rw [rd_set _ _ _ _ (by rw [bumpS_len]; exact hj'), rd_bumpS _ _ _ _ _ hj', rd_bumpS _ _ _ _ _ hj', rd_bumpS _ _ _ _ _ h]
  by_cases e : i = j
  · subst e
    simp [hD]
  · rw [if_neg e]
    have : ((j : Int) ∈ D ++ [(i : Int)]) ↔ (j : Int) ∈ D := by
      rw [List.mem_append, List.mem_singleton]
      constructor
      · rintro (h | h)
        · exact h
        · omega
      · exact Or.inl
    simp only [this]
-- facts of the quotients
theorem quo_le {t w s : Int} (ht0 : 0 ≤ t) (hw0 : 0 ≤ w) (hws : w ≤ s) : 0 ≤ t * w / s ∧ t * w / s ≤ t := by
  by_cases h : s = 0
  · rw [h, Int.ediv_zero]; omega
  have hX0 : 0 ≤ t * w := Int.mul_nonneg ht0 hw0
  refine ⟨Int.ediv_nonneg hX0 (by omega), ?_⟩
  have h1 : t * w ≤ t * s := Int.mul_le_mul_of_nonneg_left hws ht0
  have h2 := Int.ediv_le_ediv (show 0 < s by omega) h1
  rwa [Int.mul_ediv_cancel _ h] at h2
theorem sum_quo_rem (t s : Int) (l : List Int) : s * (quoS t s l).sum + (remS t s l).sum = t * l.sum := by
  induction l with
  | nil => simp [quoS, remS]
  | cons x l ih =>
    unfold quoS remS at ih ⊢
    rw [List.map_cons, List.map_cons, List.sum_cons, List.sum_cons, List.sum_cons, Int.mul_add, Int.mul_add, ← ih]
    have := Int.mul_ediv_add_emod (t * x) s
    omega
theorem rem_bounds {t s : Int} {l : List Int} (hs : 0 < s) : ∀ y ∈ remS t s l, 0 ≤ y ∧ y < s := by
  intro y hy
  unfold remS at hy
  obtain ⟨w, _, rfl⟩ := List.mem_map.1 hy
  exact ⟨Int.emod_nonneg _ (by omega), Int.emod_lt_of_pos _ hs⟩
theorem sum_le_mul {m : Int} {l : List Int} (h : ∀ y ∈ l, 0 ≤ y ∧ y ≤ m) : 0 ≤ l.sum ∧ l.sum ≤ m * l.length := sum_bounds (inAll_iff.2 h)
theorem sum_nonneg {l : List Int} (h : ∀ w ∈ l, 0 ≤ w) : 0 ≤ l.sum := by
  induction l with
  | nil => simp
  | cons x l ih =>
    have h1 := h x List.mem_cons_self
    have h2 := ih (fun w hw => h w (List.mem_cons_of_mem _ hw))
    rw [List.sum_cons]; omega
theorem quoS_zero (t s : Int) (l : List Int) (h : ∀ w ∈ l, t * w / s = 0) : quoS t s l = List.replicate l.length 0 := by
  unfold quoS
  rw [List.eq_replicate_iff]
  refine ⟨by simp, ?_⟩
  intro b hb
  obtain ⟨w, hw, rfl⟩ := List.mem_map.1 hb
  exact h w hw
theorem left_bounds {t : Int} {l : List Int} (hl0 : 0 < l.length) (ht0 : 0 ≤ t) (hl : ∀ w ∈ l, 0 ≤ w) (hz : l.sum = 0 → t = 0) : 0 ≤ leftS t l.sum l ∧ leftS t l.sum l ≤ l.length ∧ (0 < l.sum → leftS t l.sum l < l.length) := by
  unfold leftS
  by_cases h0 : l.sum = 0
  · have ht := hz h0
    have : (quoS t l.sum l).sum = 0 := by
      rw [ht]; unfold quoS
      have e : l.map (fun w => 0 * w / l.sum) = List.replicate l.length 0 := by
        rw [List.eq_replicate_iff]
        refine ⟨by simp, ?_⟩
        intro b hb
        obtain ⟨w, _, rfl⟩ := List.mem_map.1 hb
        simp
      rw [e]; simp
    rw [this, ht, h0]
    refine ⟨by omega, by omega, by omega⟩
  · have hs : 0 ≤ l.sum := sum_nonneg hl
    have hs : 0 < l.sum := by omega
    have hq := sum_quo_rem t l.sum l
    have hr := sum_le_mul (m := l.sum - 1) (l := remS t l.sum l) (fun y hy => by have := rem_bounds hs y hy; omega)
    have hrl : ((remS t l.sum l).length : Int) = l.length := by simp [remS]
    rw [hrl] at hr
    generalize hS : l.sum = s at *
    generalize (quoS t s l).sum = q at *
    generalize (remS t s l).sum = r at *
    generalize hn : (l.length : Int) = n at *
    have hn0 : 0 < n := by omega
    have e : s * (t - q) = r := by
      rw [Int.mul_sub, Int.mul_comm s t]; omega
    have h1 : 0 ≤ t - q := by
      by_cases h : 0 ≤ t - q
      · exact h
      · have := Int.mul_le_mul_of_nonneg_left (show t - q ≤ -1 by omega) (show 0 ≤ s by omega)
        omega
    have h2 : t - q < n := by
      by_cases h : t - q < n
      · exact h
      · have := Int.mul_le_mul_of_nonneg_left (show n ≤ t - q by omega) (show 0 ≤ s by omega)
        rw [e] at this
        have e2 : (s - 1) * n = s * n - n := by rw [Int.sub_mul]; omega
        omega
    exact ⟨h1, by omega, fun _ => h2⟩
theorem split_l1 (t s : Int) (l L : List Int) (ht0 : 0 ≤ t) (ht : t ≤ 1125899906842624) (hw : ∀ w ∈ l, 0 ≤ w ∧ w ≤ s) (hn : L.Nodup) (hm : ∀ i ∈ L, 0 ≤ i ∧ i < (l.length : Int)) (hl : l.length ≤ 1000000) (hLl : L.length ≤ 1000000) :
    ∀ todo D, D ++ todo = L → Tells (fun k => share_Split.l1 k (bumpS t s l D) L (L.length : Int) (D.length : Int)) (bumpS t s l L, 0) := by
  intro todo
  induction todo with
  | nil =>
    intro D hD
    rw [List.append_nil] at hD
    subst hD
    refine Tells.up (Tells.const _) (fun k => ?_)
    rw [share_Split.l1]
    rw [if_neg (by omega)]
  | cons x todo ih =>
    intro D hD
    have hlen : L.length = D.length + todo.length + 1 := by rw [← hD]; simp; omega
    have hx := hm x (by rw [← hD]; simp)
    have hxD : x ∉ D := by
      rw [← hD, List.nodup_append] at hn
      intro h
      exact hn.2.2 x h x List.mem_cons_self rfl
    obtain ⟨i, rfl⟩ : ∃ i : Nat, x = (i : Int) := ⟨x.toNat, by omega⟩
    have hi : i < l.length := by omega
    have e1 : rd L (D.length : Int) = (i : Int) := rd_mid' hD.symm rfl
    have hb : rd (bumpS t s l D) (i : Int) = t * rd l i / s := by rw [rd_bumpS _ _ _ _ _ hi, if_neg hxD, Int.add_zero]
    have hq := quo_le ht0 (hw _ (rd_mem l i (by omega) (by omega))).1 (hw _ (rd_mem l i (by omega) (by omega))).2
    refine Tells.up (g := fun k => share_Split.l1 k (bumpS t s l (D ++ [(i : Int)])) L (L.length : Int) ((D ++ [(i : Int)]).length : Int)) ?_ (fun k => by
      rw [share_Split.l1]
      rw [if_pos (by omega), if_pos (by omega), if_pos (by omega), e1, if_pos (by omega), if_pos (by rw [bumpS_len]; omega), wrap64_id (n := rd (bumpS t s l D) (i : Int) + 1) (by rw [hb]; omega) (by rw [hb]; omega), wrap64_id (by omega) (by omega)]
      rw [Int.toNat_natCast, bumpS_step t s l D i hi hxD]
      simp)
    exact ih (D ++ [(i : Int)]) (by rw [← hD]; simp)
theorem split_l0 (t s : Int) (l : List Int) (out : List Int × Int) (ht0 : 0 ≤ t) (ht : t ≤ 1125899906842624) (hs : s ≤ 1125899906842624) (hw : ∀ w ∈ l, 0 ≤ w ∧ w ≤ s) (hl : l.length ≤ 1000)
    (hend : Tells (fun k => share_Split.l0 k t s (quoS t s l) (idx l.length) (leftS t s l) l (l.length : Int) (l.length : Int) (remS t s l)) out) :
    ∀ r pre, pre ++ r = l → Tells (fun k => share_Split.l0 k t s (quoS t s pre ++ List.replicate r.length 0) (idx pre.length ++ List.replicate r.length 0) (t - (quoS t s pre).sum) l (l.length : Int) (pre.length : Int) (remS t s pre ++ List.replicate r.length 0)) out := by
  intro r
  induction r with
  | nil =>
    intro pre h
    rw [List.append_nil] at h
    subst h
    simpa [leftS] using hend
  | cons x r ih =>
    intro pre h
    have hlen : l.length = pre.length + r.length + 1 := by rw [← h]; simp; omega
    have hx := hw x (by rw [← h]; simp)
    have e1 : rd l (pre.length : Int) = x := rd_mid' h.symm rfl
    have hq := quo_le ht0 hx.1 hx.2
    have hqs := sum_le_mul (m := t) (l := quoS t s pre) (fun y hy => by
      unfold quoS at hy
      obtain ⟨w, hw', rfl⟩ := List.mem_map.1 hy
      have := hw w (by rw [← h]; exact List.mem_append_left _ hw')
      exact quo_le ht0 this.1 this.2)
    have hql : (quoS t s pre).length = pre.length := by simp [quoS]
    have hrl : (remS t s pre).length = pre.length := by simp [remS]
    have hil : (idx pre.length).length = pre.length := idx_len _
    rw [hql] at hqs
    have hmul : t * (pre.length : Int) ≤ 1125899906842624 * 1000 := by
      have a := Int.mul_le_mul_of_nonneg_right ht (show (0 : Int) ≤ (pre.length : Int) by omega)
      omega
    have sA : (quoS t s pre ++ List.replicate (x :: r).length 0).set (pre.length : Int).toNat (t * x / s) = quoS t s (pre ++ [x]) ++ List.replicate r.length 0 := by
      rw [set_mid' (A := quoS t s pre) (x := 0) (B := List.replicate r.length 0) (by rw [List.length_cons, List.replicate_succ]) (by rw [hql])]
      simp [quoS]
    have sB : (remS t s pre ++ List.replicate (x :: r).length 0).set (pre.length : Int).toNat (t * x % s) = remS t s (pre ++ [x]) ++ List.replicate r.length 0 := by
      rw [set_mid' (A := remS t s pre) (x := 0) (B := List.replicate r.length 0) (by rw [List.length_cons, List.replicate_succ]) (by rw [hrl])]
      simp [remS]
    have sC : (idx pre.length ++ List.replicate (x :: r).length 0).set (pre.length : Int).toNat (pre.length : Int) = idx (pre ++ [x]).length ++ List.replicate r.length 0 := by
      rw [set_mid' (A := idx pre.length) (x := 0) (B := List.replicate r.length 0) (by rw [List.length_cons, List.replicate_succ]) (by rw [hil])]
      rw [List.length_append, List.length_singleton, idx_succ]
      simp
    have eq : rd (quoS t s (pre ++ [x]) ++ List.replicate r.length 0) (pre.length : Int) = t * x / s :=
      rd_mid' (A := quoS t s pre) (B := List.replicate r.length 0) (by simp [quoS]) (by rw [hql])
    refine Tells.up (ih (pre ++ [x]) (by rw [← h]; simp)) (fun k => ?_)
    rw [share_Split.l0]
    rw [if_pos (by omega), if_pos (by omega), if_pos (by omega), e1, quotient_val t x s ht0 ht hx.1 hx.2 hs]
    simp only [Option.bind_some]
    rw [if_pos (by simp [hql]; omega), sA, if_pos (by simp [hrl]; omega), if_pos (by simp [hil]; omega), sC, eq, sB, wrap64_id (by omega) (by omega), wrap64_id (by omega) (by omega)]
    have e2 : t - (quoS t s (pre ++ [x])).sum = t - (quoS t s pre).sum - t * x / s := by
      simp [quoS]; omega
    rw [e2, List.length_append, List.length_singleton]
    rfl
theorem split_tells_of {N : Nat} (hsort : ∀ (R : List Int) (n : Nat), R.length = n → n ≤ N → (∀ y ∈ R, 0 ≤ y ∧ y ≤ 1125899906842624) → Tells (fun k => slices_SortStableFunc_int_int__share_Split_1.f k (idx n) [R]) (ordS R n)) (t : Int) (l : List Int) (hl : l.length ≤ N) (hN : N ≤ 1000) : Tells (fun k => share_Split.f k t l) (splitS t l) := by
  refine Tells.congr (g := fun k => (share_check.f k t l).bind fun b => if b.2 = 0 then share_Split.l0 k t b.1 (List.replicate l.length 0) (List.replicate l.length 0) t l (l.length : Int) 0 (List.replicate l.length 0) else some ([], b.2)) ?_ (fun k => by
    unfold share_Split.f
    congr 1; funext b
    rw [if_pos (show 0 ≤ (l.length : Int) by omega), if_pos (show ((l.length : Int) : Int).toNat ≤ 35184372088832 by omega)]
    rfl)
  refine Tells.bind (shCheck_tells t l (by omega)) ?_
  unfold splitS
  refine Tells.ite (fun hc => ?_) (fun _ => Tells.const _)
  obtain ⟨ht0, ht, hl0, hl1, hin, hs, hz, he⟩ := shCheck_ok hc
  rw [he]
  have hw : ∀ w ∈ l, 0 ≤ w ∧ w ≤ l.sum := fun w hw => ⟨(inAll_iff.1 hin w hw).1, sum_mem_le hin w hw⟩
  have hlb := left_bounds hl0 ht0 (fun w h => (hw w h).1) hz
  have := split_l0 t l.sum l (partsSp t l.sum l, 0) ht0 ht hs hw (by omega) ?_ l [] rfl
  · simpa [quoS, remS, idx] using this
  have hR : ∀ y ∈ remS t l.sum l, 0 ≤ y ∧ y ≤ 1125899906842624 := by
    intro y hy
    by_cases h0 : l.sum = 0
    · have ht := hz h0
      unfold remS at hy
      obtain ⟨w, _, rfl⟩ := List.mem_map.1 hy
      rw [ht]; simp
    · have hs0 : 0 ≤ l.sum := sum_nonneg (fun w h => (hw w h).1)
      have := rem_bounds (show 0 < l.sum by omega) y hy
      omega
  refine Tells.up (g := fun k => (slices_SortStableFunc_int_int__share_Split_1.f k (idx l.length) [remS t l.sum l]).bind fun o => share_Split.l1 k (quoS t l.sum l) (o.take (leftS t l.sum l).toNat) ((o.take (leftS t l.sum l).toNat).length : Int) 0) ?_ (fun k => by
    rw [share_Split.l0]
    rw [if_neg (by omega)]
    congr 1; funext o
    rw [if_pos hlb.1, if_pos (by rw [idx_len]; exact hlb.2.1)]
    rfl)
  refine Tells.bind (hsort _ l.length (by simp [remS]) hl hR) ?_
  have hsub := List.take_sublist (leftS t l.sum l).toNat (ordS (remS t l.sum l) l.length)
  have := split_l1 t l.sum l ((ordS (remS t l.sum l) l.length).take (leftS t l.sum l).toNat) ht0 ht hw (hsub.nodup (ordS_nodup _ _)) (fun i hi => mem_ordS.1 (hsub.subset hi)) (by omega) (by rw [List.length_take, ordS_len]; omega) _ [] rfl
  rw [bumpS_nil] at this
  exact this
theorem split20_tells (t : Int) (l : List Int) (hl : l.length ≤ 20) : Tells (fun k => share_Split.f k t l) (splitS t l) :=
  split_tells_of (N := 20) (fun R n hRn hn hR => sort20_tells R n hn hRn hR) t l hl (by omega)

-- SPLITPROPS: the parts add up to the total, and none is more than its weight (ours). Behind split.lean.
theorem set_sum (l : List Int) (i : Nat) (v : Int) (h : i < l.length) : (l.set i v).sum = l.sum - rd l i + v := by
  induction l generalizing i with
  | nil => simp at h
  | cons x l ih =>
    cases i with
    | zero => simp [rd]; omega
    | succ i =>
      have := ih i (by simpa using h)
      have e : rd (x :: l) ((i + 1 : Nat) : Int) = rd l (i : Int) := by
        rw [rd_at _ _ h, rd_at _ _ (by simpa using h)]; rfl
      rw [List.set_cons_succ, List.sum_cons, List.sum_cons, this, e]
      omega
theorem bumpS_sum (t s : Int) (l : List Int) : ∀ (todo D : List Int), (D ++ todo).Nodup → (∀ i ∈ todo, 0 ≤ i ∧ i < (l.length : Int)) → (bumpS t s l (D ++ todo)).sum = (bumpS t s l D).sum + todo.length := by
  intro todo
  induction todo with
  | nil => intro D _ _; simp
  | cons x todo ih =>
    intro D hn hm
    have hx := hm x List.mem_cons_self
    have hxD : x ∉ D := fun h => by
      rw [List.nodup_append] at hn
      exact hn.2.2 x h x List.mem_cons_self rfl
    obtain ⟨i, rfl⟩ : ∃ i : Nat, x = (i : Int) := ⟨x.toNat, by omega⟩
    have hi : i < l.length := by omega
    have := ih (D ++ [(i : Int)]) (by simpa using hn) (fun j hj => hm j (List.mem_cons_of_mem _ hj))
    rw [← bumpS_step t s l D i hi hxD, set_sum _ _ _ (by rw [bumpS_len]; exact hi)] at this
    rw [show D ++ (i : Int) :: todo = D ++ [(i : Int)] ++ todo by simp, this, List.length_cons]
    omega
theorem perm_map_sum {a b : List Int} (f : Int → Int) (h : a.Perm b) : (a.map f).sum = (b.map f).sum := by
  induction h with
  | nil => rfl
  | cons x _ ih => simp [ih]
  | swap x y l => simp; omega
  | trans _ _ h1 h2 => exact h1.trans h2
/-- What splitS tells of weights that are all right. -/
structure GoodSplit (t : Int) (l p : List Int) : Prop where
  len : p.length = l.length
  sum : p.sum = t
  low : ∀ i : Nat, i < l.length → 0 ≤ rd p i
  high : t ≤ l.sum → ∀ i : Nat, i < l.length → rd p i ≤ rd l i
  near : 0 < l.sum → ∀ i : Nat, i < l.length → -l.sum < l.sum * rd p i - t * rd l i ∧ l.sum * rd p i - t * rd l i < l.sum
/-- Whoever gets one more has a remainder. -/
theorem bump_rem (t : Int) (l : List Int) (hs : 0 < l.sum) (i : Nat) (hi : i < l.length) (hmem : (i : Int) ∈ (ordS (remS t l.sum l) l.length).take (leftS t l.sum l).toNat) (hr : t * rd l i % l.sum = 0) : False := by
  obtain ⟨A, B, hAB⟩ := List.append_of_mem hmem
  have hO : ordS (remS t l.sum l) l.length = A ++ (i : Int) :: (B ++ (ordS (remS t l.sum l) l.length).drop (leftS t l.sum l).toNat) := by
    have := List.take_append_drop (leftS t l.sum l).toNat (ordS (remS t l.sum l) l.length)
    rw [hAB] at this
    rw [← List.cons_append, ← List.append_assoc]
    exact this.symm
  have hso := ordS_sorted (remS t l.sum l) l.length
  have hpm := perm_map_sum (rd (remS t l.sum l)) (ordS_perm (remS t l.sum l) l.length)
  have hmi : (idx l.length).map (rd (remS t l.sum l)) = remS t l.sum l := by
    have := map_idx (remS t l.sum l)
    simpa [remS] using this
  rw [hmi, hO, List.map_append, List.map_cons, List.sum_append, List.sum_cons] at hpm
  have hri : rd (remS t l.sum l) (i : Int) = 0 := by
    unfold remS
    rw [rd_map _ _ i hi]; exact hr
  have hAl : A.length < (leftS t l.sum l).toNat := by
    have := congrArg List.length hAB
    rw [List.length_take, List.length_append, List.length_cons] at this
    omega
  rw [hO, List.pairwise_append] at hso
  have hs2 := hso.2.1
  rw [List.pairwise_cons] at hs2
  have hmemO : ∀ x, x ∈ A ++ (i : Int) :: (B ++ (ordS (remS t l.sum l) l.length).drop (leftS t l.sum l).toNat) → 0 ≤ rd (remS t l.sum l) x ∧ rd (remS t l.sum l) x < l.sum := by
    intro x hx
    rw [← hO] at hx
    have := mem_ordS.1 hx
    exact rem_bounds hs _ (rd_mem _ x this.1 (by simpa [remS] using this.2))
  have hA := sum_le_mul (m := l.sum - 1) (l := A.map (rd (remS t l.sum l))) (fun y hy => by
    obtain ⟨x, hx, rfl⟩ := List.mem_map.1 hy
    have := hmemO x (List.mem_append_left _ hx)
    omega)
  have hB := sum_le_mul (m := 0) (l := (B ++ (ordS (remS t l.sum l) l.length).drop (leftS t l.sum l).toNat).map (rd (remS t l.sum l))) (fun y hy => by
    obtain ⟨x, hx, rfl⟩ := List.mem_map.1 hy
    have h1 := hmemO x (List.mem_append_right _ (List.mem_cons_of_mem _ hx))
    have h2 := hs2.1 x hx
    unfold ltR at h2
    omega)
  have hsq := sum_quo_rem t l.sum l
  rw [List.length_map] at hA
  have hleft : l.sum * leftS t l.sum l = (remS t l.sum l).sum := by
    unfold leftS
    rw [Int.mul_sub, Int.mul_comm l.sum t]; omega
  have hlt : (A.length : Int) ≤ leftS t l.sum l - 1 := by omega
  have h3 := Int.mul_le_mul_of_nonneg_left hlt (show 0 ≤ l.sum - 1 by omega)
  have h4 : (l.sum - 1) * (leftS t l.sum l - 1) = l.sum * leftS t l.sum l - leftS t l.sum l - l.sum + 1 := by
    rw [Int.sub_mul, Int.mul_sub, Int.one_mul, Int.mul_one]; omega
  rw [hri] at hpm
  omega
theorem partsSp_good (t : Int) (l : List Int) (hl0 : 0 < l.length) (ht0 : 0 ≤ t) (hw : ∀ w ∈ l, 0 ≤ w ∧ w ≤ l.sum) (hz : l.sum = 0 → t = 0) : GoodSplit t l (partsSp t l.sum l) := by
  have hlb := left_bounds hl0 ht0 (fun w h => (hw w h).1) hz
  have hsub := List.take_sublist (leftS t l.sum l).toNat (ordS (remS t l.sum l) l.length)
  have hnd := hsub.nodup (ordS_nodup (remS t l.sum l) l.length)
  have hq : ∀ i : Nat, i < l.length → 0 ≤ t * rd l i / l.sum ∧ t * rd l i / l.sum ≤ t := fun i hi => by
    have := hw _ (rd_mem l i (by omega) (by omega))
    exact quo_le ht0 this.1 this.2
  refine ⟨bumpS_len _ _ _ _, ?_, ?_, ?_, ?_⟩
  · unfold partsSp
    have := bumpS_sum t l.sum l ((ordS (remS t l.sum l) l.length).take (leftS t l.sum l).toNat) [] (by simpa using hnd) (fun i hi => mem_ordS.1 (hsub.subset hi))
    rw [List.nil_append] at this
    rw [this, bumpS_nil, List.length_take, ordS_len]
    unfold leftS at hlb ⊢
    omega
  · intro i hi
    unfold partsSp
    rw [rd_bumpS _ _ _ _ _ hi]
    have := (hq i hi).1
    split <;> omega
  · intro hts i hi
    unfold partsSp
    rw [rd_bumpS _ _ _ _ _ hi]
    have hwi := hw _ (rd_mem l i (by omega) (by omega))
    have hq0 := hq i hi
    by_cases h0 : l.sum = 0
    · have ht := hz h0
      have e0 : (leftS t l.sum l).toNat = 0 := by
        unfold leftS
        rw [quoS_zero t l.sum l (fun w _ => by rw [ht]; simp)]
        rw [ht]; simp
      rw [e0, List.take_zero, h0, Int.ediv_zero]
      simp
      omega
    have hs : 0 < l.sum := by have := sum_nonneg (fun w h => (hw w h).1); omega
    have hdm := Int.mul_ediv_add_emod (t * rd l i) l.sum
    have hle : t * rd l i ≤ l.sum * rd l i := Int.mul_le_mul_of_nonneg_right hts hwi.1
    have hqw : t * rd l i / l.sum ≤ rd l i := by
      have h2 := Int.ediv_le_ediv hs hle
      rwa [Int.mul_ediv_cancel_left _ h0] at h2
    split
    · rename_i hmem
      have hr0 : 0 ≤ t * rd l i % l.sum := Int.emod_nonneg _ h0
      by_cases hr : t * rd l i % l.sum = 0
      · exfalso
        exact bump_rem t l hs i hi hmem hr
      · have h5 : l.sum * (t * rd l i / l.sum) < l.sum * rd l i := by omega
        have h6 := Int.lt_of_mul_lt_mul_left h5 (by omega)
        omega
    · omega
  · intro hs i hi
    unfold partsSp
    rw [rd_bumpS _ _ _ _ _ hi]
    have hdm := Int.mul_ediv_add_emod (t * rd l i) l.sum
    have hr0 : 0 ≤ t * rd l i % l.sum := Int.emod_nonneg _ (by omega)
    have hr1 : t * rd l i % l.sum < l.sum := Int.emod_lt_of_pos _ hs
    rw [Int.mul_add]
    split
    · rename_i hmem
      by_cases hr : t * rd l i % l.sum = 0
      · exact absurd (bump_rem t l hs i hi hmem hr) (by simp)
      · rw [Int.mul_one]; omega
    · rw [Int.mul_zero]; omega
theorem splitS_good {t : Int} {l : List Int} (h : (splitS t l).2 = 0) : GoodSplit t l (splitS t l).1 := by
  unfold splitS at h ⊢
  split at h
  · rename_i hc
    rw [if_pos hc]
    obtain ⟨ht0, ht, hl0, hl1, hin, hs, hz, he⟩ := shCheck_ok hc
    exact partsSp_good t l hl0 ht0 (fun w hw => ⟨(inAll_iff.1 hin w hw).1, sum_mem_le hin w hw⟩) hz
  · rename_i hc
    exact absurd h hc

-- FIBREPARTS: fibre.Parts (ours). Behind lists.lean
theorem within_tells (l : List Int) (m : Int) (hl : l.length ≤ 1000) : Tells (fun k => fibre_within.f k l m) (inAll m l) := by
  have lp : ∀ n i k, n < k → i + n = l.length → fibre_all_int__fibre_within_1.l0 k l (l.length : Int) (i : Int) [m] = some (inAll m (l.drop i)) := by
    intro n
    induction n with
    | zero =>
      intro i k hk hi
      obtain ⟨j, rfl⟩ : ∃ j, k = j + 1 := ⟨k - 1, by omega⟩
      unfold fibre_all_int__fibre_within_1.l0
      rw [if_neg (by omega), List.drop_of_length_le (by omega)]
      rfl
    | succ n ih =>
      intro i k hk hi
      obtain ⟨j, rfl⟩ : ∃ j, k = j + 1 := ⟨k - 1, by omega⟩
      unfold fibre_all_int__fibre_within_1.l0
      rw [if_pos (by omega), if_pos (by omega), if_pos (by omega), wrap64_id (n := (i : Int) + 1) (by omega) (by omega), rd_drop l i (by omega)]
      have e : fibre_within_1.f (rd l (i : Int)) [m] = some (decide (0 ≤ rd l (i : Int)) && decide (rd l (i : Int) ≤ m)) := by
        unfold fibre_within_1.f
        by_cases h : rd l (i : Int) ≥ 0
        · have h' : 0 ≤ rd l (i : Int) := h
          rw [if_pos h, if_pos (by simp)]
          rw [decide_eq_true h', Bool.true_and]
          rfl
        · have h' : ¬ 0 ≤ rd l (i : Int) := h
          rw [if_neg h]
          simp [h']
      rw [e]
      show (if _ = true then _ else _) = _
      unfold inAll
      rw [List.all_cons]
      by_cases h : (decide (0 ≤ rd l (i : Int)) && decide (rd l (i : Int) ≤ m)) = true
      · rw [if_pos h, h, Bool.true_and]
        exact ih (i + 1) j (by omega) (by omega)
      · rw [if_neg h, eq_false_of_ne_true h]
        rfl
  refine ⟨l.length + 1, fun k hk => ?_⟩
  show fibre_within.f k l m = _
  unfold fibre_within.f fibre_all_int__fibre_within_1.f
  have := lp l.length 0 k (by omega) (by omega)
  rw [show ((0 : Nat) : Int) = 0 from rfl] at this
  rw [this]
  rfl
def partsS (l : List Int) (n : Int) : Int := if 1 ≤ n ∧ n ≤ 8 ∧ (l.length : Int) = n then (if inAll 1099511627776 l then 0 else 1) else 17
theorem parts_tells (l : List Int) (n : Int) (hl : l.length ≤ 1000) : Tells (fun k => fibre_Parts.f k l n) (partsS l n) := by
  have e : fibre_listed.f l n = some (decide (1 ≤ n ∧ n ≤ 8 ∧ (l.length : Int) = n)) := by
    unfold fibre_listed.f
    by_cases h1 : n ≥ 1
    · by_cases h2 : n ≤ 8
      · have h1' : 1 ≤ n := h1
        rw [if_pos h1, if_pos h2]
        by_cases h3 : (l.length : Int) = n
        · simp [h1', h2, h3]
        · simp [h1', h2, h3]
      · rw [if_pos h1, if_neg h2]; simp [h2]
    · have h1' : ¬ 1 ≤ n := h1
      rw [if_neg h1]; simp [h1']
  refine Tells.congr (g := fun k => if (1 ≤ n ∧ n ≤ 8 ∧ (l.length : Int) = n) then ((fibre_within.f k l 1099511627776).bind fun t => if t = true then some 0 else some 1) else some 17) ?_ (fun k => by
    unfold fibre_Parts.f
    rw [e]
    by_cases h : (1 ≤ n ∧ n ≤ 8 ∧ (l.length : Int) = n)
    · rw [if_pos h]; simp only [Option.bind_some, decide_eq_true h, if_true]
    · rw [if_neg h]; simp only [Option.bind_some, decide_eq_false h, Bool.false_eq_true, if_false])
  unfold partsS
  refine Tells.ite (fun h => ?_) (fun h => Tells.const 17)
  refine Tells.bind (within_tells l _ hl) ?_
  exact Tells.ite (fun _ => Tells.const 0) (fun _ => Tells.const 1)

-- FSUM (ours)
theorem fsum_tells (l : List Int) (hl : l.length ≤ 1000) : Tells (fun k => fibre_sum.f k l) (sumFrom 0 l) := by
  have lp : ∀ n i k s, n < k → i + n = l.length → fibre_sum.l0 k s l (l.length : Int) (i : Int) = some (sumFrom s (l.drop i)) := by
    intro n
    induction n with
    | zero =>
      intro i k s hk hi
      obtain ⟨m, rfl⟩ : ∃ m, k = m + 1 := ⟨k - 1, by omega⟩
      unfold fibre_sum.l0
      rw [if_neg (by omega), List.drop_of_length_le (by omega)]
      rfl
    | succ n ih =>
      intro i k s hk hi
      obtain ⟨m, rfl⟩ : ∃ m, k = m + 1 := ⟨k - 1, by omega⟩
      unfold fibre_sum.l0
      rw [if_pos (by omega), if_pos (by omega), if_pos (by omega), wrap64_id (n := (i : Int) + 1) (by omega) (by omega), rd_drop l i (by omega)]
      exact ih (i + 1) m _ (by omega) (by omega)
  refine ⟨l.length + 1, fun k hk => ?_⟩
  show fibre_sum.f k l = _
  unfold fibre_sum.f
  exact lp l.length 0 k 0 (by omega) (by omega)

-- RECIPE16 (ours)
def recipeS (l : List Int) (n : Int) : Int := if 1 ≤ n ∧ n ≤ 8 ∧ (l.length : Int) = n then (if inAll 1000 l = true then (if sumFrom 0 l = 1000 then 0 else 18) else 1) else 17
theorem listed_val (l : List Int) (n : Int) : fibre_listed.f l n = some (decide (1 ≤ n ∧ n ≤ 8 ∧ (l.length : Int) = n)) := by
  unfold fibre_listed.f
  by_cases h1 : n ≥ 1
  · by_cases h2 : n ≤ 8
    · have h1' : 1 ≤ n := h1
      rw [if_pos h1, if_pos h2]
      by_cases h3 : (l.length : Int) = n
      · simp [h1', h2, h3]
      · simp [h1', h2, h3]
    · rw [if_pos h1, if_neg h2]; simp [h2]
  · have h1' : ¬ 1 ≤ n := h1
    rw [if_neg h1]; simp [h1']
theorem recipe_tells (l : List Int) (n : Int) (hl : l.length ≤ 1000) : Tells (fun k => fibre_Recipe.f k l n) (recipeS l n) := by
  refine Tells.congr (g := fun k => if (1 ≤ n ∧ n ≤ 8 ∧ (l.length : Int) = n) then ((fibre_within.f k l 1000).bind fun t => if t = true then ((fibre_sum.f k l).bind fun s => if s = 1000 then some 0 else some 18) else some 1) else some 17) ?_ (fun k => by
    unfold fibre_Recipe.f
    rw [listed_val]
    by_cases h : (1 ≤ n ∧ n ≤ 8 ∧ (l.length : Int) = n)
    · rw [if_pos h]; simp only [Option.bind_some, decide_eq_true h, if_true]
    · rw [if_neg h]; simp only [Option.bind_some, decide_eq_false h, Bool.false_eq_true, if_false])
  unfold recipeS
  refine Tells.ite (fun h => ?_) (fun h => Tells.const 17)
  refine Tells.bind (within_tells l _ hl) ?_
  refine Tells.ite (fun _ => ?_) (fun _ => Tells.const 1)
  refine Tells.bind (fsum_tells l hl) ?_
  exact Tells.ite (fun _ => Tells.const _) (fun _ => Tells.const _)
theorem recipe_ok {l : List Int} {n : Int} (h : recipeS l n = 0) : 1 ≤ n ∧ n ≤ 8 ∧ (l.length : Int) = n ∧ inAll 1000 l = true ∧ l.sum = 1000 := by
  unfold recipeS at h
  split at h
  · rename_i h1
    split at h
    · rename_i h2
      split at h
      · rename_i h3
        have := sumFrom_eq l h2 0 (by omega) (by omega) (by omega)
        exact ⟨h1.1, h1.2.1, h1.2.2, h2, by omega⟩
      · simp at h
    · simp at h
  · simp at h

-- TOTAL (ours)
def totalS (l : List Int) : Int × Int := if partsS l (l.length : Int) = 0 then (sumFrom 0 l, 0) else (0, partsS l (l.length : Int))
theorem total_tells (l : List Int) (hl : l.length ≤ 1000) : Tells (fun k => fibre_Total.f k l) (totalS l) := by
  refine Tells.congr (g := fun k => (fibre_Parts.f k l (l.length : Int)).bind fun t => if t = 0 then ((fibre_sum.f k l).bind fun s => some (s, 0)) else some (0, t)) ?_ (fun k => by unfold fibre_Total.f; rfl)
  refine Tells.bind (parts_tells l _ hl) ?_
  unfold totalS
  exact Tells.ite (fun _ => Tells.bind (fsum_tells l hl) (Tells.const _)) (fun _ => Tells.const _)

-- PARTSLEN (ours)
theorem partsS_len {m : List Int} {n : Int} (h : partsS m n = 0) : 1 ≤ n ∧ n ≤ 8 ∧ (m.length : Int) = n ∧ inAll 1099511627776 m = true := by
  unfold partsS at h
  split at h
  · rename_i h1
    split at h
    · rename_i h2; exact ⟨h1.1, h1.2.1, h1.2.2, h2⟩
    · simp at h
  · simp at h

-- NEAR (ours)
def nearS (m r : List Int) (tol : Int) : Bool × Int := if recipeS r (r.length : Int) = 0 then (if partsS m (r.length : Int) = 0 then (if tol < 0 ∨ tol > 1000 then (false, 1) else if sumFrom 0 m = 0 then (false, 10) else (decide (∀ i : Nat, i < m.length → 1000 * rd m i - rd r i * m.sum ≤ tol * m.sum ∧ -(tol * m.sum) ≤ 1000 * rd m i - rd r i * m.sum), 0)) else (false, partsS m (r.length : Int))) else (false, recipeS r (r.length : Int))
instance nearDec (n : Nat) (P : Nat → Prop) [DecidablePred P] : Decidable (∀ i : Nat, i < n → P i) := Nat.decidableBallLT n (fun i _ => P i)
theorem near_bounds {m r : List Int} {tol : Int} (hr : recipeS r (r.length : Int) = 0) (hm : partsS m (r.length : Int) = 0) (ht : 0 ≤ tol ∧ tol ≤ 1000) (i : Nat) (hi : i < m.length) : sumFrom 0 m = m.sum ∧ 0 ≤ m.sum ∧ m.sum ≤ 8796093022208 ∧ 0 ≤ tol * m.sum ∧ tol * m.sum ≤ 8796093022208000 ∧ 0 ≤ rd r i * m.sum ∧ rd r i * m.sum ≤ 8796093022208000 ∧ 0 ≤ rd m i ∧ rd m i ≤ 1099511627776 := by
  obtain ⟨m1, m2, m3, m4⟩ := partsS_len hm
  obtain ⟨r1, r2, r3, r4, r5⟩ := recipe_ok hr
  have hs := sumFrom_eq m m4 0 (by omega) (by omega) (by omega)
  have hb := sum_bounds m4
  have hmi := inAll_iff.1 m4 _ (rd_mem m i (by omega) (by omega))
  have hri := inAll_iff.1 r4 _ (rd_mem r i (by omega) (by omega))
  have h1 := Int.mul_nonneg ht.1 hb.1
  have h2 : tol * m.sum ≤ 1000 * m.sum := Int.mul_le_mul_of_nonneg_right ht.2 hb.1
  have h3 := Int.mul_nonneg hri.1 hb.1
  have h4 : rd r i * m.sum ≤ 1000 * m.sum := Int.mul_le_mul_of_nonneg_right hri.2 hb.1
  refine ⟨by omega, hb.1, by omega, h1, by omega, h3, by omega, hmi.1, hmi.2⟩
theorem near_tells (m r : List Int) (tol : Int) (hm : m.length ≤ 1000) (hr : r.length ≤ 1000) : Tells (fun k => fibre_Near.f k m r tol) (nearS m r tol) := by
  refine Tells.congr (g := fun k => (fibre_Recipe.f k r (r.length : Int)).bind fun t => if t = 0 then ((fibre_Parts.f k m (r.length : Int)).bind fun t => if t = 0 then fibre_Near.j0 k m r tol (decide (tol < 0 ∨ tol > 1000)) else some (false, t)) else some (false, t)) ?_ (fun k => by
    unfold fibre_Near.f
    congr 1; funext t; congr 2; funext t
    by_cases h : tol < 0
    · rw [if_pos h, decide_eq_true (p := tol < 0 ∨ tol > 1000) (Or.inl h)]
    · rw [if_neg h]; congr 2; simp [h])
  unfold nearS
  refine Tells.bind (recipe_tells r _ hr) (Tells.ite (fun cr => ?_) (fun _ => Tells.const _))
  refine Tells.bind (parts_tells m _ hm) (Tells.ite (fun cm => ?_) (fun _ => Tells.const _))
  refine Tells.up (g := fun k => if decide (tol < 0 ∨ tol > 1000) = true then some (false, 1) else (fibre_sum.f k m).bind fun s => if s = 0 then some (false, 10) else fibre_Near.l0 k r tol s m (m.length : Int) ((0 : Nat) : Int)) ?_ (fun k => by rw [fibre_Near.j0]; rfl)
  by_cases ht : tol < 0 ∨ tol > 1000
  · rw [if_pos ht]; exact Tells.pos (decide_eq_true ht) (Tells.const _)
  rw [if_neg ht]
  refine Tells.neg (by simpa using ht) (Tells.bind (fsum_tells m hm) (Tells.ite (fun _ => Tells.const _) (fun h0 => ?_)))
  obtain ⟨m1, m2, m3, m4⟩ := partsS_len cm
  have hnb := fun i hi => near_bounds (tol := tol) cr cm (by omega) i hi
  have lp : ∀ d i, i + d = m.length → (∀ j : Nat, j < i → 1000 * rd m j - rd r j * m.sum ≤ tol * m.sum ∧ -(tol * m.sum) ≤ 1000 * rd m j - rd r j * m.sum) → Tells (fun k => fibre_Near.l0 k r tol (sumFrom 0 m) m (m.length : Int) (i : Int)) (decide (∀ i : Nat, i < m.length → 1000 * rd m i - rd r i * m.sum ≤ tol * m.sum ∧ -(tol * m.sum) ≤ 1000 * rd m i - rd r i * m.sum), 0) := by
    intro d
    induction d with
    | zero =>
      intro i hi hj
      rw [decide_eq_true (fun j h => hj j (by omega))]
      refine Tells.up (Tells.const _) (fun k => ?_)
      rw [fibre_Near.l0]
      rw [if_neg (by omega)]
    | succ d ih =>
      intro i hi hj
      obtain ⟨b1, b2, b3, b4, b5, b6, b7, b8, b9⟩ := hnb i (by omega)
      rw [b1] at ih ⊢
      have hmx : (mx (wrap64 (wrap64 (1000 * rd m i) - wrap64 (rd r i * m.sum))) (wrap64 (-(wrap64 (wrap64 (1000 * rd m i) - wrap64 (rd r i * m.sum))))) > wrap64 (tol * m.sum)) ↔ ¬ (1000 * rd m i - rd r i * m.sum ≤ tol * m.sum ∧ -(tol * m.sum) ≤ 1000 * rd m i - rd r i * m.sum) := by
        rw [wrap64_id (n := 1000 * rd m i) (by omega) (by omega), wrap64_id (n := rd r i * m.sum) (by omega) (by omega), wrap64_id (n := tol * m.sum) (by omega) (by omega), wrap64_id (n := 1000 * rd m i - rd r i * m.sum) (by omega) (by omega), wrap64_id (n := -(1000 * rd m i - rd r i * m.sum)) (by omega) (by omega)]
        unfold mx; omega
      by_cases c : 1000 * rd m i - rd r i * m.sum ≤ tol * m.sum ∧ -(tol * m.sum) ≤ 1000 * rd m i - rd r i * m.sum
      · refine Tells.up (ih (i + 1) (by omega) ?_) (fun k => ?_)
        · intro j h
          by_cases e : j = i
          · subst e; exact c
          · exact hj j (by omega)
        · rw [fibre_Near.l0]
          rw [if_pos (by omega), if_pos (by omega), if_pos (by omega), if_pos (by omega), if_neg (fun h => hmx.1 h c), wrap64_id (n := (i : Int) + 1) (by omega) (by omega)]
          rfl
      · rw [decide_eq_false (fun h => c (h i (by omega)))]
        refine Tells.up (Tells.const _) (fun k => ?_)
        rw [fibre_Near.l0]
        rw [if_pos (by omega), if_pos (by omega), if_pos (by omega), if_pos (by omega), if_pos (hmx.2 c)]
  exact lp m.length 0 (by omega) (fun j h => by omega)

-- MASSES (ours)
def massesS (r : List Int) (t : Int) : List Int × Int := if recipeS r (r.length : Int) = 0 then (if t < 0 then ([], 1) else if t > 1099511627776 then ([], 1) else (partsSp t r.sum r, 0)) else ([], recipeS r (r.length : Int))
theorem masses_ok {r : List Int} {t : Int} (h : recipeS r (r.length : Int) = 0) (h0 : ¬ t < 0) (h1 : ¬ t > 1099511627776) : splitS t r = (partsSp t r.sum r, 0) := by
  obtain ⟨r1, r2, r3, r4, r5⟩ := recipe_ok h
  have hin : inAll 1125899906842624 r = true := by
    rw [inAll_iff] at r4 ⊢
    intro x hx
    have := r4 x hx
    omega
  have : (shCheckS t r).2 = 0 := by
    unfold shCheckS
    rw [if_neg (by omega), if_neg (by omega), if_neg (by omega), if_pos hin, if_neg (by omega), if_neg (by omega)]
  unfold splitS
  rw [if_pos this]
theorem masses_tells (r : List Int) (t : Int) (hr : r.length ≤ 1000) : Tells (fun k => fibre_Masses.f k r t) (massesS r t) := by
  refine Tells.congr (g := fun k => (fibre_Recipe.f k r (r.length : Int)).bind fun e => if e = 0 then (if t < 0 then some ([], 1) else if t > 1099511627776 then some ([], 1) else ((share_Split.f k t r).bind fun b => some (b.1, b.2))) else some ([], e)) ?_ (fun k => by unfold fibre_Masses.f; rfl)
  unfold massesS
  refine Tells.bind (recipe_tells r _ hr) (Tells.ite (fun cr => ?_) (fun _ => Tells.const _))
  refine Tells.ite (fun _ => Tells.const _) (fun h0 => Tells.ite (fun _ => Tells.const _) (fun h1 => ?_))
  have hl : r.length ≤ 20 := by have := recipe_ok cr; omega
  refine Tells.bind (split20_tells t r hl) ?_
  rw [masses_ok cr h0 h1]
  exact Tells.const _

-- AWAKE16 (ours)
theorem awake_tells : Tells (fun k => papermilllaw16_awake.f k) true := Tells.of (fun k => papermilllaw16_awake.mono k) ⟨200, by decide +kernel⟩
theorem great_val (l : List Int) : papermilllaw16_great.f l = some (decide ((l.length : Int) > 60)) := by unfold papermilllaw16_great.f; rfl

theorem masses_good {r : List Int} {t : Int} (h : (massesS r t).2 = 0) : recipeS r (r.length : Int) = 0 ∧ 0 ≤ t ∧ t ≤ 1099511627776 ∧ massesS r t = (partsSp t r.sum r, 0) ∧ GoodSplit t r (partsSp t r.sum r) := by
  unfold massesS at h ⊢
  split at h
  · rename_i cr
    split at h
    · simp at h
    split at h
    · simp at h
    · rename_i h0 h1
      rw [if_pos cr, if_neg h0, if_neg h1]
      obtain ⟨r1, r2, r3, r4, r5⟩ := recipe_ok cr
      refine ⟨cr, by omega, by omega, rfl, ?_⟩
      exact partsSp_good t r (by omega) (by omega) (fun w hw => ⟨(inAll_iff.1 r4 w hw).1, sum_mem_le r4 w hw⟩) (by omega)
  · rename_i cr
    exact absurd h cr
theorem massesS_err {r : List Int} {t : Int} (h : (massesS r t).2 ≠ 0) : (massesS r t).1 = [] := by
  unfold massesS at h ⊢
  repeat' split
  all_goals first | rfl | skip
  rename_i c1 c2 c3
  rw [if_pos c1, if_neg c2, if_neg c3] at h
  exact absurd rfl h
theorem FibreMasses : papermilllaw16_FibreMasses.Pure := by
  intro r t _ _ _ _
  apply Tells.get
  refine Tells.congr (g := fun k => if decide ((r.length : Int) > 60) = true then ((papermilllaw16_awake.f k).bind fun t => some t) else ((fibre_Masses.f k r t).bind fun b => if b.2 = 0 then (if (b.1.length : Int) = (r.length : Int) then (if t < 0 then (papermilllaw16_FibreMasses.j0 k r t b.1 true) else (papermilllaw16_FibreMasses.j0 k r t b.1 (decide (t > 1099511627776)))) else (papermilllaw16_FibreMasses.j0 k r t b.1 true)) else (if (b.1.length : Int) = 0 then ((papermilllaw16_awake.f k).bind fun t => some t) else none))) ?_ (fun k => by unfold papermilllaw16_FibreMasses.f; rw [great_val]; rfl)
  by_cases h : (r.length : Int) > 60
  · exact Tells.pos (decide_eq_true h) (Tells.bind awake_tells (Tells.const true))
  refine Tells.neg (by simpa using h) ?_
  refine Tells.bind (masses_tells r t (by omega)) ?_
  by_cases h0 : (massesS r t).2 = 0
  · refine Tells.pos h0 ?_
    obtain ⟨cr, t0, t1, e, g⟩ := masses_good h0
    rw [e]
    obtain ⟨r1, r2, r3, r4, r5⟩ := recipe_ok cr
    generalize partsSp t r.sum r = m at g
    have hml := g.len
    have hin0 : ∀ i : Nat, i < m.length → 0 ≤ rd m i := fun i hi => g.low i (by omega)
    have hall : ∀ x ∈ m, 0 ≤ x := fun x hx => by
      obtain ⟨i, hi, rfl⟩ := List.getElem_of_mem hx
      have := hin0 i hi
      rwa [rd_at m i hi] at this
    have hle : ∀ x ∈ m, x ≤ t := fun x hx => by
      have : ∀ (l : List Int), (∀ y ∈ l, 0 ≤ y) → ∀ x ∈ l, x ≤ l.sum := by
        intro l
        induction l with
        | nil => simp
        | cons y l ih =>
          intro h0 x hx
          have hn := sum_nonneg (l := l) (fun w hw => h0 w (List.mem_cons_of_mem _ hw))
          have hy := h0 y List.mem_cons_self
          rw [List.sum_cons]
          rcases List.mem_cons.1 hx with rfl | hx
          · omega
          · have := ih (fun w hw => h0 w (List.mem_cons_of_mem _ hw)) x hx; omega
      have := this m hall x hx
      rw [g.sum] at this
      exact this
    have hin : inAll 1099511627776 m = true := by
      rw [inAll_iff]
      intro x hx
      have := hall x hx
      have := hle x hx
      omega
    refine Tells.pos (by show (m.length : Int) = r.length; omega) (Tells.neg (by omega) ?_)
    refine Tells.up (g := fun k => papermilllaw16_FibreMasses.l0 k r t m 0 ((0 : Nat) : Int)) ?_ (fun k => by
      rw [papermilllaw16_FibreMasses.j0]
      rw [if_neg (by rw [decide_eq_false (by omega)]; simp)]
      rfl)
    have hpm : partsS m (m.length : Int) = 0 := by
      unfold partsS
      rw [if_pos (by omega), hin]; rfl
    have hpr : partsS m (r.length : Int) = 0 := by
      unfold partsS
      rw [if_pos (by omega), hin]; rfl
    have hsf := sumFrom_eq m hin 0 (by omega) (by omega) (by omega)
    have ht : totalS m = (t, 0) := by
      unfold totalS
      rw [if_pos hpm, hsf, g.sum, Int.zero_add]
    have hd : ∀ i : Nat, i < m.length → -1000 < 1000 * rd m i - rd r i * t ∧ 1000 * rd m i - rd r i * t < 1000 := fun i hi => by
      have := g.near (by omega) i (by omega)
      rw [r5, Int.mul_comm t] at this
      exact this
    have lp : ∀ d i s, i + d = m.length → s + (m.drop i).sum = t → 0 ≤ s → Tells (fun k => papermilllaw16_FibreMasses.l0 k r t m s (i : Int)) true := by
      intro d
      induction d with
      | zero =>
        intro i s hi hs hs0
        rw [List.drop_of_length_le (by omega), List.sum_nil, Int.add_zero] at hs
        subst hs
        refine Tells.up (g := fun k => (fibre_Total.f k m).bind fun a => (fibre_Near.f k m r 1).bind fun b => if s = s then (if a.2 = 0 then papermilllaw16_FibreMasses.j3 k s b.1 b.2 (a.1 != s) else papermilllaw16_FibreMasses.j3 k s b.1 b.2 true) else papermilllaw16_FibreMasses.j3 k s b.1 b.2 true) ?_ (fun k => by
          rw [papermilllaw16_FibreMasses.l0]
          rw [if_neg (by omega)])
        refine Tells.bind (total_tells m (by omega)) (Tells.bind (near_tells m r 1 (by omega) (by omega)) (Tells.pos rfl ?_))
        rw [ht]
        refine Tells.pos rfl ?_
        refine Tells.up (g := fun k => if s = 0 then (if (nearS m r 1).2 = 10 then (if (nearS m r 1).1 = true then none else ((papermilllaw16_awake.f k).bind fun t => some t)) else none) else (if (nearS m r 1).2 = 0 then (if s < 1000 then ((papermilllaw16_awake.f k).bind fun t => some t) else (if (nearS m r 1).1 = true then ((papermilllaw16_awake.f k).bind fun t => some t) else none)) else none)) ?_ (fun k => by
          rw [papermilllaw16_FibreMasses.j3]
          rw [if_neg (by simp)])
        have hn : nearS m r 1 = if s = 0 then (false, 10) else (decide (∀ i : Nat, i < m.length → 1000 * rd m i - rd r i * m.sum ≤ 1 * m.sum ∧ -(1 * m.sum) ≤ 1000 * rd m i - rd r i * m.sum), 0) := by
          unfold nearS
          rw [if_pos cr, if_pos hpr, if_neg (by omega), hsf, g.sum, Int.zero_add]
        rw [hn]
        by_cases z : s = 0
        · rw [if_pos z]
          refine Tells.pos z (Tells.pos rfl (Tells.neg (by simp) ?_))
          exact Tells.bind awake_tells (Tells.const true)
        · rw [if_neg z]
          refine Tells.neg z (Tells.pos rfl ?_)
          by_cases z2 : s < 1000
          · exact Tells.pos z2 (Tells.bind awake_tells (Tells.const true))
          · refine Tells.neg z2 (Tells.pos (decide_eq_true ?_) (Tells.bind awake_tells (Tells.const true)))
            intro i hi
            have := hd i hi
            rw [g.sum]
            omega
      | succ d ih =>
        intro i s hi hs hs0
        rw [rd_drop m i (by omega), List.sum_cons] at hs
        have hm0 := hin0 i (by omega)
        have hmt := hle _ (rd_mem m i (by omega) (by omega))
        have hri := inAll_iff.1 r4 _ (rd_mem r i (by omega) (by omega))
        have hrt0 := Int.mul_nonneg hri.1 t0
        have hrt1 : rd r i * t ≤ 1000 * t := Int.mul_le_mul_of_nonneg_right hri.2 t0
        have hdi := hd i (by omega)
        have hdn := sum_nonneg (l := m.drop (i + 1)) (fun w hw => hall w (List.mem_of_mem_drop hw))
        refine Tells.up (g := fun k => papermilllaw16_FibreMasses.j2 k r t m s (i : Int) false) ?_ (fun k => by
          rw [papermilllaw16_FibreMasses.l0]
          rw [if_pos (by omega), if_pos (by omega), if_neg (by omega), decide_eq_false (by omega)])
        refine Tells.up (ih (i + 1) (s + rd m i) (by omega) (by omega) (by omega)) (fun k => ?_)
        rw [papermilllaw16_FibreMasses.j2]
        rw [if_neg (by simp), if_pos (by omega), if_pos (by omega), if_pos (by omega), wrap64_id (n := 1000 * rd m i) (by omega) (by omega), wrap64_id (n := rd r i * t) (by omega) (by omega), wrap64_id (n := 1000 * rd m i - rd r i * t) (by omega) (by omega), if_neg (by omega), if_neg (by omega), wrap64_id (n := s + rd m i) (by omega) (by omega), wrap64_id (n := (i : Int) + 1) (by omega) (by omega)]
        rfl
    exact lp m.length 0 0 (by omega) (by rw [List.drop_zero, g.sum]; omega) (by omega)
  · refine Tells.neg h0 ?_
    rw [massesS_err h0]
    exact Tells.pos rfl (Tells.bind awake_tells (Tells.const true))

end Go.Proofs.Ytlnboodobmbcjaa.Pure
