import Derived.Test.YtpnfdhhfdidlmaaPrint21
namespace Go.Proofs.Ytpnfdhhfdidlmaa.Pure
open Go.RowKit Go.Proofs.Ytpnfdhhfdidlmaa.Print Go.Proofs.YtpnfdhhfdidlmaaW.PrintWords Go.Proofs.YtpnfdhhfdidlmaaW.PrintLast
set_option linter.unusedVariables false
set_option linter.unusedSimpArgs false

-- TELLS: what a printed function tells from some number of rounds on (ours; Ytpnfdhhfdidlmaa: the seat's name). Pasted at the head of a Pure text.
/-- From some number of rounds on f tells r. -/
def Tells {α : Type} (f : Nat → Option α) (r : α) : Prop := ∃ K, ∀ k, K ≤ k → f k = some r
namespace Tells
theorem leO {α : Type} {f : Nat → Option α} (hm : ∀ k, LeO (f k) (f (k + 1))) {K : Nat} {r : α} (h : f K = some r) : ∀ k, K ≤ k → f k = some r := by
  intro k hk
  induction hk with
  | refl => exact h
  | step _ ih => exact hm _ _ ih
theorem of {α : Type} {f : Nat → Option α} (hm : ∀ k, LeO (f k) (f (k + 1))) {r : α} (h : ∃ K, f K = some r) : Tells f r := by
  obtain ⟨K, h⟩ := h
  exact ⟨K, leO hm h⟩
theorem get {α : Type} {f : Nat → Option α} {r : α} (h : Tells f r) : ∃ k, f k = some r := by
  obtain ⟨K, h⟩ := h
  exact ⟨K, h K (Nat.le_refl K)⟩
theorem const {α : Type} (r : α) : Tells (fun _ => some r) r := ⟨0, fun _ _ => rfl⟩
theorem bind {α β : Type} {f : Nat → Option α} {g : Nat → α → Option β} {r : α} {s : β} (h : Tells f r) (h' : Tells (fun k => g k r) s) : Tells (fun k => (f k).bind (g k)) s := by
  obtain ⟨K, h⟩ := h
  obtain ⟨K', h'⟩ := h'
  refine ⟨max K K', fun k hk => ?_⟩
  show (f k).bind (g k) = some s
  rw [h k (by omega)]
  exact h' k (by omega)
theorem congr {α : Type} {f g : Nat → Option α} {r : α} (h : Tells g r) (e : ∀ k, f k = g k) : Tells f r := by
  obtain ⟨K, h⟩ := h
  exact ⟨K, fun k hk => (e k).trans (h k hk)⟩
theorem up {α : Type} {f g : Nat → Option α} {r : α} (h : Tells g r) (e : ∀ k, f (k + 1) = g k) : Tells f r := by
  obtain ⟨K, h⟩ := h
  refine ⟨K + 1, fun k hk => ?_⟩
  obtain ⟨m, rfl⟩ : ∃ m, k = m + 1 := ⟨k - 1, by omega⟩
  exact (e m).trans (h m (by omega))
theorem ite {α : Type} {c : Prop} [Decidable c] {f g : Nat → Option α} {r s : α} (h : c → Tells f r) (h' : ¬ c → Tells g s) : Tells (fun k => if c then f k else g k) (if c then r else s) := by
  by_cases hc : c
  · simp only [if_pos hc]; exact h hc
  · simp only [if_neg hc]; exact h' hc
theorem pos {α : Type} {c : Prop} [Decidable c] {f g : Nat → Option α} {r : α} (hc : c) (h : Tells f r) : Tells (fun k => if c then f k else g k) r := by
  simp only [if_pos hc]; exact h
theorem neg {α : Type} {c : Prop} [Decidable c] {f g : Nat → Option α} {r : α} (hc : ¬ c) (h : Tells g r) : Tells (fun k => if c then f k else g k) r := by
  simp only [if_neg hc]; exact h
end Tells
theorem wrap64_id {n : Int} (h0 : -9223372036854775808 ≤ n) (h1 : n < 9223372036854775808) : wrap64 n = n := by
  unfold wrap64; omega
theorem wf64 {n : Int} (h : (Lit.int .i64 n).wf = true) : -9223372036854775808 ≤ n ∧ n < 9223372036854775808 := by
  have h' : (decide (-9223372036854775808 ≤ n) && decide (n ≤ 9223372036854775807)) = true := h
  simp only [Bool.and_eq_true, decide_eq_true_eq] at h'
  omega

-- LISTS: what the printed texts' lists come to (ours). Behind tells.lean.
theorem rd_drop (l : List Int) (i : Nat) (h : i < l.length) : l.drop i = rd l (i : Int) :: l.drop (i + 1) := by
  rw [List.drop_eq_getElem_cons h]
  congr 1
  show l[i] = l.getD (i : Int).toNat 0
  simp [h]
theorem rd_at (l : List Int) (i : Nat) (h : i < l.length) : rd l (i : Int) = l[i] := by
  show l.getD (i : Int).toNat 0 = _
  simp [h]
theorem rd_mid (A : List Int) (x : Int) (B : List Int) : rd (A ++ x :: B) (A.length : Int) = x := by
  show (A ++ x :: B).getD (A.length : Int).toNat 0 = x
  simp
theorem rd_mid' {l A : List Int} {x : Int} {B : List Int} {i : Int} (h : l = A ++ x :: B) (hi : i = (A.length : Int)) : rd l i = x := by
  subst h hi; exact rd_mid A x B
theorem set_mid (A : List Int) (x v : Int) (B : List Int) : (A ++ x :: B).set ((A.length : Int)).toNat v = A ++ v :: B := by simp
theorem set_mid' {l A : List Int} {x v : Int} {B : List Int} {i : Int} (h : l = A ++ x :: B) (hi : i = (A.length : Int)) : l.set i.toNat v = A ++ v :: B := by
  subst h hi; exact set_mid A x v B
theorem rd_mem (l : List Int) (i : Int) (h0 : 0 ≤ i) (h : i < (l.length : Int)) : rd l i ∈ l := by
  obtain ⟨j, rfl⟩ : ∃ j : Nat, i = (j : Int) := ⟨i.toNat, by omega⟩
  rw [rd_at l j (by omega)]
  exact List.getElem_mem _
theorem ext_rd {a b : List Int} (hl : a.length = b.length) (h : ∀ i : Nat, i < a.length → rd a (i : Int) = rd b (i : Int)) : a = b := by
  apply List.ext_getElem hl
  intro i h1 h2
  have := h i h1
  rwa [rd_at a i h1, rd_at b i h2] at this
theorem rd_map (f : Int → Int) (l : List Int) (i : Nat) (h : i < l.length) : rd (l.map f) (i : Int) = f (rd l (i : Int)) := by
  rw [rd_at _ i (by simpa using h), rd_at l i h]
  simp
theorem rd_set (l : List Int) (i j : Nat) (v : Int) (h : j < l.length) : rd (l.set i v) (j : Int) = if i = j then v else rd l (j : Int) := by
  rw [rd_at _ j (by simpa using h), rd_at l j h, List.getElem_set]
theorem rd_replicate (n i : Nat) (v : Int) (h : i < n) : rd (List.replicate n v) (i : Int) = v := by
  rw [rd_at _ i (by simpa using h)]
  simp
/-- The sum, as the program adds it up. -/
def sumFrom (s : Int) : List Int → Int
  | [] => s
  | x :: l => sumFrom (wrap64 (s + x)) l
/-- All from 0 to most. -/
def inAll (most : Int) (l : List Int) : Bool := l.all fun x => decide (0 ≤ x) && decide (x ≤ most)
theorem inAll_iff {m : Int} {l : List Int} : inAll m l = true ↔ ∀ x ∈ l, 0 ≤ x ∧ x ≤ m := by
  unfold inAll
  simp [List.all_eq_true, Bool.and_eq_true, decide_eq_true_eq]
theorem inAll_cons {m x : Int} {l : List Int} : inAll m (x :: l) = ((decide (0 ≤ x) && decide (x ≤ m)) && inAll m l) := rfl
theorem sum_bounds {m : Int} {l : List Int} (h : inAll m l = true) : 0 ≤ l.sum ∧ l.sum ≤ m * l.length := by
  induction l with
  | nil => simp
  | cons x l ih =>
    rw [inAll_cons, Bool.and_eq_true, Bool.and_eq_true, decide_eq_true_eq, decide_eq_true_eq] at h
    have := ih h.2
    rw [List.sum_cons, List.length_cons]
    have e : m * ((l.length + 1 : Nat) : Int) = m * l.length + m := by rw [Int.natCast_add, Int.mul_add]; simp
    omega
theorem sum_mem_le {m : Int} {l : List Int} (h : inAll m l = true) : ∀ x ∈ l, x ≤ l.sum := by
  induction l with
  | nil => simp
  | cons y l ih =>
    have h' := h
    rw [inAll_cons, Bool.and_eq_true, Bool.and_eq_true, decide_eq_true_eq, decide_eq_true_eq] at h'
    have hb := sum_bounds h'.2
    intro x hx
    rw [List.sum_cons]
    rcases List.mem_cons.1 hx with rfl | hx
    · omega
    · have := ih h'.2 x hx; omega
theorem sumFrom_eq {m : Int} (l : List Int) (h : inAll m l = true) : ∀ s, 0 ≤ s → 0 ≤ m → s + m * l.length < 9223372036854775808 → sumFrom s l = s + l.sum := by
  induction l with
  | nil => intro s _ _ _; simp [sumFrom]
  | cons x l ih =>
    intro s h0 hm h1
    rw [inAll_cons, Bool.and_eq_true, Bool.and_eq_true, decide_eq_true_eq, decide_eq_true_eq] at h
    have e : m * ((l.length + 1 : Nat) : Int) = m * l.length + m := by rw [Int.natCast_add, Int.mul_add]; simp
    rw [List.length_cons, e] at h1
    have hp : 0 ≤ m * (l.length : Int) := Int.mul_nonneg hm (by omega)
    show sumFrom (wrap64 (s + x)) l = _
    rw [wrap64_id (by omega) (by omega), ih h.2 (s + x) (by omega) hm (by omega), List.sum_cons]
    omega
/-- 0, 1, .., n - 1 -/
def idx (n : Nat) : List Int := (List.range n).map (fun i : Nat => (i : Int))
theorem idx_len (n : Nat) : (idx n).length = n := by simp [idx]
theorem idx_succ (n : Nat) : idx (n + 1) = idx n ++ [(n : Int)] := by simp [idx, List.range_succ]
theorem mem_idx {n : Nat} {i : Int} : i ∈ idx n ↔ 0 ≤ i ∧ i < (n : Int) := by
  unfold idx
  rw [List.mem_map]
  constructor
  · rintro ⟨j, hj, rfl⟩
    have := List.mem_range.1 hj
    omega
  · rintro ⟨h0, h1⟩
    exact ⟨i.toNat, List.mem_range.2 (by omega), by omega⟩
theorem rd_idx (n i : Nat) (h : i < n) : rd (idx n) (i : Int) = i := by
  rw [rd_at _ i (by rw [idx_len]; exact h)]
  simp [idx]
theorem idx_nodup (n : Nat) : (idx n).Nodup := by
  induction n with
  | zero => simp [idx]
  | succ n ih =>
    rw [idx_succ, List.nodup_append]
    refine ⟨ih, by simp, ?_⟩
    intro a ha b hb
    rw [List.mem_singleton] at hb
    have := mem_idx.1 ha
    omega
theorem map_idx (l : List Int) : (idx l.length).map (rd l) = l := by
  apply ext_rd (by simp [idx_len])
  intro i hi
  have hi' : i < l.length := by simpa [idx_len] using hi
  rw [rd_map _ _ i (by rw [idx_len]; exact hi'), rd_idx _ _ hi']

-- FIBREPARTS: fibre.Parts (ours). Behind lists.lean
theorem within_tells (l : List Int) (m : Int) (hl : l.length ≤ 1000) : Tells (fun k => fibre_within.f k l m) (inAll m l) := by
  have lp : ∀ n i k, n < k → i + n = l.length → fibre_all_int__fibre_within_1.l0 k l (l.length : Int) (i : Int) [m] = some (inAll m (l.drop i)) := by
    intro n
    induction n with
    | zero =>
      intro i k hk hi
      obtain ⟨j, rfl⟩ : ∃ j, k = j + 1 := ⟨k - 1, by omega⟩
      unfold fibre_all_int__fibre_within_1.l0
      rw [if_neg (by omega), List.drop_of_length_le (by omega)]
      rfl
    | succ n ih =>
      intro i k hk hi
      obtain ⟨j, rfl⟩ : ∃ j, k = j + 1 := ⟨k - 1, by omega⟩
      unfold fibre_all_int__fibre_within_1.l0
      rw [if_pos (by omega), if_pos (by omega), if_pos (by omega), wrap64_id (n := (i : Int) + 1) (by omega) (by omega), rd_drop l i (by omega)]
      have e : fibre_within_1.f (rd l (i : Int)) [m] = some (decide (0 ≤ rd l (i : Int)) && decide (rd l (i : Int) ≤ m)) := by
        unfold fibre_within_1.f
        by_cases h : rd l (i : Int) ≥ 0
        · have h' : 0 ≤ rd l (i : Int) := h
          rw [if_pos h, if_pos (by simp)]
          rw [decide_eq_true h', Bool.true_and]
          rfl
        · have h' : ¬ 0 ≤ rd l (i : Int) := h
          rw [if_neg h]
          simp [h']
      rw [e]
      show (if _ = true then _ else _) = _
      unfold inAll
      rw [List.all_cons]
      by_cases h : (decide (0 ≤ rd l (i : Int)) && decide (rd l (i : Int) ≤ m)) = true
      · rw [if_pos h, h, Bool.true_and]
        exact ih (i + 1) j (by omega) (by omega)
      · rw [if_neg h, eq_false_of_ne_true h]
        rfl
  refine ⟨l.length + 1, fun k hk => ?_⟩
  show fibre_within.f k l m = _
  unfold fibre_within.f fibre_all_int__fibre_within_1.f
  have := lp l.length 0 k (by omega) (by omega)
  rw [show ((0 : Nat) : Int) = 0 from rfl] at this
  rw [this]
  rfl
def partsS (l : List Int) (n : Int) : Int := if 1 ≤ n ∧ n ≤ 8 ∧ (l.length : Int) = n then (if inAll 1099511627776 l then 0 else 1) else 17
theorem parts_tells (l : List Int) (n : Int) (hl : l.length ≤ 1000) : Tells (fun k => fibre_Parts.f k l n) (partsS l n) := by
  have e : fibre_listed.f l n = some (decide (1 ≤ n ∧ n ≤ 8 ∧ (l.length : Int) = n)) := by
    unfold fibre_listed.f
    by_cases h1 : n ≥ 1
    · by_cases h2 : n ≤ 8
      · have h1' : 1 ≤ n := h1
        rw [if_pos h1, if_pos h2]
        by_cases h3 : (l.length : Int) = n
        · simp [h1', h2, h3]
        · simp [h1', h2, h3]
      · rw [if_pos h1, if_neg h2]; simp [h2]
    · have h1' : ¬ 1 ≤ n := h1
      rw [if_neg h1]; simp [h1']
  refine Tells.congr (g := fun k => if (1 ≤ n ∧ n ≤ 8 ∧ (l.length : Int) = n) then ((fibre_within.f k l 1099511627776).bind fun t => if t = true then some 0 else some 1) else some 17) ?_ (fun k => by
    unfold fibre_Parts.f
    rw [e]
    by_cases h : (1 ≤ n ∧ n ≤ 8 ∧ (l.length : Int) = n)
    · rw [if_pos h]; simp only [Option.bind_some, decide_eq_true h, if_true]
    · rw [if_neg h]; simp only [Option.bind_some, decide_eq_false h, Bool.false_eq_true, if_false])
  unfold partsS
  refine Tells.ite (fun h => ?_) (fun h => Tells.const 17)
  refine Tells.bind (within_tells l _ hl) ?_
  exact Tells.ite (fun _ => Tells.const 0) (fun _ => Tells.const 1)

-- PSUM (ours)
theorem psum_tells (l : List Int) (hl : l.length ≤ 1000) : Tells (fun k => pipe_sum.f k l) (sumFrom 0 l) := by
  have lp : ∀ n i k s, n < k → i + n = l.length → pipe_sum.l0 k s l (l.length : Int) (i : Int) = some (sumFrom s (l.drop i)) := by
    intro n
    induction n with
    | zero =>
      intro i k s hk hi
      obtain ⟨m, rfl⟩ : ∃ m, k = m + 1 := ⟨k - 1, by omega⟩
      unfold pipe_sum.l0
      rw [if_neg (by omega), List.drop_of_length_le (by omega)]
      rfl
    | succ n ih =>
      intro i k s hk hi
      obtain ⟨m, rfl⟩ : ∃ m, k = m + 1 := ⟨k - 1, by omega⟩
      unfold pipe_sum.l0
      rw [if_pos (by omega), if_pos (by omega), if_pos (by omega), wrap64_id (n := (i : Int) + 1) (by omega) (by omega), rd_drop l i (by omega)]
      exact ih (i + 1) m _ (by omega) (by omega)
  refine ⟨l.length + 1, fun k hk => ?_⟩
  show pipe_sum.f k l = _
  unfold pipe_sum.f
  exact lp l.length 0 k 0 (by omega) (by omega)

-- SUM16: (ours)
theorem sum16_tells (l : List Int) (hl : l.length ≤ 1000) : Tells (fun k => papermillref16_Sum.f k l) (sumFrom 0 l) := by
  have lp : ∀ n i k s, n < k → i + n = l.length → papermillref16_Sum.l0 k l s (i : Int) = some (sumFrom s (l.drop i)) := by
    intro n
    induction n with
    | zero =>
      intro i k s hk hi
      obtain ⟨m, rfl⟩ : ∃ m, k = m + 1 := ⟨k - 1, by omega⟩
      unfold papermillref16_Sum.l0
      rw [if_neg (by omega), List.drop_of_length_le (by omega)]
      rfl
    | succ n ih =>
      intro i k s hk hi
      obtain ⟨m, rfl⟩ : ∃ m, k = m + 1 := ⟨k - 1, by omega⟩
      unfold papermillref16_Sum.l0
      rw [if_pos (by omega), if_pos (by omega), wrap64_id (n := (i : Int) + 1) (by omega) (by omega), rd_drop l i (by omega)]
      exact ih (i + 1) m _ (by omega) (by omega)
  refine ⟨l.length + 1, fun k hk => ?_⟩
  show papermillref16_Sum.f k l = _
  unfold papermillref16_Sum.f
  exact lp l.length 0 k 0 (by omega) (by omega)

-- REF16PARTS: the reference's lists of masses (ours). Behind lists.lean and fibreparts.
theorem list16_tells (l : List Int) (n m : Int) (hl : l.length ≤ 1000000) : Tells (fun k => papermillref16_list.f k l n m) (if 1 ≤ n ∧ n ≤ 8 ∧ (l.length : Int) = n then (if inAll m l then 0 else 1) else 17) := by
  have lp : ∀ d i, i + d = l.length → Tells (fun k => papermillref16_list.l0 k l m (i : Int)) (if inAll m (l.drop i) then 0 else 1) := by
    intro d
    induction d with
    | zero =>
      intro i hi
      refine Tells.up (g := fun _ => some 0) ?_ (fun k => by
        rw [papermillref16_list.l0]
        rw [if_neg (by omega)])
      rw [List.drop_of_length_le (by omega)]
      exact Tells.const _
    | succ d ih =>
      intro i hi
      refine Tells.up (g := fun k => if rd l (i : Int) < 0 then some 1 else if rd l (i : Int) > m then some 1 else papermillref16_list.l0 k l m ((i + 1 : Nat) : Int)) ?_ (fun k => by
        rw [papermillref16_list.l0]
        rw [if_pos (by omega), if_pos (by omega), wrap64_id (n := (i : Int) + 1) (by omega) (by omega)]
        rfl)
      rw [rd_drop l i (by omega), inAll_cons]
      by_cases h1 : rd l (i : Int) < 0
      · rw [decide_eq_false (p := 0 ≤ rd l (i : Int)) (by omega)]
        exact Tells.pos h1 (Tells.const 1)
      by_cases h2 : rd l (i : Int) > m
      · rw [decide_eq_false (p := rd l (i : Int) ≤ m) (by omega), Bool.and_false]
        exact Tells.neg h1 (Tells.pos h2 (Tells.const 1))
      rw [decide_eq_true (p := 0 ≤ rd l (i : Int)) (by omega), decide_eq_true (p := rd l (i : Int) ≤ m) (by omega)]
      exact Tells.neg h1 (Tells.neg h2 (ih (i + 1) (by omega)))
  have hj : ∀ b : Bool, b = decide (¬ (1 ≤ n ∧ n ≤ 8 ∧ (l.length : Int) = n)) → Tells (fun k => papermillref16_list.j0 k l m b) (if 1 ≤ n ∧ n ≤ 8 ∧ (l.length : Int) = n then (if inAll m l then 0 else 1) else 17) := by
    intro b hb
    refine Tells.up (g := fun k => if b = true then some 17 else papermillref16_list.l0 k l m ((0 : Nat) : Int)) ?_ (fun k => by rw [papermillref16_list.j0]; rfl)
    by_cases h : 1 ≤ n ∧ n ≤ 8 ∧ (l.length : Int) = n
    · rw [if_pos h]
      refine Tells.neg (by rw [hb]; simpa using h) ?_
      exact lp l.length 0 (by omega)
    · rw [if_neg h]
      exact Tells.pos (by rw [hb]; exact decide_eq_true h) (Tells.const _)
  by_cases h1 : n < 1
  · refine Tells.congr (hj true (by rw [decide_eq_true (p := ¬ (1 ≤ n ∧ n ≤ 8 ∧ (l.length : Int) = n)) (by omega)])) (fun k => ?_)
    unfold papermillref16_list.f
    rw [if_pos h1]
  by_cases h2 : n > 8
  · refine Tells.congr (hj true (by rw [decide_eq_true (p := ¬ (1 ≤ n ∧ n ≤ 8 ∧ (l.length : Int) = n)) (by omega)])) (fun k => ?_)
    unfold papermillref16_list.f
    rw [if_neg h1, if_pos h2]
  · refine Tells.congr (hj ((l.length : Int) != n) ?_) (fun k => ?_)
    · by_cases h3 : (l.length : Int) = n
      · rw [decide_eq_false (p := ¬ (1 ≤ n ∧ n ≤ 8 ∧ (l.length : Int) = n)) (by omega)]; simp [h3]
      · rw [decide_eq_true (p := ¬ (1 ≤ n ∧ n ≤ 8 ∧ (l.length : Int) = n)) (by omega)]; simp [h3]
    unfold papermillref16_list.f
    rw [if_neg h1, if_neg h2]
theorem parts16_tells (l : List Int) (n : Int) (hl : l.length ≤ 1000000) : Tells (fun k => papermillref16_Parts.f k l n) (partsS l n) := by
  refine Tells.congr (g := fun k => (papermillref16_list.f k l n 1099511627776).bind fun t => some t) ?_ (fun k => by unfold papermillref16_Parts.f; rfl)
  exact Tells.bind (list16_tells l n _ hl) (Tells.const _)

-- PIPECHECK: pipes (ours; rd_L1: this seat's lists of lists). Behind fibreparts, psum
theorem rdL_drop (l : List (List Int)) (i : Nat) (h : i < l.length) : l.drop i = rd_L1 l (i : Int) :: l.drop (i + 1) := by
  rw [List.drop_eq_getElem_cons h]
  congr 1
  show l[i] = l.getD (i : Int).toNat []
  simp [h]
theorem rdL_mem (l : List (List Int)) (i : Nat) (h : i < l.length) : rd_L1 l (i : Int) ∈ l := by
  have := rdL_drop l i h
  have hm : rd_L1 l (i : Int) ∈ l.drop i := by rw [this]; exact List.mem_cons_self
  exact List.mem_of_mem_drop hm

-- AWAKE19
theorem awake_tells : Tells (fun k => papermilllaw19_awake.f k) true := Tells.of (fun k => papermilllaw19_awake.mono k) ⟨200, by decide +kernel⟩

-- SAME (ours)
theorem same16 (l : List Int) (hl : l.length ≤ 1000) : Tells (fun k => papermillref16_Same.f k l l) true := by
  have lp : ∀ n i k, n < k → i + n = l.length → papermillref16_Same.l0 k l l (i : Int) = some true := by
    intro n
    induction n with
    | zero =>
      intro i k hk hi
      obtain ⟨m, rfl⟩ : ∃ m, k = m + 1 := ⟨k - 1, by omega⟩
      unfold papermillref16_Same.l0
      rw [if_neg (by omega)]
    | succ n ih =>
      intro i k hk hi
      obtain ⟨m, rfl⟩ : ∃ m, k = m + 1 := ⟨k - 1, by omega⟩
      unfold papermillref16_Same.l0
      rw [if_pos (by omega), if_pos (by omega), if_pos (by omega), if_pos rfl, wrap64_id (by omega) (by omega)]
      exact ih (i + 1) m (by omega) (by omega)
  refine ⟨l.length + 1, fun k hk => ?_⟩
  show papermillref16_Same.f k l l = some true
  unfold papermillref16_Same.f
  rw [if_pos rfl]
  exact lp l.length 0 k (by omega) (by omega)

-- PIPESAME (ours)
theorem same19 (h : Int) (l : List (List Int)) (hl : l.length ≤ 1000) (hx : ∀ x ∈ l, x.length ≤ 1000) : Tells (fun k => papermillref19_Same.f k h l h l) true := by
  have lp : ∀ d i, i + d = l.length → Tells (fun k => papermillref19_Same.l0 k (i : Int) h l h l) true := by
    intro d
    induction d with
    | zero =>
      intro i hi
      refine Tells.up (Tells.const _) (fun k => ?_)
      rw [papermillref19_Same.l0]
      rw [if_neg (by omega)]
    | succ d ih =>
      intro i hi
      refine Tells.up (g := fun k => (papermillref16_Same.f k (rd_L1 l (i : Int)) (rd_L1 l (i : Int))).bind fun t => if t = true then papermillref19_Same.l0 k ((i + 1 : Nat) : Int) h l h l else some false) ?_ (fun k => by
        rw [papermillref19_Same.l0]
        rw [if_pos (by omega), if_pos (by omega), if_pos (by omega), wrap64_id (n := (i : Int) + 1) (by omega) (by omega)]
        rfl)
      exact Tells.bind (same16 _ (hx _ (rdL_mem l i (by omega)))) (Tells.pos rfl (ih (i + 1) (by omega)))
  refine Tells.congr (g := fun k => papermillref19_Same.j0 k false h l h l) ?_ (fun k => by
    unfold papermillref19_Same.f
    rw [if_pos rfl]
    congr 1
    simp)
  refine Tells.up (lp l.length 0 (by omega)) (fun k => ?_)
  rw [papermillref19_Same.j0]
  rw [if_neg (by simp)]
  rfl

-- PIPECOPIED (ours)
theorem copied_val (l : List Int) (hl : l.length ≤ 1000) : pipe_copied.f l = some l := by
  have hc : ∃ q, copy_int.f (List.replicate l.length 0) l = some (q, l) := by
    unfold copy_int.f
    simp
  obtain ⟨q, hc⟩ := hc
  unfold pipe_copied.f
  rw [if_pos (by omega), if_pos (by omega), Int.toNat_natCast, hc]
  rfl

def newP (l : List Int) : Int × List (List Int) × Int := if partsS l (l.length : Int) = 0 then (if sumFrom 0 l = 0 then (0, [], 10) else if sumFrom 0 l > 1099511627776 then (0, [], 1) else (sumFrom 0 l, [l], 0)) else (0, [], partsS l (l.length : Int))
theorem newP_tells (l : List Int) (hl : l.length ≤ 1000) : Tells (fun k => pipe_New.f k l) (newP l) := by
  refine Tells.congr (g := fun k => (fibre_Parts.f k l (l.length : Int)).bind fun t => if t = 0 then ((pipe_sum.f k l).bind fun t => if t = 0 then some (0, [], 10) else if t > 1099511627776 then some (0, [], 1) else some (t, [l], 0)) else some (0, [], t)) ?_ (fun k => by
    unfold pipe_New.f
    rw [copied_val l hl]
    rfl)
  unfold newP
  refine Tells.bind (parts_tells l _ hl) (Tells.ite (fun _ => ?_) (fun _ => Tells.const _))
  refine Tells.bind (psum_tells l hl) (Tells.ite (fun _ => Tells.const _) (fun _ => Tells.ite (fun _ => Tells.const _) (fun _ => Tells.const _)))
theorem newP19_tells (l : List Int) (hl : l.length ≤ 1000) : Tells (fun k => papermillref19_New.f k l) (newP l) := by
  refine Tells.congr (g := fun k => (papermillref16_Total.f k l).bind fun b => if b.2 = 0 then (if b.1 = 0 then some (0, [], 10) else if b.1 > 1099511627776 then some (0, [], 1) else some (b.1, [l], 0)) else some (0, [], b.2)) ?_ (fun k => by
    unfold papermillref19_New.f
    congr 1; funext b
    have e : ((some ([] : List Int)).bind fun y405 => if y405.length + l.length < 17592186044416 then some (b.1, [y405 ++ l], (0 : Int)) else none) = some (b.1, [l], 0) := by
      show (if ([] : List Int).length + l.length < 17592186044416 then some (b.1, [[] ++ l], (0 : Int)) else none) = _
      rw [if_pos (by simp; omega)]
      rfl
    rw [e])
  refine Tells.bind (r := if partsS l (l.length : Int) = 0 then (sumFrom 0 l, 0) else (0, partsS l (l.length : Int))) ?_ ?_
  · refine Tells.congr (g := fun k => (papermillref16_Parts.f k l (l.length : Int)).bind fun t => if t = 0 then ((papermillref16_Sum.f k l).bind fun s => some (s, 0)) else some (0, t)) ?_ (fun k => by unfold papermillref16_Total.f; rfl)
    refine Tells.bind (parts16_tells l _ (by omega)) ?_
    exact Tells.ite (fun _ => Tells.bind (sum16_tells l hl) (Tells.const _)) (fun _ => Tells.const _)
  · unfold newP
    by_cases c : partsS l (l.length : Int) = 0
    · rw [if_pos c, if_pos c]
      refine Tells.pos rfl (Tells.ite (fun _ => Tells.const _) (fun _ => Tells.ite (fun _ => Tells.const _) (fun _ => Tells.const _)))
    · simp only [if_neg c]
      exact Tells.const _
theorem PipeNews : papermilllaw19_PipeNews.Pure := by
  intro l _ _ _
  apply Tells.get
  refine Tells.congr (g := fun k => if (l.length : Int) > 20 then ((papermilllaw19_awake.f k).bind fun t => some t) else ((pipe_New.f k l).bind fun a => (papermillref19_New.f k l).bind fun b => (papermillref19_Same.f k a.1 a.2.1 b.1 b.2.1).bind fun t => if t = true then (if a.2.2 = b.2.2 then ((papermilllaw19_awake.f k).bind fun t => some t) else none) else none)) ?_ (fun k => by unfold papermilllaw19_PipeNews.f; rfl)
  by_cases c : (l.length : Int) > 20
  · exact Tells.pos c (Tells.bind awake_tells (Tells.const true))
  · refine Tells.neg c (Tells.bind (newP_tells l (by omega)) (Tells.bind (newP19_tells l (by omega)) (Tells.bind (same19 _ _ ?_ ?_) (Tells.pos rfl (Tells.pos rfl ?_)))))
    · unfold newP; repeat' split
      all_goals simp
    · unfold newP; repeat' split
      all_goals simp
      omega
    · exact Tells.bind awake_tells (Tells.const true)

end Go.Proofs.Ytpnfdhhfdidlmaa.Pure
