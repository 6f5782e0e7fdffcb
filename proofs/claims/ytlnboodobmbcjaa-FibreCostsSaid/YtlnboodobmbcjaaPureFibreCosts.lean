import Derived.Test.YtlnboodobmbcjaaPrint28
namespace Go.Proofs.Ytlnboodobmbcjaa.Pure
open Go.RowKit Go.Proofs.Ytlnboodobmbcjaa.Print Go.Proofs.YtlnboodobmbcjaaW.PrintWords Go.Proofs.YtlnboodobmbcjaaW.PrintLast
set_option linter.unusedVariables false
set_option linter.unusedSimpArgs false

-- TELLS: what a printed function tells from some number of rounds on (ours; Ytlnboodobmbcjaa: the seat's name). Pasted at the head of a Pure text.
/-- From some number of rounds on f tells r. -/
def Tells {α : Type} (f : Nat → Option α) (r : α) : Prop := ∃ K, ∀ k, K ≤ k → f k = some r
namespace Tells
theorem leO {α : Type} {f : Nat → Option α} (hm : ∀ k, LeO (f k) (f (k + 1))) {K : Nat} {r : α} (h : f K = some r) : ∀ k, K ≤ k → f k = some r := by
  intro k hk
  induction hk with
  | refl => exact h
  | step _ ih => exact hm _ _ ih
theorem of {α : Type} {f : Nat → Option α} (hm : ∀ k, LeO (f k) (f (k + 1))) {r : α} (h : ∃ K, f K = some r) : Tells f r := by
  obtain ⟨K, h⟩ := h
  exact ⟨K, leO hm h⟩
theorem get {α : Type} {f : Nat → Option α} {r : α} (h : Tells f r) : ∃ k, f k = some r := by
  obtain ⟨K, h⟩ := h
  exact ⟨K, h K (Nat.le_refl K)⟩
theorem const {α : Type} (r : α) : Tells (fun _ => some r) r := ⟨0, fun _ _ => rfl⟩
theorem bind {α β : Type} {f : Nat → Option α} {g : Nat → α → Option β} {r : α} {s : β} (h : Tells f r) (h' : Tells (fun k => g k r) s) : Tells (fun k => (f k).bind (g k)) s := by
  obtain ⟨K, h⟩ := h
  obtain ⟨K', h'⟩ := h'
  refine ⟨max K K', fun k hk => ?_⟩
  show (f k).bind (g k) = some s
  rw [h k (by omega)]
  exact h' k (by omega)
theorem congr {α : Type} {f g : Nat → Option α} {r : α} (h : Tells g r) (e : ∀ k, f k = g k) : Tells f r := by
  obtain ⟨K, h⟩ := h
  exact ⟨K, fun k hk => (e k).trans (h k hk)⟩
theorem up {α : Type} {f g : Nat → Option α} {r : α} (h : Tells g r) (e : ∀ k, f (k + 1) = g k) : Tells f r := by
  obtain ⟨K, h⟩ := h
  refine ⟨K + 1, fun k hk => ?_⟩
  obtain ⟨m, rfl⟩ : ∃ m, k = m + 1 := ⟨k - 1, by omega⟩
  exact (e m).trans (h m (by omega))
theorem ite {α : Type} {c : Prop} [Decidable c] {f g : Nat → Option α} {r s : α} (h : c → Tells f r) (h' : ¬ c → Tells g s) : Tells (fun k => if c then f k else g k) (if c then r else s) := by
  by_cases hc : c
  · simp only [if_pos hc]; exact h hc
  · simp only [if_neg hc]; exact h' hc
theorem pos {α : Type} {c : Prop} [Decidable c] {f g : Nat → Option α} {r : α} (hc : c) (h : Tells f r) : Tells (fun k => if c then f k else g k) r := by
  simp only [if_pos hc]; exact h
theorem neg {α : Type} {c : Prop} [Decidable c] {f g : Nat → Option α} {r : α} (hc : ¬ c) (h : Tells g r) : Tells (fun k => if c then f k else g k) r := by
  simp only [if_neg hc]; exact h
end Tells
theorem wrap64_id {n : Int} (h0 : -9223372036854775808 ≤ n) (h1 : n < 9223372036854775808) : wrap64 n = n := by
  unfold wrap64; omega
theorem wf64 {n : Int} (h : (Lit.int .i64 n).wf = true) : -9223372036854775808 ≤ n ∧ n < 9223372036854775808 := by
  have h' : (decide (-9223372036854775808 ≤ n) && decide (n ≤ 9223372036854775807)) = true := h
  simp only [Bool.and_eq_true, decide_eq_true_eq] at h'
  omega

-- LISTS: what the printed texts' lists come to (ours). Behind tells.lean.
theorem rd_drop (l : List Int) (i : Nat) (h : i < l.length) : l.drop i = rd l (i : Int) :: l.drop (i + 1) := by
  rw [List.drop_eq_getElem_cons h]
  congr 1
  show l[i] = l.getD (i : Int).toNat 0
  simp [h]
theorem rd_at (l : List Int) (i : Nat) (h : i < l.length) : rd l (i : Int) = l[i] := by
  show l.getD (i : Int).toNat 0 = _
  simp [h]
theorem rd_mid (A : List Int) (x : Int) (B : List Int) : rd (A ++ x :: B) (A.length : Int) = x := by
  show (A ++ x :: B).getD (A.length : Int).toNat 0 = x
  simp
theorem rd_mid' {l A : List Int} {x : Int} {B : List Int} {i : Int} (h : l = A ++ x :: B) (hi : i = (A.length : Int)) : rd l i = x := by
  subst h hi; exact rd_mid A x B
theorem set_mid (A : List Int) (x v : Int) (B : List Int) : (A ++ x :: B).set ((A.length : Int)).toNat v = A ++ v :: B := by simp
theorem set_mid' {l A : List Int} {x v : Int} {B : List Int} {i : Int} (h : l = A ++ x :: B) (hi : i = (A.length : Int)) : l.set i.toNat v = A ++ v :: B := by
  subst h hi; exact set_mid A x v B
theorem rd_mem (l : List Int) (i : Int) (h0 : 0 ≤ i) (h : i < (l.length : Int)) : rd l i ∈ l := by
  obtain ⟨j, rfl⟩ : ∃ j : Nat, i = (j : Int) := ⟨i.toNat, by omega⟩
  rw [rd_at l j (by omega)]
  exact List.getElem_mem _
theorem ext_rd {a b : List Int} (hl : a.length = b.length) (h : ∀ i : Nat, i < a.length → rd a (i : Int) = rd b (i : Int)) : a = b := by
  apply List.ext_getElem hl
  intro i h1 h2
  have := h i h1
  rwa [rd_at a i h1, rd_at b i h2] at this
theorem rd_map (f : Int → Int) (l : List Int) (i : Nat) (h : i < l.length) : rd (l.map f) (i : Int) = f (rd l (i : Int)) := by
  rw [rd_at _ i (by simpa using h), rd_at l i h]
  simp
theorem rd_set (l : List Int) (i j : Nat) (v : Int) (h : j < l.length) : rd (l.set i v) (j : Int) = if i = j then v else rd l (j : Int) := by
  rw [rd_at _ j (by simpa using h), rd_at l j h, List.getElem_set]
theorem rd_replicate (n i : Nat) (v : Int) (h : i < n) : rd (List.replicate n v) (i : Int) = v := by
  rw [rd_at _ i (by simpa using h)]
  simp
/-- The sum, as the program adds it up. -/
def sumFrom (s : Int) : List Int → Int
  | [] => s
  | x :: l => sumFrom (wrap64 (s + x)) l
/-- All from 0 to most. -/
def inAll (most : Int) (l : List Int) : Bool := l.all fun x => decide (0 ≤ x) && decide (x ≤ most)
theorem inAll_iff {m : Int} {l : List Int} : inAll m l = true ↔ ∀ x ∈ l, 0 ≤ x ∧ x ≤ m := by
  unfold inAll
  simp [List.all_eq_true, Bool.and_eq_true, decide_eq_true_eq]
theorem inAll_cons {m x : Int} {l : List Int} : inAll m (x :: l) = ((decide (0 ≤ x) && decide (x ≤ m)) && inAll m l) := rfl
theorem sum_bounds {m : Int} {l : List Int} (h : inAll m l = true) : 0 ≤ l.sum ∧ l.sum ≤ m * l.length := by
  induction l with
  | nil => simp
  | cons x l ih =>
    rw [inAll_cons, Bool.and_eq_true, Bool.and_eq_true, decide_eq_true_eq, decide_eq_true_eq] at h
    have := ih h.2
    rw [List.sum_cons, List.length_cons]
    have e : m * ((l.length + 1 : Nat) : Int) = m * l.length + m := by rw [Int.natCast_add, Int.mul_add]; simp
    omega
theorem sum_mem_le {m : Int} {l : List Int} (h : inAll m l = true) : ∀ x ∈ l, x ≤ l.sum := by
  induction l with
  | nil => simp
  | cons y l ih =>
    have h' := h
    rw [inAll_cons, Bool.and_eq_true, Bool.and_eq_true, decide_eq_true_eq, decide_eq_true_eq] at h'
    have hb := sum_bounds h'.2
    intro x hx
    rw [List.sum_cons]
    rcases List.mem_cons.1 hx with rfl | hx
    · omega
    · have := ih h'.2 x hx; omega
theorem sumFrom_eq {m : Int} (l : List Int) (h : inAll m l = true) : ∀ s, 0 ≤ s → 0 ≤ m → s + m * l.length < 9223372036854775808 → sumFrom s l = s + l.sum := by
  induction l with
  | nil => intro s _ _ _; simp [sumFrom]
  | cons x l ih =>
    intro s h0 hm h1
    rw [inAll_cons, Bool.and_eq_true, Bool.and_eq_true, decide_eq_true_eq, decide_eq_true_eq] at h
    have e : m * ((l.length + 1 : Nat) : Int) = m * l.length + m := by rw [Int.natCast_add, Int.mul_add]; simp
    rw [List.length_cons, e] at h1
    have hp : 0 ≤ m * (l.length : Int) := Int.mul_nonneg hm (by omega)
    show sumFrom (wrap64 (s + x)) l = _
    rw [wrap64_id (by omega) (by omega), ih h.2 (s + x) (by omega) hm (by omega), List.sum_cons]
    omega
/-- 0, 1, .., n - 1 -/
def idx (n : Nat) : List Int := (List.range n).map (fun i : Nat => (i : Int))
theorem idx_len (n : Nat) : (idx n).length = n := by simp [idx]
theorem idx_succ (n : Nat) : idx (n + 1) = idx n ++ [(n : Int)] := by simp [idx, List.range_succ]
theorem mem_idx {n : Nat} {i : Int} : i ∈ idx n ↔ 0 ≤ i ∧ i < (n : Int) := by
  unfold idx
  rw [List.mem_map]
  constructor
  · rintro ⟨j, hj, rfl⟩
    have := List.mem_range.1 hj
    omega
  · rintro ⟨h0, h1⟩
    exact ⟨i.toNat, List.mem_range.2 (by omega), by omega⟩
theorem rd_idx (n i : Nat) (h : i < n) : rd (idx n) (i : Int) = i := by
  rw [rd_at _ i (by rw [idx_len]; exact h)]
  simp [idx]
theorem idx_nodup (n : Nat) : (idx n).Nodup := by
  induction n with
  | zero => simp [idx]
  | succ n ih =>
    rw [idx_succ, List.nodup_append]
    refine ⟨ih, by simp, ?_⟩
    intro a ha b hb
    rw [List.mem_singleton] at hb
    have := mem_idx.1 ha
    omega
theorem map_idx (l : List Int) : (idx l.length).map (rd l) = l := by
  apply ext_rd (by simp [idx_len])
  intro i hi
  have hi' : i < l.length := by simpa [idx_len] using hi
  rw [rd_map _ _ i (by rw [idx_len]; exact hi'), rd_idx _ _ hi']

-- FIBREPARTS: fibre.Parts (ours). Behind lists.lean
theorem within_tells (l : List Int) (m : Int) (hl : l.length ≤ 1000) : Tells (fun k => fibre_within.f k l m) (inAll m l) := by
  have lp : ∀ n i k, n < k → i + n = l.length → fibre_all_int__fibre_within_1.l0 k l (l.length : Int) (i : Int) [m] = some (inAll m (l.drop i)) := by
    intro n
    induction n with
    | zero =>
      intro i k hk hi
      obtain ⟨j, rfl⟩ : ∃ j, k = j + 1 := ⟨k - 1, by omega⟩
      unfold fibre_all_int__fibre_within_1.l0
      rw [if_neg (by omega), List.drop_of_length_le (by omega)]
      rfl
    | succ n ih =>
      intro i k hk hi
      obtain ⟨j, rfl⟩ : ∃ j, k = j + 1 := ⟨k - 1, by omega⟩
      unfold fibre_all_int__fibre_within_1.l0
      rw [if_pos (by omega), if_pos (by omega), if_pos (by omega), wrap64_id (n := (i : Int) + 1) (by omega) (by omega), rd_drop l i (by omega)]
      have e : fibre_within_1.f (rd l (i : Int)) [m] = some (decide (0 ≤ rd l (i : Int)) && decide (rd l (i : Int) ≤ m)) := by
        unfold fibre_within_1.f
        by_cases h : rd l (i : Int) ≥ 0
        · have h' : 0 ≤ rd l (i : Int) := h
          rw [if_pos h, if_pos (by simp)]
          rw [decide_eq_true h', Bool.true_and]
          rfl
        · have h' : ¬ 0 ≤ rd l (i : Int) := h
          rw [if_neg h]
          simp [h']
      rw [e]
      show (if _ = true then _ else _) = _
      unfold inAll
      rw [List.all_cons]
      by_cases h : (decide (0 ≤ rd l (i : Int)) && decide (rd l (i : Int) ≤ m)) = true
      · rw [if_pos h, h, Bool.true_and]
        exact ih (i + 1) j (by omega) (by omega)
      · rw [if_neg h, eq_false_of_ne_true h]
        rfl
  refine ⟨l.length + 1, fun k hk => ?_⟩
  show fibre_within.f k l m = _
  unfold fibre_within.f fibre_all_int__fibre_within_1.f
  have := lp l.length 0 k (by omega) (by omega)
  rw [show ((0 : Nat) : Int) = 0 from rfl] at this
  rw [this]
  rfl
def partsS (l : List Int) (n : Int) : Int := if 1 ≤ n ∧ n ≤ 8 ∧ (l.length : Int) = n then (if inAll 1099511627776 l then 0 else 1) else 17
theorem parts_tells (l : List Int) (n : Int) (hl : l.length ≤ 1000) : Tells (fun k => fibre_Parts.f k l n) (partsS l n) := by
  have e : fibre_listed.f l n = some (decide (1 ≤ n ∧ n ≤ 8 ∧ (l.length : Int) = n)) := by
    unfold fibre_listed.f
    by_cases h1 : n ≥ 1
    · by_cases h2 : n ≤ 8
      · have h1' : 1 ≤ n := h1
        rw [if_pos h1, if_pos h2]
        by_cases h3 : (l.length : Int) = n
        · simp [h1', h2, h3]
        · simp [h1', h2, h3]
      · rw [if_pos h1, if_neg h2]; simp [h2]
    · have h1' : ¬ 1 ≤ n := h1
      rw [if_neg h1]; simp [h1']
  refine Tells.congr (g := fun k => if (1 ≤ n ∧ n ≤ 8 ∧ (l.length : Int) = n) then ((fibre_within.f k l 1099511627776).bind fun t => if t = true then some 0 else some 1) else some 17) ?_ (fun k => by
    unfold fibre_Parts.f
    rw [e]
    by_cases h : (1 ≤ n ∧ n ≤ 8 ∧ (l.length : Int) = n)
    · rw [if_pos h]; simp only [Option.bind_some, decide_eq_true h, if_true]
    · rw [if_neg h]; simp only [Option.bind_some, decide_eq_false h, Bool.false_eq_true, if_false])
  unfold partsS
  refine Tells.ite (fun h => ?_) (fun h => Tells.const 17)
  refine Tells.bind (within_tells l _ hl) ?_
  exact Tells.ite (fun _ => Tells.const 0) (fun _ => Tells.const 1)

-- REF16PARTS: the reference's lists of masses (ours). Behind lists.lean and fibreparts.
theorem list16_tells (l : List Int) (n m : Int) (hl : l.length ≤ 1000000) : Tells (fun k => papermillref16_list.f k l n m) (if 1 ≤ n ∧ n ≤ 8 ∧ (l.length : Int) = n then (if inAll m l then 0 else 1) else 17) := by
  have lp : ∀ d i, i + d = l.length → Tells (fun k => papermillref16_list.l0 k l m (i : Int)) (if inAll m (l.drop i) then 0 else 1) := by
    intro d
    induction d with
    | zero =>
      intro i hi
      refine Tells.up (g := fun _ => some 0) ?_ (fun k => by
        rw [papermillref16_list.l0]
        rw [if_neg (by omega)])
      rw [List.drop_of_length_le (by omega)]
      exact Tells.const _
    | succ d ih =>
      intro i hi
      refine Tells.up (g := fun k => if rd l (i : Int) < 0 then some 1 else if rd l (i : Int) > m then some 1 else papermillref16_list.l0 k l m ((i + 1 : Nat) : Int)) ?_ (fun k => by
        rw [papermillref16_list.l0]
        rw [if_pos (by omega), if_pos (by omega), wrap64_id (n := (i : Int) + 1) (by omega) (by omega)]
        rfl)
      rw [rd_drop l i (by omega), inAll_cons]
      by_cases h1 : rd l (i : Int) < 0
      · rw [decide_eq_false (p := 0 ≤ rd l (i : Int)) (by omega)]
        exact Tells.pos h1 (Tells.const 1)
      by_cases h2 : rd l (i : Int) > m
      · rw [decide_eq_false (p := rd l (i : Int) ≤ m) (by omega), Bool.and_false]
        exact Tells.neg h1 (Tells.pos h2 (Tells.const 1))
      rw [decide_eq_true (p := 0 ≤ rd l (i : Int)) (by omega), decide_eq_true (p := rd l (i : Int) ≤ m) (by omega)]
      exact Tells.neg h1 (Tells.neg h2 (ih (i + 1) (by omega)))
  have hj : ∀ b : Bool, b = decide (¬ (1 ≤ n ∧ n ≤ 8 ∧ (l.length : Int) = n)) → Tells (fun k => papermillref16_list.j0 k l m b) (if 1 ≤ n ∧ n ≤ 8 ∧ (l.length : Int) = n then (if inAll m l then 0 else 1) else 17) := by
    intro b hb
    refine Tells.up (g := fun k => if b = true then some 17 else papermillref16_list.l0 k l m ((0 : Nat) : Int)) ?_ (fun k => by rw [papermillref16_list.j0]; rfl)
    by_cases h : 1 ≤ n ∧ n ≤ 8 ∧ (l.length : Int) = n
    · rw [if_pos h]
      refine Tells.neg (by rw [hb]; simpa using h) ?_
      exact lp l.length 0 (by omega)
    · rw [if_neg h]
      exact Tells.pos (by rw [hb]; exact decide_eq_true h) (Tells.const _)
  by_cases h1 : n < 1
  · refine Tells.congr (hj true (by rw [decide_eq_true (p := ¬ (1 ≤ n ∧ n ≤ 8 ∧ (l.length : Int) = n)) (by omega)])) (fun k => ?_)
    unfold papermillref16_list.f
    rw [if_pos h1]
  by_cases h2 : n > 8
  · refine Tells.congr (hj true (by rw [decide_eq_true (p := ¬ (1 ≤ n ∧ n ≤ 8 ∧ (l.length : Int) = n)) (by omega)])) (fun k => ?_)
    unfold papermillref16_list.f
    rw [if_neg h1, if_pos h2]
  · refine Tells.congr (hj ((l.length : Int) != n) ?_) (fun k => ?_)
    · by_cases h3 : (l.length : Int) = n
      · rw [decide_eq_false (p := ¬ (1 ≤ n ∧ n ≤ 8 ∧ (l.length : Int) = n)) (by omega)]; simp [h3]
      · rw [decide_eq_true (p := ¬ (1 ≤ n ∧ n ≤ 8 ∧ (l.length : Int) = n)) (by omega)]; simp [h3]
    unfold papermillref16_list.f
    rw [if_neg h1, if_neg h2]
theorem parts16_tells (l : List Int) (n : Int) (hl : l.length ≤ 1000000) : Tells (fun k => papermillref16_Parts.f k l n) (partsS l n) := by
  refine Tells.congr (g := fun k => (papermillref16_list.f k l n 1099511627776).bind fun t => some t) ?_ (fun k => by unfold papermillref16_Parts.f; rfl)
  exact Tells.bind (list16_tells l n _ hl) (Tells.const _)

-- PARTSLEN (ours)
theorem partsS_len {m : List Int} {n : Int} (h : partsS m n = 0) : 1 ≤ n ∧ n ≤ 8 ∧ (m.length : Int) = n ∧ inAll 1099511627776 m = true := by
  unfold partsS at h
  split at h
  · rename_i h1
    split at h
    · rename_i h2; exact ⟨h1.1, h1.2.1, h1.2.2, h2⟩
    · simp at h
  · simp at h

-- REF01: the reference's MulDiv, of numbers that are not negative (ours). Behind share.lean (and1 of divide12 is pasted here)
theorem and1' (x : Int) (h0 : 0 ≤ x) (h1 : x < 4611686018427387904) : Go.bits .and .i64 x 1 = x % 2 := by
  have h := bits_mask .i64 62 (by decide) (fun n a b => by rw [IntKind.wrap_i64]; omega) 1 (by decide) x h0 (by simpa using h1)
  simpa using h
theorem divide01_tells (a b c : Int) (ha0 : 0 ≤ a) (ha : a ≤ 1125899906842624) (hb0 : 0 ≤ b) (hb : b ≤ 1125899906842624) (hc1 : 1 ≤ c) (hc : c ≤ 1125899906842624) (hq : a * b / c ≤ 4503599627370496) : Tells (fun k => papermillref01_divide.f k a b c) (a * b / c, a * b % c) := by
  have lp : ∀ (j : Nat), j ≤ 51 → Tells (fun k => papermillref01_divide.l0 k a b c (a / 2 ^ j * b / c) (a / 2 ^ j * b % c) ((j : Int) - 1)) (a * b / c, a * b % c) := by
    intro j
    induction j with
    | zero =>
      intro _
      refine Tells.up (g := fun _ => some (a * b / c, a * b % c)) (Tells.const _) (fun k => ?_)
      rw [papermillref01_divide.l0]
      rw [if_neg (by omega)]
      simp
    | succ j ih =>
      intro hj
      have hpos : (0 : Int) < 2 ^ j := Int.pow_pos (by decide)
      have hA : a / 2 ^ (j + 1) = a / 2 ^ j / 2 := by
        rw [Int.pow_succ, Int.ediv_ediv_of_nonneg (by omega)]
      have hAj0 : 0 ≤ a / 2 ^ j := Int.ediv_nonneg ha0 (by omega)
      have hAj1 : a / 2 ^ j ≤ a := Int.ediv_le_self _ ha0
      generalize hAA : a / 2 ^ j = A at *
      have hX0 : 0 ≤ A / 2 * b := Int.mul_nonneg (by omega) hb0
      have hr0 : 0 ≤ A / 2 * b % c := Int.emod_nonneg _ (by omega)
      have hr1 : A / 2 * b % c < c := Int.emod_lt_of_pos _ (by omega)
      have hq0 : 0 ≤ A / 2 * b / c := Int.ediv_nonneg hX0 (by omega)
      have hdm : c * (A / 2 * b / c) + A / 2 * b % c = A / 2 * b := Int.mul_ediv_add_emod _ _
      have hAb : A * b ≤ a * b := Int.mul_le_mul_of_nonneg_right hAj1 hb0
      have hAq : A * b / c ≤ 4503599627370496 := Int.le_trans (Int.ediv_le_ediv (by omega) hAb) hq
      have hAb2 : A / 2 * b ≤ A * b := Int.mul_le_mul_of_nonneg_right (by omega) hb0
      have hqq : A / 2 * b / c ≤ 4503599627370496 := Int.le_trans (Int.ediv_le_ediv (by omega) hAb2) hAq
      rw [hA]
      generalize hqe : A / 2 * b / c = q at *
      generalize hre : A / 2 * b % c = r at *
      have hs : shr .i64 a (((j + 1 : Nat) : Int) - 1) = A := by
        unfold shr
        rw [show ((((j + 1 : Nat) : Int) - 1)).toNat = j by omega, show min j (IntKind.i64.bits) = j by
          have : IntKind.i64.bits = 64 := rfl
          omega]
        exact hAA
      have hX : A * b = 2 * (A / 2 * b) + (A % 2) * b := by
        have := Int.mul_ediv_add_emod A 2
        calc A * b = (2 * (A / 2) + A % 2) * b := by rw [this]
          _ = 2 * (A / 2 * b) + (A % 2) * b := by rw [Int.add_mul, Int.mul_assoc]
      have hstep : ∀ (rr : Int), rr = 2 * r + (A % 2) * b → mn (wrap64 (2 * q + wrap64 (Int.tdiv rr c))) 4503599627370496 = A * b / c ∧ Int.tmod rr c = A * b % c := by
        intro rr hrr
        have hba : 0 ≤ (A % 2) * b ∧ (A % 2) * b ≤ b := by
          rcases Int.emod_two_eq A with h | h
          · rw [h]; simp [hb0]
          · rw [h]; simp [hb0]
        have hrr0 : 0 ≤ rr := by omega
        have hXX : A * b = rr + (2 * q) * c := by
          rw [hX, hrr, ← hdm, Int.mul_add, Int.mul_comm c q, ← Int.mul_assoc]; omega
        have e1 : 2 * q + rr / c = A * b / c := by
          rw [hXX, Int.add_mul_ediv_right _ _ (by omega)]; omega
        have e2 : rr % c = A * b % c := by rw [hXX, Int.add_mul_emod_self_right]
        have hd0 : 0 ≤ rr / c := Int.ediv_nonneg hrr0 (by omega)
        rw [Int.tdiv_eq_ediv_of_nonneg hrr0, Int.tmod_eq_emod_of_nonneg hrr0, wrap64_id (n := rr / c) (by omega) (by omega), e1, e2, wrap64_id (by omega) (by omega)]
        refine ⟨?_, rfl⟩
        unfold mn; omega
      rw [show ((j + 1 : Nat) : Int) - 1 = (j : Int) by omega] at hs ⊢
      have hi := ih (by omega)
      refine Tells.up hi (fun k => ?_)
      rw [papermillref01_divide.l0]
      rw [if_pos (by omega), if_pos (by omega), hs, and1' A hAj0 (by omega), wrap64_id (n := 2 * q) (by omega) (by omega), wrap64_id (n := 2 * r) (by omega) (by omega), wrap64_id (n := (j : Int) - 1) (by omega) (by omega)]
      rcases Int.emod_two_eq A with h | h
      · have := hstep (2 * r) (by rw [h]; simp)
        rw [if_neg (by omega), if_neg (by omega), this.1, this.2]
      · have := hstep (2 * r + b) (by rw [h]; simp)
        rw [if_pos h, if_neg (by omega), wrap64_id (n := 2 * r + b) (by omega) (by omega), this.1, this.2]
  have h51 := lp 51 (by omega)
  have e : a / 2 ^ 51 = 0 := Int.ediv_eq_zero_of_lt ha0 (by omega)
  rw [e] at h51
  simp at h51
  refine Tells.congr h51 (fun k => ?_)
  unfold papermillref01_divide.f
  rfl
theorem in01 {x : Int} (h0 : 0 ≤ x) (h1 : x ≤ 1125899906842624) : papermillref01_In.f x = some true := by
  unfold papermillref01_In.f
  rw [if_pos (by omega), decide_eq_true h1]
theorem abs01 {x : Int} (h0 : 0 ≤ x) : papermillref01_abs.f x = some x := by
  unfold papermillref01_abs.f
  rw [if_neg (by omega)]
/-- Rounded down (0) or to the nearest, of two the even one (2). -/
def mdS (a b c mode : Int) : Int := if mode = 2 ∧ (2 * (a * b % c) > c ∨ (2 * (a * b % c) = c ∧ a * b / c % 2 = 1)) then a * b / c + 1 else a * b / c
theorem muldiv01_tells (a b c mode : Int) (ha0 : 0 ≤ a) (ha : a ≤ 1125899906842624) (hb0 : 0 ≤ b) (hb : b ≤ 1125899906842624) (hc1 : 1 ≤ c) (hc : c ≤ 1125899906842624) (hq : a * b / c < 1125899906842624 ∨ (a * b / c ≤ 1125899906842624 ∧ mode = 0)) (hm : mode = 0 ∨ mode = 2) : Tells (fun k => papermillref01_MulDiv.f k a b c mode) (mdS a b c mode, 0) := by
  have hX0 : 0 ≤ a * b := Int.mul_nonneg ha0 hb0
  have hq0 : 0 ≤ a * b / c := Int.ediv_nonneg hX0 (by omega)
  have hr0 : 0 ≤ a * b % c := Int.emod_nonneg _ (by omega)
  have hr1 : a * b % c < c := Int.emod_lt_of_pos _ (by omega)
  have hd := divide01_tells a b c ha0 ha hb0 hb hc1 hc (by omega)
  have hv0 : 0 ≤ mdS a b c mode ∧ mdS a b c mode ≤ 1125899906842624 := by
    unfold mdS; split <;> omega
  have h6 : ∀ y : Bool, (if y then a * b / c + 1 else a * b / c) = mdS a b c mode → Tells (fun k => papermillref01_MulDiv.j6 k (a * b / c) false y) (mdS a b c mode, 0) := by
    intro y hy
    have hres : papermillref01_result.f (mdS a b c mode) = some (mdS a b c mode, 0) := by
      unfold papermillref01_result.f
      rw [in01 hv0.1 hv0.2]
      rfl
    refine Tells.up (g := fun _ => some (mdS a b c mode, 0)) (Tells.const _) (fun k => ?_)
    rw [papermillref01_MulDiv.j6]
    cases y with
    | true =>
      have hy' : a * b / c + 1 = mdS a b c mode := hy
      rw [if_pos rfl, if_neg (by simp), wrap64_id (by omega) (by omega), hy', hres]
      rfl
    | false =>
      have hy' : a * b / c = mdS a b c mode := hy
      rw [if_neg (by simp), if_neg (by simp)]
      rw [hy', hres]
      rfl
  have h5 : ∀ y : Bool, (if a * b % c > 0 then (if y then a * b / c + 1 else a * b / c) else a * b / c) = mdS a b c mode → Tells (fun k => papermillref01_MulDiv.j5 k (a * b / c) (a * b % c) false y) (mdS a b c mode, 0) := by
    intro y hy
    refine Tells.up (g := fun k => if a * b % c > 0 then papermillref01_MulDiv.j6 k (a * b / c) false y else papermillref01_MulDiv.j6 k (a * b / c) false false) ?_ (fun k => by rw [papermillref01_MulDiv.j5])
    by_cases h : a * b % c > 0
    · rw [if_pos h] at hy
      exact Tells.pos h (h6 y hy)
    · rw [if_neg h] at hy
      exact Tells.neg h (h6 false (by simpa using hy))
  have h4 : Tells (fun k => papermillref01_MulDiv.j4 k c mode (a * b / c) (a * b % c) false false) (mdS a b c mode, 0) := by
    rcases hm with hm | hm
    · refine Tells.up (h5 false ?_) (fun k => by
        rw [papermillref01_MulDiv.j4]
        rw [if_neg (by omega)])
      unfold mdS
      rw [if_neg (show ¬ (mode = 2 ∧ _) by omega)]
      simp
    · by_cases c1 : 2 * (a * b % c) > c
      · refine Tells.up (h5 true ?_) (fun k => by
          rw [papermillref01_MulDiv.j4]
          rw [if_pos hm, abs01 (by omega : 0 ≤ c)]
          simp only [Option.bind_some]
          rw [wrap64_id (by omega) (by omega), if_pos c1])
        unfold mdS
        rw [if_pos (show a * b % c > 0 by omega), if_pos (show mode = 2 ∧ (2 * (a * b % c) > c ∨ _) from ⟨hm, Or.inl c1⟩)]
        rfl
      · by_cases c2 : 2 * (a * b % c) = c
        · refine Tells.up (h5 (Int.tmod (a * b / c) 2 == 1) ?_) (fun k => by
            rw [papermillref01_MulDiv.j4]
            rw [if_pos hm, abs01 (by omega : 0 ≤ c)]
            simp only [Option.bind_some]
            rw [wrap64_id (by omega) (by omega), if_neg c1, if_pos c2])
          rw [Int.tmod_eq_emod_of_nonneg hq0]
          unfold mdS
          rw [if_pos (show a * b % c > 0 by omega)]
          by_cases c3 : a * b / c % 2 = 1
          · rw [if_pos (show mode = 2 ∧ (2 * (a * b % c) > c ∨ (2 * (a * b % c) = c ∧ a * b / c % 2 = 1)) from ⟨hm, Or.inr ⟨c2, c3⟩⟩)]
            simp [c3]
          · rw [if_neg (show ¬ (mode = 2 ∧ (2 * (a * b % c) > c ∨ (2 * (a * b % c) = c ∧ a * b / c % 2 = 1))) by omega)]
            simp [c3]
        · refine Tells.up (h5 false ?_) (fun k => by
            rw [papermillref01_MulDiv.j4]
            rw [if_pos hm, abs01 (by omega : 0 ≤ c)]
            simp only [Option.bind_some]
            rw [wrap64_id (by omega) (by omega), if_neg c1, if_neg c2])
          unfold mdS
          rw [if_neg (show ¬ (mode = 2 ∧ (2 * (a * b % c) > c ∨ (2 * (a * b % c) = c ∧ a * b / c % 2 = 1))) by omega)]
          simp
  have h3 : Tells (fun k => papermillref01_MulDiv.j3 k c mode (a * b / c) (a * b % c) false) (mdS a b c mode, 0) := by
    refine Tells.up h4 (fun k => ?_)
    rw [papermillref01_MulDiv.j3]
    rcases hm with hm | hm
    · rw [if_pos hm, if_neg (by simp), if_neg (by omega)]
    · rw [if_neg (by omega), if_neg (by omega)]
  have h2 : Tells (fun k => papermillref01_MulDiv.j2 k c mode (a * b / c) (a * b % c) false) (mdS a b c mode, 0) := by
    refine Tells.up h3 (fun k => ?_)
    rw [papermillref01_MulDiv.j2]
    rw [if_neg (by omega)]
  have h1 : Tells (fun k => papermillref01_MulDiv.j1 k a b c mode false) (mdS a b c mode, 0) := by
    refine Tells.up (g := fun k => (papermillref01_divide.f k a b c).bind fun d => papermillref01_MulDiv.j2 k c mode d.1 d.2 false) (Tells.bind hd h2) (fun k => ?_)
    rw [papermillref01_MulDiv.j1]
    rw [if_neg (by simp), abs01 ha0, abs01 hb0, abs01 (by omega : 0 ≤ c)]
    simp only [Option.bind_some]
    congr 1; funext d
    rw [if_neg (by omega), decide_eq_false (by omega)]
  have h0 : Tells (fun k => papermillref01_MulDiv.j0 k a b c mode false) (mdS a b c mode, 0) := by
    refine Tells.up h1 (fun k => ?_)
    rw [papermillref01_MulDiv.j0]
    rw [if_neg (by simp), if_neg (by omega), if_neg (by omega), decide_eq_false (by omega)]
  refine Tells.congr h0 (fun k => ?_)
  unfold papermillref01_MulDiv.f
  rw [in01 ha0 ha, in01 hb0 hb, in01 (by omega : 0 ≤ c) hc]
  rfl
theorem muldiv01_down (t x s : Int) (ht0 : 0 ≤ t) (ht : t ≤ 1125899906842624) (hx0 : 0 ≤ x) (hxs : x ≤ s) (hs1 : 1 ≤ s) (hs : s ≤ 1125899906842624) : Tells (fun k => papermillref01_MulDiv.f k t x s 0) (t * x / s, 0) := by
  have hq1 : t * x / s ≤ t := by
    have h1 : t * x ≤ t * s := Int.mul_le_mul_of_nonneg_left hxs ht0
    have h2 := Int.ediv_le_ediv (show 0 < s by omega) h1
    rwa [Int.mul_ediv_cancel _ (by omega)] at h2
  have := muldiv01_tells t x s 0 ht0 ht hx0 (by omega) hs1 hs (Or.inr ⟨by omega, rfl⟩) (Or.inl rfl)
  unfold mdS at this
  rw [if_neg (by omega)] at this
  exact this

-- FIBRECHECK: names and kinds of fibre (ours; S43: this seat's Fibre)
theorem rdT_drop (l : List S43) (i : Nat) (h : i < l.length) : l.drop i = rd_T43 l (i : Int) :: l.drop (i + 1) := by
  rw [List.drop_eq_getElem_cons h]
  congr 1
  show l[i] = l.getD (i : Int).toNat z43
  simp [h]
def letterB (c : Int) : Bool := decide ((97 ≤ c ∧ c ≤ 122) ∨ (65 ≤ c ∧ c ≤ 90))
theorem letter_val (c : Int) : ident_letter.f c = some (letterB c) := by
  unfold ident_letter.f letterB
  by_cases h1 : c ≥ 97
  · rw [if_pos h1]
    by_cases h2 : c ≤ 122
    · rw [if_pos h2, decide_eq_true (by omega)]
    · rw [if_neg h2, if_pos (by omega), decide_eq_false (by omega), decide_eq_false (by omega)]
  · rw [if_neg h1]
    by_cases h2 : c ≥ 65
    · rw [if_pos h2]
      by_cases h3 : c ≤ 90
      · rw [decide_eq_true h3, decide_eq_true (by omega)]
      · rw [decide_eq_false h3, decide_eq_false (by omega)]
    · rw [if_neg h2, decide_eq_false (by omega)]
def allowedB (c : Int) : Bool := letterB c || decide ((48 ≤ c ∧ c ≤ 57) ∨ c = 45 ∨ c = 95 ∨ c = 46)
def validL (s : ByteArray) : Nat → Nat → Bool
  | 0, _ => true
  | d + 1, i => allowedB (bt s (i : Int)) && validL s d (i + 1)
def validS (s : ByteArray) : Bool := if (s.size : Int) < 1 then false else if (s.size : Int) > 32 then false else if letterB (bt s 0) = true then validL s s.size 0 else false
theorem Valid_tells (s : ByteArray) : Tells (fun k => ident_Valid.f k s) (validS s) := by
  have hj : ∀ b, Tells (fun k => ident_Valid.j0 k s b) (if b = true then false else if (s.size : Int) > 32 then true else validL s s.size 0) ∨ (s.size : Int) > 32 ∧ b = false := by
    intro b
    by_cases hs : (s.size : Int) > 32
    · cases b with
      | true =>
        left
        refine Tells.up (Tells.const _) (fun k => ?_)
        rw [ident_Valid.j0]
        simp
      | false => right; exact ⟨hs, rfl⟩
    · left
      have lp : ∀ d i, i + d = s.size → Tells (fun k => ident_Valid.l0 k s (s.size : Int) (i : Int)) (validL s d i) := by
        intro d
        induction d with
        | zero =>
          intro i hi
          refine Tells.up (Tells.const _) (fun k => ?_)
          rw [ident_Valid.l0]
          rw [if_neg (by omega)]
          rfl
        | succ d ih =>
          intro i hi
          have hn := ih (i + 1) (by omega)
          have ew : wrap64 ((i : Int) + 1) = ((i + 1 : Nat) : Int) := by rw [wrap64_id (by omega) (by omega)]; rfl
          show Tells _ (allowedB (bt s (i : Int)) && validL s d (i + 1))
          generalize hc : bt s (i : Int) = c
          by_cases hl : letterB c = true
          · have : allowedB c = true := by unfold allowedB; rw [hl]; rfl
            rw [this, Bool.true_and]
            refine Tells.up hn (fun k => ?_)
            rw [ident_Valid.l0]
            rw [if_pos (by omega), if_pos (by omega), if_pos (by omega), hc, letter_val, hl]
            simp only [Option.bind_some, if_true]
            rw [ew]
          · have ha : allowedB c = decide ((48 ≤ c ∧ c ≤ 57) ∨ c = 45 ∨ c = 95 ∨ c = 46) := by unfold allowedB; rw [eq_false_of_ne_true hl]; rfl
            rw [ha]
            by_cases hd : (48 ≤ c ∧ c ≤ 57) ∨ c = 45 ∨ c = 95 ∨ c = 46
            · rw [decide_eq_true hd, Bool.true_and]
              refine Tells.up hn (fun k => ?_)
              rw [ident_Valid.l0]
              rw [if_pos (by omega), if_pos (by omega), if_pos (by omega), hc, letter_val, eq_false_of_ne_true hl]
              simp only [Option.bind_some, Bool.false_eq_true, if_false]
              rw [ew]
              repeat' split
              all_goals first | rfl | omega
            · rw [decide_eq_false hd, Bool.false_and]
              refine Tells.up (Tells.const false) (fun k => ?_)
              rw [ident_Valid.l0]
              rw [if_pos (by omega), if_pos (by omega), if_pos (by omega), hc, letter_val, eq_false_of_ne_true hl]
              simp only [Option.bind_some, Bool.false_eq_true, if_false]
              rw [ew]
              repeat' split
              all_goals first | rfl | omega
      refine Tells.up (g := fun k => if b = true then some false else ident_Valid.l0 k s (s.size : Int) ((0 : Nat) : Int)) ?_ (fun k => by rw [ident_Valid.j0]; rfl)
      rw [if_neg hs]
      exact Tells.ite (fun _ => Tells.const _) (fun _ => lp s.size 0 (by omega))
  unfold validS
  by_cases h1 : (s.size : Int) < 1
  · rw [if_pos h1]
    rcases hj true with h | h
    · refine Tells.congr h (fun k => ?_)
      unfold ident_Valid.f
      rw [if_pos h1]
    · exact absurd h.2 (by simp)
  rw [if_neg h1]
  by_cases h2 : (s.size : Int) > 32
  · rw [if_pos h2]
    rcases hj true with h | h
    · refine Tells.congr h (fun k => ?_)
      unfold ident_Valid.f
      rw [if_neg h1, if_pos h2]
    · exact absurd h.2 (by simp)
  rw [if_neg h2]
  rcases hj (!letterB (bt s 0)) with h | h
  · refine Tells.congr (r := if letterB (bt s 0) = true then validL s s.size 0 else false) ?_ (fun k => ?_) (g := fun k => ident_Valid.j0 k s (!letterB (bt s 0)))
    · rw [if_neg h2] at h
      cases hb : letterB (bt s 0) with
      | true => rw [hb] at h; simpa using h
      | false => rw [hb] at h; simpa using h
    · unfold ident_Valid.f
      rw [if_neg h1, if_neg h2, if_pos (by omega), letter_val]
      rfl
  · exact absurd h.1 h2
def firstS : List S43 → Int
  | [] => 0
  | x :: l => if validS x.f0 = true then (if x.f1 < 0 then 1 else if x.f1 > 1000000000 then 1 else firstS l) else 5
def apartS (l : List S43) (i : Nat) : Bool := (l.take i).all fun g => g.f0.toList != (rd_T43 l (i : Int)).f0.toList
def dupL (l : List S43) : Nat → Nat → Int
  | 0, _ => 0
  | d + 1, i => if apartS l i = true then dupL l d (i + 1) else 6
def fcheckS (l : List S43) : Int := if (l.length : Int) = 0 then 10 else if (l.length : Int) > 8 then 8 else if firstS l = 0 then dupL l l.length 0 else firstS l
theorem fcheck_tells (l : List S43) (hl : l.length ≤ 1000) : Tells (fun k => fibre_Check.f k l) (fcheckS l) := by
  have hall : ∀ (g : List S43) (y : S43), g.length ≤ 1000 → Tells (fun k => api_Fibre__fibre_Check_1.f k g [⟨y.f0, y.f1⟩]) (g.all fun x => x.f0.toList != y.f0.toList) := by
    intro g y hg
    have lp : ∀ d i, i + d = g.length → Tells (fun k => api_Fibre__fibre_Check_1.l0 k g (g.length : Int) (i : Int) [⟨y.f0, y.f1⟩]) ((g.drop i).all fun x => x.f0.toList != y.f0.toList) := by
      intro d
      induction d with
      | zero =>
        intro i hi
        rw [List.drop_of_length_le (by omega)]
        refine Tells.up (Tells.const _) (fun k => ?_)
        rw [api_Fibre__fibre_Check_1.l0]
        rw [if_neg (by omega)]
        rfl
      | succ d ih =>
        intro i hi
        have e : ∀ a b, fibre_Check_1.f a b [⟨y.f0, y.f1⟩] = some (a.toList != y.f0.toList) := by
          intro a b
          unfold fibre_Check_1.f
          rw [if_pos (by simp)]
          rfl
        rw [rdT_drop g i (by omega), List.all_cons]
        refine Tells.up (g := fun k => if ((rd_T43 g (i : Int)).f0.toList != y.f0.toList) = true then api_Fibre__fibre_Check_1.l0 k g (g.length : Int) ((i + 1 : Nat) : Int) [⟨y.f0, y.f1⟩] else some false) ?_ (fun k => by
          rw [api_Fibre__fibre_Check_1.l0]
          rw [if_pos (by omega), if_pos (by omega), if_pos (by omega), e, wrap64_id (n := (i : Int) + 1) (by omega) (by omega)]
          rfl)
        cases hb : ((rd_T43 g (i : Int)).f0.toList != y.f0.toList) with
        | true => rw [Bool.true_and]; exact Tells.pos rfl (ih (i + 1) (by omega))
        | false => rw [Bool.false_and]; exact Tells.neg (by simp) (Tells.const _)
    refine Tells.congr (lp g.length 0 (by omega)) (fun k => ?_)
    unfold api_Fibre__fibre_Check_1.f
    rfl
  have hdup : ∀ d i, i + d = l.length → Tells (fun k => fibre_Check.l1 k l l (l.length : Int) (i : Int)) (dupL l d i) := by
    intro d
    induction d with
    | zero =>
      intro i hi
      refine Tells.up (Tells.const _) (fun k => ?_)
      rw [fibre_Check.l1]
      rw [if_neg (by omega)]
      rfl
    | succ d ih =>
      intro i hi
      refine Tells.up (g := fun k => (api_Fibre__fibre_Check_1.f k (l.take i) [⟨(rd_T43 l (i : Int)).f0, (rd_T43 l (i : Int)).f1⟩]).bind fun t => if t = true then fibre_Check.l1 k l l (l.length : Int) ((i + 1 : Nat) : Int) else some 6) ?_ (fun k => by
        rw [fibre_Check.l1]
        rw [if_pos (by omega), if_pos (by omega), if_pos (by omega), if_pos (by omega), wrap64_id (n := (i : Int) + 1) (by omega) (by omega)]
        rfl)
      refine Tells.bind (hall (l.take i) (rd_T43 l (i : Int)) (by rw [List.length_take]; omega)) ?_
      exact Tells.ite (fun _ => ih (i + 1) (by omega)) (fun _ => Tells.const _)
  have hfirst : ∀ d i, i + d = l.length → Tells (fun k => fibre_Check.l0 k l l (l.length : Int) (i : Int)) (if firstS (l.drop i) = 0 then dupL l l.length 0 else firstS (l.drop i)) := by
    intro d
    induction d with
    | zero =>
      intro i hi
      rw [List.drop_of_length_le (by omega)]
      refine Tells.up (hdup l.length 0 (by omega)) (fun k => ?_)
      rw [fibre_Check.l0]
      rw [if_neg (by omega)]
      rfl
    | succ d ih =>
      intro i hi
      rw [rdT_drop l i (by omega)]
      refine Tells.up (g := fun k => (ident_Valid.f k (rd_T43 l (i : Int)).f0).bind fun t => if t = true then (if (rd_T43 l (i : Int)).f1 < 0 then some 1 else if (rd_T43 l (i : Int)).f1 > 1000000000 then some 1 else fibre_Check.l0 k l l (l.length : Int) ((i + 1 : Nat) : Int)) else some 5) ?_ (fun k => by
        rw [fibre_Check.l0]
        rw [if_pos (by omega), if_pos (by omega), if_pos (by omega), wrap64_id (n := (i : Int) + 1) (by omega) (by omega)]
        rfl)
      refine Tells.bind (Valid_tells _) ?_
      rw [firstS]
      by_cases h1 : validS (rd_T43 l (i : Int)).f0 = true
      · rw [if_pos h1]
        refine Tells.pos h1 ?_
        by_cases h2 : (rd_T43 l (i : Int)).f1 < 0
        · rw [if_pos h2]
          exact Tells.pos h2 (Tells.const _)
        rw [if_neg h2]
        refine Tells.neg h2 ?_
        by_cases h3 : (rd_T43 l (i : Int)).f1 > 1000000000
        · rw [if_pos h3]
          exact Tells.pos h3 (Tells.const _)
        rw [if_neg h3]
        exact Tells.neg h3 (ih (i + 1) (by omega))
      · rw [if_neg h1]
        exact Tells.neg h1 (Tells.const _)
  refine Tells.congr (g := fun k => if (l.length : Int) = 0 then some 10 else if (l.length : Int) > 8 then some 8 else fibre_Check.l0 k l l (l.length : Int) ((0 : Nat) : Int)) ?_ (fun k => by unfold fibre_Check.f; rfl)
  unfold fcheckS
  refine Tells.ite (fun _ => Tells.const _) (fun _ => Tells.ite (fun _ => Tells.const _) (fun _ => ?_))
  exact hfirst l.length 0 (by omega)

-- FIBRECHECK16 (ours)
theorem letter16_val (c : Int) : papermillref16_letter.f c = some (letterB c) := by
  unfold papermillref16_letter.f letterB
  by_cases h1 : c ≥ 97
  · rw [if_pos h1]
    by_cases h2 : c ≤ 122
    · rw [if_pos h2, decide_eq_true (by omega)]
    · rw [if_neg h2, if_pos (by omega), decide_eq_false (by omega), decide_eq_false (by omega)]
  · rw [if_neg h1]
    by_cases h2 : c ≥ 65
    · rw [if_pos h2]
      by_cases h3 : c ≤ 90
      · rw [decide_eq_true h3, decide_eq_true (by omega)]
      · rw [decide_eq_false h3, decide_eq_false (by omega)]
    · rw [if_neg h2, decide_eq_false (by omega)]
theorem name16_tells (s : ByteArray) : Tells (fun k => papermillref16_name.f k s) (validS s) := by
  have hj : ∀ b, Tells (fun k => papermillref16_name.j0 k s b) (if b = true then false else if (s.size : Int) > 32 then true else validL s s.size 0) ∨ (s.size : Int) > 32 ∧ b = false := by
    intro b
    by_cases hs : (s.size : Int) > 32
    · cases b with
      | true =>
        left
        refine Tells.up (Tells.const _) (fun k => ?_)
        rw [papermillref16_name.j0]
        simp
      | false => right; exact ⟨hs, rfl⟩
    · left
      have lp : ∀ d i, i + d = s.size → Tells (fun k => papermillref16_name.l0 k s (i : Int)) (validL s d i) := by
        intro d
        induction d with
        | zero =>
          intro i hi
          refine Tells.up (Tells.const _) (fun k => ?_)
          rw [papermillref16_name.l0]
          rw [if_neg (by omega)]
          rfl
        | succ d ih =>
          intro i hi
          have hn := ih (i + 1) (by omega)
          have ew : wrap64 ((i : Int) + 1) = ((i + 1 : Nat) : Int) := by rw [wrap64_id (by omega) (by omega)]; rfl
          show Tells _ (allowedB (bt s (i : Int)) && validL s d (i + 1))
          generalize hc : bt s (i : Int) = c
          by_cases hl : letterB c = true
          · have : allowedB c = true := by unfold allowedB; rw [hl]; rfl
            rw [this, Bool.true_and]
            refine Tells.up hn (fun k => ?_)
            rw [papermillref16_name.l0]
            rw [if_pos (by omega), if_pos (by omega), hc, letter16_val, hl]
            simp only [Option.bind_some, if_true]
            rw [ew]
          · have ha : allowedB c = decide ((48 ≤ c ∧ c ≤ 57) ∨ c = 45 ∨ c = 95 ∨ c = 46) := by unfold allowedB; rw [eq_false_of_ne_true hl]; rfl
            rw [ha]
            by_cases hd : (48 ≤ c ∧ c ≤ 57) ∨ c = 45 ∨ c = 95 ∨ c = 46
            · rw [decide_eq_true hd, Bool.true_and]
              refine Tells.up hn (fun k => ?_)
              rw [papermillref16_name.l0]
              rw [if_pos (by omega), if_pos (by omega), hc, letter16_val, eq_false_of_ne_true hl]
              simp only [Option.bind_some, Bool.false_eq_true, if_false]
              rw [ew]
              repeat' split
              all_goals first | rfl | omega
            · rw [decide_eq_false hd, Bool.false_and]
              refine Tells.up (Tells.const false) (fun k => ?_)
              rw [papermillref16_name.l0]
              rw [if_pos (by omega), if_pos (by omega), hc, letter16_val, eq_false_of_ne_true hl]
              simp only [Option.bind_some, Bool.false_eq_true, if_false]
              rw [ew]
              repeat' split
              all_goals first | rfl | omega
      refine Tells.up (g := fun k => if b = true then some false else papermillref16_name.l0 k s ((0 : Nat) : Int)) ?_ (fun k => by rw [papermillref16_name.j0]; rfl)
      rw [if_neg hs]
      exact Tells.ite (fun _ => Tells.const _) (fun _ => lp s.size 0 (by omega))
  unfold validS
  by_cases h1 : (s.size : Int) < 1
  · rw [if_pos h1]
    rcases hj true with h | h
    · refine Tells.congr h (fun k => ?_)
      unfold papermillref16_name.f
      rw [if_pos h1]
    · exact absurd h.2 (by simp)
  rw [if_neg h1]
  by_cases h2 : (s.size : Int) > 32
  · rw [if_pos h2]
    rcases hj true with h | h
    · refine Tells.congr h (fun k => ?_)
      unfold papermillref16_name.f
      rw [if_neg h1, if_pos h2]
    · exact absurd h.2 (by simp)
  rw [if_neg h2]
  rcases hj (!letterB (bt s 0)) with h | h
  · refine Tells.congr (r := if letterB (bt s 0) = true then validL s s.size 0 else false) ?_ (fun k => ?_) (g := fun k => papermillref16_name.j0 k s (!letterB (bt s 0)))
    · rw [if_neg h2] at h
      cases hb : letterB (bt s 0) with
      | true => rw [hb] at h; simpa using h
      | false => rw [hb] at h; simpa using h
    · unfold papermillref16_name.f
      rw [if_neg h1, if_neg h2, if_pos (by omega), letter16_val]
      rfl
  · exact absurd h.1 h2
theorem fcheck16_tells (l : List S43) (hl : l.length ≤ 1000) : Tells (fun k => papermillref16_Check.f k l) (fcheckS l) := by
  have hdup : ∀ d i, i + d = l.length → Tells (fun k => papermillref16_Check.l1 k l (i : Int)) (dupL l d i) := by
    intro d
    induction d with
    | zero =>
      intro i hi
      refine Tells.up (Tells.const _) (fun k => ?_)
      rw [papermillref16_Check.l1]
      rw [if_neg (by omega)]
      rfl
    | succ d ih =>
      intro i hi
      have hn := ih (i + 1) (by omega)
      have l2 : ∀ e j, j + e = i → Tells (fun k => papermillref16_Check.l2 k l (i : Int) (j : Int)) (if (((l.take i).drop j).all fun g => g.f0.toList != (rd_T43 l (i : Int)).f0.toList) = true then dupL l d (i + 1) else 6) := by
        intro e
        induction e with
        | zero =>
          intro j hj
          rw [List.drop_of_length_le (by rw [List.length_take]; omega)]
          refine Tells.up hn (fun k => ?_)
          rw [papermillref16_Check.l2]
          rw [if_neg (by omega), wrap64_id (n := (i : Int) + 1) (by omega) (by omega)]
          rfl
        | succ e ih2 =>
          intro j hj
          have hdr : (l.take i).drop j = rd_T43 l (j : Int) :: (l.take i).drop (j + 1) := by
            have h := rdT_drop (l.take i) j (by rw [List.length_take]; omega)
            have e2 : rd_T43 (l.take i) (j : Int) = rd_T43 l (j : Int) := by
              show (l.take i).getD (j : Int).toNat z43 = l.getD (j : Int).toNat z43
              rw [Int.toNat_natCast, List.getD_eq_getElem?_getD, List.getD_eq_getElem?_getD, List.getElem?_take, if_pos (by omega)]
            rw [e2] at h
            exact h
          rw [hdr, List.all_cons]
          refine Tells.up (g := fun k => if (rd_T43 l (i : Int)).f0.toList = (rd_T43 l (j : Int)).f0.toList then some 6 else papermillref16_Check.l2 k l (i : Int) ((j + 1 : Nat) : Int)) ?_ (fun k => by
            rw [papermillref16_Check.l2]
            rw [if_pos (by omega), if_pos (by omega), if_pos (by omega), if_pos (by omega), if_pos (by omega), wrap64_id (n := (j : Int) + 1) (by omega) (by omega)]
            rfl)
          by_cases c : (rd_T43 l (i : Int)).f0.toList = (rd_T43 l (j : Int)).f0.toList
          · have : ((rd_T43 l (j : Int)).f0.toList != (rd_T43 l (i : Int)).f0.toList) = false := by rw [c]; simp
            rw [this, Bool.false_and, if_neg (by simp)]
            exact Tells.pos c (Tells.const _)
          · have : ((rd_T43 l (j : Int)).f0.toList != (rd_T43 l (i : Int)).f0.toList) = true := by
              simp only [bne_iff_ne, ne_eq]
              exact fun h => c h.symm
            rw [this, Bool.true_and]
            exact Tells.neg c (ih2 (j + 1) (by omega))
      have h0 := l2 i 0 (by omega)
      rw [List.drop_zero] at h0
      refine Tells.up h0 (fun k => ?_)
      rw [papermillref16_Check.l1]
      rw [if_pos (by omega)]
      rfl
  have hfirst : ∀ d i, i + d = l.length → Tells (fun k => papermillref16_Check.l0 k l (i : Int)) (if firstS (l.drop i) = 0 then dupL l l.length 0 else firstS (l.drop i)) := by
    intro d
    induction d with
    | zero =>
      intro i hi
      rw [List.drop_of_length_le (by omega)]
      refine Tells.up (hdup l.length 0 (by omega)) (fun k => ?_)
      rw [papermillref16_Check.l0]
      rw [if_neg (by omega)]
      rfl
    | succ d ih =>
      intro i hi
      rw [rdT_drop l i (by omega)]
      refine Tells.up (g := fun k => (papermillref16_name.f k (rd_T43 l (i : Int)).f0).bind fun t => if t = true then (if (rd_T43 l (i : Int)).f1 < 0 then some 1 else if (rd_T43 l (i : Int)).f1 > 1000000000 then some 1 else papermillref16_Check.l0 k l ((i + 1 : Nat) : Int)) else some 5) ?_ (fun k => by
        rw [papermillref16_Check.l0]
        rw [if_pos (by omega), if_pos (by omega), wrap64_id (n := (i : Int) + 1) (by omega) (by omega)]
        rfl)
      refine Tells.bind (name16_tells _) ?_
      rw [firstS]
      by_cases h1 : validS (rd_T43 l (i : Int)).f0 = true
      · rw [if_pos h1]
        refine Tells.pos h1 ?_
        by_cases h2 : (rd_T43 l (i : Int)).f1 < 0
        · rw [if_pos h2]
          exact Tells.pos h2 (Tells.const _)
        rw [if_neg h2]
        refine Tells.neg h2 ?_
        by_cases h3 : (rd_T43 l (i : Int)).f1 > 1000000000
        · rw [if_pos h3]
          exact Tells.pos h3 (Tells.const _)
        rw [if_neg h3]
        exact Tells.neg h3 (ih (i + 1) (by omega))
      · rw [if_neg h1]
        exact Tells.neg h1 (Tells.const _)
  refine Tells.congr (g := fun k => if (l.length : Int) = 0 then some 10 else if (l.length : Int) > 8 then some 8 else papermillref16_Check.l0 k l ((0 : Nat) : Int)) ?_ (fun k => by unfold papermillref16_Check.f; rfl)
  unfold fcheckS
  refine Tells.ite (fun _ => Tells.const _) (fun _ => Tells.ite (fun _ => Tells.const _) (fun _ => ?_))
  exact hfirst l.length 0 (by omega)

-- MANY16 (ours)
/-- Many: some answer; false only for at most 60. -/
theorem many_tells (l : List S43) (hl : l.length ≤ maxLen) : ∃ b, Tells (fun k => papermilllaw16_many.f k l) b ∧ (b = false → l.length ≤ 60) := by
  by_cases h : (l.length : Int) > 60
  · refine ⟨true, Tells.congr (Tells.const true) (fun k => ?_), by simp⟩
    unfold papermilllaw16_many.f
    rw [if_pos h]
  · have lp : ∀ d i, i + d = l.length → ∃ b, Tells (fun k => papermilllaw16_many.l0 k l (i : Int)) b := by
      intro d
      induction d with
      | zero =>
        intro i hi
        refine ⟨false, Tells.up (Tells.const _) (fun k => ?_)⟩
        rw [papermilllaw16_many.l0]
        rw [if_neg (by omega)]
      | succ d ih =>
        intro i hi
        obtain ⟨b, hb⟩ := ih (i + 1) (by omega)
        by_cases c : ((rd_T43 l (i : Int)).f0.size : Int) > 200
        · refine ⟨true, Tells.up (Tells.const _) (fun k => ?_)⟩
          rw [papermilllaw16_many.l0]
          rw [if_pos (by omega), if_pos (by omega), if_pos c]
        · refine ⟨b, Tells.up hb (fun k => ?_)⟩
          rw [papermilllaw16_many.l0]
          rw [if_pos (by omega), if_pos (by omega), if_neg c, wrap64_id (n := (i : Int) + 1) (by omega) (by omega)]
          rfl
    obtain ⟨b, hb⟩ := lp l.length 0 (by omega)
    refine ⟨b, Tells.congr hb (fun k => ?_), fun _ => by omega⟩
    unfold papermilllaw16_many.f
    rw [if_neg h]
    rfl

-- AWAKE16 (ours)
theorem awake_tells : Tells (fun k => papermilllaw16_awake.f k) true := Tells.of (fun k => papermilllaw16_awake.mono k) ⟨200, by decide +kernel⟩
theorem great_val (l : List Int) : papermilllaw16_great.f l = some (decide ((l.length : Int) > 60)) := by unfold papermilllaw16_great.f; rfl

theorem inBc {x : Int} (h0 : -1125899906842624 ≤ x) (h1 : x ≤ 1125899906842624) : num_MulDiv.inB x = true := by
  unfold num_MulDiv.inB
  rw [decide_eq_true h0, decide_eq_true h1]; rfl
theorem md_cost (a b : Int) (ha0 : 0 ≤ a) (ha : a ≤ 1000000000) (hb0 : 0 ≤ b) (hb : b ≤ 1099511627776) : num_MulDiv.f a b 1000000 2 = some (mdS a b 1000000 2, 0) ∧ 0 ≤ mdS a b 1000000 2 ∧ mdS a b 1000000 2 ≤ 1099511627776001 ∧ a * b / 1000000 < 1125899906842624 := by
  have hX0 : 0 ≤ a * b := Int.mul_nonneg ha0 hb0
  have hX1 : a * b ≤ 1000000000 * 1099511627776 := by
    have h1 := Int.mul_le_mul_of_nonneg_right ha hb0
    have h2 := Int.mul_le_mul_of_nonneg_left hb (show (0 : Int) ≤ 1000000000 by omega)
    omega
  have hv : 0 ≤ mdS a b 1000000 2 ∧ mdS a b 1000000 2 ≤ 1099511627776001 := by
    unfold mdS
    split <;> omega
  refine ⟨?_, hv.1, hv.2, by omega⟩
  unfold num_MulDiv.f
  rw [inBc (x := a) (by omega) (by omega), inBc (x := b) (by omega) (by omega), inBc (x := 1000000) (by omega) (by omega)]
  rw [if_pos (by rfl), if_neg (by omega), if_neg (by omega), if_neg (by omega)]
  unfold num_MulDiv.val num_MulDiv.ab
  rw [if_neg (show ¬ a < 0 by omega), if_neg (show ¬ b < 0 by omega), if_neg (show ¬ (1000000 : Int) < 0 by omega), decide_eq_false (show ¬ a < 0 by omega), decide_eq_false (show ¬ b < 0 by omega), decide_eq_false (show ¬ (1000000 : Int) < 0 by omega)]
  unfold num_MulDiv.grows num_MulDiv.fin
  by_cases c : 2 * (a * b % 1000000) > 1000000 ∨ (2 * (a * b % 1000000) = 1000000 ∧ a * b / 1000000 % 2 = 1)
  · have e : (decide ((1000000 : Int) < 2 * (a * b % 1000000)) || decide (2 * (a * b % 1000000) = 1000000) && decide (a * b / 1000000 % 2 = 1)) = true := by
      rcases c with c | c
      · rw [decide_eq_true (show (1000000 : Int) < 2 * (a * b % 1000000) by omega)]; rfl
      · rw [decide_eq_true c.1, decide_eq_true c.2]; simp
    have em : mdS a b 1000000 2 = a * b / 1000000 + 1 := by unfold mdS; rw [if_pos ⟨rfl, c⟩]
    rw [if_neg (show ¬ (2 : Int) = 0 by omega), if_neg (show ¬ (2 : Int) = 1 by omega), e, em]
    simp
    omega
  · have e : (decide ((1000000 : Int) < 2 * (a * b % 1000000)) || decide (2 * (a * b % 1000000) = 1000000) && decide (a * b / 1000000 % 2 = 1)) = false := by
      rw [decide_eq_false (show ¬ (1000000 : Int) < 2 * (a * b % 1000000) by omega), Bool.false_or]
      by_cases c2 : 2 * (a * b % 1000000) = 1000000
      · rw [decide_eq_false (show ¬ a * b / 1000000 % 2 = 1 by omega), Bool.and_false]
      · rw [decide_eq_false c2, Bool.false_and]
    have em : mdS a b 1000000 2 = a * b / 1000000 := by unfold mdS; rw [if_neg (fun h => c h.2)]
    rw [if_neg (show ¬ (2 : Int) = 0 by omega), if_neg (show ¬ (2 : Int) = 1 by omega), e, em]
    simp
    omega
def costL (l : List S43) (m : List Int) : Nat → Nat → Int
  | 0, _ => 0
  | d + 1, i => mdS (rd_T43 l (i : Int)).f1 (rd m (i : Int)) 1000000 2 + costL l m d (i + 1)
def costS (l : List S43) (m : List Int) : Int × Int := if fcheckS l = 0 then (if partsS m (l.length : Int) = 0 then (if costL l m l.length 0 > 1000000000000 then (0, 2) else (costL l m l.length 0, 0)) else (0, partsS m (l.length : Int))) else (0, fcheckS l)
theorem firstS_ok {l : List S43} (h : firstS l = 0) : ∀ x ∈ l, 0 ≤ x.f1 ∧ x.f1 ≤ 1000000000 := by
  induction l with
  | nil => simp
  | cons y l ih =>
    rw [firstS] at h
    split at h
    · split at h
      · simp at h
      split at h
      · simp at h
      · intro x hx
        rcases List.mem_cons.1 hx with rfl | hx
        · omega
        · exact ih h x hx
    · simp at h
theorem fcheckS_ok {l : List S43} (h : fcheckS l = 0) : l.length ≤ 8 ∧ ∀ i : Nat, i < l.length → 0 ≤ (rd_T43 l (i : Int)).f1 ∧ (rd_T43 l (i : Int)).f1 ≤ 1000000000 := by
  unfold fcheckS at h
  split at h
  · simp at h
  split at h
  · simp at h
  split at h
  · rename_i h1 h2 h3
    refine ⟨by omega, fun i hi => ?_⟩
    refine firstS_ok h3 _ ?_
    have := rdT_drop l i hi
    have hm : rd_T43 l (i : Int) ∈ l.drop i := by rw [this]; exact List.mem_cons_self
    exact List.mem_of_mem_drop hm
  · rename_i h1 h2 h3
    exact absurd h h3
theorem cost_tells (l : List S43) (m : List Int) (hl : l.length ≤ 1000) (hm : m.length ≤ 1000) : Tells (fun k => fibre_Cost.f k l m) (costS l m) := by
  refine Tells.congr (g := fun k => (fibre_Check.f k l).bind fun t => if t = 0 then ((fibre_Parts.f k m (l.length : Int)).bind fun t => if t = 0 then fibre_Cost.l0 k m 0 l (l.length : Int) ((0 : Nat) : Int) else some (0, t)) else some (0, t)) ?_ (fun k => by unfold fibre_Cost.f; rfl)
  unfold costS
  refine Tells.bind (fcheck_tells l hl) (Tells.ite (fun cl => ?_) (fun _ => Tells.const _))
  refine Tells.bind (parts_tells m _ hm) (Tells.ite (fun cm => ?_) (fun _ => Tells.const _))
  obtain ⟨m1, m2, m3, m4⟩ := partsS_len cm
  obtain ⟨l1, l2⟩ := fcheckS_ok cl
  have lp : ∀ d i s, i + d = l.length → 0 ≤ s → s ≤ (i : Int) * 1099511627776001 → s + costL l m d i = costL l m l.length 0 → Tells (fun k => fibre_Cost.l0 k m s l (l.length : Int) (i : Int)) (if costL l m l.length 0 > 1000000000000 then (0, 2) else (costL l m l.length 0, 0)) := by
    intro d
    induction d with
    | zero =>
      intro i s hi h0 h1 hs
      have hs' : s = costL l m l.length 0 := by rw [← hs]; simp [costL]
      rw [← hs']
      refine Tells.up (g := fun k => if s > 1000000000000 then some (0, 2) else some (s, 0)) ?_ (fun k => by
        rw [fibre_Cost.l0]
        rw [if_neg (by omega)])
      exact Tells.ite (fun _ => Tells.const _) (fun _ => Tells.const _)
    | succ d ih =>
      intro i s hi h0 h1 hs
      have hc := l2 i (by omega)
      have hmi := inAll_iff.1 m4 _ (rd_mem m i (by omega) (by omega))
      obtain ⟨e, v0, v1, _⟩ := md_cost _ _ hc.1 hc.2 hmi.1 hmi.2
      rw [costL] at hs
      refine Tells.up (ih (i + 1) (s + mdS (rd_T43 l (i : Int)).f1 (rd m (i : Int)) 1000000 2) (by omega) (by omega) (by omega) (by omega)) (fun k => ?_)
      rw [fibre_Cost.l0]
      rw [if_pos (by omega), if_pos (by omega), if_pos (by omega), if_pos (by omega), e]
      simp only [Option.bind_some, if_true]
      rw [wrap64_id (n := s + _) (by omega) (by omega), wrap64_id (n := (i : Int) + 1) (by omega) (by omega)]
      rfl
  exact lp l.length 0 0 (by omega) (by omega) (by omega) (by omega)
theorem cost16_tells (l : List S43) (m : List Int) (hl : l.length ≤ 1000) (hm : m.length ≤ 1000) : Tells (fun k => papermillref16_Cost.f k l m) (costS l m) := by
  refine Tells.congr (g := fun k => (papermillref16_Check.f k l).bind fun t => if t = 0 then ((papermillref16_Parts.f k m (l.length : Int)).bind fun t => if t = 0 then papermillref16_Cost.l0 k l m 0 ((0 : Nat) : Int) else some (0, t)) else some (0, t)) ?_ (fun k => by unfold papermillref16_Cost.f; rfl)
  unfold costS
  refine Tells.bind (fcheck16_tells l hl) (Tells.ite (fun cl => ?_) (fun _ => Tells.const _))
  refine Tells.bind (parts16_tells m _ (by omega)) (Tells.ite (fun cm => ?_) (fun _ => Tells.const _))
  obtain ⟨m1, m2, m3, m4⟩ := partsS_len cm
  obtain ⟨l1, l2⟩ := fcheckS_ok cl
  have lp : ∀ d i s, i + d = l.length → 0 ≤ s → s ≤ (i : Int) * 1099511627776001 → s + costL l m d i = costL l m l.length 0 → Tells (fun k => papermillref16_Cost.l0 k l m s (i : Int)) (if costL l m l.length 0 > 1000000000000 then (0, 2) else (costL l m l.length 0, 0)) := by
    intro d
    induction d with
    | zero =>
      intro i s hi h0 h1 hs
      have hs' : s = costL l m l.length 0 := by rw [← hs]; simp [costL]
      rw [← hs']
      refine Tells.up (g := fun k => if s > 1000000000000 then some (0, 2) else some (s, 0)) ?_ (fun k => by
        rw [papermillref16_Cost.l0]
        rw [if_neg (by omega)])
      exact Tells.ite (fun _ => Tells.const _) (fun _ => Tells.const _)
    | succ d ih =>
      intro i s hi h0 h1 hs
      have hc := l2 i (by omega)
      have hmi := inAll_iff.1 m4 _ (rd_mem m i (by omega) (by omega))
      obtain ⟨_, v0, v1, v2⟩ := md_cost _ _ hc.1 hc.2 hmi.1 hmi.2
      rw [costL] at hs
      have hn := ih (i + 1) (s + mdS (rd_T43 l (i : Int)).f1 (rd m (i : Int)) 1000000 2) (by omega) (by omega) (by omega) (by omega)
      refine Tells.up (g := fun k => (papermillref01_MulDiv.f k (rd_T43 l (i : Int)).f1 (rd m (i : Int)) 1000000 2).bind fun b => papermillref16_Cost.l0 k l m (wrap64 (s + b.1)) ((i + 1 : Nat) : Int)) ?_ (fun k => by
        rw [papermillref16_Cost.l0]
        rw [if_pos (by omega), if_pos (by omega), if_pos (by omega), wrap64_id (n := (i : Int) + 1) (by omega) (by omega)]
        rfl)
      refine Tells.bind (muldiv01_tells _ _ 1000000 2 hc.1 (by omega) hmi.1 (by omega) (by omega) (by omega) (Or.inl v2) (Or.inr rfl)) ?_
      rw [wrap64_id (n := s + _) (by omega) (by omega)]
      exact hn
  exact lp l.length 0 0 (by omega) (by omega) (by omega) (by omega)
theorem FibreCosts : papermilllaw16_FibreCosts.Pure := by
  intro l m hl _ _ _ _ _
  apply Tells.get
  obtain ⟨b, hb, hb2⟩ := many_tells l hl
  have hj : ∀ c : Bool, (c = false → l.length ≤ 60 ∧ m.length ≤ 60) → Tells (fun k => papermilllaw16_FibreCosts.j0 k l m c) true := by
    intro c hc
    refine Tells.up (f := fun k => papermilllaw16_FibreCosts.j0 k l m c) ?_ (fun k => by rw [papermilllaw16_FibreCosts.j0])
    by_cases h : c = true
    · exact Tells.pos h (Tells.bind awake_tells (Tells.const true))
    · have h2 := hc (eq_false_of_ne_true h)
      refine Tells.neg h (Tells.bind (cost_tells l m (by omega) (by omega)) (Tells.bind (cost16_tells l m (by omega) (by omega)) (Tells.pos rfl (Tells.pos rfl ?_))))
      exact Tells.bind awake_tells (Tells.const true)
  refine Tells.congr (g := fun k => (papermilllaw16_many.f k l).bind fun b => if b = true then papermilllaw16_FibreCosts.j0 k l m true else papermilllaw16_FibreCosts.j0 k l m (decide ((m.length : Int) > 60))) ?_ (fun k => by
    unfold papermilllaw16_FibreCosts.f
    rfl)
  refine Tells.bind hb ?_
  by_cases h : b = true
  · exact Tells.pos h (hj true (by simp))
  · refine Tells.neg h (hj _ (fun h2 => ?_))
    have := hb2 (eq_false_of_ne_true h)
    rw [decide_eq_false_iff_not] at h2
    omega

end Go.Proofs.Ytlnboodobmbcjaa.Pure
