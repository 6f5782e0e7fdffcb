import Derived.Test.YtlnboodobmbcjaaPrint34
namespace Go.Proofs.Ytlnboodobmbcjaa.Pure
open Go.RowKit Go.Proofs.Ytlnboodobmbcjaa.Print Go.Proofs.YtlnboodobmbcjaaW.PrintWords Go.Proofs.YtlnboodobmbcjaaW.PrintLast
set_option linter.unusedVariables false
set_option linter.unusedSimpArgs false

-- TELLS: what a printed function tells from some number of rounds on (ours; Ytlnboodobmbcjaa: the seat's name). Pasted at the head of a Pure text.
/-- From some number of rounds on f tells r. -/
def Tells {α : Type} (f : Nat → Option α) (r : α) : Prop := ∃ K, ∀ k, K ≤ k → f k = some r
namespace Tells
theorem leO {α : Type} {f : Nat → Option α} (hm : ∀ k, LeO (f k) (f (k + 1))) {K : Nat} {r : α} (h : f K = some r) : ∀ k, K ≤ k → f k = some r := by
  intro k hk
  induction hk with
  | refl => exact h
  | step _ ih => exact hm _ _ ih
theorem of {α : Type} {f : Nat → Option α} (hm : ∀ k, LeO (f k) (f (k + 1))) {r : α} (h : ∃ K, f K = some r) : Tells f r := by
  obtain ⟨K, h⟩ := h
  exact ⟨K, leO hm h⟩
theorem get {α : Type} {f : Nat → Option α} {r : α} (h : Tells f r) : ∃ k, f k = some r := by
  obtain ⟨K, h⟩ := h
  exact ⟨K, h K (Nat.le_refl K)⟩
theorem const {α : Type} (r : α) : Tells (fun _ => some r) r := ⟨0, fun _ _ => rfl⟩
theorem bind {α β : Type} {f : Nat → Option α} {g : Nat → α → Option β} {r : α} {s : β} (h : Tells f r) (h' : Tells (fun k => g k r) s) : Tells (fun k => (f k).bind (g k)) s := by
  obtain ⟨K, h⟩ := h
  obtain ⟨K', h'⟩ := h'
  refine ⟨max K K', fun k hk => ?_⟩
  show (f k).bind (g k) = some s
  rw [h k (by omega)]
  exact h' k (by omega)
theorem congr {α : Type} {f g : Nat → Option α} {r : α} (h : Tells g r) (e : ∀ k, f k = g k) : Tells f r := by
  obtain ⟨K, h⟩ := h
  exact ⟨K, fun k hk => (e k).trans (h k hk)⟩
theorem up {α : Type} {f g : Nat → Option α} {r : α} (h : Tells g r) (e : ∀ k, f (k + 1) = g k) : Tells f r := by
  obtain ⟨K, h⟩ := h
  refine ⟨K + 1, fun k hk => ?_⟩
  obtain ⟨m, rfl⟩ : ∃ m, k = m + 1 := ⟨k - 1, by omega⟩
  exact (e m).trans (h m (by omega))
theorem ite {α : Type} {c : Prop} [Decidable c] {f g : Nat → Option α} {r s : α} (h : c → Tells f r) (h' : ¬ c → Tells g s) : Tells (fun k => if c then f k else g k) (if c then r else s) := by
  by_cases hc : c
  · simp only [if_pos hc]; exact h hc
  · simp only [if_neg hc]; exact h' hc
theorem pos {α : Type} {c : Prop} [Decidable c] {f g : Nat → Option α} {r : α} (hc : c) (h : Tells f r) : Tells (fun k => if c then f k else g k) r := by
  simp only [if_pos hc]; exact h
theorem neg {α : Type} {c : Prop} [Decidable c] {f g : Nat → Option α} {r : α} (hc : ¬ c) (h : Tells g r) : Tells (fun k => if c then f k else g k) r := by
  simp only [if_neg hc]; exact h
end Tells
theorem wrap64_id {n : Int} (h0 : -9223372036854775808 ≤ n) (h1 : n < 9223372036854775808) : wrap64 n = n := by
  unfold wrap64; omega
theorem wf64 {n : Int} (h : (Lit.int .i64 n).wf = true) : -9223372036854775808 ≤ n ∧ n < 9223372036854775808 := by
  have h' : (decide (-9223372036854775808 ≤ n) && decide (n ≤ 9223372036854775807)) = true := h
  simp only [Bool.and_eq_true, decide_eq_true_eq] at h'
  omega

-- LISTS: what the printed texts' lists come to (ours). Behind tells.lean.
theorem rd_drop (l : List Int) (i : Nat) (h : i < l.length) : l.drop i = rd l (i : Int) :: l.drop (i + 1) := by
  rw [List.drop_eq_getElem_cons h]
  congr 1
  show l[i] = l.getD (i : Int).toNat 0
  simp [h]
theorem rd_at (l : List Int) (i : Nat) (h : i < l.length) : rd l (i : Int) = l[i] := by
  show l.getD (i : Int).toNat 0 = _
  simp [h]
theorem rd_mid (A : List Int) (x : Int) (B : List Int) : rd (A ++ x :: B) (A.length : Int) = x := by
  show (A ++ x :: B).getD (A.length : Int).toNat 0 = x
  simp
theorem rd_mid' {l A : List Int} {x : Int} {B : List Int} {i : Int} (h : l = A ++ x :: B) (hi : i = (A.length : Int)) : rd l i = x := by
  subst h hi; exact rd_mid A x B
theorem set_mid (A : List Int) (x v : Int) (B : List Int) : (A ++ x :: B).set ((A.length : Int)).toNat v = A ++ v :: B := by simp
theorem set_mid' {l A : List Int} {x v : Int} {B : List Int} {i : Int} (h : l = A ++ x :: B) (hi : i = (A.length : Int)) : l.set i.toNat v = A ++ v :: B := by
  subst h hi; exact set_mid A x v B
theorem rd_mem (l : List Int) (i : Int) (h0 : 0 ≤ i) (h : i < (l.length : Int)) : rd l i ∈ l := by
  obtain ⟨j, rfl⟩ : ∃ j : Nat, i = (j : Int) := ⟨i.toNat, by omega⟩
  rw [rd_at l j (by omega)]
  exact List.getElem_mem _
theorem ext_rd {a b : List Int} (hl : a.length = b.length) (h : ∀ i : Nat, i < a.length → rd a (i : Int) = rd b (i : Int)) : a = b := by
  apply List.ext_getElem hl
  intro i h1 h2
  have := h i h1
  rwa [rd_at a i h1, rd_at b i h2] at this
theorem rd_map (f : Int → Int) (l : List Int) (i : Nat) (h : i < l.length) : rd (l.map f) (i : Int) = f (rd l (i : Int)) := by
  rw [rd_at _ i (by simpa using h), rd_at l i h]
  simp
theorem rd_set (l : List Int) (i j : Nat) (v : Int) (h : j < l.length) : rd (l.set i v) (j : Int) = if i = j then v else rd l (j : Int) := by
  rw [rd_at _ j (by simpa using h), rd_at l j h, List.getElem_set]
theorem rd_replicate (n i : Nat) (v : Int) (h : i < n) : rd (List.replicate n v) (i : Int) = v := by
  rw [rd_at _ i (by simpa using h)]
  simp
/-- The sum, as the program adds it up. -/
def sumFrom (s : Int) : List Int → Int
  | [] => s
  | x :: l => sumFrom (wrap64 (s + x)) l
/-- All from 0 to most. -/
def inAll (most : Int) (l : List Int) : Bool := l.all fun x => decide (0 ≤ x) && decide (x ≤ most)
theorem inAll_iff {m : Int} {l : List Int} : inAll m l = true ↔ ∀ x ∈ l, 0 ≤ x ∧ x ≤ m := by
  unfold inAll
  simp [List.all_eq_true, Bool.and_eq_true, decide_eq_true_eq]
theorem inAll_cons {m x : Int} {l : List Int} : inAll m (x :: l) = ((decide (0 ≤ x) && decide (x ≤ m)) && inAll m l) := rfl
theorem sum_bounds {m : Int} {l : List Int} (h : inAll m l = true) : 0 ≤ l.sum ∧ l.sum ≤ m * l.length := by
  induction l with
  | nil => simp
  | cons x l ih =>
    rw [inAll_cons, Bool.and_eq_true, Bool.and_eq_true, decide_eq_true_eq, decide_eq_true_eq] at h
    have := ih h.2
    rw [List.sum_cons, List.length_cons]
    have e : m * ((l.length + 1 : Nat) : Int) = m * l.length + m := by rw [Int.natCast_add, Int.mul_add]; simp
    omega
theorem sum_mem_le {m : Int} {l : List Int} (h : inAll m l = true) : ∀ x ∈ l, x ≤ l.sum := by
  induction l with
  | nil => simp
  | cons y l ih =>
    have h' := h
    rw [inAll_cons, Bool.and_eq_true, Bool.and_eq_true, decide_eq_true_eq, decide_eq_true_eq] at h'
    have hb := sum_bounds h'.2
    intro x hx
    rw [List.sum_cons]
    rcases List.mem_cons.1 hx with rfl | hx
    · omega
    · have := ih h'.2 x hx; omega
theorem sumFrom_eq {m : Int} (l : List Int) (h : inAll m l = true) : ∀ s, 0 ≤ s → 0 ≤ m → s + m * l.length < 9223372036854775808 → sumFrom s l = s + l.sum := by
  induction l with
  | nil => intro s _ _ _; simp [sumFrom]
  | cons x l ih =>
    intro s h0 hm h1
    rw [inAll_cons, Bool.and_eq_true, Bool.and_eq_true, decide_eq_true_eq, decide_eq_true_eq] at h
    have e : m * ((l.length + 1 : Nat) : Int) = m * l.length + m := by rw [Int.natCast_add, Int.mul_add]; simp
    rw [List.length_cons, e] at h1
    have hp : 0 ≤ m * (l.length : Int) := Int.mul_nonneg hm (by omega)
    show sumFrom (wrap64 (s + x)) l = _
    rw [wrap64_id (by omega) (by omega), ih h.2 (s + x) (by omega) hm (by omega), List.sum_cons]
    omega
/-- 0, 1, .., n - 1 -/
def idx (n : Nat) : List Int := (List.range n).map (fun i : Nat => (i : Int))
theorem idx_len (n : Nat) : (idx n).length = n := by simp [idx]
theorem idx_succ (n : Nat) : idx (n + 1) = idx n ++ [(n : Int)] := by simp [idx, List.range_succ]
theorem mem_idx {n : Nat} {i : Int} : i ∈ idx n ↔ 0 ≤ i ∧ i < (n : Int) := by
  unfold idx
  rw [List.mem_map]
  constructor
  · rintro ⟨j, hj, rfl⟩
    have := List.mem_range.1 hj
    omega
  · rintro ⟨h0, h1⟩
    exact ⟨i.toNat, List.mem_range.2 (by omega), by omega⟩
theorem rd_idx (n i : Nat) (h : i < n) : rd (idx n) (i : Int) = i := by
  rw [rd_at _ i (by rw [idx_len]; exact h)]
  simp [idx]
theorem idx_nodup (n : Nat) : (idx n).Nodup := by
  induction n with
  | zero => simp [idx]
  | succ n ih =>
    rw [idx_succ, List.nodup_append]
    refine ⟨ih, by simp, ?_⟩
    intro a ha b hb
    rw [List.mem_singleton] at hb
    have := mem_idx.1 ha
    omega
theorem map_idx (l : List Int) : (idx l.length).map (rd l) = l := by
  apply ext_rd (by simp [idx_len])
  intro i hi
  have hi' : i < l.length := by simpa [idx_len] using hi
  rw [rd_map _ _ i (by rw [idx_len]; exact hi'), rd_idx _ _ hi']

-- FIBREPARTS: fibre.Parts (ours). Behind lists.lean
theorem within_tells (l : List Int) (m : Int) (hl : l.length ≤ 1000) : Tells (fun k => fibre_within.f k l m) (inAll m l) := by
  have lp : ∀ n i k, n < k → i + n = l.length → fibre_all_int__fibre_within_1.l0 k l (l.length : Int) (i : Int) [m] = some (inAll m (l.drop i)) := by
    intro n
    induction n with
    | zero =>
      intro i k hk hi
      obtain ⟨j, rfl⟩ : ∃ j, k = j + 1 := ⟨k - 1, by omega⟩
      unfold fibre_all_int__fibre_within_1.l0
      rw [if_neg (by omega), List.drop_of_length_le (by omega)]
      rfl
    | succ n ih =>
      intro i k hk hi
      obtain ⟨j, rfl⟩ : ∃ j, k = j + 1 := ⟨k - 1, by omega⟩
      unfold fibre_all_int__fibre_within_1.l0
      rw [if_pos (by omega), if_pos (by omega), if_pos (by omega), wrap64_id (n := (i : Int) + 1) (by omega) (by omega), rd_drop l i (by omega)]
      have e : fibre_within_1.f (rd l (i : Int)) [m] = some (decide (0 ≤ rd l (i : Int)) && decide (rd l (i : Int) ≤ m)) := by
        unfold fibre_within_1.f
        by_cases h : rd l (i : Int) ≥ 0
        · have h' : 0 ≤ rd l (i : Int) := h
          rw [if_pos h, if_pos (by simp)]
          rw [decide_eq_true h', Bool.true_and]
          rfl
        · have h' : ¬ 0 ≤ rd l (i : Int) := h
          rw [if_neg h]
          simp [h']
      rw [e]
      show (if _ = true then _ else _) = _
      unfold inAll
      rw [List.all_cons]
      by_cases h : (decide (0 ≤ rd l (i : Int)) && decide (rd l (i : Int) ≤ m)) = true
      · rw [if_pos h, h, Bool.true_and]
        exact ih (i + 1) j (by omega) (by omega)
      · rw [if_neg h, eq_false_of_ne_true h]
        rfl
  refine ⟨l.length + 1, fun k hk => ?_⟩
  show fibre_within.f k l m = _
  unfold fibre_within.f fibre_all_int__fibre_within_1.f
  have := lp l.length 0 k (by omega) (by omega)
  rw [show ((0 : Nat) : Int) = 0 from rfl] at this
  rw [this]
  rfl
def partsS (l : List Int) (n : Int) : Int := if 1 ≤ n ∧ n ≤ 8 ∧ (l.length : Int) = n then (if inAll 1099511627776 l then 0 else 1) else 17
theorem parts_tells (l : List Int) (n : Int) (hl : l.length ≤ 1000) : Tells (fun k => fibre_Parts.f k l n) (partsS l n) := by
  have e : fibre_listed.f l n = some (decide (1 ≤ n ∧ n ≤ 8 ∧ (l.length : Int) = n)) := by
    unfold fibre_listed.f
    by_cases h1 : n ≥ 1
    · by_cases h2 : n ≤ 8
      · have h1' : 1 ≤ n := h1
        rw [if_pos h1, if_pos h2]
        by_cases h3 : (l.length : Int) = n
        · simp [h1', h2, h3]
        · simp [h1', h2, h3]
      · rw [if_pos h1, if_neg h2]; simp [h2]
    · have h1' : ¬ 1 ≤ n := h1
      rw [if_neg h1]; simp [h1']
  refine Tells.congr (g := fun k => if (1 ≤ n ∧ n ≤ 8 ∧ (l.length : Int) = n) then ((fibre_within.f k l 1099511627776).bind fun t => if t = true then some 0 else some 1) else some 17) ?_ (fun k => by
    unfold fibre_Parts.f
    rw [e]
    by_cases h : (1 ≤ n ∧ n ≤ 8 ∧ (l.length : Int) = n)
    · rw [if_pos h]; simp only [Option.bind_some, decide_eq_true h, if_true]
    · rw [if_neg h]; simp only [Option.bind_some, decide_eq_false h, Bool.false_eq_true, if_false])
  unfold partsS
  refine Tells.ite (fun h => ?_) (fun h => Tells.const 17)
  refine Tells.bind (within_tells l _ hl) ?_
  exact Tells.ite (fun _ => Tells.const 0) (fun _ => Tells.const 1)

-- FSUM (ours)
theorem fsum_tells (l : List Int) (hl : l.length ≤ 1000) : Tells (fun k => fibre_sum.f k l) (sumFrom 0 l) := by
  have lp : ∀ n i k s, n < k → i + n = l.length → fibre_sum.l0 k s l (l.length : Int) (i : Int) = some (sumFrom s (l.drop i)) := by
    intro n
    induction n with
    | zero =>
      intro i k s hk hi
      obtain ⟨m, rfl⟩ : ∃ m, k = m + 1 := ⟨k - 1, by omega⟩
      unfold fibre_sum.l0
      rw [if_neg (by omega), List.drop_of_length_le (by omega)]
      rfl
    | succ n ih =>
      intro i k s hk hi
      obtain ⟨m, rfl⟩ : ∃ m, k = m + 1 := ⟨k - 1, by omega⟩
      unfold fibre_sum.l0
      rw [if_pos (by omega), if_pos (by omega), if_pos (by omega), wrap64_id (n := (i : Int) + 1) (by omega) (by omega), rd_drop l i (by omega)]
      exact ih (i + 1) m _ (by omega) (by omega)
  refine ⟨l.length + 1, fun k hk => ?_⟩
  show fibre_sum.f k l = _
  unfold fibre_sum.f
  exact lp l.length 0 k 0 (by omega) (by omega)

-- ZIP (ours). Behind lists.lean
/-- The parts changed by some masses, times a sign. -/
def zipS (sg : Int) (l m : List Int) : List Int := (idx l.length).map fun i => wrap64 (rd l i + sg * rd m i)
theorem zipS_len (sg : Int) (l m : List Int) : (zipS sg l m).length = l.length := by simp [zipS, idx_len]
theorem rd_zipS (sg : Int) (l m : List Int) (i : Nat) (h : i < l.length) : rd (zipS sg l m) (i : Int) = wrap64 (rd l i + sg * rd m i) := by
  unfold zipS
  rw [rd_map _ _ i (by rw [idx_len]; exact h), rd_idx _ _ h]
theorem wrap64_in (a b : Int) : wrap64 (a + wrap64 b) = wrap64 (a + b) := by
  unfold wrap64; omega

-- PARTSLEN (ours)
theorem partsS_len {m : List Int} {n : Int} (h : partsS m n = 0) : 1 ≤ n ∧ n ≤ 8 ∧ (m.length : Int) = n ∧ inAll 1099511627776 m = true := by
  unfold partsS at h
  split at h
  · rename_i h1
    split at h
    · rename_i h2; exact ⟨h1.1, h1.2.1, h1.2.2, h2⟩
    · simp at h
  · simp at h

-- ADD16 (ours)
def addS (a b : List Int) : List Int × Int := if (a.length : Int) = (b.length : Int) then (if partsS a (a.length : Int) = 0 then (if partsS b (b.length : Int) = 0 then (if inAll 1099511627776 (zipS 1 a b) = true then (zipS 1 a b, 0) else ([], 2)) else ([], partsS b (b.length : Int))) else ([], partsS a (a.length : Int))) else ([], 17)
theorem add_tells (a b : List Int) (ha : a.length ≤ 1000) (hb : b.length ≤ 1000) : Tells (fun k => fibre_Add.f k a b) (addS a b) := by
  refine Tells.congr (g := fun k => if (a.length : Int) = (b.length : Int) then ((fibre_Parts.f k a (a.length : Int)).bind fun t => if t = 0 then ((fibre_Parts.f k b (b.length : Int)).bind fun t => if t = 0 then fibre_Add.l0 k a b (List.replicate a.length 0) (a.length : Int) ((0 : Nat) : Int) else some ([], t)) else some ([], t)) else some ([], 17)) ?_ (fun k => by
    unfold fibre_Add.f
    rw [if_pos (show 0 ≤ (a.length : Int) by omega), if_pos (show ((a.length : Int) : Int).toNat ≤ 35184372088832 by omega)]
    rfl)
  unfold addS
  refine Tells.ite (fun hl => ?_) (fun _ => Tells.const _)
  refine Tells.bind (parts_tells a _ ha) (Tells.ite (fun _ => ?_) (fun _ => Tells.const _))
  refine Tells.bind (parts_tells b _ hb) (Tells.ite (fun _ => ?_) (fun _ => Tells.const _))
  have lp : ∀ d i X, i + d = a.length → X.length = a.length → (∀ j : Nat, j < i → rd X j = wrap64 (rd a j + 1 * rd b j)) → Tells (fun k => fibre_Add.l0 k a b X (a.length : Int) (i : Int)) (if inAll 1099511627776 (zipS 1 a b) = true then (zipS 1 a b, 0) else ([], 2)) := by
    intro d
    induction d with
    | zero =>
      intro i X hi hX hj
      have : X = zipS 1 a b := by
        apply ext_rd (by rw [zipS_len, hX])
        intro j h
        rw [hj j (by omega), rd_zipS _ _ _ _ (by omega)]
      subst this
      refine Tells.up (g := fun k => (fibre_within.f k (zipS 1 a b) 1099511627776).bind fun t => if t = true then some (zipS 1 a b, 0) else some ([], 2)) ?_ (fun k => by
        rw [fibre_Add.l0]
        rw [if_neg (by omega)])
      refine Tells.bind (within_tells _ _ (by rw [zipS_len]; omega)) ?_
      exact Tells.ite (fun _ => Tells.const _) (fun _ => Tells.const _)
    | succ d ih =>
      intro i X hi hX hj
      refine Tells.up (ih (i + 1) (X.set i (wrap64 (rd a i + 1 * rd b i))) (by omega) (by simpa using hX) ?_) (fun k => ?_)
      · intro j h
        rw [rd_set _ _ _ _ (by omega)]
        by_cases e : i = j
        · subst e; rw [if_pos rfl]
        · rw [if_neg e, hj j (by omega)]
      · rw [fibre_Add.l0]
        rw [if_pos (by omega), if_pos (by omega), if_pos (by omega), if_pos (by omega), if_pos (by omega), wrap64_id (n := (i : Int) + 1) (by omega) (by omega), Int.one_mul]
        rfl
  exact lp a.length 0 _ (by omega) (by simp) (fun j h => by omega)
theorem addS_len (a b : List Int) : (addS a b).1.length ≤ a.length := by
  unfold addS
  repeat' split
  all_goals first | (rw [zipS_len]; exact Nat.le_refl _) | simp

-- SAME (ours)
theorem same16 (l : List Int) (hl : l.length ≤ 1000) : Tells (fun k => papermillref16_Same.f k l l) true := by
  have lp : ∀ n i k, n < k → i + n = l.length → papermillref16_Same.l0 k l l (i : Int) = some true := by
    intro n
    induction n with
    | zero =>
      intro i k hk hi
      obtain ⟨m, rfl⟩ : ∃ m, k = m + 1 := ⟨k - 1, by omega⟩
      unfold papermillref16_Same.l0
      rw [if_neg (by omega)]
    | succ n ih =>
      intro i k hk hi
      obtain ⟨m, rfl⟩ : ∃ m, k = m + 1 := ⟨k - 1, by omega⟩
      unfold papermillref16_Same.l0
      rw [if_pos (by omega), if_pos (by omega), if_pos (by omega), if_pos rfl, wrap64_id (by omega) (by omega)]
      exact ih (i + 1) m (by omega) (by omega)
  refine ⟨l.length + 1, fun k hk => ?_⟩
  show papermillref16_Same.f k l l = some true
  unfold papermillref16_Same.f
  rw [if_pos rfl]
  exact lp l.length 0 k (by omega) (by omega)

-- TOTAL (ours)
def totalS (l : List Int) : Int × Int := if partsS l (l.length : Int) = 0 then (sumFrom 0 l, 0) else (0, partsS l (l.length : Int))
theorem total_tells (l : List Int) (hl : l.length ≤ 1000) : Tells (fun k => fibre_Total.f k l) (totalS l) := by
  refine Tells.congr (g := fun k => (fibre_Parts.f k l (l.length : Int)).bind fun t => if t = 0 then ((fibre_sum.f k l).bind fun s => some (s, 0)) else some (0, t)) ?_ (fun k => by unfold fibre_Total.f; rfl)
  refine Tells.bind (parts_tells l _ hl) ?_
  unfold totalS
  exact Tells.ite (fun _ => Tells.bind (fsum_tells l hl) (Tells.const _)) (fun _ => Tells.const _)

-- AWAKE16 (ours)
theorem awake_tells : Tells (fun k => papermilllaw16_awake.f k) true := Tells.of (fun k => papermilllaw16_awake.mono k) ⟨200, by decide +kernel⟩
theorem great_val (l : List Int) : papermilllaw16_great.f l = some (decide ((l.length : Int) > 60)) := by unfold papermilllaw16_great.f; rfl

theorem partsS_vals (l : List Int) (n : Int) : partsS l n = 0 ∨ partsS l n = 1 ∨ partsS l n = 17 := by
  unfold partsS
  repeat' split
  all_goals simp
theorem zip_comm (a b : List Int) (h : a.length = b.length) : zipS 1 a b = zipS 1 b a := by
  apply ext_rd (by rw [zipS_len, zipS_len, h])
  intro i hi
  rw [zipS_len] at hi
  rw [rd_zipS _ _ _ _ hi, rd_zipS _ _ _ _ (by omega), Int.one_mul, Int.one_mul, Int.add_comm]
theorem parts_17 (a b : List Int) (h : a.length = b.length) : partsS a (a.length : Int) = 17 ↔ partsS b (b.length : Int) = 17 := by
  unfold partsS
  rw [h]
  split
  · constructor
    · intro h; split at h <;> simp at h
    · intro h; split at h <;> simp at h
  · simp
theorem add_comm (a b : List Int) : addS a b = addS b a := by
  unfold addS
  by_cases h : (a.length : Int) = (b.length : Int)
  · have hl : a.length = b.length := by omega
    have h17 := parts_17 a b hl
    rw [if_pos h, if_pos h.symm, zip_comm a b hl]
    rcases partsS_vals a (a.length : Int) with pa | pa | pa <;> rcases partsS_vals b (b.length : Int) with pb | pb | pb <;> simp [pa, pb] at h17 ⊢
  · rw [if_neg h, if_neg (fun e => h e.symm)]
theorem FibreSums : papermilllaw16_FibreSums.Pure := by
  intro a b _ _ _ _ _ _
  apply Tells.get
  refine Tells.congr (g := fun k => papermilllaw16_FibreSums.j0 k a b (decide ((a.length : Int) > 60 ∨ (b.length : Int) > 60))) ?_ (fun k => by
    unfold papermilllaw16_FibreSums.f
    rw [great_val, great_val]
    simp only [Option.bind_some]
    by_cases h : (a.length : Int) > 60
    · rw [if_pos (decide_eq_true h), decide_eq_true (p := (a.length : Int) > 60 ∨ (b.length : Int) > 60) (Or.inl h)]
    · rw [if_neg (by simpa using h)]; congr 1; simp [h])
  refine Tells.up (f := fun k => papermilllaw16_FibreSums.j0 k a b (decide ((a.length : Int) > 60 ∨ (b.length : Int) > 60))) ?_ (fun k => by rw [papermilllaw16_FibreSums.j0])
  by_cases h : (a.length : Int) > 60 ∨ (b.length : Int) > 60
  · exact Tells.pos (decide_eq_true h) (Tells.bind awake_tells (Tells.const true))
  refine Tells.neg (by simpa using h) ?_
  have hl := addS_len a b
  refine Tells.bind (add_tells a b (by omega) (by omega)) (Tells.bind (add_tells b a (by omega) (by omega)) ?_)
  rw [add_comm b a]
  refine Tells.pos rfl (Tells.bind (same16 _ (by omega)) ?_)
  refine Tells.up (f := fun k => papermilllaw16_FibreSums.j1 k a b (addS a b).1 (addS a b).2 (!true)) ?_ (fun k => by rw [papermilllaw16_FibreSums.j1])
  refine Tells.neg (by simp) ?_
  by_cases h0 : (addS a b).2 = 0
  · refine Tells.pos h0 ?_
    refine Tells.bind (total_tells a (by omega)) (Tells.bind (total_tells b (by omega)) (Tells.bind (total_tells _ (by omega)) ?_))
    unfold addS at h0 ⊢
    split at h0
    · rename_i c1
      split at h0
      · rename_i c2
        split at h0
        · rename_i c3
          split at h0
          · rename_i c4
            rw [if_pos c1, if_pos c2, if_pos c3, if_pos c4]
            obtain ⟨a1, a2, a3, a4⟩ := partsS_len c2
            obtain ⟨b1, b2, b3, b4⟩ := partsS_len c3
            have hz : partsS (zipS 1 a b) ((zipS 1 a b).length : Int) = 0 := by
              unfold partsS
              rw [zipS_len, if_pos (by omega), c4]; rfl
            have sa := sumFrom_eq a a4 0 (by omega) (by omega) (by omega)
            have sb := sumFrom_eq b b4 0 (by omega) (by omega) (by omega)
            have sz := sumFrom_eq _ c4 0 (by omega) (by omega) (by rw [zipS_len]; omega)
            have ba := sum_bounds a4
            have bb := sum_bounds b4
            have hzs : (zipS 1 a b).sum = a.sum + b.sum := by
              have e : zipS 1 a b = (idx a.length).map fun i => rd a i + rd b i := by
                unfold zipS
                apply List.map_congr_left
                intro x hx
                obtain ⟨h0, h2⟩ := mem_idx.1 hx
                have h3 := inAll_iff.1 a4 _ (rd_mem a x h0 h2)
                have h4 := inAll_iff.1 b4 _ (rd_mem b x h0 (by omega))
                rw [Int.one_mul]
                exact wrap64_id (by omega) (by omega)
              have hsum : ∀ (n : List Int) (f g : Int → Int), (n.map fun i => f i + g i).sum = (n.map f).sum + (n.map g).sum := by
                intro n f g
                induction n with
                | nil => simp
                | cons x n ih => rw [List.map_cons, List.map_cons, List.map_cons, List.sum_cons, List.sum_cons, List.sum_cons, ih]; omega
              have hm1 := map_idx b
              rw [← show a.length = b.length by omega] at hm1
              rw [e, hsum, map_idx, hm1]
            unfold totalS
            rw [if_pos c2, if_pos c3, if_pos hz]
            refine Tells.pos rfl (Tells.pos rfl (Tells.pos rfl (Tells.pos ?_ ?_)))
            · show sumFrom 0 (zipS 1 a b) = wrap64 (sumFrom 0 a + sumFrom 0 b)
              rw [sz, sa, sb, hzs, wrap64_id (by omega) (by omega)]
              omega
            · exact Tells.bind awake_tells (Tells.const true)
          · simp at h0
        · rename_i c3
          exact absurd h0 c3
      · rename_i c2
        exact absurd h0 c2
    · simp at h0
  · refine Tells.neg h0 ?_
    have : (addS a b).1 = [] := by
      unfold addS at h0 ⊢
      repeat' split
      all_goals first | rfl | skip
      rename_i c1 c2 c3 c4
      rw [if_pos c1, if_pos c2, if_pos c3, if_pos c4] at h0
      exact absurd rfl h0
    refine Tells.pos (by rw [this]; rfl) ?_
    exact Tells.bind awake_tells (Tells.const true)

end Go.Proofs.Ytlnboodobmbcjaa.Pure
