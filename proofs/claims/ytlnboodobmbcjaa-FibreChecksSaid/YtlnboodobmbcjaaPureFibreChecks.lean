import Derived.Test.YtlnboodobmbcjaaPrint22
namespace Go.Proofs.Ytlnboodobmbcjaa.Pure
open Go.RowKit Go.Proofs.Ytlnboodobmbcjaa.Print Go.Proofs.YtlnboodobmbcjaaW.PrintWords Go.Proofs.YtlnboodobmbcjaaW.PrintLast
set_option linter.unusedVariables false
set_option linter.unusedSimpArgs false

-- TELLS: what a printed function tells from some number of rounds on (ours; Ytlnboodobmbcjaa: the seat's name). Pasted at the head of a Pure text.
/-- From some number of rounds on f tells r. -/
def Tells {α : Type} (f : Nat → Option α) (r : α) : Prop := ∃ K, ∀ k, K ≤ k → f k = some r
namespace Tells
theorem leO {α : Type} {f : Nat → Option α} (hm : ∀ k, LeO (f k) (f (k + 1))) {K : Nat} {r : α} (h : f K = some r) : ∀ k, K ≤ k → f k = some r := by
  intro k hk
  induction hk with
  | refl => exact h
  | step _ ih => exact hm _ _ ih
theorem of {α : Type} {f : Nat → Option α} (hm : ∀ k, LeO (f k) (f (k + 1))) {r : α} (h : ∃ K, f K = some r) : Tells f r := by
  obtain ⟨K, h⟩ := h
  exact ⟨K, leO hm h⟩
theorem get {α : Type} {f : Nat → Option α} {r : α} (h : Tells f r) : ∃ k, f k = some r := by
  obtain ⟨K, h⟩ := h
  exact ⟨K, h K (Nat.le_refl K)⟩
theorem const {α : Type} (r : α) : Tells (fun _ => some r) r := ⟨0, fun _ _ => rfl⟩
theorem bind {α β : Type} {f : Nat → Option α} {g : Nat → α → Option β} {r : α} {s : β} (h : Tells f r) (h' : Tells (fun k => g k r) s) : Tells (fun k => (f k).bind (g k)) s := by
  obtain ⟨K, h⟩ := h
  obtain ⟨K', h'⟩ := h'
  refine ⟨max K K', fun k hk => ?_⟩
  show (f k).bind (g k) = some s
  rw [h k (by omega)]
  exact h' k (by omega)
theorem congr {α : Type} {f g : Nat → Option α} {r : α} (h : Tells g r) (e : ∀ k, f k = g k) : Tells f r := by
  obtain ⟨K, h⟩ := h
  exact ⟨K, fun k hk => (e k).trans (h k hk)⟩
theorem up {α : Type} {f g : Nat → Option α} {r : α} (h : Tells g r) (e : ∀ k, f (k + 1) = g k) : Tells f r := by
  obtain ⟨K, h⟩ := h
  refine ⟨K + 1, fun k hk => ?_⟩
  obtain ⟨m, rfl⟩ : ∃ m, k = m + 1 := ⟨k - 1, by omega⟩
  exact (e m).trans (h m (by omega))
theorem ite {α : Type} {c : Prop} [Decidable c] {f g : Nat → Option α} {r s : α} (h : c → Tells f r) (h' : ¬ c → Tells g s) : Tells (fun k => if c then f k else g k) (if c then r else s) := by
  by_cases hc : c
  · simp only [if_pos hc]; exact h hc
  · simp only [if_neg hc]; exact h' hc
theorem pos {α : Type} {c : Prop} [Decidable c] {f g : Nat → Option α} {r : α} (hc : c) (h : Tells f r) : Tells (fun k => if c then f k else g k) r := by
  simp only [if_pos hc]; exact h
theorem neg {α : Type} {c : Prop} [Decidable c] {f g : Nat → Option α} {r : α} (hc : ¬ c) (h : Tells g r) : Tells (fun k => if c then f k else g k) r := by
  simp only [if_neg hc]; exact h
end Tells
theorem wrap64_id {n : Int} (h0 : -9223372036854775808 ≤ n) (h1 : n < 9223372036854775808) : wrap64 n = n := by
  unfold wrap64; omega
theorem wf64 {n : Int} (h : (Lit.int .i64 n).wf = true) : -9223372036854775808 ≤ n ∧ n < 9223372036854775808 := by
  have h' : (decide (-9223372036854775808 ≤ n) && decide (n ≤ 9223372036854775807)) = true := h
  simp only [Bool.and_eq_true, decide_eq_true_eq] at h'
  omega

-- LISTS: what the printed texts' lists come to (ours). Behind tells.lean.
theorem rd_drop (l : List Int) (i : Nat) (h : i < l.length) : l.drop i = rd l (i : Int) :: l.drop (i + 1) := by
  rw [List.drop_eq_getElem_cons h]
  congr 1
  show l[i] = l.getD (i : Int).toNat 0
  simp [h]
theorem rd_at (l : List Int) (i : Nat) (h : i < l.length) : rd l (i : Int) = l[i] := by
  show l.getD (i : Int).toNat 0 = _
  simp [h]
theorem rd_mid (A : List Int) (x : Int) (B : List Int) : rd (A ++ x :: B) (A.length : Int) = x := by
  show (A ++ x :: B).getD (A.length : Int).toNat 0 = x
  simp
theorem rd_mid' {l A : List Int} {x : Int} {B : List Int} {i : Int} (h : l = A ++ x :: B) (hi : i = (A.length : Int)) : rd l i = x := by
  subst h hi; exact rd_mid A x B
theorem set_mid (A : List Int) (x v : Int) (B : List Int) : (A ++ x :: B).set ((A.length : Int)).toNat v = A ++ v :: B := by simp
theorem set_mid' {l A : List Int} {x v : Int} {B : List Int} {i : Int} (h : l = A ++ x :: B) (hi : i = (A.length : Int)) : l.set i.toNat v = A ++ v :: B := by
  subst h hi; exact set_mid A x v B
theorem rd_mem (l : List Int) (i : Int) (h0 : 0 ≤ i) (h : i < (l.length : Int)) : rd l i ∈ l := by
  obtain ⟨j, rfl⟩ : ∃ j : Nat, i = (j : Int) := ⟨i.toNat, by omega⟩
  rw [rd_at l j (by omega)]
  exact List.getElem_mem _
theorem ext_rd {a b : List Int} (hl : a.length = b.length) (h : ∀ i : Nat, i < a.length → rd a (i : Int) = rd b (i : Int)) : a = b := by
  apply List.ext_getElem hl
  intro i h1 h2
  have := h i h1
  rwa [rd_at a i h1, rd_at b i h2] at this
theorem rd_map (f : Int → Int) (l : List Int) (i : Nat) (h : i < l.length) : rd (l.map f) (i : Int) = f (rd l (i : Int)) := by
  rw [rd_at _ i (by simpa using h), rd_at l i h]
  simp
theorem rd_set (l : List Int) (i j : Nat) (v : Int) (h : j < l.length) : rd (l.set i v) (j : Int) = if i = j then v else rd l (j : Int) := by
  rw [rd_at _ j (by simpa using h), rd_at l j h, List.getElem_set]
theorem rd_replicate (n i : Nat) (v : Int) (h : i < n) : rd (List.replicate n v) (i : Int) = v := by
  rw [rd_at _ i (by simpa using h)]
  simp
/-- The sum, as the program adds it up. -/
def sumFrom (s : Int) : List Int → Int
  | [] => s
  | x :: l => sumFrom (wrap64 (s + x)) l
/-- All from 0 to most. -/
def inAll (most : Int) (l : List Int) : Bool := l.all fun x => decide (0 ≤ x) && decide (x ≤ most)
theorem inAll_iff {m : Int} {l : List Int} : inAll m l = true ↔ ∀ x ∈ l, 0 ≤ x ∧ x ≤ m := by
  unfold inAll
  simp [List.all_eq_true, Bool.and_eq_true, decide_eq_true_eq]
theorem inAll_cons {m x : Int} {l : List Int} : inAll m (x :: l) = ((decide (0 ≤ x) && decide (x ≤ m)) && inAll m l) := rfl
theorem sum_bounds {m : Int} {l : List Int} (h : inAll m l = true) : 0 ≤ l.sum ∧ l.sum ≤ m * l.length := by
  induction l with
  | nil => simp
  | cons x l ih =>
    rw [inAll_cons, Bool.and_eq_true, Bool.and_eq_true, decide_eq_true_eq, decide_eq_true_eq] at h
    have := ih h.2
    rw [List.sum_cons, List.length_cons]
    have e : m * ((l.length + 1 : Nat) : Int) = m * l.length + m := by rw [Int.natCast_add, Int.mul_add]; simp
    omega
theorem sum_mem_le {m : Int} {l : List Int} (h : inAll m l = true) : ∀ x ∈ l, x ≤ l.sum := by
  induction l with
  | nil => simp
  | cons y l ih =>
    have h' := h
    rw [inAll_cons, Bool.and_eq_true, Bool.and_eq_true, decide_eq_true_eq, decide_eq_true_eq] at h'
    have hb := sum_bounds h'.2
    intro x hx
    rw [List.sum_cons]
    rcases List.mem_cons.1 hx with rfl | hx
    · omega
    · have := ih h'.2 x hx; omega
theorem sumFrom_eq {m : Int} (l : List Int) (h : inAll m l = true) : ∀ s, 0 ≤ s → 0 ≤ m → s + m * l.length < 9223372036854775808 → sumFrom s l = s + l.sum := by
  induction l with
  | nil => intro s _ _ _; simp [sumFrom]
  | cons x l ih =>
    intro s h0 hm h1
    rw [inAll_cons, Bool.and_eq_true, Bool.and_eq_true, decide_eq_true_eq, decide_eq_true_eq] at h
    have e : m * ((l.length + 1 : Nat) : Int) = m * l.length + m := by rw [Int.natCast_add, Int.mul_add]; simp
    rw [List.length_cons, e] at h1
    have hp : 0 ≤ m * (l.length : Int) := Int.mul_nonneg hm (by omega)
    show sumFrom (wrap64 (s + x)) l = _
    rw [wrap64_id (by omega) (by omega), ih h.2 (s + x) (by omega) hm (by omega), List.sum_cons]
    omega
/-- 0, 1, .., n - 1 -/
def idx (n : Nat) : List Int := (List.range n).map (fun i : Nat => (i : Int))
theorem idx_len (n : Nat) : (idx n).length = n := by simp [idx]
theorem idx_succ (n : Nat) : idx (n + 1) = idx n ++ [(n : Int)] := by simp [idx, List.range_succ]
theorem mem_idx {n : Nat} {i : Int} : i ∈ idx n ↔ 0 ≤ i ∧ i < (n : Int) := by
  unfold idx
  rw [List.mem_map]
  constructor
  · rintro ⟨j, hj, rfl⟩
    have := List.mem_range.1 hj
    omega
  · rintro ⟨h0, h1⟩
    exact ⟨i.toNat, List.mem_range.2 (by omega), by omega⟩
theorem rd_idx (n i : Nat) (h : i < n) : rd (idx n) (i : Int) = i := by
  rw [rd_at _ i (by rw [idx_len]; exact h)]
  simp [idx]
theorem idx_nodup (n : Nat) : (idx n).Nodup := by
  induction n with
  | zero => simp [idx]
  | succ n ih =>
    rw [idx_succ, List.nodup_append]
    refine ⟨ih, by simp, ?_⟩
    intro a ha b hb
    rw [List.mem_singleton] at hb
    have := mem_idx.1 ha
    omega
theorem map_idx (l : List Int) : (idx l.length).map (rd l) = l := by
  apply ext_rd (by simp [idx_len])
  intro i hi
  have hi' : i < l.length := by simpa [idx_len] using hi
  rw [rd_map _ _ i (by rw [idx_len]; exact hi'), rd_idx _ _ hi']

-- FIBRECHECK: names and kinds of fibre (ours; S43: this seat's Fibre)
theorem rdT_drop (l : List S43) (i : Nat) (h : i < l.length) : l.drop i = rd_T43 l (i : Int) :: l.drop (i + 1) := by
  rw [List.drop_eq_getElem_cons h]
  congr 1
  show l[i] = l.getD (i : Int).toNat z43
  simp [h]
def letterB (c : Int) : Bool := decide ((97 ≤ c ∧ c ≤ 122) ∨ (65 ≤ c ∧ c ≤ 90))
theorem letter_val (c : Int) : ident_letter.f c = some (letterB c) := by
  unfold ident_letter.f letterB
  by_cases h1 : c ≥ 97
  · rw [if_pos h1]
    by_cases h2 : c ≤ 122
    · rw [if_pos h2, decide_eq_true (by omega)]
    · rw [if_neg h2, if_pos (by omega), decide_eq_false (by omega), decide_eq_false (by omega)]
  · rw [if_neg h1]
    by_cases h2 : c ≥ 65
    · rw [if_pos h2]
      by_cases h3 : c ≤ 90
      · rw [decide_eq_true h3, decide_eq_true (by omega)]
      · rw [decide_eq_false h3, decide_eq_false (by omega)]
    · rw [if_neg h2, decide_eq_false (by omega)]
def allowedB (c : Int) : Bool := letterB c || decide ((48 ≤ c ∧ c ≤ 57) ∨ c = 45 ∨ c = 95 ∨ c = 46)
def validL (s : ByteArray) : Nat → Nat → Bool
  | 0, _ => true
  | d + 1, i => allowedB (bt s (i : Int)) && validL s d (i + 1)
def validS (s : ByteArray) : Bool := if (s.size : Int) < 1 then false else if (s.size : Int) > 32 then false else if letterB (bt s 0) = true then validL s s.size 0 else false
theorem Valid_tells (s : ByteArray) : Tells (fun k => ident_Valid.f k s) (validS s) := by
  have hj : ∀ b, Tells (fun k => ident_Valid.j0 k s b) (if b = true then false else if (s.size : Int) > 32 then true else validL s s.size 0) ∨ (s.size : Int) > 32 ∧ b = false := by
    intro b
    by_cases hs : (s.size : Int) > 32
    · cases b with
      | true =>
        left
        refine Tells.up (Tells.const _) (fun k => ?_)
        rw [ident_Valid.j0]
        simp
      | false => right; exact ⟨hs, rfl⟩
    · left
      have lp : ∀ d i, i + d = s.size → Tells (fun k => ident_Valid.l0 k s (s.size : Int) (i : Int)) (validL s d i) := by
        intro d
        induction d with
        | zero =>
          intro i hi
          refine Tells.up (Tells.const _) (fun k => ?_)
          rw [ident_Valid.l0]
          rw [if_neg (by omega)]
          rfl
        | succ d ih =>
          intro i hi
          have hn := ih (i + 1) (by omega)
          have ew : wrap64 ((i : Int) + 1) = ((i + 1 : Nat) : Int) := by rw [wrap64_id (by omega) (by omega)]; rfl
          show Tells _ (allowedB (bt s (i : Int)) && validL s d (i + 1))
          generalize hc : bt s (i : Int) = c
          by_cases hl : letterB c = true
          · have : allowedB c = true := by unfold allowedB; rw [hl]; rfl
            rw [this, Bool.true_and]
            refine Tells.up hn (fun k => ?_)
            rw [ident_Valid.l0]
            rw [if_pos (by omega), if_pos (by omega), if_pos (by omega), hc, letter_val, hl]
            simp only [Option.bind_some, if_true]
            rw [ew]
          · have ha : allowedB c = decide ((48 ≤ c ∧ c ≤ 57) ∨ c = 45 ∨ c = 95 ∨ c = 46) := by unfold allowedB; rw [eq_false_of_ne_true hl]; rfl
            rw [ha]
            by_cases hd : (48 ≤ c ∧ c ≤ 57) ∨ c = 45 ∨ c = 95 ∨ c = 46
            · rw [decide_eq_true hd, Bool.true_and]
              refine Tells.up hn (fun k => ?_)
              rw [ident_Valid.l0]
              rw [if_pos (by omega), if_pos (by omega), if_pos (by omega), hc, letter_val, eq_false_of_ne_true hl]
              simp only [Option.bind_some, Bool.false_eq_true, if_false]
              rw [ew]
              repeat' split
              all_goals first | rfl | omega
            · rw [decide_eq_false hd, Bool.false_and]
              refine Tells.up (Tells.const false) (fun k => ?_)
              rw [ident_Valid.l0]
              rw [if_pos (by omega), if_pos (by omega), if_pos (by omega), hc, letter_val, eq_false_of_ne_true hl]
              simp only [Option.bind_some, Bool.false_eq_true, if_false]
              rw [ew]
              repeat' split
              all_goals first | rfl | omega
      refine Tells.up (g := fun k => if b = true then some false else ident_Valid.l0 k s (s.size : Int) ((0 : Nat) : Int)) ?_ (fun k => by rw [ident_Valid.j0]; rfl)
      rw [if_neg hs]
      exact Tells.ite (fun _ => Tells.const _) (fun _ => lp s.size 0 (by omega))
  unfold validS
  by_cases h1 : (s.size : Int) < 1
  · rw [if_pos h1]
    rcases hj true with h | h
    · refine Tells.congr h (fun k => ?_)
      unfold ident_Valid.f
      rw [if_pos h1]
    · exact absurd h.2 (by simp)
  rw [if_neg h1]
  by_cases h2 : (s.size : Int) > 32
  · rw [if_pos h2]
    rcases hj true with h | h
    · refine Tells.congr h (fun k => ?_)
      unfold ident_Valid.f
      rw [if_neg h1, if_pos h2]
    · exact absurd h.2 (by simp)
  rw [if_neg h2]
  rcases hj (!letterB (bt s 0)) with h | h
  · refine Tells.congr (r := if letterB (bt s 0) = true then validL s s.size 0 else false) ?_ (fun k => ?_) (g := fun k => ident_Valid.j0 k s (!letterB (bt s 0)))
    · rw [if_neg h2] at h
      cases hb : letterB (bt s 0) with
      | true => rw [hb] at h; simpa using h
      | false => rw [hb] at h; simpa using h
    · unfold ident_Valid.f
      rw [if_neg h1, if_neg h2, if_pos (by omega), letter_val]
      rfl
  · exact absurd h.1 h2
def firstS : List S43 → Int
  | [] => 0
  | x :: l => if validS x.f0 = true then (if x.f1 < 0 then 1 else if x.f1 > 1000000000 then 1 else firstS l) else 5
def apartS (l : List S43) (i : Nat) : Bool := (l.take i).all fun g => g.f0.toList != (rd_T43 l (i : Int)).f0.toList
def dupL (l : List S43) : Nat → Nat → Int
  | 0, _ => 0
  | d + 1, i => if apartS l i = true then dupL l d (i + 1) else 6
def fcheckS (l : List S43) : Int := if (l.length : Int) = 0 then 10 else if (l.length : Int) > 8 then 8 else if firstS l = 0 then dupL l l.length 0 else firstS l
theorem fcheck_tells (l : List S43) (hl : l.length ≤ 1000) : Tells (fun k => fibre_Check.f k l) (fcheckS l) := by
  have hall : ∀ (g : List S43) (y : S43), g.length ≤ 1000 → Tells (fun k => api_Fibre__fibre_Check_1.f k g [⟨y.f0, y.f1⟩]) (g.all fun x => x.f0.toList != y.f0.toList) := by
    intro g y hg
    have lp : ∀ d i, i + d = g.length → Tells (fun k => api_Fibre__fibre_Check_1.l0 k g (g.length : Int) (i : Int) [⟨y.f0, y.f1⟩]) ((g.drop i).all fun x => x.f0.toList != y.f0.toList) := by
      intro d
      induction d with
      | zero =>
        intro i hi
        rw [List.drop_of_length_le (by omega)]
        refine Tells.up (Tells.const _) (fun k => ?_)
        rw [api_Fibre__fibre_Check_1.l0]
        rw [if_neg (by omega)]
        rfl
      | succ d ih =>
        intro i hi
        have e : ∀ a b, fibre_Check_1.f a b [⟨y.f0, y.f1⟩] = some (a.toList != y.f0.toList) := by
          intro a b
          unfold fibre_Check_1.f
          rw [if_pos (by simp)]
          rfl
        rw [rdT_drop g i (by omega), List.all_cons]
        refine Tells.up (g := fun k => if ((rd_T43 g (i : Int)).f0.toList != y.f0.toList) = true then api_Fibre__fibre_Check_1.l0 k g (g.length : Int) ((i + 1 : Nat) : Int) [⟨y.f0, y.f1⟩] else some false) ?_ (fun k => by
          rw [api_Fibre__fibre_Check_1.l0]
          rw [if_pos (by omega), if_pos (by omega), if_pos (by omega), e, wrap64_id (n := (i : Int) + 1) (by omega) (by omega)]
          rfl)
        cases hb : ((rd_T43 g (i : Int)).f0.toList != y.f0.toList) with
        | true => rw [Bool.true_and]; exact Tells.pos rfl (ih (i + 1) (by omega))
        | false => rw [Bool.false_and]; exact Tells.neg (by simp) (Tells.const _)
    refine Tells.congr (lp g.length 0 (by omega)) (fun k => ?_)
    unfold api_Fibre__fibre_Check_1.f
    rfl
  have hdup : ∀ d i, i + d = l.length → Tells (fun k => fibre_Check.l1 k l l (l.length : Int) (i : Int)) (dupL l d i) := by
    intro d
    induction d with
    | zero =>
      intro i hi
      refine Tells.up (Tells.const _) (fun k => ?_)
      rw [fibre_Check.l1]
      rw [if_neg (by omega)]
      rfl
    | succ d ih =>
      intro i hi
      refine Tells.up (g := fun k => (api_Fibre__fibre_Check_1.f k (l.take i) [⟨(rd_T43 l (i : Int)).f0, (rd_T43 l (i : Int)).f1⟩]).bind fun t => if t = true then fibre_Check.l1 k l l (l.length : Int) ((i + 1 : Nat) : Int) else some 6) ?_ (fun k => by
        rw [fibre_Check.l1]
        rw [if_pos (by omega), if_pos (by omega), if_pos (by omega), if_pos (by omega), wrap64_id (n := (i : Int) + 1) (by omega) (by omega)]
        rfl)
      refine Tells.bind (hall (l.take i) (rd_T43 l (i : Int)) (by rw [List.length_take]; omega)) ?_
      exact Tells.ite (fun _ => ih (i + 1) (by omega)) (fun _ => Tells.const _)
  have hfirst : ∀ d i, i + d = l.length → Tells (fun k => fibre_Check.l0 k l l (l.length : Int) (i : Int)) (if firstS (l.drop i) = 0 then dupL l l.length 0 else firstS (l.drop i)) := by
    intro d
    induction d with
    | zero =>
      intro i hi
      rw [List.drop_of_length_le (by omega)]
      refine Tells.up (hdup l.length 0 (by omega)) (fun k => ?_)
      rw [fibre_Check.l0]
      rw [if_neg (by omega)]
      rfl
    | succ d ih =>
      intro i hi
      rw [rdT_drop l i (by omega)]
      refine Tells.up (g := fun k => (ident_Valid.f k (rd_T43 l (i : Int)).f0).bind fun t => if t = true then (if (rd_T43 l (i : Int)).f1 < 0 then some 1 else if (rd_T43 l (i : Int)).f1 > 1000000000 then some 1 else fibre_Check.l0 k l l (l.length : Int) ((i + 1 : Nat) : Int)) else some 5) ?_ (fun k => by
        rw [fibre_Check.l0]
        rw [if_pos (by omega), if_pos (by omega), if_pos (by omega), wrap64_id (n := (i : Int) + 1) (by omega) (by omega)]
        rfl)
      refine Tells.bind (Valid_tells _) ?_
      rw [firstS]
      by_cases h1 : validS (rd_T43 l (i : Int)).f0 = true
      · rw [if_pos h1]
        refine Tells.pos h1 ?_
        by_cases h2 : (rd_T43 l (i : Int)).f1 < 0
        · rw [if_pos h2]
          exact Tells.pos h2 (Tells.const _)
        rw [if_neg h2]
        refine Tells.neg h2 ?_
        by_cases h3 : (rd_T43 l (i : Int)).f1 > 1000000000
        · rw [if_pos h3]
          exact Tells.pos h3 (Tells.const _)
        rw [if_neg h3]
        exact Tells.neg h3 (ih (i + 1) (by omega))
      · rw [if_neg h1]
        exact Tells.neg h1 (Tells.const _)
  refine Tells.congr (g := fun k => if (l.length : Int) = 0 then some 10 else if (l.length : Int) > 8 then some 8 else fibre_Check.l0 k l l (l.length : Int) ((0 : Nat) : Int)) ?_ (fun k => by unfold fibre_Check.f; rfl)
  unfold fcheckS
  refine Tells.ite (fun _ => Tells.const _) (fun _ => Tells.ite (fun _ => Tells.const _) (fun _ => ?_))
  exact hfirst l.length 0 (by omega)

-- FIBRECHECK16 (ours)
theorem letter16_val (c : Int) : papermillref16_letter.f c = some (letterB c) := by
  unfold papermillref16_letter.f letterB
  by_cases h1 : c ≥ 97
  · rw [if_pos h1]
    by_cases h2 : c ≤ 122
    · rw [if_pos h2, decide_eq_true (by omega)]
    · rw [if_neg h2, if_pos (by omega), decide_eq_false (by omega), decide_eq_false (by omega)]
  · rw [if_neg h1]
    by_cases h2 : c ≥ 65
    · rw [if_pos h2]
      by_cases h3 : c ≤ 90
      · rw [decide_eq_true h3, decide_eq_true (by omega)]
      · rw [decide_eq_false h3, decide_eq_false (by omega)]
    · rw [if_neg h2, decide_eq_false (by omega)]
theorem name16_tells (s : ByteArray) : Tells (fun k => papermillref16_name.f k s) (validS s) := by
  have hj : ∀ b, Tells (fun k => papermillref16_name.j0 k s b) (if b = true then false else if (s.size : Int) > 32 then true else validL s s.size 0) ∨ (s.size : Int) > 32 ∧ b = false := by
    intro b
    by_cases hs : (s.size : Int) > 32
    · cases b with
      | true =>
        left
        refine Tells.up (Tells.const _) (fun k => ?_)
        rw [papermillref16_name.j0]
        simp
      | false => right; exact ⟨hs, rfl⟩
    · left
      have lp : ∀ d i, i + d = s.size → Tells (fun k => papermillref16_name.l0 k s (i : Int)) (validL s d i) := by
        intro d
        induction d with
        | zero =>
          intro i hi
          refine Tells.up (Tells.const _) (fun k => ?_)
          rw [papermillref16_name.l0]
          rw [if_neg (by omega)]
          rfl
        | succ d ih =>
          intro i hi
          have hn := ih (i + 1) (by omega)
          have ew : wrap64 ((i : Int) + 1) = ((i + 1 : Nat) : Int) := by rw [wrap64_id (by omega) (by omega)]; rfl
          show Tells _ (allowedB (bt s (i : Int)) && validL s d (i + 1))
          generalize hc : bt s (i : Int) = c
          by_cases hl : letterB c = true
          · have : allowedB c = true := by unfold allowedB; rw [hl]; rfl
            rw [this, Bool.true_and]
            refine Tells.up hn (fun k => ?_)
            rw [papermillref16_name.l0]
            rw [if_pos (by omega), if_pos (by omega), hc, letter16_val, hl]
            simp only [Option.bind_some, if_true]
            rw [ew]
          · have ha : allowedB c = decide ((48 ≤ c ∧ c ≤ 57) ∨ c = 45 ∨ c = 95 ∨ c = 46) := by unfold allowedB; rw [eq_false_of_ne_true hl]; rfl
            rw [ha]
            by_cases hd : (48 ≤ c ∧ c ≤ 57) ∨ c = 45 ∨ c = 95 ∨ c = 46
            · rw [decide_eq_true hd, Bool.true_and]
              refine Tells.up hn (fun k => ?_)
              rw [papermillref16_name.l0]
              rw [if_pos (by omega), if_pos (by omega), hc, letter16_val, eq_false_of_ne_true hl]
              simp only [Option.bind_some, Bool.false_eq_true, if_false]
              rw [ew]
              repeat' split
              all_goals first | rfl | omega
            · rw [decide_eq_false hd, Bool.false_and]
              refine Tells.up (Tells.const false) (fun k => ?_)
              rw [papermillref16_name.l0]
              rw [if_pos (by omega), if_pos (by omega), hc, letter16_val, eq_false_of_ne_true hl]
              simp only [Option.bind_some, Bool.false_eq_true, if_false]
              rw [ew]
              repeat' split
              all_goals first | rfl | omega
      refine Tells.up (g := fun k => if b = true then some false else papermillref16_name.l0 k s ((0 : Nat) : Int)) ?_ (fun k => by rw [papermillref16_name.j0]; rfl)
      rw [if_neg hs]
      exact Tells.ite (fun _ => Tells.const _) (fun _ => lp s.size 0 (by omega))
  unfold validS
  by_cases h1 : (s.size : Int) < 1
  · rw [if_pos h1]
    rcases hj true with h | h
    · refine Tells.congr h (fun k => ?_)
      unfold papermillref16_name.f
      rw [if_pos h1]
    · exact absurd h.2 (by simp)
  rw [if_neg h1]
  by_cases h2 : (s.size : Int) > 32
  · rw [if_pos h2]
    rcases hj true with h | h
    · refine Tells.congr h (fun k => ?_)
      unfold papermillref16_name.f
      rw [if_neg h1, if_pos h2]
    · exact absurd h.2 (by simp)
  rw [if_neg h2]
  rcases hj (!letterB (bt s 0)) with h | h
  · refine Tells.congr (r := if letterB (bt s 0) = true then validL s s.size 0 else false) ?_ (fun k => ?_) (g := fun k => papermillref16_name.j0 k s (!letterB (bt s 0)))
    · rw [if_neg h2] at h
      cases hb : letterB (bt s 0) with
      | true => rw [hb] at h; simpa using h
      | false => rw [hb] at h; simpa using h
    · unfold papermillref16_name.f
      rw [if_neg h1, if_neg h2, if_pos (by omega), letter16_val]
      rfl
  · exact absurd h.1 h2
theorem fcheck16_tells (l : List S43) (hl : l.length ≤ 1000) : Tells (fun k => papermillref16_Check.f k l) (fcheckS l) := by
  have hdup : ∀ d i, i + d = l.length → Tells (fun k => papermillref16_Check.l1 k l (i : Int)) (dupL l d i) := by
    intro d
    induction d with
    | zero =>
      intro i hi
      refine Tells.up (Tells.const _) (fun k => ?_)
      rw [papermillref16_Check.l1]
      rw [if_neg (by omega)]
      rfl
    | succ d ih =>
      intro i hi
      have hn := ih (i + 1) (by omega)
      have l2 : ∀ e j, j + e = i → Tells (fun k => papermillref16_Check.l2 k l (i : Int) (j : Int)) (if (((l.take i).drop j).all fun g => g.f0.toList != (rd_T43 l (i : Int)).f0.toList) = true then dupL l d (i + 1) else 6) := by
        intro e
        induction e with
        | zero =>
          intro j hj
          rw [List.drop_of_length_le (by rw [List.length_take]; omega)]
          refine Tells.up hn (fun k => ?_)
          rw [papermillref16_Check.l2]
          rw [if_neg (by omega), wrap64_id (n := (i : Int) + 1) (by omega) (by omega)]
          rfl
        | succ e ih2 =>
          intro j hj
          have hdr : (l.take i).drop j = rd_T43 l (j : Int) :: (l.take i).drop (j + 1) := by
            have h := rdT_drop (l.take i) j (by rw [List.length_take]; omega)
            have e2 : rd_T43 (l.take i) (j : Int) = rd_T43 l (j : Int) := by
              show (l.take i).getD (j : Int).toNat z43 = l.getD (j : Int).toNat z43
              rw [Int.toNat_natCast, List.getD_eq_getElem?_getD, List.getD_eq_getElem?_getD, List.getElem?_take, if_pos (by omega)]
            rw [e2] at h
            exact h
          rw [hdr, List.all_cons]
          refine Tells.up (g := fun k => if (rd_T43 l (i : Int)).f0.toList = (rd_T43 l (j : Int)).f0.toList then some 6 else papermillref16_Check.l2 k l (i : Int) ((j + 1 : Nat) : Int)) ?_ (fun k => by
            rw [papermillref16_Check.l2]
            rw [if_pos (by omega), if_pos (by omega), if_pos (by omega), if_pos (by omega), if_pos (by omega), wrap64_id (n := (j : Int) + 1) (by omega) (by omega)]
            rfl)
          by_cases c : (rd_T43 l (i : Int)).f0.toList = (rd_T43 l (j : Int)).f0.toList
          · have : ((rd_T43 l (j : Int)).f0.toList != (rd_T43 l (i : Int)).f0.toList) = false := by rw [c]; simp
            rw [this, Bool.false_and, if_neg (by simp)]
            exact Tells.pos c (Tells.const _)
          · have : ((rd_T43 l (j : Int)).f0.toList != (rd_T43 l (i : Int)).f0.toList) = true := by
              simp only [bne_iff_ne, ne_eq]
              exact fun h => c h.symm
            rw [this, Bool.true_and]
            exact Tells.neg c (ih2 (j + 1) (by omega))
      have h0 := l2 i 0 (by omega)
      rw [List.drop_zero] at h0
      refine Tells.up h0 (fun k => ?_)
      rw [papermillref16_Check.l1]
      rw [if_pos (by omega)]
      rfl
  have hfirst : ∀ d i, i + d = l.length → Tells (fun k => papermillref16_Check.l0 k l (i : Int)) (if firstS (l.drop i) = 0 then dupL l l.length 0 else firstS (l.drop i)) := by
    intro d
    induction d with
    | zero =>
      intro i hi
      rw [List.drop_of_length_le (by omega)]
      refine Tells.up (hdup l.length 0 (by omega)) (fun k => ?_)
      rw [papermillref16_Check.l0]
      rw [if_neg (by omega)]
      rfl
    | succ d ih =>
      intro i hi
      rw [rdT_drop l i (by omega)]
      refine Tells.up (g := fun k => (papermillref16_name.f k (rd_T43 l (i : Int)).f0).bind fun t => if t = true then (if (rd_T43 l (i : Int)).f1 < 0 then some 1 else if (rd_T43 l (i : Int)).f1 > 1000000000 then some 1 else papermillref16_Check.l0 k l ((i + 1 : Nat) : Int)) else some 5) ?_ (fun k => by
        rw [papermillref16_Check.l0]
        rw [if_pos (by omega), if_pos (by omega), wrap64_id (n := (i : Int) + 1) (by omega) (by omega)]
        rfl)
      refine Tells.bind (name16_tells _) ?_
      rw [firstS]
      by_cases h1 : validS (rd_T43 l (i : Int)).f0 = true
      · rw [if_pos h1]
        refine Tells.pos h1 ?_
        by_cases h2 : (rd_T43 l (i : Int)).f1 < 0
        · rw [if_pos h2]
          exact Tells.pos h2 (Tells.const _)
        rw [if_neg h2]
        refine Tells.neg h2 ?_
        by_cases h3 : (rd_T43 l (i : Int)).f1 > 1000000000
        · rw [if_pos h3]
          exact Tells.pos h3 (Tells.const _)
        rw [if_neg h3]
        exact Tells.neg h3 (ih (i + 1) (by omega))
      · rw [if_neg h1]
        exact Tells.neg h1 (Tells.const _)
  refine Tells.congr (g := fun k => if (l.length : Int) = 0 then some 10 else if (l.length : Int) > 8 then some 8 else papermillref16_Check.l0 k l ((0 : Nat) : Int)) ?_ (fun k => by unfold papermillref16_Check.f; rfl)
  unfold fcheckS
  refine Tells.ite (fun _ => Tells.const _) (fun _ => Tells.ite (fun _ => Tells.const _) (fun _ => ?_))
  exact hfirst l.length 0 (by omega)

-- MANY16 (ours)
/-- Many: some answer; false only for at most 60. -/
theorem many_tells (l : List S43) (hl : l.length ≤ maxLen) : ∃ b, Tells (fun k => papermilllaw16_many.f k l) b ∧ (b = false → l.length ≤ 60) := by
  by_cases h : (l.length : Int) > 60
  · refine ⟨true, Tells.congr (Tells.const true) (fun k => ?_), by simp⟩
    unfold papermilllaw16_many.f
    rw [if_pos h]
  · have lp : ∀ d i, i + d = l.length → ∃ b, Tells (fun k => papermilllaw16_many.l0 k l (i : Int)) b := by
      intro d
      induction d with
      | zero =>
        intro i hi
        refine ⟨false, Tells.up (Tells.const _) (fun k => ?_)⟩
        rw [papermilllaw16_many.l0]
        rw [if_neg (by omega)]
      | succ d ih =>
        intro i hi
        obtain ⟨b, hb⟩ := ih (i + 1) (by omega)
        by_cases c : ((rd_T43 l (i : Int)).f0.size : Int) > 200
        · refine ⟨true, Tells.up (Tells.const _) (fun k => ?_)⟩
          rw [papermilllaw16_many.l0]
          rw [if_pos (by omega), if_pos (by omega), if_pos c]
        · refine ⟨b, Tells.up hb (fun k => ?_)⟩
          rw [papermilllaw16_many.l0]
          rw [if_pos (by omega), if_pos (by omega), if_neg c, wrap64_id (n := (i : Int) + 1) (by omega) (by omega)]
          rfl
    obtain ⟨b, hb⟩ := lp l.length 0 (by omega)
    refine ⟨b, Tells.congr hb (fun k => ?_), fun _ => by omega⟩
    unfold papermilllaw16_many.f
    rw [if_neg h]
    rfl

-- AWAKE16 (ours)
theorem awake_tells : Tells (fun k => papermilllaw16_awake.f k) true := Tells.of (fun k => papermilllaw16_awake.mono k) ⟨200, by decide +kernel⟩
theorem great_val (l : List Int) : papermilllaw16_great.f l = some (decide ((l.length : Int) > 60)) := by unfold papermilllaw16_great.f; rfl

theorem FibreChecks : papermilllaw16_FibreChecks.Pure := by
  intro l hl _ _
  apply Tells.get
  obtain ⟨b, hb, hb2⟩ := many_tells l hl
  refine Tells.congr (g := fun k => (papermilllaw16_many.f k l).bind fun b => if b = true then ((papermilllaw16_awake.f k).bind fun t => some t) else ((fibre_Check.f k l).bind fun x => (papermillref16_Check.f k l).bind fun y => if x = y then ((papermilllaw16_awake.f k).bind fun t => some t) else none)) ?_ (fun k => by unfold papermilllaw16_FibreChecks.f; rfl)
  refine Tells.bind hb ?_
  by_cases h : b = true
  · exact Tells.pos h (Tells.bind awake_tells (Tells.const true))
  · have hlen := hb2 (eq_false_of_ne_true h)
    refine Tells.neg h (Tells.bind (fcheck_tells l (by omega)) (Tells.bind (fcheck16_tells l (by omega)) (Tells.pos rfl ?_)))
    exact Tells.bind awake_tells (Tells.const true)

end Go.Proofs.Ytlnboodobmbcjaa.Pure
