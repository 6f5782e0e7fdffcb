import Derived.Test.YtpjcpgobdiahpaaPrint24
namespace Go.Proofs.Ytpjcpgobdiahpaa.Pure
open Go.RowKit Go.Proofs.Ytpjcpgobdiahpaa.Print Go.Proofs.YtpjcpgobdiahpaaW.PrintWords Go.Proofs.YtpjcpgobdiahpaaW.PrintLast
set_option linter.unusedVariables false
set_option linter.unusedSimpArgs false

-- TELLS: what a printed function tells from some number of rounds on (ours; Ytpjcpgobdiahpaa: the seat's name). Pasted at the head of a Pure text.
/-- From some number of rounds on f tells r. -/
def Tells {α : Type} (f : Nat → Option α) (r : α) : Prop := ∃ K, ∀ k, K ≤ k → f k = some r
namespace Tells
theorem leO {α : Type} {f : Nat → Option α} (hm : ∀ k, LeO (f k) (f (k + 1))) {K : Nat} {r : α} (h : f K = some r) : ∀ k, K ≤ k → f k = some r := by
  intro k hk
  induction hk with
  | refl => exact h
  | step _ ih => exact hm _ _ ih
theorem of {α : Type} {f : Nat → Option α} (hm : ∀ k, LeO (f k) (f (k + 1))) {r : α} (h : ∃ K, f K = some r) : Tells f r := by
  obtain ⟨K, h⟩ := h
  exact ⟨K, leO hm h⟩
theorem get {α : Type} {f : Nat → Option α} {r : α} (h : Tells f r) : ∃ k, f k = some r := by
  obtain ⟨K, h⟩ := h
  exact ⟨K, h K (Nat.le_refl K)⟩
theorem const {α : Type} (r : α) : Tells (fun _ => some r) r := ⟨0, fun _ _ => rfl⟩
theorem bind {α β : Type} {f : Nat → Option α} {g : Nat → α → Option β} {r : α} {s : β} (h : Tells f r) (h' : Tells (fun k => g k r) s) : Tells (fun k => (f k).bind (g k)) s := by
  obtain ⟨K, h⟩ := h
  obtain ⟨K', h'⟩ := h'
  refine ⟨max K K', fun k hk => ?_⟩
  show (f k).bind (g k) = some s
  rw [h k (by omega)]
  exact h' k (by omega)
theorem congr {α : Type} {f g : Nat → Option α} {r : α} (h : Tells g r) (e : ∀ k, f k = g k) : Tells f r := by
  obtain ⟨K, h⟩ := h
  exact ⟨K, fun k hk => (e k).trans (h k hk)⟩
theorem up {α : Type} {f g : Nat → Option α} {r : α} (h : Tells g r) (e : ∀ k, f (k + 1) = g k) : Tells f r := by
  obtain ⟨K, h⟩ := h
  refine ⟨K + 1, fun k hk => ?_⟩
  obtain ⟨m, rfl⟩ : ∃ m, k = m + 1 := ⟨k - 1, by omega⟩
  exact (e m).trans (h m (by omega))
theorem ite {α : Type} {c : Prop} [Decidable c] {f g : Nat → Option α} {r s : α} (h : c → Tells f r) (h' : ¬ c → Tells g s) : Tells (fun k => if c then f k else g k) (if c then r else s) := by
  by_cases hc : c
  · simp only [if_pos hc]; exact h hc
  · simp only [if_neg hc]; exact h' hc
theorem pos {α : Type} {c : Prop} [Decidable c] {f g : Nat → Option α} {r : α} (hc : c) (h : Tells f r) : Tells (fun k => if c then f k else g k) r := by
  simp only [if_pos hc]; exact h
theorem neg {α : Type} {c : Prop} [Decidable c] {f g : Nat → Option α} {r : α} (hc : ¬ c) (h : Tells g r) : Tells (fun k => if c then f k else g k) r := by
  simp only [if_neg hc]; exact h
end Tells
theorem wrap64_id {n : Int} (h0 : -9223372036854775808 ≤ n) (h1 : n < 9223372036854775808) : wrap64 n = n := by
  unfold wrap64; omega
theorem wf64 {n : Int} (h : (Lit.int .i64 n).wf = true) : -9223372036854775808 ≤ n ∧ n < 9223372036854775808 := by
  have h' : (decide (-9223372036854775808 ≤ n) && decide (n ≤ 9223372036854775807)) = true := h
  simp only [Bool.and_eq_true, decide_eq_true_eq] at h'
  omega

theorem same12 (l : List Int) (hl : l.length ≤ 1000) : Tells (fun k => papermillref12_Same.f k l l) true := by
  have lp : ∀ n i k, n < k → i + n = l.length → papermillref12_Same.l0 k l l (i : Int) = some true := by
    intro n
    induction n with
    | zero =>
      intro i k hk hi
      obtain ⟨m, rfl⟩ : ∃ m, k = m + 1 := ⟨k - 1, by omega⟩
      unfold papermillref12_Same.l0
      rw [if_neg (by omega)]
    | succ n ih =>
      intro i k hk hi
      obtain ⟨m, rfl⟩ : ∃ m, k = m + 1 := ⟨k - 1, by omega⟩
      unfold papermillref12_Same.l0
      rw [if_pos (by omega), if_pos (by omega), if_pos (by omega), if_pos rfl, wrap64_id (by omega) (by omega)]
      exact ih (i + 1) m (by omega) (by omega)
  refine ⟨l.length + 1, fun k hk => ?_⟩
  show papermillref12_Same.f k l l = some true
  unfold papermillref12_Same.f
  rw [if_pos rfl]
  exact lp l.length 0 k (by omega) (by omega)
theorem same18 (c : Int) (l : List Int) (hl : l.length ≤ 1000) : Tells (fun k => papermillref18_Same.f k c l c l) true := by
  refine Tells.congr (g := fun k => (papermillref12_Same.f k l l).bind fun t => some t) ?_ (fun k => by unfold papermillref18_Same.f; rw [if_pos rfl])
  exact Tells.bind (same12 l hl) (Tells.const true)
def newS (a0 a1 : Int) : Int × List Int × Int := if a0 < 1 ∨ a0 > 8 then (0, [], 17) else if a1 < 1 ∨ a1 > 1099511627776 then (0, [], 1) else (a1, List.replicate a0.toNat 0, 0)
theorem new_tells (a0 a1 : Int) : Tells (fun k => chest_New.f k a0 a1) (newS a0 a1) := by
  refine ⟨1, fun k hk => ?_⟩
  obtain ⟨m, rfl⟩ : ∃ m, k = m + 1 := ⟨k - 1, by omega⟩
  show chest_New.f (m + 1) a0 a1 = _
  unfold chest_New.f chest_New.j0 newS
  by_cases h1 : a0 < 1
  · simp [h1]
  by_cases h2 : a0 > 8
  · simp [h1, h2]
  by_cases h3 : a1 < 1
  · simp [h1, h2, h3]
  by_cases h4 : a1 > 1099511627776
  · simp [h1, h2, h3, h4]
  have h5 : 0 ≤ a0 := by omega
  have h6 : a0.toNat ≤ 35184372088832 := by omega
  simp [h1, h2, h3, h4, h5]
  omega
theorem new18_tells (a0 a1 : Int) : Tells (fun k => papermillref18_New.f k a0 a1) (newS a0 a1) := by
  refine ⟨1, fun k hk => ?_⟩
  obtain ⟨m, rfl⟩ : ∃ m, k = m + 1 := ⟨k - 1, by omega⟩
  show papermillref18_New.f (m + 1) a0 a1 = _
  unfold papermillref18_New.f papermillref18_New.j0 newS
  by_cases h1 : a0 < 1
  · simp [h1]
  by_cases h2 : a0 > 8
  · simp [h1, h2]
  by_cases h3 : a1 < 1
  · simp [h1, h2, h3]
  by_cases h4 : a1 > 1099511627776
  · simp [h1, h2, h3, h4]
  have h5 : 0 ≤ a0 := by omega
  have h6 : a0.toNat ≤ 35184372088832 := by omega
  simp [h1, h2, h3, h4, h5]
  omega
theorem awake_tells : Tells (fun k => papermilllaw18_awake.f k) true := Tells.of (fun k => papermilllaw18_awake.mono k) ⟨100, by decide +kernel⟩
theorem newS_len (a0 a1 : Int) : (newS a0 a1).2.1.length ≤ 1000 := by
  unfold newS
  split
  · simp
  · split
    · simp
    · simp; omega
theorem ChestNews : papermilllaw18_ChestNews.Pure := by
  intro a0 a1 _ _
  apply Tells.get
  refine Tells.bind (new_tells a0 a1) (Tells.bind (new18_tells a0 a1) (Tells.bind (same18 _ _ (newS_len a0 a1)) ?_))
  refine Tells.pos rfl (Tells.pos rfl ?_)
  exact Tells.bind awake_tells (Tells.const true)

end Go.Proofs.Ytpjcpgobdiahpaa.Pure
