-- Written by wip/tools/myprint.py out of the translation. Not trusted: Lean checks it.
import Derived.Test.YtlnboodobmbcjaaPrint0
import Derived.Test.YtlnboodobmbcjaaPrint1
import Derived.Test.YtlnboodobmbcjaaPrint11
import Derived.Test.YtlnboodobmbcjaaPrint18
import Derived.Test.YtlnboodobmbcjaaPrint22
import Derived.Test.YtlnboodobmbcjaaPrint27
namespace Go.Proofs.Ytlnboodobmbcjaa.Print
open Go.RowKit Go.Proofs.YtlnboodobmbcjaaW.PrintWords Go.Proofs.YtlnboodobmbcjaaW.PrintLast Go.Proofs.YtlnboodobmbcjaaW.PrintMore
attribute [local go_sem] max2_int min2_int max_two min_two max_three min_three max_four min_four   -- for this text's walks alone
set_option linter.unusedVariables false
set_option linter.unusedSimpArgs false

/-! ### papermilllaw16_FibreCosts: function 6 -/
def papermilllaw16_FibreCosts.j0 : Nat → List (S43) → List Int → Bool → Option (Bool)
 | 0, _, _, _ => none
 | k + 1, x0, x1, x14 => if x14 = true then ((papermilllaw16_awake.f k).bind fun t389 => (some t389)) else ((fibre_Cost.f k x0 x1).bind fun bt390 => ((papermillref16_Cost.f k x0 x1).bind fun bt392 => (if bt390.1 = bt392.1 then (if bt390.2 = bt392.2 then ((papermilllaw16_awake.f k).bind fun t394 => (some t394)) else (none)) else (none))))
def papermilllaw16_FibreCosts.f (k : Nat) (l0 : List (S43)) (l1 : List Int) : Option (Bool) := (papermilllaw16_many.f k l0).bind fun t387 => (if t387 = true then (papermilllaw16_FibreCosts.j0 k l0 l1 true) else ((papermilllaw16_great.f l1).bind fun t388 => (papermilllaw16_FibreCosts.j0 k l0 l1 t388)))
theorem papermilllaw16_FibreCosts.mono_l : ∀ k, (∀ y0 y1 y2, LeO (papermilllaw16_FibreCosts.j0 k y0 y1 y2) (papermilllaw16_FibreCosts.j0 (k + 1) y0 y1 y2))
 | 0 => fun _ _ _ r h => by simp [papermilllaw16_FibreCosts.j0] at h
 | k + 1 => by
  have ih0 := papermilllaw16_FibreCosts.mono_l k
  ·intro y0 y1 y2
   unfold papermilllaw16_FibreCosts.j0
   repeat' first
   | (with_reducible exact ih0 _ _ _)
   | (with_reducible exact fibre_Cost.mono _ _ _)
   | (with_reducible exact papermilllaw16_awake.mono _)
   | (with_reducible exact papermilllaw16_many.mono _ _)
   | (with_reducible exact papermillref16_Cost.mono _ _ _)
   | (with_reducible exact LeO.refl _)
   | (with_reducible exact LeO.none _)
   | (with_reducible refine LeO.ite ?_ ?_)
   | (with_reducible refine LeO.bind ?_ (fun _ => ?_))
   | exact ih0 _ _ _
   | exact fibre_Cost.mono _ _ _
   | exact papermilllaw16_awake.mono _
   | exact papermilllaw16_many.mono _ _
   | exact papermillref16_Cost.mono _ _ _
   | exact LeO.none _
   | refine LeO.ite ?_ ?_
   | refine LeO.bind ?_ (fun _ => ?_)
theorem papermilllaw16_FibreCosts.mono : ∀ a0 a1 k, LeO (papermilllaw16_FibreCosts.f k a0 a1) (papermilllaw16_FibreCosts.f (k + 1) a0 a1) := by
 intro a0 a1 k
 have ih0 := papermilllaw16_FibreCosts.mono_l k
 unfold papermilllaw16_FibreCosts.f
 repeat' first
   | (with_reducible exact ih0 _ _ _)
   | (with_reducible exact fibre_Cost.mono _ _ _)
   | (with_reducible exact papermilllaw16_awake.mono _)
   | (with_reducible exact papermilllaw16_many.mono _ _)
   | (with_reducible exact papermillref16_Cost.mono _ _ _)
   | (with_reducible exact LeO.refl _)
   | (with_reducible exact LeO.none _)
   | (with_reducible refine LeO.ite ?_ ?_)
   | (with_reducible refine LeO.bind ?_ (fun _ => ?_))
   | exact ih0 _ _ _
   | exact fibre_Cost.mono _ _ _
   | exact papermilllaw16_awake.mono _
   | exact papermilllaw16_many.mono _ _
   | exact papermillref16_Cost.mono _ _ _
   | exact LeO.none _
   | refine LeO.ite ?_ ?_
   | refine LeO.bind ?_ (fun _ => ?_)
set_option maxHeartbeats 8000000 in
set_option maxRecDepth 100000 in
theorem papermilllaw16_FibreCosts.calls (k : Nat) (A0 : Option Addr) (c0 : Nat) (l0 : List (S43)) (A1 : Option Addr) (c1 : Nat) (l1 : List Int) (r : Bool) (w : World) (hr0 : Kd.C k43 w A0 l0.length l0) (hc0 : l0.length ≤ c0) (hr1 : Kd.C (Kd.int .i64) w A1 l1.length l1) (hc1 : l1.length ≤ c1) (h : papermilllaw16_FibreCosts.f k l0 l1 = some r) :
  Calls Try.prog 6 #[.slice A0 l0.length c0, .slice A1 l1.length c1] w fun e w' => e = .returned (.bool r) ∧ Below w.heap.size w w' := by
 have HR0 := Aside0.mk hr0
 have HC0 := Aside0.mk hc0
 clear hr0 hc0
 have HR1 := Aside0.mk hr1
 have HC1 := Aside0.mk hc1
 clear hr1 hc1
 have HB := Aside0.mk (Below.refl w.heap.size w)
 have H : ((papermilllaw16_many.f k l0).bind fun t387 => (if t387 = true then (papermilllaw16_FibreCosts.j0 k l0 l1 true) else ((papermilllaw16_great.f l1).bind fun t388 => (papermilllaw16_FibreCosts.j0 k l0 l1 t388)))) = some r := h
 clear h
 have HC3 := Aside0.mk H
 clear H
 go_enter Try.func6, Try.ntmps6
 go_upto_region 1 with (fail)
 go_cut [14] (fun v14 wc => ∃ (kq : Nat) (x14_2 : Bool), v14 = .bool x14_2 ∧ Aside0 (papermilllaw16_FibreCosts.j0 kq l0 l1 x14_2 = some r) ∧ Aside0 (kq ≤ k) ∧ Aside0 (Below w.heap.size w wc))
 case first =>
  have H := HC3.out
  clear HC3
  replace H := Option.bind_eq_some_iff.mp H
  obtain ⟨t387, A40, H⟩ := H
  replace H : (if t387 = true then (papermilllaw16_FibreCosts.j0 k l0 l1 true) else ((papermilllaw16_great.f l1).bind fun t388 => (papermilllaw16_FibreCosts.j0 k l0 l1 t388))) = some r := H
  have A4 := Aside0.mk A40
  clear A40
  by_cases c5 : t387 = true
  ·subst c5
   have H1 : (papermilllaw16_FibreCosts.j0 k l0 l1 true) = some r := by rw [if_pos rfl] at H; exact H
   clear H
   have H := H1
   clear H1
   have H' := Aside0.mk H
   clear H
   go_wp2_with (first | ((with_reducible refine gate_callee (f := 11) rfl ?_); refine goesL_ (some 10) rfl rfl Try.func11 (by kernel_rfl) rfl #[.slice A0 l0.length c0] rfl mA ?_; (with_reducible refine (papermilllaw16_many.calls k _ _ l0 true _ ?side1 ?side2 A4.out).mono ?_); (case side1 => repeat (first | exact (Kd.C_below HR0.out HB.out) | (with_reducible refine Kd.C_alloc ?_ _) | (with_reducible refine Kd.C_drewN ?_ _) | (with_reducible refine Kd.C_drew ?_))); (case side2 => exact HC0.out); rintro e w' ⟨rfl, ⟨nd, rfl⟩⟩; refine ⟨_, rfl, ?_⟩))
   go_meet
   case rel => exact ⟨_, (true), (by first | rfl | (simp; done) | (simp [*]; done)), H', ⟨by first | omega | exact Nat.le_refl _⟩, ⟨pB⟩⟩
  ·replace c5 := Bool.eq_false_iff.mpr c5
   subst c5
   have H1 : ((papermilllaw16_great.f l1).bind fun t388 => (papermilllaw16_FibreCosts.j0 k l0 l1 t388)) = some r := by rw [if_neg (show ¬ (false = true) by decide)] at H; exact H
   clear H
   have H := H1
   clear H1
   replace H := Option.bind_eq_some_iff.mp H
   obtain ⟨t388, A60, H⟩ := H
   replace H : (papermilllaw16_FibreCosts.j0 k l0 l1 t388) = some r := H
   have A6 := Aside0.mk A60
   clear A60
   have H' := Aside0.mk H
   clear H
   go_wp2_with (first | ((with_reducible refine gate_callee (f := 11) rfl ?_); refine goesL_ (some 10) rfl rfl Try.func11 (by kernel_rfl) rfl #[.slice A0 l0.length c0] rfl mA ?_; (with_reducible refine (papermilllaw16_many.calls k _ _ l0 false _ ?side1 ?side2 A4.out).mono ?_); (case side1 => repeat (first | exact (Kd.C_below HR0.out HB.out) | (with_reducible refine Kd.C_alloc ?_ _) | (with_reducible refine Kd.C_drewN ?_ _) | (with_reducible refine Kd.C_drew ?_))); (case side2 => exact HC0.out); rintro e w' ⟨rfl, ⟨nd, rfl⟩⟩; refine ⟨_, rfl, ?_⟩) | (go_at_call 15; (with_reducible refine (papermilllaw16_great.calls _ _ l1 t388 _ ?side1 ?side2 A6.out).mono ?_); (case side1 => repeat (first | exact (Kd.C_below HR1.out pB) | (with_reducible refine Kd.C_alloc ?_ _) | (with_reducible refine Kd.C_drewN ?_ _) | (with_reducible refine Kd.C_drew ?_))); (case side2 => exact HC1.out); rintro e w' ⟨rfl, ⟨nd, rfl⟩⟩))
   go_meet
   case rel => exact ⟨_, (t388), (by first | rfl | (simp; done) | (simp [*]; done)), H', ⟨by first | omega | exact Nat.le_refl _⟩, ⟨pB⟩⟩
 case rest =>
  clear HC3
  try clear c1
  try clear p2
  try clear c5
  try clear c6
  obtain ⟨kq, x14_2, rfl, HA, HJ2, HB⟩ := hcut
  cases kq with
  | zero => exact absurd HA.out (by simp [papermilllaw16_FibreCosts.j0])
  | succ kj2 =>
   have H := HA.out
   clear HA
   simp only [papermilllaw16_FibreCosts.j0] at H
   by_cases c7 : x14_2 = true
   ·subst c7
    have H1 : ((papermilllaw16_awake.f kj2).bind fun t389 => (some t389)) = some r := by rw [if_pos rfl] at H; exact H
    clear H
    have H := H1
    clear H1
    replace H := Option.bind_eq_some_iff.mp H
    obtain ⟨t389, A80, H⟩ := H
    replace H : (some t389) = some r := H
    have A8 := Aside0.mk A80
    clear A80
    obtain rfl := Option.some.inj H
    go_wp2_with (first | ((with_reducible refine gate_callee (f := 12) rfl ?_); refine goesL_ (some 15) rfl rfl Try.func12 (by kernel_rfl) rfl #[] rfl mA ?_; (with_reducible refine (papermilllaw16_awake.calls kj2  t389 _ A8.out).mono ?_); rintro e w9 ⟨rfl, hb⟩; refine ⟨_, rfl, ?_⟩; replace HB := Aside0.mk (below_step pB hb); (try clear hb); (try clear hb2); (try clear hk); (try clear hi)))
    go_ret
    exact ⟨by first | rfl | (simp [errW_none, errW_some] <;> rfl) | (simp [*, errW_none, errW_some] <;> rfl), pB⟩
   ·replace c7 := Bool.eq_false_iff.mpr c7
    subst c7
    have H1 : ((fibre_Cost.f kj2 l0 l1).bind fun bt390 => ((papermillref16_Cost.f kj2 l0 l1).bind fun bt392 => (if bt390.1 = bt392.1 then (if bt390.2 = bt392.2 then ((papermilllaw16_awake.f kj2).bind fun t394 => (some t394)) else (none)) else (none)))) = some r := by rw [if_neg (show ¬ (false = true) by decide)] at H; exact H
    clear H
    have H := H1
    clear H1
    replace H := Option.bind_eq_some_iff.mp H
    obtain ⟨⟨t390, t391⟩, A100, H⟩ := H
    replace H : ((papermillref16_Cost.f kj2 l0 l1).bind fun bt392 => (if t390 = bt392.1 then (if t391 = bt392.2 then ((papermilllaw16_awake.f kj2).bind fun t394 => (some t394)) else (none)) else (none))) = some r := H
    have A10 := Aside0.mk A100
    clear A100
    replace H := Option.bind_eq_some_iff.mp H
    obtain ⟨⟨t392, t393⟩, A110, H⟩ := H
    replace H : (if t390 = t392 then (if t391 = t393 then ((papermilllaw16_awake.f kj2).bind fun t394 => (some t394)) else (none)) else (none)) = some r := H
    have A11 := Aside0.mk A110
    clear A110
    by_cases c12 : t390 = t392
    ·rw [if_pos c12] at H
     have c12b0 : (t390 == t392) = true := beq_iff_eq.mpr c12
     have c12b1 : (t390 != t392) = false := bne_eq_false_iff_eq.mpr c12
     clear c12
     by_cases c13 : t391 = t393
     ·rw [if_pos c13] at H
      have c13b0 : (t391 == t393) = true := beq_iff_eq.mpr c13
      have c13b1 : (t391 != t393) = false := bne_eq_false_iff_eq.mpr c13
      clear c13
      replace H := Option.bind_eq_some_iff.mp H
      obtain ⟨t394, A140, H⟩ := H
      replace H : (some t394) = some r := H
      have A14 := Aside0.mk A140
      clear A140
      obtain rfl := Option.some.inj H
      go_wp2_with (first | ((with_reducible refine gate_callee (f := 23) rfl ?_); refine goesL_ (some 19) rfl rfl Try.func23 (by kernel_rfl) rfl #[.slice A0 l0.length c0, .slice A1 l1.length c1] rfl mA ?_; (with_reducible refine (fibre_Cost.calls kj2 _ _ l0 _ _ l1 t390 t391 _ ?side1 ?side2 ?side3 ?side4 A10.out).mono ?_); (case side1 => repeat (first | exact (Kd.C_below HR0.out HB.out) | (with_reducible refine Kd.C_alloc ?_ _) | (with_reducible refine Kd.C_drewN ?_ _) | (with_reducible refine Kd.C_drew ?_))); (case side2 => exact HC0.out); (case side3 => repeat (first | exact (Kd.C_below HR1.out HB.out) | (with_reducible refine Kd.C_alloc ?_ _) | (with_reducible refine Kd.C_drewN ?_ _) | (with_reducible refine Kd.C_drew ?_))); (case side4 => exact HC1.out); rintro e w15 ⟨rfl, hb⟩; refine ⟨_, rfl, ?_⟩; replace HB := Aside0.mk (below_step pB hb); (try clear hb); (try clear hb2); (try clear hk); (try clear hi)) | ((with_reducible refine gate_callee (f := 24) rfl ?_); refine goesL_ (some 25) rfl rfl Try.func24 (by kernel_rfl) rfl #[.slice A0 l0.length c0, .slice A1 l1.length c1] rfl mA ?_; (with_reducible refine (papermillref16_Cost.calls kj2 _ _ l0 _ _ l1 t392 t393 _ ?side1 ?side2 ?side3 ?side4 A11.out).mono ?_); (case side1 => repeat (first | exact (Kd.C_below HR0.out HB.out) | (with_reducible refine Kd.C_alloc ?_ _) | (with_reducible refine Kd.C_drewN ?_ _) | (with_reducible refine Kd.C_drew ?_))); (case side2 => exact HC0.out); (case side3 => repeat (first | exact (Kd.C_below HR1.out HB.out) | (with_reducible refine Kd.C_alloc ?_ _) | (with_reducible refine Kd.C_drewN ?_ _) | (with_reducible refine Kd.C_drew ?_))); (case side4 => exact HC1.out); rintro e w16 ⟨rfl, hb⟩; refine ⟨_, rfl, ?_⟩; replace HB := Aside0.mk (below_step pB hb); (try clear hb); (try clear hb2); (try clear hk); (try clear hi)) | (go_at_call 12; (with_reducible refine (papermilllaw16_awake.calls kj2  t394 _ A14.out).mono ?_); rintro e w17 ⟨rfl, hb⟩; replace HB := Aside0.mk (below_step pB hb); (try clear hb); (try clear hb2); (try clear hk); (try clear hi)))
      go_ret
      exact ⟨by first | rfl | (simp [errW_none, errW_some] <;> rfl) | (simp [*, errW_none, errW_some] <;> rfl), pB⟩
     ·rw [if_neg c13] at H
      exact absurd H (by simp)
    ·rw [if_neg c12] at H
     exact absurd H (by simp)

/-- THE ONE PURE STATEMENT of papermilllaw16_FibreCosts: yours. -/
def papermilllaw16_FibreCosts.Pure : Prop := ∀ (l0 : List (S43)) (l1 : List Int), l0.length ≤ maxLen → l0.length * 24 ≤ 140737488351232 → (∀ x_ ∈ l0, (x_.f0.size ≤ 140737488351232) ∧ ((Lit.int .i64 x_.f1).wf = true)) → l1.length ≤ maxLen → l1.length * 8 ≤ 140737488351232 → (∀ x_ ∈ l1, (Lit.int .i64 x_).wf = true) → ∃ k, papermilllaw16_FibreCosts.f k l0 l1 = some true

end Go.Proofs.Ytlnboodobmbcjaa.Print
