-- Written by wip/tools/myprint.py out of the translation. Not trusted: Lean checks it.
import Derived.Test.YtlnboodobmbcjaaPrint0
import Derived.Test.YtlnboodobmbcjaaPrint10
import Derived.Test.YtlnboodobmbcjaaPrint13
namespace Go.Proofs.Ytlnboodobmbcjaa.Print
open Go.RowKit Go.Proofs.YtlnboodobmbcjaaW.PrintWords Go.Proofs.YtlnboodobmbcjaaW.PrintLast Go.Proofs.YtlnboodobmbcjaaW.PrintMore
attribute [local go_sem] max2_int min2_int max_two min_two max_three min_three max_four min_four   -- for this text's walks alone
set_option linter.unusedVariables false
set_option linter.unusedSimpArgs false

/-! ### share_check: function 56 -/
def share_check.j0 : Nat → Int → List Int → Bool → Option (Int × Int)
 | 0, _, _, _ => none
 | k + 1, x0, x1, x8 => if x8 = true then (some (0, 1)) else (if (x1.length : Int) = 0 then (some (0, 10)) else (if (x1.length : Int) > 512 then (some (0, 8)) else ((slices_ContainsFunc_int_int__share_check_1.f k x1).bind fun t175 => (if t175 = true then (some (0, 1)) else ((num_Sum.f k x1).bind fun bt176 => (if bt176.2 = 0 then (if bt176.1 = 0 then (if x0 > 0 then (some (0, 16)) else (some (bt176.1, 0))) else (some (bt176.1, 0))) else (some (0, 2))))))))
def share_check.f (k : Nat) (a0 : Int) (l1 : List Int) : Option (Int × Int) := if a0 < 0 then (share_check.j0 k a0 l1 true) else (share_check.j0 k a0 l1 (decide (a0 > 1125899906842624)))
theorem share_check.mono_l : ∀ k, (∀ y0 y1 y2, LeO (share_check.j0 k y0 y1 y2) (share_check.j0 (k + 1) y0 y1 y2))
 | 0 => fun _ _ _ r h => by simp [share_check.j0] at h
 | k + 1 => by
  have ih0 := share_check.mono_l k
  ·intro y0 y1 y2
   unfold share_check.j0
   repeat' first
   | (with_reducible exact ih0 _ _ _)
   | (with_reducible exact num_Sum.mono _ _)
   | (with_reducible exact slices_ContainsFunc_int_int__share_check_1.mono _ _)
   | (with_reducible exact LeO.refl _)
   | (with_reducible exact LeO.none _)
   | (with_reducible refine LeO.ite ?_ ?_)
   | (with_reducible refine LeO.bind ?_ (fun _ => ?_))
   | exact ih0 _ _ _
   | exact num_Sum.mono _ _
   | exact slices_ContainsFunc_int_int__share_check_1.mono _ _
   | exact LeO.none _
   | refine LeO.ite ?_ ?_
   | refine LeO.bind ?_ (fun _ => ?_)
theorem share_check.mono : ∀ a0 a1 k, LeO (share_check.f k a0 a1) (share_check.f (k + 1) a0 a1) := by
 intro a0 a1 k
 have ih0 := share_check.mono_l k
 unfold share_check.f
 repeat' first
   | (with_reducible exact ih0 _ _ _)
   | (with_reducible exact num_Sum.mono _ _)
   | (with_reducible exact slices_ContainsFunc_int_int__share_check_1.mono _ _)
   | (with_reducible exact LeO.refl _)
   | (with_reducible exact LeO.none _)
   | (with_reducible refine LeO.ite ?_ ?_)
   | (with_reducible refine LeO.bind ?_ (fun _ => ?_))
   | exact ih0 _ _ _
   | exact num_Sum.mono _ _
   | exact slices_ContainsFunc_int_int__share_check_1.mono _ _
   | exact LeO.none _
   | refine LeO.ite ?_ ?_
   | refine LeO.bind ?_ (fun _ => ?_)
set_option maxHeartbeats 8000000 in
set_option maxRecDepth 100000 in
theorem share_check.calls (k : Nat) (a0 : Int) (A1 : Option Addr) (c1 : Nat) (l1 : List Int) (r1 : Int) (r2 : Int) (w : World) (hr1 : Kd.C (Kd.int .i64) w A1 l1.length l1) (hc1 : l1.length ≤ c1) (h : share_check.f k a0 l1 = some (r1, r2)) :
  Calls Try.prog 56 #[.int .i64 a0, .slice A1 l1.length c1] w fun e w' => e = .returned (.tuple #[.int .i64 r1, .int .i64 r2]) ∧ Below w.heap.size w w' := by
 have HR1 := Aside0.mk hr1
 have HC1 := Aside0.mk hc1
 clear hr1 hc1
 have HB := Aside0.mk (Below.refl w.heap.size w)
 have H : (if a0 < 0 then (share_check.j0 k a0 l1 true) else (share_check.j0 k a0 l1 (decide (a0 > 1125899906842624)))) = some (r1, r2) := h
 clear h
 have HC3 := Aside0.mk H
 clear H
 go_enter Try.func56, Try.ntmps56
 go_upto_region 1 with (fail)
 go_cut [8] (fun v8 wc => ∃ (kq : Nat) (x8_2 : Bool), v8 = .bool x8_2 ∧ Aside0 (share_check.j0 kq a0 l1 x8_2 = some (r1, r2)) ∧ Aside0 (kq ≤ k) ∧ Aside0 (Below w.heap.size w wc))
 case first =>
  have H := HC3.out
  clear HC3
  by_cases c4 : a0 < 0
  ·rw [if_pos c4] at H
   have c4b0 : decide (a0 < 0) = true := decide_eq_true c4
   clear c4
   (first | rw [c4b0] | (simp only [i64_w, i32_w]; rw [c4b0]) | skip)
   have H' := Aside0.mk H
   clear H
   go_wp2
   go_meet
   case rel => exact ⟨_, (true), (by first | rfl | (simp; done) | (simp [*]; done)), H', ⟨by first | omega | exact Nat.le_refl _⟩, ⟨pB⟩⟩
  ·rw [if_neg c4] at H
   have c4b0 : decide (a0 < 0) = false := decide_eq_false c4
   clear c4
   (first | rw [c4b0] | (simp only [i64_w, i32_w]; rw [c4b0]) | skip)
   have H' := Aside0.mk H
   clear H
   go_wp2
   go_meet
   case rel => exact ⟨_, (decide (a0 > 1125899906842624)), (by first | rfl | (simp; done) | (simp [*]; done)), H', ⟨by first | omega | exact Nat.le_refl _⟩, ⟨pB⟩⟩
 case rest =>
  clear HC3
  try clear c1
  try clear p2
  try clear c4
  try clear c4b0
  obtain ⟨kq, x8_2, rfl, HA, HJ2, HB⟩ := hcut
  cases kq with
  | zero => exact absurd HA.out (by simp [share_check.j0])
  | succ kj2 =>
   have H := HA.out
   clear HA
   simp only [share_check.j0] at H
   by_cases c5 : x8_2 = true
   ·subst c5
    have H1 : (some (0, 1)) = some (r1, r2) := by rw [if_pos rfl] at H; exact H
    clear H
    have H := H1
    clear H1
    simp only [Option.some.injEq, Prod.mk.injEq] at H
    obtain ⟨rfl, rfl⟩ := H
    go_wp2
    go_ret2
    exact ⟨by first | rfl | (simp [errW_none, errW_some] <;> rfl) | (simp [*, errW_none, errW_some] <;> rfl), pB⟩
   ·replace c5 := Bool.eq_false_iff.mpr c5
    subst c5
    have H1 : (if (l1.length : Int) = 0 then (some (0, 10)) else (if (l1.length : Int) > 512 then (some (0, 8)) else ((slices_ContainsFunc_int_int__share_check_1.f kj2 l1).bind fun t175 => (if t175 = true then (some (0, 1)) else ((num_Sum.f kj2 l1).bind fun bt176 => (if bt176.2 = 0 then (if bt176.1 = 0 then (if a0 > 0 then (some (0, 16)) else (some (bt176.1, 0))) else (some (bt176.1, 0))) else (some (0, 2)))))))) = some (r1, r2) := by rw [if_neg (show ¬ (false = true) by decide)] at H; exact H
    clear H
    have H := H1
    clear H1
    by_cases c6 : (l1.length : Int) = 0
    ·rw [if_pos c6] at H
     have c6b0 : ((l1.length : Int) == 0) = true := beq_iff_eq.mpr c6
     have c6b1 : ((l1.length : Int) != 0) = false := bne_eq_false_iff_eq.mpr c6
     clear c6
     simp only [Option.some.injEq, Prod.mk.injEq] at H
     obtain ⟨rfl, rfl⟩ := H
     go_wp2
     go_ret2
     exact ⟨by first | rfl | (simp [errW_none, errW_some] <;> rfl) | (simp [*, errW_none, errW_some] <;> rfl), pB⟩
    ·rw [if_neg c6] at H
     have c6b0 : ((l1.length : Int) == 0) = false := beq_eq_false_iff_ne.mpr c6
     have c6b1 : ((l1.length : Int) != 0) = true := bne_iff_ne.mpr c6
     have c6b2 : ¬ (l1 = []) := fun h_ => c6 (by rw [h_]; rfl)
     by_cases c7 : (l1.length : Int) > 512
     ·rw [if_pos c7] at H
      have c7b0 : decide (512 < (l1.length : Int)) = true := decide_eq_true c7
      have c7b1 : decide (512 < l1.length) = true := decide_eq_true (by omega)
      clear c7
      simp only [Option.some.injEq, Prod.mk.injEq] at H
      obtain ⟨rfl, rfl⟩ := H
      go_wp2
      go_ret2
      exact ⟨by first | rfl | (simp [errW_none, errW_some] <;> rfl) | (simp [*, errW_none, errW_some] <;> rfl), pB⟩
     ·rw [if_neg c7] at H
      have c7b0 : decide (512 < (l1.length : Int)) = false := decide_eq_false c7
      have c7b1 : decide (512 < l1.length) = false := decide_eq_false (by omega)
      clear c7
      replace H := Option.bind_eq_some_iff.mp H
      obtain ⟨t175, A80, H⟩ := H
      replace H : (if t175 = true then (some (0, 1)) else ((num_Sum.f kj2 l1).bind fun bt176 => (if bt176.2 = 0 then (if bt176.1 = 0 then (if a0 > 0 then (some (0, 16)) else (some (bt176.1, 0))) else (some (bt176.1, 0))) else (some (0, 2))))) = some (r1, r2) := H
      have A8 := Aside0.mk A80
      clear A80
      by_cases c9 : t175 = true
      ·subst c9
       have H1 : (some (0, 1)) = some (r1, r2) := by rw [if_pos rfl] at H; exact H
       clear H
       have H := H1
       clear H1
       simp only [Option.some.injEq, Prod.mk.injEq] at H
       obtain ⟨rfl, rfl⟩ := H
       go_wp2_with (first | ((with_reducible refine gate_callee (f := 60) rfl ?_); refine goesL_ (some 25) rfl rfl Try.func60 (by kernel_rfl) rfl #[.slice A1 l1.length c1, .func (.func 61) #[] #[]] rfl mA ?_; (with_reducible refine (slices_ContainsFunc_int_int__share_check_1.calls kj2 _ _ l1  true _ ?side1 ?side2 A8.out).mono ?_); (case side1 => repeat (first | exact (Kd.C_below HR1.out HB.out) | (with_reducible refine Kd.C_alloc ?_ _) | (with_reducible refine Kd.C_drewN ?_ _) | (with_reducible refine Kd.C_drew ?_))); (case side2 => exact HC1.out); rintro e w' ⟨rfl, ⟨nd, rfl⟩⟩; refine ⟨_, rfl, ?_⟩))
       go_ret2
       exact ⟨by first | rfl | (simp [errW_none, errW_some] <;> rfl) | (simp [*, errW_none, errW_some] <;> rfl), pB⟩
      ·replace c9 := Bool.eq_false_iff.mpr c9
       subst c9
       have H1 : ((num_Sum.f kj2 l1).bind fun bt176 => (if bt176.2 = 0 then (if bt176.1 = 0 then (if a0 > 0 then (some (0, 16)) else (some (bt176.1, 0))) else (some (bt176.1, 0))) else (some (0, 2)))) = some (r1, r2) := by rw [if_neg (show ¬ (false = true) by decide)] at H; exact H
       clear H
       have H := H1
       clear H1
       replace H := Option.bind_eq_some_iff.mp H
       obtain ⟨⟨t176, t177⟩, A100, H⟩ := H
       replace H : (if t177 = 0 then (if t176 = 0 then (if a0 > 0 then (some (0, 16)) else (some (t176, 0))) else (some (t176, 0))) else (some (0, 2))) = some (r1, r2) := H
       have A10 := Aside0.mk A100
       clear A100
       by_cases c11 : t177 = 0
       ·rw [if_pos c11] at H
        have c11b0 : (t177 == 0) = true := beq_iff_eq.mpr c11
        have c11b1 : (t177 != 0) = false := bne_eq_false_iff_eq.mpr c11
        clear c11
        by_cases c12 : t176 = 0
        ·rw [if_pos c12] at H
         have c12b0 : (t176 == 0) = true := beq_iff_eq.mpr c12
         have c12b1 : (t176 != 0) = false := bne_eq_false_iff_eq.mpr c12
         clear c12
         by_cases c13 : a0 > 0
         ·rw [if_pos c13] at H
          have c13b0 : decide (0 < a0) = true := decide_eq_true c13
          clear c13
          simp only [Option.some.injEq, Prod.mk.injEq] at H
          obtain ⟨rfl, rfl⟩ := H
          go_wp2_with (first | ((with_reducible refine gate_callee (f := 60) rfl ?_); refine goesL_ (some 25) rfl rfl Try.func60 (by kernel_rfl) rfl #[.slice A1 l1.length c1, .func (.func 61) #[] #[]] rfl mA ?_; (with_reducible refine (slices_ContainsFunc_int_int__share_check_1.calls kj2 _ _ l1  false _ ?side1 ?side2 A8.out).mono ?_); (case side1 => repeat (first | exact (Kd.C_below HR1.out HB.out) | (with_reducible refine Kd.C_alloc ?_ _) | (with_reducible refine Kd.C_drewN ?_ _) | (with_reducible refine Kd.C_drew ?_))); (case side2 => exact HC1.out); rintro e w' ⟨rfl, ⟨nd, rfl⟩⟩; refine ⟨_, rfl, ?_⟩) | ((with_reducible refine gate_callee (f := 62) rfl ?_); refine goesL_ (some 28) rfl rfl Try.func62 (by kernel_rfl) rfl #[.slice A1 l1.length c1] rfl mA ?_; (with_reducible refine (num_Sum.calls kj2 _ _ l1 t176 t177 _ ?side1 ?side2 A10.out).mono ?_); (case side1 => repeat (first | exact (Kd.C_below HR1.out pB) | (with_reducible refine Kd.C_alloc ?_ _) | (with_reducible refine Kd.C_drewN ?_ _) | (with_reducible refine Kd.C_drew ?_))); (case side2 => exact HC1.out); rintro e w14 ⟨rfl, hb⟩; refine ⟨_, rfl, ?_⟩; replace HB := Aside0.mk (below_step pB hb); (try clear hb); (try clear hb2); (try clear hk); (try clear hi)))
          go_ret2
          exact ⟨by first | rfl | (simp [errW_none, errW_some] <;> rfl) | (simp [*, errW_none, errW_some] <;> rfl), pB⟩
         ·rw [if_neg c13] at H
          have c13b0 : decide (0 < a0) = false := decide_eq_false c13
          clear c13
          simp only [Option.some.injEq, Prod.mk.injEq] at H
          obtain ⟨rfl, rfl⟩ := H
          go_wp2_with (first | ((with_reducible refine gate_callee (f := 60) rfl ?_); refine goesL_ (some 25) rfl rfl Try.func60 (by kernel_rfl) rfl #[.slice A1 l1.length c1, .func (.func 61) #[] #[]] rfl mA ?_; (with_reducible refine (slices_ContainsFunc_int_int__share_check_1.calls kj2 _ _ l1  false _ ?side1 ?side2 A8.out).mono ?_); (case side1 => repeat (first | exact (Kd.C_below HR1.out HB.out) | (with_reducible refine Kd.C_alloc ?_ _) | (with_reducible refine Kd.C_drewN ?_ _) | (with_reducible refine Kd.C_drew ?_))); (case side2 => exact HC1.out); rintro e w' ⟨rfl, ⟨nd, rfl⟩⟩; refine ⟨_, rfl, ?_⟩) | ((with_reducible refine gate_callee (f := 62) rfl ?_); refine goesL_ (some 28) rfl rfl Try.func62 (by kernel_rfl) rfl #[.slice A1 l1.length c1] rfl mA ?_; (with_reducible refine (num_Sum.calls kj2 _ _ l1 t176 t177 _ ?side1 ?side2 A10.out).mono ?_); (case side1 => repeat (first | exact (Kd.C_below HR1.out pB) | (with_reducible refine Kd.C_alloc ?_ _) | (with_reducible refine Kd.C_drewN ?_ _) | (with_reducible refine Kd.C_drew ?_))); (case side2 => exact HC1.out); rintro e w15 ⟨rfl, hb⟩; refine ⟨_, rfl, ?_⟩; replace HB := Aside0.mk (below_step pB hb); (try clear hb); (try clear hb2); (try clear hk); (try clear hi)))
          go_ret2
          exact ⟨by first | rfl | (simp [errW_none, errW_some] <;> rfl) | (simp [*, errW_none, errW_some] <;> rfl), pB⟩
        ·rw [if_neg c12] at H
         have c12b0 : (t176 == 0) = false := beq_eq_false_iff_ne.mpr c12
         have c12b1 : (t176 != 0) = true := bne_iff_ne.mpr c12
         simp only [Option.some.injEq, Prod.mk.injEq] at H
         obtain ⟨rfl, rfl⟩ := H
         go_wp2_with (first | ((with_reducible refine gate_callee (f := 60) rfl ?_); refine goesL_ (some 25) rfl rfl Try.func60 (by kernel_rfl) rfl #[.slice A1 l1.length c1, .func (.func 61) #[] #[]] rfl mA ?_; (with_reducible refine (slices_ContainsFunc_int_int__share_check_1.calls kj2 _ _ l1  false _ ?side1 ?side2 A8.out).mono ?_); (case side1 => repeat (first | exact (Kd.C_below HR1.out HB.out) | (with_reducible refine Kd.C_alloc ?_ _) | (with_reducible refine Kd.C_drewN ?_ _) | (with_reducible refine Kd.C_drew ?_))); (case side2 => exact HC1.out); rintro e w' ⟨rfl, ⟨nd, rfl⟩⟩; refine ⟨_, rfl, ?_⟩) | ((with_reducible refine gate_callee (f := 62) rfl ?_); refine goesL_ (some 28) rfl rfl Try.func62 (by kernel_rfl) rfl #[.slice A1 l1.length c1] rfl mA ?_; (with_reducible refine (num_Sum.calls kj2 _ _ l1 t176 t177 _ ?side1 ?side2 A10.out).mono ?_); (case side1 => repeat (first | exact (Kd.C_below HR1.out pB) | (with_reducible refine Kd.C_alloc ?_ _) | (with_reducible refine Kd.C_drewN ?_ _) | (with_reducible refine Kd.C_drew ?_))); (case side2 => exact HC1.out); rintro e w16 ⟨rfl, hb⟩; refine ⟨_, rfl, ?_⟩; replace HB := Aside0.mk (below_step pB hb); (try clear hb); (try clear hb2); (try clear hk); (try clear hi)))
         go_ret2
         exact ⟨by first | rfl | (simp [errW_none, errW_some] <;> rfl) | (simp [*, errW_none, errW_some] <;> rfl), pB⟩
       ·rw [if_neg c11] at H
        have c11b0 : (t177 == 0) = false := beq_eq_false_iff_ne.mpr c11
        have c11b1 : (t177 != 0) = true := bne_iff_ne.mpr c11
        simp only [Option.some.injEq, Prod.mk.injEq] at H
        obtain ⟨rfl, rfl⟩ := H
        go_wp2_with (first | ((with_reducible refine gate_callee (f := 60) rfl ?_); refine goesL_ (some 25) rfl rfl Try.func60 (by kernel_rfl) rfl #[.slice A1 l1.length c1, .func (.func 61) #[] #[]] rfl mA ?_; (with_reducible refine (slices_ContainsFunc_int_int__share_check_1.calls kj2 _ _ l1  false _ ?side1 ?side2 A8.out).mono ?_); (case side1 => repeat (first | exact (Kd.C_below HR1.out HB.out) | (with_reducible refine Kd.C_alloc ?_ _) | (with_reducible refine Kd.C_drewN ?_ _) | (with_reducible refine Kd.C_drew ?_))); (case side2 => exact HC1.out); rintro e w' ⟨rfl, ⟨nd, rfl⟩⟩; refine ⟨_, rfl, ?_⟩) | ((with_reducible refine gate_callee (f := 62) rfl ?_); refine goesL_ (some 28) rfl rfl Try.func62 (by kernel_rfl) rfl #[.slice A1 l1.length c1] rfl mA ?_; (with_reducible refine (num_Sum.calls kj2 _ _ l1 t176 t177 _ ?side1 ?side2 A10.out).mono ?_); (case side1 => repeat (first | exact (Kd.C_below HR1.out pB) | (with_reducible refine Kd.C_alloc ?_ _) | (with_reducible refine Kd.C_drewN ?_ _) | (with_reducible refine Kd.C_drew ?_))); (case side2 => exact HC1.out); rintro e w17 ⟨rfl, hb⟩; refine ⟨_, rfl, ?_⟩; replace HB := Aside0.mk (below_step pB hb); (try clear hb); (try clear hb2); (try clear hk); (try clear hi)))
        go_ret2
        exact ⟨by first | rfl | (simp [errW_none, errW_some] <;> rfl) | (simp [*, errW_none, errW_some] <;> rfl), pB⟩

/-! ### share_quotient: function 57 -/
def share_quotient.f (a0 : Int) (a1 : Int) (a2 : Int) : Option (Int × Int) := if a2 = 0 then (some (0, 0)) else ((num_MulDiv.f a0 a1 a2 0).bind fun bt178 => (some (bt178.1, wrap64 ((wrap64 (a0 * a1)) - (wrap64 (bt178.1 * a2))))))
set_option maxHeartbeats 8000000 in
set_option maxRecDepth 100000 in
theorem share_quotient.calls (a0 : Int) (a1 : Int) (a2 : Int) (r1 : Int) (r2 : Int) (w : World) (h : share_quotient.f a0 a1 a2 = some (r1, r2)) :
  Calls Try.prog 57 #[.int .i64 a0, .int .i64 a1, .int .i64 a2] w fun e w' => e = .returned (.tuple #[.int .i64 r1, .int .i64 r2]) ∧ Below w.heap.size w w' := by
 have HB := Aside0.mk (Below.refl w.heap.size w)
 have H : (if a2 = 0 then (some (0, 0)) else ((num_MulDiv.f a0 a1 a2 0).bind fun bt178 => (some (bt178.1, wrap64 ((wrap64 (a0 * a1)) - (wrap64 (bt178.1 * a2))))))) = some (r1, r2) := h
 clear h
 by_cases c4 : a2 = 0
 ·rw [if_pos c4] at H
  have c4b0 : (a2 == 0) = true := beq_iff_eq.mpr c4
  have c4b1 : (a2 != 0) = false := bne_eq_false_iff_eq.mpr c4
  clear c4
  simp only [Option.some.injEq, Prod.mk.injEq] at H
  obtain ⟨rfl, rfl⟩ := H
  go_enter Try.func57, Try.ntmps57
  go_wp2
  go_ret2
  exact ⟨by first | rfl | (simp [errW_none, errW_some] <;> rfl) | (simp [*, errW_none, errW_some] <;> rfl), pB⟩
 ·rw [if_neg c4] at H
  have c4b0 : (a2 == 0) = false := beq_eq_false_iff_ne.mpr c4
  have c4b1 : (a2 != 0) = true := bne_iff_ne.mpr c4
  replace H := Option.bind_eq_some_iff.mp H
  obtain ⟨⟨t178, t179⟩, A50, H⟩ := H
  replace H : (some (t178, wrap64 ((wrap64 (a0 * a1)) - (wrap64 (t178 * a2))))) = some (r1, r2) := H
  have A5 := Aside0.mk A50
  clear A50
  simp only [Option.some.injEq, Prod.mk.injEq] at H
  obtain ⟨rfl, rfl⟩ := H
  go_enter Try.func57, Try.ntmps57
  go_wp2_with (first | ((with_reducible refine gate_callee (f := 40) rfl ?_); refine goesL_ (some 16) rfl rfl Try.func40 (by kernel_rfl) rfl #[.int .i64 a0, .int .i64 a1, .int .i64 a2, .int .i64 0] rfl mA ?_; (with_reducible refine (num_MulDiv.calls a0 a1 a2 0 t178 t179 _ A5.out).mono ?_); rintro e w6 ⟨rfl, hb⟩; refine ⟨_, rfl, ?_⟩; replace HB := Aside0.mk (below_step pB hb); (try clear hb); (try clear hb2); (try clear hk); (try clear hi)))
  go_ret2
  exact ⟨by first | rfl | (simp [errW_none, errW_some] <;> rfl) | (simp [*, errW_none, errW_some] <;> rfl), pB⟩

-- NOT PRINTED: function 66 (slices_insertionSortCmpFunc_int)

-- NOT PRINTED: function 69 (slices_swapRangeCmpFunc_int)

-- NOT PRINTED: function 68 (slices_rotateCmpFunc_int)

-- NOT PRINTED: function 67 (slices_symMergeCmpFunc_int)

-- NOT PRINTED: function 63 (slices_stableCmpFunc_int)

-- NOT PRINTED: function 58 (slices_SortStableFunc_int_int)

/-! ### share_Split_1: function 59 -/
def share_Split_1.f (a0 : Int) (a1 : Int) (l2 : List (List Int)) : Option (Int) := if 0 < (l2.length : Int) then (if 0 ≤ a1 then (if a1 < ((rd_L6 l2 0).length : Int) then (if 0 ≤ a0 then (if a0 < ((rd_L6 l2 0).length : Int) then (some (wrap64 ((rd (rd_L6 l2 0) a1) - (rd (rd_L6 l2 0) a0)))) else (none)) else (none)) else (none)) else (none)) else (none)
set_option maxHeartbeats 8000000 in
set_option maxRecDepth 100000 in
theorem share_Split_1.calls (a0 : Int) (a1 : Int) (A2 : Option Addr) (c2 : Nat) (l2 : List (List Int)) (r : Int) (w : World) (hr2 : Kd.C (Kd.slice 3 (Kd.int .i64)) w A2 l2.length l2) (hc2 : l2.length ≤ c2) (h : share_Split_1.f a0 a1 l2 = some r) :
  Calls Try.prog 59 #[.int .i64 a0, .int .i64 a1, .pointer A2] w fun e w' => e = .returned (.int .i64 r) ∧ Drawn0 w w' := by
 have HR2 := Aside0.mk hr2
 have HC2 := Aside0.mk hc2
 clear hr2 hc2
 have H : (if 0 < (l2.length : Int) then (if 0 ≤ a1 then (if a1 < ((rd_L6 l2 0).length : Int) then (if 0 ≤ a0 then (if a0 < ((rd_L6 l2 0).length : Int) then (some (wrap64 ((rd (rd_L6 l2 0) a1) - (rd (rd_L6 l2 0) a0)))) else (none)) else (none)) else (none)) else (none)) else (none)) = some r := h
 clear h
 by_cases c4 : 0 < (l2.length : Int)
 ·rw [if_pos c4] at H
  have c4b0 : decide (0 < (l2.length : Int)) = true := decide_eq_true c4
  have c4b1 : decide (0 < l2.length) = true := decide_eq_true (by omega)
  clear c4
  by_cases c5 : 0 ≤ a1
  ·rw [if_pos c5] at H
   have c5b0 : decide (0 ≤ a1) = true := decide_eq_true c5
   clear c5
   by_cases c6 : a1 < ((rd_L6 l2 0).length : Int)
   ·rw [if_pos c6] at H
    have c6b0 : decide (a1 < ((rd_L6 l2 0).length : Int)) = true := decide_eq_true c6
    clear c6
    by_cases c7 : 0 ≤ a0
    ·rw [if_pos c7] at H
     have c7b0 : decide (0 ≤ a0) = true := decide_eq_true c7
     clear c7
     by_cases c8 : a0 < ((rd_L6 l2 0).length : Int)
     ·rw [if_pos c8] at H
      have c8b0 : decide (a0 < ((rd_L6 l2 0).length : Int)) = true := decide_eq_true c8
      clear c8
      obtain rfl := Option.some.inj H
      have p180 : 0 ≤ (0 : Int) := (by omega)
      have q180 : 0 < (l2.length : Int) := of_decide_eq_true (by first | (with_reducible assumption) | assumption)
      obtain ⟨ad180, A180_0, c180_0, e180, hx180_0, hl180_0, hi180_0⟩ := at_L6 HR2.out 0 p180 q180
      cases e180
      have qi180 : (0 < l2.length) = True := eq_true (by omega)
      (try rw [show ((0 : Int)).toNat = 0 from rfl] at hx180_0)
      (try rw [Addr.add_zero'] at hx180_0)
      have HR180_0 := Aside0.mk hi180_0
      have HC180_0 := Aside0.mk hl180_0
      clear hi180_0 hl180_0
      replace p180 := eq_true p180
      replace q180 := eq_true q180
      have p181 : 0 ≤ (a1 : Int) := of_decide_eq_true (by first | (with_reducible assumption) | assumption)
      have q181 : a1 < ((rd_L6 l2 0).length : Int) := of_decide_eq_true (by first | (with_reducible assumption) | assumption)
      obtain ⟨ad181, e181, hx181_0⟩ := Kd.at_int HR180_0.out a1 p181 q181
      cases e181
      replace p181 := eq_true p181
      replace q181 := eq_true q181
      have p182 : 0 ≤ (0 : Int) := (by omega)
      have q182 : 0 < (l2.length : Int) := of_decide_eq_true (by first | (with_reducible assumption) | assumption)
      obtain ⟨ad182, A182_0, c182_0, e182, hx182_0, hl182_0, hi182_0⟩ := at_L6 HR2.out 0 p182 q182
      obtain rfl : ad180 = ad182 := (by injection e182)
      have qi182 : (0 < l2.length) = True := eq_true (by omega)
      (try rw [show ((0 : Int)).toNat = 0 from rfl] at hx182_0)
      (try rw [Addr.add_zero'] at hx182_0)
      have HR182_0 := Aside0.mk hi182_0
      have HC182_0 := Aside0.mk hl182_0
      clear hi182_0 hl182_0
      replace p182 := eq_true p182
      replace q182 := eq_true q182
      have ea_ := Option.some.inj (hx180_0.symm.trans hx182_0)
      injection ea_ with ea_ en_ ec_
      subst ea_
      subst ec_
      clear en_
      have p183 : 0 ≤ (a0 : Int) := of_decide_eq_true (by first | (with_reducible assumption) | assumption)
      have q183 : a0 < ((rd_L6 l2 0).length : Int) := of_decide_eq_true (by first | (with_reducible assumption) | assumption)
      obtain ⟨ad183, e183, hx183_0⟩ := Kd.at_int HR182_0.out a0 p183 q183
      cases e183
      replace p183 := eq_true p183
      replace q183 := eq_true q183
      go_enter Try.func59, Try.ntmps59
      go_wp2
      repeat (go_quiet (fail); try go_wp2)
      go_ret
      exact ⟨by first | rfl | (simp; done) | (simp [*]; done), by repeat (first | exact Drawn0.refl _ | apply Drawn0.step)⟩
     ·rw [if_neg c8] at H
      exact absurd H (by simp)
    ·rw [if_neg c7] at H
     exact absurd H (by simp)
   ·rw [if_neg c6] at H
    exact absurd H (by simp)
  ·rw [if_neg c5] at H
   exact absurd H (by simp)
 ·rw [if_neg c4] at H
  exact absurd H (by simp)

end Go.Proofs.Ytlnboodobmbcjaa.Print
