-- Written by wip/tools/myprint.py out of the translation. Not trusted: Lean checks it.
import Derived.Test.YtpnfdhhfdidlmaaPrint0
import Derived.Test.YtpnfdhhfdidlmaaPrint7
namespace Go.Proofs.Ytpnfdhhfdidlmaa.Print
open Go.RowKit Go.Proofs.YtpnfdhhfdidlmaaW.PrintWords Go.Proofs.YtpnfdhhfdidlmaaW.PrintLast Go.Proofs.YtpnfdhhfdidlmaaW.PrintMore
attribute [local go_sem] max2_int min2_int max_two min_two max_three min_three max_four min_four   -- for this text's walks alone
set_option linter.unusedVariables false
set_option linter.unusedSimpArgs false

/-! ### share_check: function 38 -/
def share_check.j0 : Nat → Int → List Int → Bool → Option (Int × Int)
 | 0, _, _, _ => none
 | k + 1, x0, x1, x8 => if x8 = true then (some (0, 1)) else (if (x1.length : Int) = 0 then (some (0, 10)) else (if (x1.length : Int) > 512 then (some (0, 8)) else ((slices_ContainsFunc_int_int__share_check_1.f k x1).bind fun t151 => (if t151 = true then (some (0, 1)) else ((num_Sum.f k x1).bind fun bt152 => (if bt152.2 = 0 then (if bt152.1 = 0 then (if x0 > 0 then (some (0, 16)) else (some (bt152.1, 0))) else (some (bt152.1, 0))) else (some (0, 2))))))))
def share_check.f (k : Nat) (a0 : Int) (l1 : List Int) : Option (Int × Int) := if a0 < 0 then (share_check.j0 k a0 l1 true) else (share_check.j0 k a0 l1 (decide (a0 > 1125899906842624)))
theorem share_check.mono_l : ∀ k, (∀ y0 y1 y2, LeO (share_check.j0 k y0 y1 y2) (share_check.j0 (k + 1) y0 y1 y2))
 | 0 => fun _ _ _ r h => by simp [share_check.j0] at h
 | k + 1 => by
  have ih0 := share_check.mono_l k
  ·intro y0 y1 y2
   unfold share_check.j0
   repeat' first
   | (with_reducible exact ih0 _ _ _)
   | (with_reducible exact num_Sum.mono _ _)
   | (with_reducible exact slices_ContainsFunc_int_int__share_check_1.mono _ _)
   | (with_reducible exact LeO.refl _)
   | (with_reducible exact LeO.none _)
   | (with_reducible refine LeO.ite ?_ ?_)
   | (with_reducible refine LeO.bind ?_ (fun _ => ?_))
   | exact ih0 _ _ _
   | exact num_Sum.mono _ _
   | exact slices_ContainsFunc_int_int__share_check_1.mono _ _
   | exact LeO.none _
   | refine LeO.ite ?_ ?_
   | refine LeO.bind ?_ (fun _ => ?_)
theorem share_check.mono : ∀ a0 a1 k, LeO (share_check.f k a0 a1) (share_check.f (k + 1) a0 a1) := by
 intro a0 a1 k
 have ih0 := share_check.mono_l k
 unfold share_check.f
 repeat' first
   | (with_reducible exact ih0 _ _ _)
   | (with_reducible exact num_Sum.mono _ _)
   | (with_reducible exact slices_ContainsFunc_int_int__share_check_1.mono _ _)
   | (with_reducible exact LeO.refl _)
   | (with_reducible exact LeO.none _)
   | (with_reducible refine LeO.ite ?_ ?_)
   | (with_reducible refine LeO.bind ?_ (fun _ => ?_))
   | exact ih0 _ _ _
   | exact num_Sum.mono _ _
   | exact slices_ContainsFunc_int_int__share_check_1.mono _ _
   | exact LeO.none _
   | refine LeO.ite ?_ ?_
   | refine LeO.bind ?_ (fun _ => ?_)
set_option maxHeartbeats 8000000 in
set_option maxRecDepth 100000 in
theorem share_check.calls (k : Nat) (a0 : Int) (A1 : Option Addr) (c1 : Nat) (l1 : List Int) (r1 : Int) (r2 : Int) (w : World) (hr1 : Kd.C (Kd.int .i64) w A1 l1.length l1) (hc1 : l1.length ≤ c1) (h : share_check.f k a0 l1 = some (r1, r2)) :
  Calls Try.prog 38 #[.int .i64 a0, .slice A1 l1.length c1] w fun e w' => e = .returned (.tuple #[.int .i64 r1, .int .i64 r2]) ∧ Below w.heap.size w w' := by
 have HR1 := Aside0.mk hr1
 have HC1 := Aside0.mk hc1
 clear hr1 hc1
 have HB := Aside0.mk (Below.refl w.heap.size w)
 have H : (if a0 < 0 then (share_check.j0 k a0 l1 true) else (share_check.j0 k a0 l1 (decide (a0 > 1125899906842624)))) = some (r1, r2) := h
 clear h
 have HC3 := Aside0.mk H
 clear H
 go_enter Try.func38, Try.ntmps38
 go_upto_region 1 with (fail)
 go_cut [8] (fun v8 wc => ∃ (kq : Nat) (x8_2 : Bool), v8 = .bool x8_2 ∧ Aside0 (share_check.j0 kq a0 l1 x8_2 = some (r1, r2)) ∧ Aside0 (kq ≤ k) ∧ Aside0 (Below w.heap.size w wc))
 case first =>
  have H := HC3.out
  clear HC3
  by_cases c4 : a0 < 0
  ·rw [if_pos c4] at H
   have c4b0 : decide (a0 < 0) = true := decide_eq_true c4
   clear c4
   (first | rw [c4b0] | (simp only [i64_w, i32_w]; rw [c4b0]) | skip)
   have H' := Aside0.mk H
   clear H
   go_wp2
   go_meet
   case rel => exact ⟨_, (true), (by first | rfl | (simp; done) | (simp [*]; done)), H', ⟨by first | omega | exact Nat.le_refl _⟩, ⟨pB⟩⟩
  ·rw [if_neg c4] at H
   have c4b0 : decide (a0 < 0) = false := decide_eq_false c4
   clear c4
   (first | rw [c4b0] | (simp only [i64_w, i32_w]; rw [c4b0]) | skip)
   have H' := Aside0.mk H
   clear H
   go_wp2
   go_meet
   case rel => exact ⟨_, (decide (a0 > 1125899906842624)), (by first | rfl | (simp; done) | (simp [*]; done)), H', ⟨by first | omega | exact Nat.le_refl _⟩, ⟨pB⟩⟩
 case rest =>
  clear HC3
  try clear c1
  try clear p2
  try clear c3
  try clear c4
  try clear c4b0
  obtain ⟨kq, x8_2, rfl, HA, HJ2, HB⟩ := hcut
  cases kq with
  | zero => exact absurd HA.out (by simp [share_check.j0])
  | succ kj2 =>
   have H := HA.out
   clear HA
   simp only [share_check.j0] at H
   by_cases c5 : x8_2 = true
   ·subst c5
    have H1 : (some (0, 1)) = some (r1, r2) := by rw [if_pos rfl] at H; exact H
    clear H
    have H := H1
    clear H1
    simp only [Option.some.injEq, Prod.mk.injEq] at H
    obtain ⟨rfl, rfl⟩ := H
    go_wp2
    go_ret2
    exact ⟨by first | rfl | (simp [errW_none, errW_some] <;> rfl) | (simp [*, errW_none, errW_some] <;> rfl), pB⟩
   ·replace c5 := Bool.eq_false_iff.mpr c5
    subst c5
    have H1 : (if (l1.length : Int) = 0 then (some (0, 10)) else (if (l1.length : Int) > 512 then (some (0, 8)) else ((slices_ContainsFunc_int_int__share_check_1.f kj2 l1).bind fun t151 => (if t151 = true then (some (0, 1)) else ((num_Sum.f kj2 l1).bind fun bt152 => (if bt152.2 = 0 then (if bt152.1 = 0 then (if a0 > 0 then (some (0, 16)) else (some (bt152.1, 0))) else (some (bt152.1, 0))) else (some (0, 2)))))))) = some (r1, r2) := by rw [if_neg (show ¬ (false = true) by decide)] at H; exact H
    clear H
    have H := H1
    clear H1
    by_cases c6 : (l1.length : Int) = 0
    ·rw [if_pos c6] at H
     have c6b0 : ((l1.length : Int) == 0) = true := beq_iff_eq.mpr c6
     have c6b1 : ((l1.length : Int) != 0) = false := bne_eq_false_iff_eq.mpr c6
     clear c6
     simp only [Option.some.injEq, Prod.mk.injEq] at H
     obtain ⟨rfl, rfl⟩ := H
     go_wp2
     go_ret2
     exact ⟨by first | rfl | (simp [errW_none, errW_some] <;> rfl) | (simp [*, errW_none, errW_some] <;> rfl), pB⟩
    ·rw [if_neg c6] at H
     have c6b0 : ((l1.length : Int) == 0) = false := beq_eq_false_iff_ne.mpr c6
     have c6b1 : ((l1.length : Int) != 0) = true := bne_iff_ne.mpr c6
     have c6b2 : ¬ (l1 = []) := fun h_ => c6 (by rw [h_]; rfl)
     by_cases c7 : (l1.length : Int) > 512
     ·rw [if_pos c7] at H
      have c7b0 : decide (512 < (l1.length : Int)) = true := decide_eq_true c7
      have c7b1 : decide (512 < l1.length) = true := decide_eq_true (by omega)
      clear c7
      simp only [Option.some.injEq, Prod.mk.injEq] at H
      obtain ⟨rfl, rfl⟩ := H
      go_wp2
      go_ret2
      exact ⟨by first | rfl | (simp [errW_none, errW_some] <;> rfl) | (simp [*, errW_none, errW_some] <;> rfl), pB⟩
     ·rw [if_neg c7] at H
      have c7b0 : decide (512 < (l1.length : Int)) = false := decide_eq_false c7
      have c7b1 : decide (512 < l1.length) = false := decide_eq_false (by omega)
      clear c7
      replace H := Option.bind_eq_some_iff.mp H
      obtain ⟨t151, A80, H⟩ := H
      replace H : (if t151 = true then (some (0, 1)) else ((num_Sum.f kj2 l1).bind fun bt152 => (if bt152.2 = 0 then (if bt152.1 = 0 then (if a0 > 0 then (some (0, 16)) else (some (bt152.1, 0))) else (some (bt152.1, 0))) else (some (0, 2))))) = some (r1, r2) := H
      have A8 := Aside0.mk A80
      clear A80
      by_cases c9 : t151 = true
      ·subst c9
       have H1 : (some (0, 1)) = some (r1, r2) := by rw [if_pos rfl] at H; exact H
       clear H
       have H := H1
       clear H1
       simp only [Option.some.injEq, Prod.mk.injEq] at H
       obtain ⟨rfl, rfl⟩ := H
       go_wp2_with (first | ((with_reducible refine gate_callee (f := 45) rfl ?_); refine goesL_ (some 25) rfl rfl Try.func45 (by kernel_rfl) rfl #[.slice A1 l1.length c1, .func (.func 46) #[] #[]] rfl mA ?_; (with_reducible refine (slices_ContainsFunc_int_int__share_check_1.calls kj2 _ _ l1  true _ ?side1 ?side2 A8.out).mono ?_); (case side1 => repeat (first | exact (Kd.C_below HR1.out HB.out) | (with_reducible refine Kd.C_alloc ?_ _) | (with_reducible refine Kd.C_drewN ?_ _) | (with_reducible refine Kd.C_drew ?_))); (case side2 => exact HC1.out); rintro e w' ⟨rfl, ⟨nd, rfl⟩⟩; refine ⟨_, rfl, ?_⟩))
       go_ret2
       exact ⟨by first | rfl | (simp [errW_none, errW_some] <;> rfl) | (simp [*, errW_none, errW_some] <;> rfl), pB⟩
      ·replace c9 := Bool.eq_false_iff.mpr c9
       subst c9
       have H1 : ((num_Sum.f kj2 l1).bind fun bt152 => (if bt152.2 = 0 then (if bt152.1 = 0 then (if a0 > 0 then (some (0, 16)) else (some (bt152.1, 0))) else (some (bt152.1, 0))) else (some (0, 2)))) = some (r1, r2) := by rw [if_neg (show ¬ (false = true) by decide)] at H; exact H
       clear H
       have H := H1
       clear H1
       replace H := Option.bind_eq_some_iff.mp H
       obtain ⟨⟨t152, t153⟩, A100, H⟩ := H
       replace H : (if t153 = 0 then (if t152 = 0 then (if a0 > 0 then (some (0, 16)) else (some (t152, 0))) else (some (t152, 0))) else (some (0, 2))) = some (r1, r2) := H
       have A10 := Aside0.mk A100
       clear A100
       by_cases c11 : t153 = 0
       ·rw [if_pos c11] at H
        have c11b0 : (t153 == 0) = true := beq_iff_eq.mpr c11
        have c11b1 : (t153 != 0) = false := bne_eq_false_iff_eq.mpr c11
        clear c11
        by_cases c12 : t152 = 0
        ·rw [if_pos c12] at H
         have c12b0 : (t152 == 0) = true := beq_iff_eq.mpr c12
         have c12b1 : (t152 != 0) = false := bne_eq_false_iff_eq.mpr c12
         clear c12
         by_cases c13 : a0 > 0
         ·rw [if_pos c13] at H
          have c13b0 : decide (0 < a0) = true := decide_eq_true c13
          clear c13
          simp only [Option.some.injEq, Prod.mk.injEq] at H
          obtain ⟨rfl, rfl⟩ := H
          go_wp2_with (first | ((with_reducible refine gate_callee (f := 45) rfl ?_); refine goesL_ (some 25) rfl rfl Try.func45 (by kernel_rfl) rfl #[.slice A1 l1.length c1, .func (.func 46) #[] #[]] rfl mA ?_; (with_reducible refine (slices_ContainsFunc_int_int__share_check_1.calls kj2 _ _ l1  false _ ?side1 ?side2 A8.out).mono ?_); (case side1 => repeat (first | exact (Kd.C_below HR1.out HB.out) | (with_reducible refine Kd.C_alloc ?_ _) | (with_reducible refine Kd.C_drewN ?_ _) | (with_reducible refine Kd.C_drew ?_))); (case side2 => exact HC1.out); rintro e w' ⟨rfl, ⟨nd, rfl⟩⟩; refine ⟨_, rfl, ?_⟩) | ((with_reducible refine gate_callee (f := 47) rfl ?_); refine goesL_ (some 28) rfl rfl Try.func47 (by kernel_rfl) rfl #[.slice A1 l1.length c1] rfl mA ?_; (with_reducible refine (num_Sum.calls kj2 _ _ l1 t152 t153 _ ?side1 ?side2 A10.out).mono ?_); (case side1 => repeat (first | exact (Kd.C_below HR1.out pB) | (with_reducible refine Kd.C_alloc ?_ _) | (with_reducible refine Kd.C_drewN ?_ _) | (with_reducible refine Kd.C_drew ?_))); (case side2 => exact HC1.out); rintro e w14 ⟨rfl, hb⟩; refine ⟨_, rfl, ?_⟩; replace HB := Aside0.mk (below_step pB hb); (try clear hb); (try clear hb2); (try clear hk); (try clear hi)))
          go_ret2
          exact ⟨by first | rfl | (simp [errW_none, errW_some] <;> rfl) | (simp [*, errW_none, errW_some] <;> rfl), pB⟩
         ·rw [if_neg c13] at H
          have c13b0 : decide (0 < a0) = false := decide_eq_false c13
          clear c13
          simp only [Option.some.injEq, Prod.mk.injEq] at H
          obtain ⟨rfl, rfl⟩ := H
          go_wp2_with (first | ((with_reducible refine gate_callee (f := 45) rfl ?_); refine goesL_ (some 25) rfl rfl Try.func45 (by kernel_rfl) rfl #[.slice A1 l1.length c1, .func (.func 46) #[] #[]] rfl mA ?_; (with_reducible refine (slices_ContainsFunc_int_int__share_check_1.calls kj2 _ _ l1  false _ ?side1 ?side2 A8.out).mono ?_); (case side1 => repeat (first | exact (Kd.C_below HR1.out HB.out) | (with_reducible refine Kd.C_alloc ?_ _) | (with_reducible refine Kd.C_drewN ?_ _) | (with_reducible refine Kd.C_drew ?_))); (case side2 => exact HC1.out); rintro e w' ⟨rfl, ⟨nd, rfl⟩⟩; refine ⟨_, rfl, ?_⟩) | ((with_reducible refine gate_callee (f := 47) rfl ?_); refine goesL_ (some 28) rfl rfl Try.func47 (by kernel_rfl) rfl #[.slice A1 l1.length c1] rfl mA ?_; (with_reducible refine (num_Sum.calls kj2 _ _ l1 t152 t153 _ ?side1 ?side2 A10.out).mono ?_); (case side1 => repeat (first | exact (Kd.C_below HR1.out pB) | (with_reducible refine Kd.C_alloc ?_ _) | (with_reducible refine Kd.C_drewN ?_ _) | (with_reducible refine Kd.C_drew ?_))); (case side2 => exact HC1.out); rintro e w15 ⟨rfl, hb⟩; refine ⟨_, rfl, ?_⟩; replace HB := Aside0.mk (below_step pB hb); (try clear hb); (try clear hb2); (try clear hk); (try clear hi)))
          go_ret2
          exact ⟨by first | rfl | (simp [errW_none, errW_some] <;> rfl) | (simp [*, errW_none, errW_some] <;> rfl), pB⟩
        ·rw [if_neg c12] at H
         have c12b0 : (t152 == 0) = false := beq_eq_false_iff_ne.mpr c12
         have c12b1 : (t152 != 0) = true := bne_iff_ne.mpr c12
         simp only [Option.some.injEq, Prod.mk.injEq] at H
         obtain ⟨rfl, rfl⟩ := H
         go_wp2_with (first | ((with_reducible refine gate_callee (f := 45) rfl ?_); refine goesL_ (some 25) rfl rfl Try.func45 (by kernel_rfl) rfl #[.slice A1 l1.length c1, .func (.func 46) #[] #[]] rfl mA ?_; (with_reducible refine (slices_ContainsFunc_int_int__share_check_1.calls kj2 _ _ l1  false _ ?side1 ?side2 A8.out).mono ?_); (case side1 => repeat (first | exact (Kd.C_below HR1.out HB.out) | (with_reducible refine Kd.C_alloc ?_ _) | (with_reducible refine Kd.C_drewN ?_ _) | (with_reducible refine Kd.C_drew ?_))); (case side2 => exact HC1.out); rintro e w' ⟨rfl, ⟨nd, rfl⟩⟩; refine ⟨_, rfl, ?_⟩) | ((with_reducible refine gate_callee (f := 47) rfl ?_); refine goesL_ (some 28) rfl rfl Try.func47 (by kernel_rfl) rfl #[.slice A1 l1.length c1] rfl mA ?_; (with_reducible refine (num_Sum.calls kj2 _ _ l1 t152 t153 _ ?side1 ?side2 A10.out).mono ?_); (case side1 => repeat (first | exact (Kd.C_below HR1.out pB) | (with_reducible refine Kd.C_alloc ?_ _) | (with_reducible refine Kd.C_drewN ?_ _) | (with_reducible refine Kd.C_drew ?_))); (case side2 => exact HC1.out); rintro e w16 ⟨rfl, hb⟩; refine ⟨_, rfl, ?_⟩; replace HB := Aside0.mk (below_step pB hb); (try clear hb); (try clear hb2); (try clear hk); (try clear hi)))
         go_ret2
         exact ⟨by first | rfl | (simp [errW_none, errW_some] <;> rfl) | (simp [*, errW_none, errW_some] <;> rfl), pB⟩
       ·rw [if_neg c11] at H
        have c11b0 : (t153 == 0) = false := beq_eq_false_iff_ne.mpr c11
        have c11b1 : (t153 != 0) = true := bne_iff_ne.mpr c11
        simp only [Option.some.injEq, Prod.mk.injEq] at H
        obtain ⟨rfl, rfl⟩ := H
        go_wp2_with (first | ((with_reducible refine gate_callee (f := 45) rfl ?_); refine goesL_ (some 25) rfl rfl Try.func45 (by kernel_rfl) rfl #[.slice A1 l1.length c1, .func (.func 46) #[] #[]] rfl mA ?_; (with_reducible refine (slices_ContainsFunc_int_int__share_check_1.calls kj2 _ _ l1  false _ ?side1 ?side2 A8.out).mono ?_); (case side1 => repeat (first | exact (Kd.C_below HR1.out HB.out) | (with_reducible refine Kd.C_alloc ?_ _) | (with_reducible refine Kd.C_drewN ?_ _) | (with_reducible refine Kd.C_drew ?_))); (case side2 => exact HC1.out); rintro e w' ⟨rfl, ⟨nd, rfl⟩⟩; refine ⟨_, rfl, ?_⟩) | ((with_reducible refine gate_callee (f := 47) rfl ?_); refine goesL_ (some 28) rfl rfl Try.func47 (by kernel_rfl) rfl #[.slice A1 l1.length c1] rfl mA ?_; (with_reducible refine (num_Sum.calls kj2 _ _ l1 t152 t153 _ ?side1 ?side2 A10.out).mono ?_); (case side1 => repeat (first | exact (Kd.C_below HR1.out pB) | (with_reducible refine Kd.C_alloc ?_ _) | (with_reducible refine Kd.C_drewN ?_ _) | (with_reducible refine Kd.C_drew ?_))); (case side2 => exact HC1.out); rintro e w17 ⟨rfl, hb⟩; refine ⟨_, rfl, ?_⟩; replace HB := Aside0.mk (below_step pB hb); (try clear hb); (try clear hb2); (try clear hk); (try clear hi)))
        go_ret2
        exact ⟨by first | rfl | (simp [errW_none, errW_some] <;> rfl) | (simp [*, errW_none, errW_some] <;> rfl), pB⟩

/-! ### num_product: function 57 (given) -/
def num_product.f (a0 : Int) (a1 : Int) : Option (Int × Int) := if 0 ≤ a0 ∧ a0 ≤ 1125899906842624 ∧ 0 ≤ a1 ∧ a1 ≤ 1125899906842624 then some (a0 * a1 / 18446744073709551616, a0 * a1 % 18446744073709551616) else none
theorem num_product.w64 (n : Int) (h : 0 ≤ n) (h' : n < 2 ^ 64) : IntKind.u64.wrap n = n := by
 have : IntKind.u64.wrap n = n % 18446744073709551616 := by simp [IntKind.wrap, IntKind.bits, IntKind.signed]
 rw [this]; omega
theorem num_product.and32 (x : Int) (h0 : 0 ≤ x) (h1 : x < 18446744073709551616) : Go.bits .and .u64 x 4294967295 = x % 4294967296 :=
 bits_mask .u64 64 (by decide) num_product.w64 32 (by decide) x h0 h1
theorem num_product.or32 (x y : Int) (hx : 0 ≤ x) (hx1 : x < 18446744073709551616) (hm : x % 4294967296 = 0) (hy : 0 ≤ y) (hy1 : y < 4294967296) : Go.bits .or .u64 x y = x + y :=
 bits_join .u64 64 (by decide) num_product.w64 32 x y hx hm hx1 hy hy1 (by omega)
theorem num_product.mul_le {a b A B : Int} (ha0 : 0 ≤ a) (ha : a ≤ A) (hb0 : 0 ≤ b) (hb : b ≤ B) : 0 ≤ a * b ∧ a * b ≤ A * B :=
 ⟨Int.mul_nonneg ha0 hb0, Int.mul_le_mul ha hb hb0 (by omega)⟩
theorem num_product.parts (x00 x10 x01 x11 : Int) (p00 : 0 ≤ x00 ∧ x00 ≤ 18446744065119617025) (p10 : 0 ≤ x10 ∧ x10 ≤ 1125899906580480) (p01 : 0 ≤ x01 ∧ x01 ≤ 1125899906580480) (p11 : 0 ≤ x11 ∧ x11 ≤ 68719476736) (low mid more : Int)
  (elow : low = IntKind.u64.wrap x00) (emid : mid = IntKind.u64.wrap (IntKind.u64.wrap x10 + low / 4294967296)) (emore : more = IntKind.u64.wrap (IntKind.u64.wrap x01 + Go.bits .and .u64 mid 4294967295)) :
  IntKind.u64.wrap (IntKind.u64.wrap (IntKind.u64.wrap x11 + mid / 4294967296) + more / 4294967296) = (x11 * 18446744073709551616 + (x10 + x01) * 4294967296 + x00) / 18446744073709551616 ∧
  Go.bits .or .u64 (IntKind.u64.wrap (more * 4294967296)) (Go.bits .and .u64 low 4294967295) = (x11 * 18446744073709551616 + (x10 + x01) * 4294967296 + x00) % 18446744073709551616 := by
 rw [num_product.w64 x00 p00.1 (by omega)] at elow
 subst elow
 rw [num_product.w64 x10 p10.1 (by omega), num_product.w64 _ (by omega) (by omega)] at emid
 subst emid
 rw [num_product.and32 _ (by omega) (by omega), num_product.w64 x01 p01.1 (by omega), num_product.w64 _ (by omega) (by omega)] at emore
 subst emore
 refine ⟨?_, ?_⟩
 ·rw [num_product.w64 x11 p11.1 (by omega), num_product.w64 (x11 + _) (by omega) (by omega), num_product.w64 _ (by omega) (by omega)]
  omega
 ·rw [num_product.and32 low (by omega) (by omega)]
  have ew : ∀ z : Int, IntKind.u64.wrap z = z % 18446744073709551616 := fun z => by simp [IntKind.wrap, IntKind.bits, IntKind.signed]
  rw [ew, num_product.or32 _ _ (by omega) (by omega) (by omega) (by omega) (by omega)]
  omega
theorem num_product.arith (a b : Int) (ha0 : 0 ≤ a) (ha : a ≤ 1125899906842624) (hb0 : 0 ≤ b) (hb : b ≤ 1125899906842624) (a0 a1 b0 b1 low mid more : Int)
  (ea0 : a0 = Go.bits .and .u64 a 4294967295) (ea1 : a1 = a / 4294967296) (eb0 : b0 = Go.bits .and .u64 b 4294967295) (eb1 : b1 = b / 4294967296)
  (elow : low = IntKind.u64.wrap (a0 * b0)) (emid : mid = IntKind.u64.wrap (IntKind.u64.wrap (a1 * b0) + low / 4294967296)) (emore : more = IntKind.u64.wrap (IntKind.u64.wrap (a0 * b1) + Go.bits .and .u64 mid 4294967295)) :
  IntKind.u64.wrap (IntKind.u64.wrap (IntKind.u64.wrap (a1 * b1) + mid / 4294967296) + more / 4294967296) = a * b / 18446744073709551616 ∧
  Go.bits .or .u64 (IntKind.u64.wrap (more * 4294967296)) (Go.bits .and .u64 low 4294967295) = a * b % 18446744073709551616 := by
 rw [num_product.and32 a ha0 (by omega)] at ea0
 rw [num_product.and32 b hb0 (by omega)] at eb0
 have ka : a = a1 * 4294967296 + a0 := by omega
 have kb : b = b1 * 4294967296 + b0 := by omega
 have ra0 : 0 ≤ a0 ∧ a0 ≤ 4294967295 := by omega
 have rb0 : 0 ≤ b0 ∧ b0 ≤ 4294967295 := by omega
 have ra1 : 0 ≤ a1 ∧ a1 ≤ 262144 := by omega
 have rb1 : 0 ≤ b1 ∧ b1 ≤ 262144 := by omega
 have kab : a * b = a1 * b1 * 18446744073709551616 + (a1 * b0 + a0 * b1) * 4294967296 + a0 * b0 := by rw [ka, kb]; grind
 have p00 := num_product.mul_le ra0.1 ra0.2 rb0.1 rb0.2
 have p10 := num_product.mul_le ra1.1 ra1.2 rb0.1 rb0.2
 have p01 := num_product.mul_le ra0.1 ra0.2 rb1.1 rb1.2
 have p11 := num_product.mul_le ra1.1 ra1.2 rb1.1 rb1.2
 rw [kab]
 exact num_product.parts _ _ _ _ ⟨p00.1, by omega⟩ ⟨p10.1, by omega⟩ ⟨p01.1, by omega⟩ ⟨p11.1, by omega⟩ low mid more elow emid emore
set_option maxHeartbeats 8000000 in
set_option maxRecDepth 100000 in
theorem num_product.calls (a0 : Int) (a1 : Int) (r1 : Int) (r2 : Int) (w : World) (h : num_product.f a0 a1 = some (r1, r2)) :
  Calls Try.prog 57 #[.int .u64 a0, .int .u64 a1] w fun e w' => e = .returned (.agg #[.int .u64 r1, .int .u64 r2]) ∧ Below w.heap.size w w' := by
 unfold num_product.f at h
 split at h
 ·rename_i hb
  obtain ⟨ha0, ha, hb0, hb⟩ := hb
  obtain ⟨z1, z2⟩ := num_product.arith a0 a1 ha0 ha hb0 hb _ _ _ _ _ _ _ rfl rfl rfl rfl rfl rfl rfl
  simp only [Option.some.injEq, Prod.mk.injEq] at h
  obtain ⟨h1, h2⟩ := h
  have Z1 := Aside0.mk (z1.trans h1)
  have Z2 := Aside0.mk (z2.trans h2)
  clear z1 z2 h1 h2
  go_enter Try.func57, Try.ntmps57
  go_wp2
  refine bodyPost_ret (v := .agg #[.int .u64 r1, .int .u64 r2]) ?_ rfl ⟨rfl, ?_⟩
  ·rw [← Z1.out, ← Z2.out]; simp [results, Try.results57, go_sem]
  ·exact (Below.refl _ _).alloc (Nat.le_refl _) _
 ·simp at h

/-! ### num_size: function 58 -/
def num_size.f (a0 : Int) : Option (Int) := if a0 < 0 then (some (IntKind.u64.wrap (wrap64 (-a0)))) else (some (IntKind.u64.wrap (a0)))
set_option maxHeartbeats 8000000 in
set_option maxRecDepth 100000 in
theorem num_size.calls (a0 : Int) (r : Int) (w : World) (h : num_size.f a0 = some r) :
  Calls Try.prog 58 #[.int .i64 a0] w fun e w' => e = .returned (.int .u64 r) ∧ Drawn0 w w' := by
 have H : (if a0 < 0 then (some (IntKind.u64.wrap (wrap64 (-a0)))) else (some (IntKind.u64.wrap (a0)))) = some r := h
 clear h
 by_cases c2 : a0 < 0
 ·rw [if_pos c2] at H
  have c2b0 : decide (a0 < 0) = true := decide_eq_true c2
  clear c2
  obtain rfl := Option.some.inj H
  go_enter Try.func58, Try.ntmps58
  go_wp2
  go_ret
  exact ⟨by first | rfl | (simp; done) | (simp [*]; done), by repeat (first | exact Drawn0.refl _ | apply Drawn0.step)⟩
 ·rw [if_neg c2] at H
  have c2b0 : decide (a0 < 0) = false := decide_eq_false c2
  clear c2
  obtain rfl := Option.some.inj H
  go_enter Try.func58, Try.ntmps58
  go_wp2
  go_ret
  exact ⟨by first | rfl | (simp; done) | (simp [*]; done), by repeat (first | exact Drawn0.refl _ | apply Drawn0.step)⟩

end Go.Proofs.Ytpnfdhhfdidlmaa.Print
