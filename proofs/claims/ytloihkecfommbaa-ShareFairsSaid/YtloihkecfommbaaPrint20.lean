-- Written by wip/tools/myprint.py out of the translation. Not trusted: Lean checks it.
import Derived.Test.YtloihkecfommbaaPrint0
import Derived.Test.YtloihkecfommbaaPrint11
import Derived.Test.YtloihkecfommbaaPrint14
import Derived.Test.YtloihkecfommbaaPrint15
import Derived.Test.YtloihkecfommbaaPrint19
namespace Go.Proofs.Ytloihkecfommbaa.Print
open Go.RowKit Go.Proofs.YtloihkecfommbaaW.PrintWords Go.Proofs.YtloihkecfommbaaW.PrintLast Go.Proofs.YtloihkecfommbaaW.PrintMore
attribute [local go_sem] max2_int min2_int max_two min_two max_three min_three max_four min_four   -- for this text's walks alone
set_option linter.unusedVariables false
set_option linter.unusedSimpArgs false

/-! ### papermilllaw12_ShareFairs: function 4 -/
def papermilllaw12_ShareFairs.j0 : Nat → List Int → List Int → Int → Bool → Option (Bool)
 | 0, _, _, _, _ => none
 | k + 1, x0, x1, x2, x16 => if x16 = true then ((papermilllaw12_awake.f k).bind fun t344 => (some t344)) else ((share_Fair.f k x0 x1).bind fun t345 => ((papermillref12_Fair.f k x0 x1).bind fun t346 => (if (t345 != t346) = true then (none) else ((share_Split.f k x2 x1).bind fun bt347 => (if bt347.2 = 0 then ((share_Fair.f k bt347.1 x1).bind fun t352 => (if t352 = true then (if (bt347.1.length : Int) > 0 then (if 0 < (bt347.1.length : Int) then ((some (bt347.1.set (0 : Int).toNat (wrap64 ((rd bt347.1 0) + 1)) : List Int)).bind fun y354 => ((share_Fair.f k y354 x1).bind fun t355 => ((papermillref12_Fair.f k y354 x1).bind fun t356 => (if (t355 == t356) = true then ((papermilllaw12_awake.f k).bind fun t357 => (some t357)) else (none))))) else (none)) else ((share_Fair.f k bt347.1 x1).bind fun t358 => ((papermillref12_Fair.f k bt347.1 x1).bind fun t359 => (if (t358 == t359) = true then ((papermilllaw12_awake.f k).bind fun t360 => (some t360)) else (none))))) else (none))) else ((papermilllaw12_awake.f k).bind fun t351 => (some t351)))))))
def papermilllaw12_ShareFairs.f (k : Nat) (l0 : List Int) (l1 : List Int) (a2 : Int) : Option (Bool) := if (l0.length : Int) > 60 then (papermilllaw12_ShareFairs.j0 k l0 l1 a2 true) else (papermilllaw12_ShareFairs.j0 k l0 l1 a2 (decide ((l1.length : Int) > 60)))
theorem papermilllaw12_ShareFairs.mono_l : ∀ k, (∀ y0 y1 y2 y3, LeO (papermilllaw12_ShareFairs.j0 k y0 y1 y2 y3) (papermilllaw12_ShareFairs.j0 (k + 1) y0 y1 y2 y3))
 | 0 => fun _ _ _ _ r h => by simp [papermilllaw12_ShareFairs.j0] at h
 | k + 1 => by
  have ih0 := papermilllaw12_ShareFairs.mono_l k
  ·intro y0 y1 y2 y3
   unfold papermilllaw12_ShareFairs.j0
   repeat' first
   | (with_reducible exact ih0 _ _ _ _)
   | (with_reducible exact papermilllaw12_awake.mono _)
   | (with_reducible exact papermillref12_Fair.mono _ _ _)
   | (with_reducible exact share_Fair.mono _ _ _)
   | (with_reducible exact share_Split.mono _ _ _)
   | (with_reducible exact LeO.refl _)
   | (with_reducible exact LeO.none _)
   | (with_reducible refine LeO.ite ?_ ?_)
   | (with_reducible refine LeO.bind ?_ (fun _ => ?_))
   | exact ih0 _ _ _ _
   | exact papermilllaw12_awake.mono _
   | exact papermillref12_Fair.mono _ _ _
   | exact share_Fair.mono _ _ _
   | exact share_Split.mono _ _ _
   | exact LeO.none _
   | refine LeO.ite ?_ ?_
   | refine LeO.bind ?_ (fun _ => ?_)
theorem papermilllaw12_ShareFairs.mono : ∀ a0 a1 a2 k, LeO (papermilllaw12_ShareFairs.f k a0 a1 a2) (papermilllaw12_ShareFairs.f (k + 1) a0 a1 a2) := by
 intro a0 a1 a2 k
 have ih0 := papermilllaw12_ShareFairs.mono_l k
 unfold papermilllaw12_ShareFairs.f
 repeat' first
   | (with_reducible exact ih0 _ _ _ _)
   | (with_reducible exact papermilllaw12_awake.mono _)
   | (with_reducible exact papermillref12_Fair.mono _ _ _)
   | (with_reducible exact share_Fair.mono _ _ _)
   | (with_reducible exact share_Split.mono _ _ _)
   | (with_reducible exact LeO.refl _)
   | (with_reducible exact LeO.none _)
   | (with_reducible refine LeO.ite ?_ ?_)
   | (with_reducible refine LeO.bind ?_ (fun _ => ?_))
   | exact ih0 _ _ _ _
   | exact papermilllaw12_awake.mono _
   | exact papermillref12_Fair.mono _ _ _
   | exact share_Fair.mono _ _ _
   | exact share_Split.mono _ _ _
   | exact LeO.none _
   | refine LeO.ite ?_ ?_
   | refine LeO.bind ?_ (fun _ => ?_)
set_option maxHeartbeats 8000000 in
set_option maxRecDepth 100000 in
theorem papermilllaw12_ShareFairs.calls (k : Nat) (A0 : Option Addr) (c0 : Nat) (l0 : List Int) (A1 : Option Addr) (c1 : Nat) (l1 : List Int) (a2 : Int) (r : Bool) (w : World) (hr0 : Kd.C (Kd.int .i64) w A0 l0.length l0) (hc0 : l0.length ≤ c0) (hr1 : Kd.C (Kd.int .i64) w A1 l1.length l1) (hc1 : l1.length ≤ c1) (h : papermilllaw12_ShareFairs.f k l0 l1 a2 = some r) :
  Calls Try.prog 4 #[.slice A0 l0.length c0, .slice A1 l1.length c1, .int .i64 a2] w fun e w' => e = .returned (.bool r) ∧ Below w.heap.size w w' := by
 have HR0 := Aside0.mk hr0
 have HC0 := Aside0.mk hc0
 clear hr0 hc0
 have HR1 := Aside0.mk hr1
 have HC1 := Aside0.mk hc1
 clear hr1 hc1
 have HB := Aside0.mk (Below.refl w.heap.size w)
 have H : (if (l0.length : Int) > 60 then (papermilllaw12_ShareFairs.j0 k l0 l1 a2 true) else (papermilllaw12_ShareFairs.j0 k l0 l1 a2 (decide ((l1.length : Int) > 60)))) = some r := h
 clear h
 have HC4 := Aside0.mk H
 clear H
 go_enter Try.func4, Try.ntmps4
 go_upto_region 1 with (fail)
 go_cut [16] (fun v16 wc => ∃ (kq : Nat) (x16_3 : Bool), v16 = .bool x16_3 ∧ Aside0 (papermilllaw12_ShareFairs.j0 kq l0 l1 a2 x16_3 = some r) ∧ Aside0 (kq ≤ k) ∧ Aside0 (Below w.heap.size w wc))
 case first =>
  have H := HC4.out
  clear HC4
  by_cases c5 : (l0.length : Int) > 60
  ·rw [if_pos c5] at H
   have c5b0 : decide (60 < (l0.length : Int)) = true := decide_eq_true c5
   have c5b1 : decide (60 < l0.length) = true := decide_eq_true (by omega)
   clear c5
   (first | rw [c5b0] | (simp only [i64_w, i32_w]; rw [c5b0]) | skip)
   have H' := Aside0.mk H
   clear H
   go_wp2
   go_meet
   case rel => exact ⟨_, (true), (by first | rfl | (simp; done) | (simp [*]; done)), H', ⟨by first | omega | exact Nat.le_refl _⟩, ⟨pB⟩⟩
  ·rw [if_neg c5] at H
   have c5b0 : decide (60 < (l0.length : Int)) = false := decide_eq_false c5
   have c5b1 : decide (60 < l0.length) = false := decide_eq_false (by omega)
   clear c5
   (first | rw [c5b0] | (simp only [i64_w, i32_w]; rw [c5b0]) | skip)
   have H' := Aside0.mk H
   clear H
   go_wp2
   go_meet
   case rel => exact ⟨_, (decide ((l1.length : Int) > 60)), (by first | rfl | (simp; done) | (simp [*]; done)), H', ⟨by first | omega | exact Nat.le_refl _⟩, ⟨pB⟩⟩
 case rest =>
  clear HC4
  try clear c1
  try clear p2
  try clear c4
  try clear c5
  try clear c5b0
  try clear c5b1
  obtain ⟨kq, x16_3, rfl, HA, HJ3, HB⟩ := hcut
  cases kq with
  | zero => exact absurd HA.out (by simp [papermilllaw12_ShareFairs.j0])
  | succ kj3 =>
   have H := HA.out
   clear HA
   simp only [papermilllaw12_ShareFairs.j0] at H
   by_cases c6 : x16_3 = true
   ·subst c6
    have H1 : ((papermilllaw12_awake.f kj3).bind fun t344 => (some t344)) = some r := by rw [if_pos rfl] at H; exact H
    clear H
    have H := H1
    clear H1
    replace H := Option.bind_eq_some_iff.mp H
    obtain ⟨t344, A70, H⟩ := H
    replace H : (some t344) = some r := H
    have A7 := Aside0.mk A70
    clear A70
    obtain rfl := Option.some.inj H
    go_wp2_with (first | ((with_reducible refine gate_callee (f := 9) rfl ?_); refine goesL_ (some 17) rfl rfl Try.func9 (by kernel_rfl) rfl #[] rfl mA ?_; (with_reducible refine (papermilllaw12_awake.calls kj3  t344 _ A7.out).mono ?_); rintro e w8 ⟨rfl, hb⟩; refine ⟨_, rfl, ?_⟩; replace HB := Aside0.mk (below_step pB hb); (try clear hb); (try clear hb2); (try clear hk); (try clear hi)))
    go_ret
    exact ⟨by first | rfl | (simp [errW_none, errW_some] <;> rfl) | (simp [*, errW_none, errW_some] <;> rfl), pB⟩
   ·replace c6 := Bool.eq_false_iff.mpr c6
    subst c6
    have H1 : ((share_Fair.f kj3 l0 l1).bind fun t345 => ((papermillref12_Fair.f kj3 l0 l1).bind fun t346 => (if (t345 != t346) = true then (none) else ((share_Split.f kj3 a2 l1).bind fun bt347 => (if bt347.2 = 0 then ((share_Fair.f kj3 bt347.1 l1).bind fun t352 => (if t352 = true then (if (bt347.1.length : Int) > 0 then (if 0 < (bt347.1.length : Int) then ((some (bt347.1.set (0 : Int).toNat (wrap64 ((rd bt347.1 0) + 1)) : List Int)).bind fun y354 => ((share_Fair.f kj3 y354 l1).bind fun t355 => ((papermillref12_Fair.f kj3 y354 l1).bind fun t356 => (if (t355 == t356) = true then ((papermilllaw12_awake.f kj3).bind fun t357 => (some t357)) else (none))))) else (none)) else ((share_Fair.f kj3 bt347.1 l1).bind fun t358 => ((papermillref12_Fair.f kj3 bt347.1 l1).bind fun t359 => (if (t358 == t359) = true then ((papermilllaw12_awake.f kj3).bind fun t360 => (some t360)) else (none))))) else (none))) else ((papermilllaw12_awake.f kj3).bind fun t351 => (some t351))))))) = some r := by rw [if_neg (show ¬ (false = true) by decide)] at H; exact H
    clear H
    have H := H1
    clear H1
    replace H := Option.bind_eq_some_iff.mp H
    obtain ⟨t345, A90, H⟩ := H
    replace H : ((papermillref12_Fair.f kj3 l0 l1).bind fun t346 => (if (t345 != t346) = true then (none) else ((share_Split.f kj3 a2 l1).bind fun bt347 => (if bt347.2 = 0 then ((share_Fair.f kj3 bt347.1 l1).bind fun t352 => (if t352 = true then (if (bt347.1.length : Int) > 0 then (if 0 < (bt347.1.length : Int) then ((some (bt347.1.set (0 : Int).toNat (wrap64 ((rd bt347.1 0) + 1)) : List Int)).bind fun y354 => ((share_Fair.f kj3 y354 l1).bind fun t355 => ((papermillref12_Fair.f kj3 y354 l1).bind fun t356 => (if (t355 == t356) = true then ((papermilllaw12_awake.f kj3).bind fun t357 => (some t357)) else (none))))) else (none)) else ((share_Fair.f kj3 bt347.1 l1).bind fun t358 => ((papermillref12_Fair.f kj3 bt347.1 l1).bind fun t359 => (if (t358 == t359) = true then ((papermilllaw12_awake.f kj3).bind fun t360 => (some t360)) else (none))))) else (none))) else ((papermilllaw12_awake.f kj3).bind fun t351 => (some t351)))))) = some r := H
    have A9 := Aside0.mk A90
    clear A90
    replace H := Option.bind_eq_some_iff.mp H
    obtain ⟨t346, A100, H⟩ := H
    replace H : (if (t345 != t346) = true then (none) else ((share_Split.f kj3 a2 l1).bind fun bt347 => (if bt347.2 = 0 then ((share_Fair.f kj3 bt347.1 l1).bind fun t352 => (if t352 = true then (if (bt347.1.length : Int) > 0 then (if 0 < (bt347.1.length : Int) then ((some (bt347.1.set (0 : Int).toNat (wrap64 ((rd bt347.1 0) + 1)) : List Int)).bind fun y354 => ((share_Fair.f kj3 y354 l1).bind fun t355 => ((papermillref12_Fair.f kj3 y354 l1).bind fun t356 => (if (t355 == t356) = true then ((papermilllaw12_awake.f kj3).bind fun t357 => (some t357)) else (none))))) else (none)) else ((share_Fair.f kj3 bt347.1 l1).bind fun t358 => ((papermillref12_Fair.f kj3 bt347.1 l1).bind fun t359 => (if (t358 == t359) = true then ((papermilllaw12_awake.f kj3).bind fun t360 => (some t360)) else (none))))) else (none))) else ((papermilllaw12_awake.f kj3).bind fun t351 => (some t351))))) = some r := H
    have A10 := Aside0.mk A100
    clear A100
    by_cases c11 : (t345 != t346) = true
    ·rw [if_pos c11] at H
     exact absurd H (by simp)
    ·rw [if_neg c11] at H
     have c11b0 : (t345 != t346) = false := by simpa using c11
     (try (have c11b1 : decide (t345 = t346) = true := by simpa using c11))
     (try (have c11b2 : (t345 == t346) = true := by simpa using c11))
     clear c11
     replace H := Option.bind_eq_some_iff.mp H
     obtain ⟨⟨t347, t348⟩, A120, H⟩ := H
     replace H : (if t348 = 0 then ((share_Fair.f kj3 t347 l1).bind fun t352 => (if t352 = true then (if (t347.length : Int) > 0 then (if 0 < (t347.length : Int) then ((some (t347.set (0 : Int).toNat (wrap64 ((rd t347 0) + 1)) : List Int)).bind fun y354 => ((share_Fair.f kj3 y354 l1).bind fun t355 => ((papermillref12_Fair.f kj3 y354 l1).bind fun t356 => (if (t355 == t356) = true then ((papermilllaw12_awake.f kj3).bind fun t357 => (some t357)) else (none))))) else (none)) else ((share_Fair.f kj3 t347 l1).bind fun t358 => ((papermillref12_Fair.f kj3 t347 l1).bind fun t359 => (if (t358 == t359) = true then ((papermilllaw12_awake.f kj3).bind fun t360 => (some t360)) else (none))))) else (none))) else ((papermilllaw12_awake.f kj3).bind fun t351 => (some t351))) = some r := H
     have A12 := Aside0.mk A120
     clear A120
     by_cases c13 : t348 = 0
     ·rw [if_pos c13] at H
      have c13b0 : (t348 == 0) = true := beq_iff_eq.mpr c13
      have c13b1 : (t348 != 0) = false := bne_eq_false_iff_eq.mpr c13
      clear c13
      replace H := Option.bind_eq_some_iff.mp H
      obtain ⟨t352, A140, H⟩ := H
      replace H : (if t352 = true then (if (t347.length : Int) > 0 then (if 0 < (t347.length : Int) then ((some (t347.set (0 : Int).toNat (wrap64 ((rd t347 0) + 1)) : List Int)).bind fun y354 => ((share_Fair.f kj3 y354 l1).bind fun t355 => ((papermillref12_Fair.f kj3 y354 l1).bind fun t356 => (if (t355 == t356) = true then ((papermilllaw12_awake.f kj3).bind fun t357 => (some t357)) else (none))))) else (none)) else ((share_Fair.f kj3 t347 l1).bind fun t358 => ((papermillref12_Fair.f kj3 t347 l1).bind fun t359 => (if (t358 == t359) = true then ((papermilllaw12_awake.f kj3).bind fun t360 => (some t360)) else (none))))) else (none)) = some r := H
      have A14 := Aside0.mk A140
      clear A140
      by_cases c15 : t352 = true
      ·subst c15
       have H1 : (if (t347.length : Int) > 0 then (if 0 < (t347.length : Int) then ((some (t347.set (0 : Int).toNat (wrap64 ((rd t347 0) + 1)) : List Int)).bind fun y354 => ((share_Fair.f kj3 y354 l1).bind fun t355 => ((papermillref12_Fair.f kj3 y354 l1).bind fun t356 => (if (t355 == t356) = true then ((papermilllaw12_awake.f kj3).bind fun t357 => (some t357)) else (none))))) else (none)) else ((share_Fair.f kj3 t347 l1).bind fun t358 => ((papermillref12_Fair.f kj3 t347 l1).bind fun t359 => (if (t358 == t359) = true then ((papermilllaw12_awake.f kj3).bind fun t360 => (some t360)) else (none))))) = some r := by rw [if_pos rfl] at H; exact H
       clear H
       have H := H1
       clear H1
       by_cases c16 : (t347.length : Int) > 0
       ·rw [if_pos c16] at H
        have c16b0 : decide (0 < (t347.length : Int)) = true := decide_eq_true c16
        have c16b1 : decide (0 < t347.length) = true := decide_eq_true (by omega)
        clear c16
        by_cases c17 : 0 < (t347.length : Int)
        ·rw [if_pos c17] at H
         have c17b0 : decide (0 < (t347.length : Int)) = true := decide_eq_true c17
         have c17b1 : decide (0 < t347.length) = true := decide_eq_true (by omega)
         clear c17
         obtain ⟨y354, hy354⟩ : ∃ y_ : List Int, y_ = (t347.set (0 : Int).toNat (wrap64 ((rd t347 0) + 1))) := ⟨_, rfl⟩
         replace H : ((share_Fair.f kj3 y354 l1).bind fun t355 => ((papermillref12_Fair.f kj3 y354 l1).bind fun t356 => (if (t355 == t356) = true then ((papermilllaw12_awake.f kj3).bind fun t357 => (some t357)) else (none)))) = some r := by first | (rw [hy354]; with_reducible exact H) | (have H2_ := (Option.bind_some _ _).symm.trans H; rw [hy354]; with_reducible exact H2_) | (have H2_ := (Option.bind_some _ _).symm.trans H; with_reducible exact H2_) | with_reducible exact H | (rw [hy354]; exact H) | exact H
         have Ny354 := Aside0.mk hy354
         clear hy354
         replace H := Option.bind_eq_some_iff.mp H
         obtain ⟨t355, A190, H⟩ := H
         replace H : ((papermillref12_Fair.f kj3 y354 l1).bind fun t356 => (if (t355 == t356) = true then ((papermilllaw12_awake.f kj3).bind fun t357 => (some t357)) else (none))) = some r := H
         have A19 := Aside0.mk A190
         clear A190
         replace H := Option.bind_eq_some_iff.mp H
         obtain ⟨t356, A200, H⟩ := H
         replace H : (if (t355 == t356) = true then ((papermilllaw12_awake.f kj3).bind fun t357 => (some t357)) else (none)) = some r := H
         have A20 := Aside0.mk A200
         clear A200
         by_cases c21 : (t355 == t356) = true
         ·rw [if_pos c21] at H
          have c21b0 : (t355 == t356) = true := c21
          (try (have c21b1 : decide (t355 = t356) = true := by simpa using c21))
          (try (have c21b2 : (t355 == t356) = true := by simpa using c21))
          clear c21
          replace H := Option.bind_eq_some_iff.mp H
          obtain ⟨t357, A220, H⟩ := H
          replace H : (some t357) = some r := H
          have A22 := Aside0.mk A220
          clear A220
          obtain rfl := Option.some.inj H
          go_wp2_with (first | ((with_reducible refine gate_callee (f := 16) rfl ?_); refine goesL_ (some 20) rfl rfl Try.func16 (by kernel_rfl) rfl #[.slice A0 l0.length c0, .slice A1 l1.length c1] rfl mA ?_; (with_reducible refine (share_Fair.calls kj3 _ _ l0 _ _ l1 t345 _ ?side1 ?side2 ?side3 ?side4 A9.out).mono ?_); (case side1 => repeat (first | exact (Kd.C_below HR0.out HB.out) | (with_reducible refine Kd.C_alloc ?_ _) | (with_reducible refine Kd.C_drewN ?_ _) | (with_reducible refine Kd.C_drew ?_))); (case side2 => exact HC0.out); (case side3 => repeat (first | exact (Kd.C_below HR1.out HB.out) | (with_reducible refine Kd.C_alloc ?_ _) | (with_reducible refine Kd.C_drewN ?_ _) | (with_reducible refine Kd.C_drew ?_))); (case side4 => exact HC1.out); rintro e w23 ⟨rfl, hb⟩; refine ⟨_, rfl, ?_⟩; replace HB := Aside0.mk (below_step pB hb); (try clear hb); (try clear hb2); (try clear hk); (try clear hi)) | ((with_reducible refine gate_callee (f := 17) rfl ?_); refine goesL_ (some 23) rfl rfl Try.func17 (by kernel_rfl) rfl #[.slice A0 l0.length c0, .slice A1 l1.length c1] rfl mA ?_; (with_reducible refine (papermillref12_Fair.calls kj3 _ _ l0 _ _ l1 t346 _ ?side1 ?side2 ?side3 ?side4 A10.out).mono ?_); (case side1 => repeat (first | exact (Kd.C_below HR0.out HB.out) | (with_reducible refine Kd.C_alloc ?_ _) | (with_reducible refine Kd.C_drewN ?_ _) | (with_reducible refine Kd.C_drew ?_))); (case side2 => exact HC0.out); (case side3 => repeat (first | exact (Kd.C_below HR1.out HB.out) | (with_reducible refine Kd.C_alloc ?_ _) | (with_reducible refine Kd.C_drewN ?_ _) | (with_reducible refine Kd.C_drew ?_))); (case side4 => exact HC1.out); rintro e w24 ⟨rfl, hb⟩; refine ⟨_, rfl, ?_⟩; replace HB := Aside0.mk (below_step pB hb); (try clear hb); (try clear hb2); (try clear hk); (try clear hi)) | ((with_reducible refine gate_callee (f := 11) rfl ?_); refine goesL_ (some 28) rfl rfl Try.func11 (by kernel_rfl) rfl #[.int .i64 a2, .slice A1 l1.length c1] rfl mA ?_; (with_reducible refine (share_Split.calls kj3 a2 _ _ l1 t347 t348 _ ?side1 ?side2 A12.out).mono ?_); (case side1 => repeat (first | exact (Kd.C_below HR1.out HB.out) | (with_reducible refine Kd.C_alloc ?_ _) | (with_reducible refine Kd.C_drewN ?_ _) | (with_reducible refine Kd.C_drew ?_))); (case side2 => exact HC1.out); rintro e w25 ⟨v349, rfl, ho0, hb⟩; refine ⟨_, rfl, ?_⟩; have HO350 := Aside0.mk (Kd.R_lower ho0 (below_size pB)); replace HB := Aside0.mk (below_step pB hb); (try clear hb); (try clear hb2); (try clear hk); (try clear hi); (try clear ho0); obtain ⟨Ao26, co26, eo26⟩ := Kd.R_slice HO350.out; subst eo26) | ((with_reducible refine gate_callee (f := 16) rfl ?_); refine goesL_ (some 36) rfl rfl Try.func16 (by kernel_rfl) rfl #[.slice Ao26 t347.length co26, .slice A1 l1.length c1] rfl mA ?_; (with_reducible refine (share_Fair.calls kj3 _ _ t347 _ _ l1 true _ ?side1 ?side2 ?side3 ?side4 A14.out).mono ?_); (case side1 => repeat (first | exact (Kd.R_reads' HO350.out).2.2 | (with_reducible refine Kd.C_alloc ?_ _) | (with_reducible refine Kd.C_drewN ?_ _) | (with_reducible refine Kd.C_drew ?_))); (case side2 => exact (Kd.R_reads' HO350.out).2.1); (case side3 => repeat (first | exact (Kd.C_below HR1.out HB.out) | (with_reducible refine Kd.C_alloc ?_ _) | (with_reducible refine Kd.C_drewN ?_ _) | (with_reducible refine Kd.C_drew ?_))); (case side4 => exact HC1.out); rintro e w27 ⟨rfl, hb⟩; refine ⟨_, rfl, ?_⟩; replace HO350 := Aside0.mk (Kd.R_below (rX HO350.out) hb); replace HB := Aside0.mk (below_step pB hb); (try clear hb); (try clear hb2); (try clear hk); (try clear hi); have p353 : 0 ≤ (0 : Int) := (by omega); have q353 : 0 < (t347.length : Int) := of_decide_eq_true (by first | (with_reducible assumption) | assumption); obtain ⟨ad353, e353, hx353_0⟩ := Kd.at_int (Kd.R_reads' HO350.out).2.2 0 p353 q353; cases e353; have qi353 : (0 < t347.length) = True := eq_true (by omega); (try rw [show ((0 : Int)).toNat = 0 from rfl] at hx353_0); (try rw [Addr.add_zero'] at hx353_0); replace p353 := eq_true p353; replace q353 := eq_true q353; have p18 : 0 ≤ (0 : Int) := (by omega); have q18 : (0 : Int) < ((t347.length : Int) : Int) := of_decide_eq_true (by first | (with_reducible assumption) | assumption); have qi18 : (0 < t347.length) = True := eq_true (by omega); obtain ⟨go18, co18, eo18, gb18, gl18, cl18, HG18⟩ := Kd.R_form HO350.out (by omega); (first | cases eo18 | (injection eo18 with ea_ en_ ec_; (first | subst ea_ | (injection ea_ with ea_; subst ea_)); subst ec_; clear en_)); have GB18 := Aside0.mk gb18; have GG18 := Aside0.mk HG18; clear gb18 gl18 HG18; (first | simp only [add_plain] at hx353_0 | skip); obtain ⟨hx18_0, hf18_0⟩ := Kd.R_celln 0 HO350.out (0 : Int) p18 q18; (try rw [show ((0 : Int)).toNat = 0 from rfl] at hx18_0); (try simp only [Nat.reduceMul, Nat.zero_mul, Nat.zero_add, Nat.reduceAdd] at hx18_0); (try rw [show ((0 : Int)).toNat = 0 from rfl] at hf18_0); (try simp only [Nat.reduceMul, Nat.zero_mul, Nat.zero_add, Nat.reduceAdd] at hf18_0); replace p18 := eq_true p18; replace q18 := eq_true q18; obtain ⟨hy28_, hz28_⟩ := Kd.R_celln 0 HO350.out (0 : Int) (by omega) (of_decide_eq_true (by first | (with_reducible assumption) | assumption)); (try simp only [Int.reduceToNat, Int.toNat_zero, Int.toNat_ofNat, Nat.reduceMul, Nat.zero_mul, Nat.zero_add] at hy28_ hz28_); (try rw [show ((0 : Int)).toNat = 0 from rfl] at hy28_); (try rw [show ((0 : Int)).toNat = 0 from rfl] at hz28_); have HP28 := Kd.R_putg HO350.out (0 : Int) (wrap64 ((rd t347 0) + 1))) | ((with_reducible refine gate_store (t := 3) (p := 46) rfl ?_); refine store_event (t := 3) (p := 46) (v := ?vo_w29) (w1 := (w27.setCell ⟨go18, (0 : Int).toNat, none⟩ (.int .i64 (wrap64 ((rd t347 0) + 1))))) ?hg ?ho ?hn ?hr ?_; (case ho => rfl); (case hg => rfl); (case hn => rfl); (case hr => first | (go_simp; done) | (go_simp; rfl)); intro w29 hw; have hg : w27.grownBy w29 (some go18) := (by rw [hw]; exact HP28.2); have hp_ : Kd.R (Kd.int .i64) 3 w29 w.heap.size (fun _ => True) (.slice (some ⟨go18, 0, none⟩) t347.length co26) y354 := (by rw [hw, Ny354.out]; exact HP28.1); clear HP28; replace HO350 := Aside0.mk (hp_); replace HB := Aside0.mk ((by rw [hw]; exact below_set (HB.out) GB18.out : Below w.heap.size w w29)); clear hg hw hp_) | ((with_reducible refine gate_callee (f := 16) rfl ?_); refine goesL_ (some 49) rfl rfl Try.func16 (by kernel_rfl) rfl #[.slice (some ⟨go18, 0, none⟩) y354.length co26, .slice A1 l1.length c1] rfl (by (try simp only [List.map_toArray, List.map_cons, List.map_nil]); first | done | (rw [show y354.length = t347.length from (Kd.R_reads' HO350.out).1.symm] <;> rfl) | rfl | (simp only [List.length_drop, List.length_take]; rfl)) ?_; (with_reducible refine (share_Fair.calls kj3 _ _ y354 _ _ l1 t355 _ ?side1 ?side2 ?side3 ?side4 A19.out).mono ?_); (case side1 => repeat (first | exact (Kd.R_reads' HO350.out).2.2 | (with_reducible refine Kd.C_alloc ?_ _) | (with_reducible refine Kd.C_drewN ?_ _) | (with_reducible refine Kd.C_drew ?_))); (case side2 => rw [show y354.length = t347.length from (Kd.R_reads' HO350.out).1.symm]; exact (Kd.R_reads' HO350.out).2.1); (case side3 => repeat (first | exact (Kd.C_below HR1.out HB.out) | (with_reducible refine Kd.C_alloc ?_ _) | (with_reducible refine Kd.C_drewN ?_ _) | (with_reducible refine Kd.C_drew ?_))); (case side4 => exact HC1.out); rintro e w30 ⟨rfl, hb⟩; refine ⟨_, rfl, ?_⟩; replace HO350 := Aside0.mk (Kd.R_below (rX HO350.out) hb); replace HB := Aside0.mk (below_step pB hb); (try clear hb); (try clear hb2); (try clear hk); (try clear hi)) | ((with_reducible refine gate_callee (f := 17) rfl ?_); refine goesL_ (some 52) rfl rfl Try.func17 (by kernel_rfl) rfl #[.slice (some ⟨go18, 0, none⟩) y354.length co26, .slice A1 l1.length c1] rfl (by (try simp only [List.map_toArray, List.map_cons, List.map_nil]); first | done | (rw [show y354.length = t347.length from (Kd.R_reads' HO350.out).1.symm] <;> rfl) | rfl | (simp only [List.length_drop, List.length_take]; rfl)) ?_; (with_reducible refine (papermillref12_Fair.calls kj3 _ _ y354 _ _ l1 t356 _ ?side1 ?side2 ?side3 ?side4 A20.out).mono ?_); (case side1 => repeat (first | exact (Kd.R_reads' HO350.out).2.2 | (with_reducible refine Kd.C_alloc ?_ _) | (with_reducible refine Kd.C_drewN ?_ _) | (with_reducible refine Kd.C_drew ?_))); (case side2 => rw [show y354.length = t347.length from (Kd.R_reads' HO350.out).1.symm]; exact (Kd.R_reads' HO350.out).2.1); (case side3 => repeat (first | exact (Kd.C_below HR1.out HB.out) | (with_reducible refine Kd.C_alloc ?_ _) | (with_reducible refine Kd.C_drewN ?_ _) | (with_reducible refine Kd.C_drew ?_))); (case side4 => exact HC1.out); rintro e w31 ⟨rfl, hb⟩; refine ⟨_, rfl, ?_⟩; replace HO350 := Aside0.mk (Kd.R_below (rX HO350.out) hb); replace HB := Aside0.mk (below_step pB hb); (try clear hb); (try clear hb2); (try clear hk); (try clear hi)) | (go_at_call 9; (with_reducible refine (papermilllaw12_awake.calls kj3  t357 _ A22.out).mono ?_); rintro e w32 ⟨rfl, hb⟩; replace HO350 := Aside0.mk (Kd.R_below (rX HO350.out) hb); replace HB := Aside0.mk (below_step pB hb); (try clear hb); (try clear hb2); (try clear hk); (try clear hi)))
          go_ret
          exact ⟨by first | rfl | (simp [errW_none, errW_some] <;> rfl) | (simp [*, errW_none, errW_some] <;> rfl), pB⟩
         ·rw [if_neg c21] at H
          exact absurd H (by simp)
        ·rw [if_neg c17] at H
         exact absurd H (by simp)
       ·rw [if_neg c16] at H
        have c16b0 : decide (0 < (t347.length : Int)) = false := decide_eq_false c16
        have c16b1 : decide (0 < t347.length) = false := decide_eq_false (by omega)
        clear c16
        replace H := Option.bind_eq_some_iff.mp H
        obtain ⟨t358, A330, H⟩ := H
        replace H : ((papermillref12_Fair.f kj3 t347 l1).bind fun t359 => (if (t358 == t359) = true then ((papermilllaw12_awake.f kj3).bind fun t360 => (some t360)) else (none))) = some r := H
        have A33 := Aside0.mk A330
        clear A330
        replace H := Option.bind_eq_some_iff.mp H
        obtain ⟨t359, A340, H⟩ := H
        replace H : (if (t358 == t359) = true then ((papermilllaw12_awake.f kj3).bind fun t360 => (some t360)) else (none)) = some r := H
        have A34 := Aside0.mk A340
        clear A340
        by_cases c35 : (t358 == t359) = true
        ·rw [if_pos c35] at H
         have c35b0 : (t358 == t359) = true := c35
         (try (have c35b1 : decide (t358 = t359) = true := by simpa using c35))
         (try (have c35b2 : (t358 == t359) = true := by simpa using c35))
         clear c35
         replace H := Option.bind_eq_some_iff.mp H
         obtain ⟨t360, A360, H⟩ := H
         replace H : (some t360) = some r := H
         have A36 := Aside0.mk A360
         clear A360
         obtain rfl := Option.some.inj H
         go_wp2_with (first | ((with_reducible refine gate_callee (f := 16) rfl ?_); refine goesL_ (some 20) rfl rfl Try.func16 (by kernel_rfl) rfl #[.slice A0 l0.length c0, .slice A1 l1.length c1] rfl mA ?_; (with_reducible refine (share_Fair.calls kj3 _ _ l0 _ _ l1 t345 _ ?side1 ?side2 ?side3 ?side4 A9.out).mono ?_); (case side1 => repeat (first | exact (Kd.C_below HR0.out HB.out) | (with_reducible refine Kd.C_alloc ?_ _) | (with_reducible refine Kd.C_drewN ?_ _) | (with_reducible refine Kd.C_drew ?_))); (case side2 => exact HC0.out); (case side3 => repeat (first | exact (Kd.C_below HR1.out HB.out) | (with_reducible refine Kd.C_alloc ?_ _) | (with_reducible refine Kd.C_drewN ?_ _) | (with_reducible refine Kd.C_drew ?_))); (case side4 => exact HC1.out); rintro e w37 ⟨rfl, hb⟩; refine ⟨_, rfl, ?_⟩; replace HB := Aside0.mk (below_step pB hb); (try clear hb); (try clear hb2); (try clear hk); (try clear hi)) | ((with_reducible refine gate_callee (f := 17) rfl ?_); refine goesL_ (some 23) rfl rfl Try.func17 (by kernel_rfl) rfl #[.slice A0 l0.length c0, .slice A1 l1.length c1] rfl mA ?_; (with_reducible refine (papermillref12_Fair.calls kj3 _ _ l0 _ _ l1 t346 _ ?side1 ?side2 ?side3 ?side4 A10.out).mono ?_); (case side1 => repeat (first | exact (Kd.C_below HR0.out HB.out) | (with_reducible refine Kd.C_alloc ?_ _) | (with_reducible refine Kd.C_drewN ?_ _) | (with_reducible refine Kd.C_drew ?_))); (case side2 => exact HC0.out); (case side3 => repeat (first | exact (Kd.C_below HR1.out HB.out) | (with_reducible refine Kd.C_alloc ?_ _) | (with_reducible refine Kd.C_drewN ?_ _) | (with_reducible refine Kd.C_drew ?_))); (case side4 => exact HC1.out); rintro e w38 ⟨rfl, hb⟩; refine ⟨_, rfl, ?_⟩; replace HB := Aside0.mk (below_step pB hb); (try clear hb); (try clear hb2); (try clear hk); (try clear hi)) | ((with_reducible refine gate_callee (f := 11) rfl ?_); refine goesL_ (some 28) rfl rfl Try.func11 (by kernel_rfl) rfl #[.int .i64 a2, .slice A1 l1.length c1] rfl mA ?_; (with_reducible refine (share_Split.calls kj3 a2 _ _ l1 t347 t348 _ ?side1 ?side2 A12.out).mono ?_); (case side1 => repeat (first | exact (Kd.C_below HR1.out HB.out) | (with_reducible refine Kd.C_alloc ?_ _) | (with_reducible refine Kd.C_drewN ?_ _) | (with_reducible refine Kd.C_drew ?_))); (case side2 => exact HC1.out); rintro e w39 ⟨v349, rfl, ho0, hb⟩; refine ⟨_, rfl, ?_⟩; have HO350 := Aside0.mk (Kd.R_lower ho0 (below_size pB)); replace HB := Aside0.mk (below_step pB hb); (try clear hb); (try clear hb2); (try clear hk); (try clear hi); (try clear ho0); obtain ⟨Ao40, co40, eo40⟩ := Kd.R_slice HO350.out; subst eo40) | ((with_reducible refine gate_callee (f := 16) rfl ?_); refine goesL_ (some 36) rfl rfl Try.func16 (by kernel_rfl) rfl #[.slice Ao40 t347.length co40, .slice A1 l1.length c1] rfl mA ?_; (with_reducible refine (share_Fair.calls kj3 _ _ t347 _ _ l1 true _ ?side1 ?side2 ?side3 ?side4 A14.out).mono ?_); (case side1 => repeat (first | exact (Kd.R_reads' HO350.out).2.2 | (with_reducible refine Kd.C_alloc ?_ _) | (with_reducible refine Kd.C_drewN ?_ _) | (with_reducible refine Kd.C_drew ?_))); (case side2 => exact (Kd.R_reads' HO350.out).2.1); (case side3 => repeat (first | exact (Kd.C_below HR1.out HB.out) | (with_reducible refine Kd.C_alloc ?_ _) | (with_reducible refine Kd.C_drewN ?_ _) | (with_reducible refine Kd.C_drew ?_))); (case side4 => exact HC1.out); rintro e w41 ⟨rfl, hb⟩; refine ⟨_, rfl, ?_⟩; replace HO350 := Aside0.mk (Kd.R_below (rX HO350.out) hb); replace HB := Aside0.mk (below_step pB hb); (try clear hb); (try clear hb2); (try clear hk); (try clear hi)) | ((with_reducible refine gate_callee (f := 16) rfl ?_); refine goesL_ (some 49) rfl rfl Try.func16 (by kernel_rfl) rfl #[.slice Ao40 t347.length co40, .slice A1 l1.length c1] rfl mA ?_; (with_reducible refine (share_Fair.calls kj3 _ _ t347 _ _ l1 t358 _ ?side1 ?side2 ?side3 ?side4 A33.out).mono ?_); (case side1 => repeat (first | exact (Kd.R_reads' HO350.out).2.2 | (with_reducible refine Kd.C_alloc ?_ _) | (with_reducible refine Kd.C_drewN ?_ _) | (with_reducible refine Kd.C_drew ?_))); (case side2 => exact (Kd.R_reads' HO350.out).2.1); (case side3 => repeat (first | exact (Kd.C_below HR1.out HB.out) | (with_reducible refine Kd.C_alloc ?_ _) | (with_reducible refine Kd.C_drewN ?_ _) | (with_reducible refine Kd.C_drew ?_))); (case side4 => exact HC1.out); rintro e w42 ⟨rfl, hb⟩; refine ⟨_, rfl, ?_⟩; replace HO350 := Aside0.mk (Kd.R_below (rX HO350.out) hb); replace HB := Aside0.mk (below_step pB hb); (try clear hb); (try clear hb2); (try clear hk); (try clear hi)) | ((with_reducible refine gate_callee (f := 17) rfl ?_); refine goesL_ (some 52) rfl rfl Try.func17 (by kernel_rfl) rfl #[.slice Ao40 t347.length co40, .slice A1 l1.length c1] rfl mA ?_; (with_reducible refine (papermillref12_Fair.calls kj3 _ _ t347 _ _ l1 t359 _ ?side1 ?side2 ?side3 ?side4 A34.out).mono ?_); (case side1 => repeat (first | exact (Kd.R_reads' HO350.out).2.2 | (with_reducible refine Kd.C_alloc ?_ _) | (with_reducible refine Kd.C_drewN ?_ _) | (with_reducible refine Kd.C_drew ?_))); (case side2 => exact (Kd.R_reads' HO350.out).2.1); (case side3 => repeat (first | exact (Kd.C_below HR1.out HB.out) | (with_reducible refine Kd.C_alloc ?_ _) | (with_reducible refine Kd.C_drewN ?_ _) | (with_reducible refine Kd.C_drew ?_))); (case side4 => exact HC1.out); rintro e w43 ⟨rfl, hb⟩; refine ⟨_, rfl, ?_⟩; replace HO350 := Aside0.mk (Kd.R_below (rX HO350.out) hb); replace HB := Aside0.mk (below_step pB hb); (try clear hb); (try clear hb2); (try clear hk); (try clear hi)) | (go_at_call 9; (with_reducible refine (papermilllaw12_awake.calls kj3  t360 _ A36.out).mono ?_); rintro e w44 ⟨rfl, hb⟩; replace HO350 := Aside0.mk (Kd.R_below (rX HO350.out) hb); replace HB := Aside0.mk (below_step pB hb); (try clear hb); (try clear hb2); (try clear hk); (try clear hi)))
         go_ret
         exact ⟨by first | rfl | (simp [errW_none, errW_some] <;> rfl) | (simp [*, errW_none, errW_some] <;> rfl), pB⟩
        ·rw [if_neg c35] at H
         exact absurd H (by simp)
      ·replace c15 := Bool.eq_false_iff.mpr c15
       subst c15
       have H1 : (none) = some r := by rw [if_neg (show ¬ (false = true) by decide)] at H; exact H
       clear H
       have H := H1
       clear H1
       exact absurd H (by simp)
     ·rw [if_neg c13] at H
      have c13b0 : (t348 == 0) = false := beq_eq_false_iff_ne.mpr c13
      have c13b1 : (t348 != 0) = true := bne_iff_ne.mpr c13
      replace H := Option.bind_eq_some_iff.mp H
      obtain ⟨t351, A450, H⟩ := H
      replace H : (some t351) = some r := H
      have A45 := Aside0.mk A450
      clear A450
      obtain rfl := Option.some.inj H
      go_wp2_with (first | ((with_reducible refine gate_callee (f := 16) rfl ?_); refine goesL_ (some 20) rfl rfl Try.func16 (by kernel_rfl) rfl #[.slice A0 l0.length c0, .slice A1 l1.length c1] rfl mA ?_; (with_reducible refine (share_Fair.calls kj3 _ _ l0 _ _ l1 t345 _ ?side1 ?side2 ?side3 ?side4 A9.out).mono ?_); (case side1 => repeat (first | exact (Kd.C_below HR0.out HB.out) | (with_reducible refine Kd.C_alloc ?_ _) | (with_reducible refine Kd.C_drewN ?_ _) | (with_reducible refine Kd.C_drew ?_))); (case side2 => exact HC0.out); (case side3 => repeat (first | exact (Kd.C_below HR1.out HB.out) | (with_reducible refine Kd.C_alloc ?_ _) | (with_reducible refine Kd.C_drewN ?_ _) | (with_reducible refine Kd.C_drew ?_))); (case side4 => exact HC1.out); rintro e w46 ⟨rfl, hb⟩; refine ⟨_, rfl, ?_⟩; replace HB := Aside0.mk (below_step pB hb); (try clear hb); (try clear hb2); (try clear hk); (try clear hi)) | ((with_reducible refine gate_callee (f := 17) rfl ?_); refine goesL_ (some 23) rfl rfl Try.func17 (by kernel_rfl) rfl #[.slice A0 l0.length c0, .slice A1 l1.length c1] rfl mA ?_; (with_reducible refine (papermillref12_Fair.calls kj3 _ _ l0 _ _ l1 t346 _ ?side1 ?side2 ?side3 ?side4 A10.out).mono ?_); (case side1 => repeat (first | exact (Kd.C_below HR0.out HB.out) | (with_reducible refine Kd.C_alloc ?_ _) | (with_reducible refine Kd.C_drewN ?_ _) | (with_reducible refine Kd.C_drew ?_))); (case side2 => exact HC0.out); (case side3 => repeat (first | exact (Kd.C_below HR1.out HB.out) | (with_reducible refine Kd.C_alloc ?_ _) | (with_reducible refine Kd.C_drewN ?_ _) | (with_reducible refine Kd.C_drew ?_))); (case side4 => exact HC1.out); rintro e w47 ⟨rfl, hb⟩; refine ⟨_, rfl, ?_⟩; replace HB := Aside0.mk (below_step pB hb); (try clear hb); (try clear hb2); (try clear hk); (try clear hi)) | ((with_reducible refine gate_callee (f := 11) rfl ?_); refine goesL_ (some 28) rfl rfl Try.func11 (by kernel_rfl) rfl #[.int .i64 a2, .slice A1 l1.length c1] rfl mA ?_; (with_reducible refine (share_Split.calls kj3 a2 _ _ l1 t347 t348 _ ?side1 ?side2 A12.out).mono ?_); (case side1 => repeat (first | exact (Kd.C_below HR1.out HB.out) | (with_reducible refine Kd.C_alloc ?_ _) | (with_reducible refine Kd.C_drewN ?_ _) | (with_reducible refine Kd.C_drew ?_))); (case side2 => exact HC1.out); rintro e w48 ⟨v349, rfl, ho0, hb⟩; refine ⟨_, rfl, ?_⟩; have HO350 := Aside0.mk (Kd.R_lower ho0 (below_size pB)); replace HB := Aside0.mk (below_step pB hb); (try clear hb); (try clear hb2); (try clear hk); (try clear hi); (try clear ho0)) | ((with_reducible refine gate_callee (f := 9) rfl ?_); refine goesL_ (some 33) rfl rfl Try.func9 (by kernel_rfl) rfl #[] rfl mA ?_; (with_reducible refine (papermilllaw12_awake.calls kj3  t351 _ A45.out).mono ?_); rintro e w49 ⟨rfl, hb⟩; refine ⟨_, rfl, ?_⟩; replace HO350 := Aside0.mk (Kd.R_below (rX HO350.out) hb); replace HB := Aside0.mk (below_step pB hb); (try clear hb); (try clear hb2); (try clear hk); (try clear hi)))
      go_ret
      exact ⟨by first | rfl | (simp [errW_none, errW_some] <;> rfl) | (simp [*, errW_none, errW_some] <;> rfl), pB⟩

/-- THE ONE PURE STATEMENT of papermilllaw12_ShareFairs: yours. -/
def papermilllaw12_ShareFairs.Pure : Prop := ∀ (l0 : List Int) (l1 : List Int) (a2 : Int), l0.length ≤ maxLen → l0.length * 8 ≤ 140737488351232 → (∀ x ∈ l0, (Lit.int .i64 x).wf = true) → l1.length ≤ maxLen → l1.length * 8 ≤ 140737488351232 → (∀ x ∈ l1, (Lit.int .i64 x).wf = true) → (Lit.int .i64 a2).wf = true → ∃ k, papermilllaw12_ShareFairs.f k l0 l1 a2 = some true
theorem papermilllaw12_ShareFairs.walk (P : papermilllaw12_ShareFairs.Pure) (a0 : Option Addr) (len0 cap0 : Nat) (z0 : List Int) (a1 : Option Addr) (len1 cap1 : Nat) (z1 : List Int) (a2 : Int) (w : World) (w0 : (a0 = none ∧ len0 = 0 ∧ cap0 = 0 ∧ z0 = []) ∨ ∃ x, a0 = some x ∧ len0 ≤ cap0 ∧ cap0 ≤ maxLen ∧ z0.length = cap0 ∧ (∀ i, i < z0.length → w.cell? (x.add i) = some (.int .i64 (z0.getD i 0))) ∧ ∀ n ∈ z0, (Lit.int .i64 n).wf = true) (y0 : len0 * 8 ≤ 140737488351232) (w1 : (a1 = none ∧ len1 = 0 ∧ cap1 = 0 ∧ z1 = []) ∨ ∃ x, a1 = some x ∧ len1 ≤ cap1 ∧ cap1 ≤ maxLen ∧ z1.length = cap1 ∧ (∀ i, i < z1.length → w.cell? (x.add i) = some (.int .i64 (z1.getD i 0))) ∧ ∀ n ∈ z1, (Lit.int .i64 n).wf = true) (y1 : len1 * 8 ≤ 140737488351232) (w2 : (Lit.int .i64 a2).wf = true) :
  Calls Try.prog 4 #[.slice a0 len0 cap0, .slice a1 len1 cap1, .int .i64 a2] w fun e w' => e = .returned (.bool true) ∧ Below w.heap.size w w' := by
 obtain ⟨l0, rfl, hr0, hm0, hw0, hc0⟩ := ReadsInt.ofRowC w0
 obtain ⟨l1, rfl, hr1, hm1, hw1, hc1⟩ := ReadsInt.ofRowC w1
 obtain ⟨k, h⟩ := P l0 l1 a2 hm0 y0 hw0 hm1 y1 hw1 w2
 refine (papermilllaw12_ShareFairs.calls k _ _ l0 _ _ l1 a2 true w (Kd.C_of_reads (d := (0 : Int)) (h1 := fun _ => rfl) hr0) hc0 (Kd.C_of_reads (d := (0 : Int)) (h1 := fun _ => rfl) hr1) hc1 h).mono ?_
 rintro e w' ⟨rfl, hd⟩
 exact ⟨rfl, hd⟩

end Go.Proofs.Ytloihkecfommbaa.Print
