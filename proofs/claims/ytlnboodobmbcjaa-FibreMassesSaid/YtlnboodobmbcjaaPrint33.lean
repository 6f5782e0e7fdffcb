-- Written by wip/tools/myprint.py out of the translation. Not trusted: Lean checks it.
import Derived.Test.YtlnboodobmbcjaaPrint0
import Derived.Test.YtlnboodobmbcjaaPrint12
import Derived.Test.YtlnboodobmbcjaaPrint18
import Derived.Test.YtlnboodobmbcjaaPrint22
import Derived.Test.YtlnboodobmbcjaaPrint32
namespace Go.Proofs.Ytlnboodobmbcjaa.Print
open Go.RowKit Go.Proofs.YtlnboodobmbcjaaW.PrintWords Go.Proofs.YtlnboodobmbcjaaW.PrintLast Go.Proofs.YtlnboodobmbcjaaW.PrintMore
attribute [local go_sem] max2_int min2_int max_two min_two max_three min_three max_four min_four   -- for this text's walks alone
set_option linter.unusedVariables false
set_option linter.unusedSimpArgs false

/-! ### papermilllaw16_FibreMasses: function 9 -/
mutual
def papermilllaw16_FibreMasses.j0 : Nat → List Int → Int → List Int → Bool → Option (Bool)
 | 0, _, _, _, _ => none
 | k + 1, x0, x1, x5, x43 => if x43 = true then (none) else (papermilllaw16_FibreMasses.l0 k x0 x1 x5 0 0)
def papermilllaw16_FibreMasses.l0 : Nat → List Int → Int → List Int → Int → Int → Option (Bool)
 | 0, _, _, _, _, _ => none
 | k + 1, x0, x1, x5, x7, x8 => if x8 < (x5.length : Int) then (if 0 ≤ x8 then (if (rd x5 x8) < 0 then (papermilllaw16_FibreMasses.j2 k x0 x1 x5 x7 x8 true) else (papermilllaw16_FibreMasses.j2 k x0 x1 x5 x7 x8 (decide ((rd x5 x8) > x1)))) else (none)) else ((fibre_Total.f k x5).bind fun bt462 => ((fibre_Near.f k x5 x0 1).bind fun bt464 => (if x7 = x1 then (if bt462.2 = 0 then (papermilllaw16_FibreMasses.j3 k x1 bt464.1 bt464.2 (bt462.1 != x1)) else (papermilllaw16_FibreMasses.j3 k x1 bt464.1 bt464.2 true)) else (papermilllaw16_FibreMasses.j3 k x1 bt464.1 bt464.2 true))))
def papermilllaw16_FibreMasses.j2 : Nat → List Int → Int → List Int → Int → Int → Bool → Option (Bool)
 | 0, _, _, _, _, _, _ => none
 | k + 1, x0, x1, x5, x7, x8, x62 => if x62 = true then (none) else (if 0 ≤ x8 then (if x8 < (x5.length : Int) then (if x8 < (x0.length : Int) then (if (wrap64 ((wrap64 (1000 * (rd x5 x8))) - (wrap64 ((rd x0 x8) * x1)))) ≤ (-1000) then (none) else (if (wrap64 ((wrap64 (1000 * (rd x5 x8))) - (wrap64 ((rd x0 x8) * x1)))) ≥ 1000 then (none) else (papermilllaw16_FibreMasses.l0 k x0 x1 x5 (wrap64 (x7 + (rd x5 x8))) (wrap64 (x8 + 1))))) else (none)) else (none)) else (none))
def papermilllaw16_FibreMasses.j3 : Nat → Int → Bool → Int → Bool → Option (Bool)
 | 0, _, _, _, _ => none
 | k + 1, x1, x12, x13, x109 => if x109 = true then (none) else (if x1 = 0 then (if x13 = 10 then (if x12 = true then (none) else ((papermilllaw16_awake.f k).bind fun t466 => (some t466))) else (none)) else (if x13 = 0 then (if x1 < 1000 then ((papermilllaw16_awake.f k).bind fun t467 => (some t467)) else (if x12 = true then ((papermilllaw16_awake.f k).bind fun t468 => (some t468)) else (none))) else (none)))
end
def papermilllaw16_FibreMasses.f (k : Nat) (l0 : List Int) (a1 : Int) : Option (Bool) := (papermilllaw16_great.f l0).bind fun t450 => (if t450 = true then ((papermilllaw16_awake.f k).bind fun t451 => (some t451)) else ((fibre_Masses.f k l0 a1).bind fun bt452 => (if bt452.2 = 0 then (if (bt452.1.length : Int) = (l0.length : Int) then (if a1 < 0 then (papermilllaw16_FibreMasses.j0 k l0 a1 bt452.1 true) else (papermilllaw16_FibreMasses.j0 k l0 a1 bt452.1 (decide (a1 > 1099511627776)))) else (papermilllaw16_FibreMasses.j0 k l0 a1 bt452.1 true)) else (if (bt452.1.length : Int) = 0 then ((papermilllaw16_awake.f k).bind fun t456 => (some t456)) else (none)))))
theorem papermilllaw16_FibreMasses.mono_l : ∀ k, (∀ y0 y1 y2 y3, LeO (papermilllaw16_FibreMasses.j0 k y0 y1 y2 y3) (papermilllaw16_FibreMasses.j0 (k + 1) y0 y1 y2 y3)) ∧ (∀ y0 y1 y2 y3 y4, LeO (papermilllaw16_FibreMasses.l0 k y0 y1 y2 y3 y4) (papermilllaw16_FibreMasses.l0 (k + 1) y0 y1 y2 y3 y4)) ∧ (∀ y0 y1 y2 y3 y4 y5, LeO (papermilllaw16_FibreMasses.j2 k y0 y1 y2 y3 y4 y5) (papermilllaw16_FibreMasses.j2 (k + 1) y0 y1 y2 y3 y4 y5)) ∧ (∀ y0 y1 y2 y3, LeO (papermilllaw16_FibreMasses.j3 k y0 y1 y2 y3) (papermilllaw16_FibreMasses.j3 (k + 1) y0 y1 y2 y3))
 | 0 => ⟨fun _ _ _ _ r h => by simp [papermilllaw16_FibreMasses.j0] at h, fun _ _ _ _ _ r h => by simp [papermilllaw16_FibreMasses.l0] at h, fun _ _ _ _ _ _ r h => by simp [papermilllaw16_FibreMasses.j2] at h, fun _ _ _ _ r h => by simp [papermilllaw16_FibreMasses.j3] at h⟩
 | k + 1 => by
  obtain ⟨ih0, ih1, ih2, ih3⟩ := papermilllaw16_FibreMasses.mono_l k
  refine ⟨?_, ?_, ?_, ?_⟩
  ·intro y0 y1 y2 y3
   unfold papermilllaw16_FibreMasses.j0
   repeat' first
   | (with_reducible exact ih0 _ _ _ _)
   | (with_reducible exact ih1 _ _ _ _ _)
   | (with_reducible exact ih2 _ _ _ _ _ _)
   | (with_reducible exact ih3 _ _ _ _)
   | (with_reducible exact fibre_Masses.mono _ _ _)
   | (with_reducible exact fibre_Near.mono _ _ _ _)
   | (with_reducible exact fibre_Total.mono _ _)
   | (with_reducible exact papermilllaw16_awake.mono _)
   | (with_reducible exact LeO.refl _)
   | (with_reducible exact LeO.none _)
   | (with_reducible refine LeO.ite ?_ ?_)
   | (with_reducible refine LeO.bind ?_ (fun _ => ?_))
   | exact ih0 _ _ _ _
   | exact ih1 _ _ _ _ _
   | exact ih2 _ _ _ _ _ _
   | exact ih3 _ _ _ _
   | exact fibre_Masses.mono _ _ _
   | exact fibre_Near.mono _ _ _ _
   | exact fibre_Total.mono _ _
   | exact papermilllaw16_awake.mono _
   | exact LeO.none _
   | refine LeO.ite ?_ ?_
   | refine LeO.bind ?_ (fun _ => ?_)
  ·intro y0 y1 y2 y3 y4
   unfold papermilllaw16_FibreMasses.l0
   repeat' first
   | (with_reducible exact ih0 _ _ _ _)
   | (with_reducible exact ih1 _ _ _ _ _)
   | (with_reducible exact ih2 _ _ _ _ _ _)
   | (with_reducible exact ih3 _ _ _ _)
   | (with_reducible exact fibre_Masses.mono _ _ _)
   | (with_reducible exact fibre_Near.mono _ _ _ _)
   | (with_reducible exact fibre_Total.mono _ _)
   | (with_reducible exact papermilllaw16_awake.mono _)
   | (with_reducible exact LeO.refl _)
   | (with_reducible exact LeO.none _)
   | (with_reducible refine LeO.ite ?_ ?_)
   | (with_reducible refine LeO.bind ?_ (fun _ => ?_))
   | exact ih0 _ _ _ _
   | exact ih1 _ _ _ _ _
   | exact ih2 _ _ _ _ _ _
   | exact ih3 _ _ _ _
   | exact fibre_Masses.mono _ _ _
   | exact fibre_Near.mono _ _ _ _
   | exact fibre_Total.mono _ _
   | exact papermilllaw16_awake.mono _
   | exact LeO.none _
   | refine LeO.ite ?_ ?_
   | refine LeO.bind ?_ (fun _ => ?_)
  ·intro y0 y1 y2 y3 y4 y5
   unfold papermilllaw16_FibreMasses.j2
   repeat' first
   | (with_reducible exact ih0 _ _ _ _)
   | (with_reducible exact ih1 _ _ _ _ _)
   | (with_reducible exact ih2 _ _ _ _ _ _)
   | (with_reducible exact ih3 _ _ _ _)
   | (with_reducible exact fibre_Masses.mono _ _ _)
   | (with_reducible exact fibre_Near.mono _ _ _ _)
   | (with_reducible exact fibre_Total.mono _ _)
   | (with_reducible exact papermilllaw16_awake.mono _)
   | (with_reducible exact LeO.refl _)
   | (with_reducible exact LeO.none _)
   | (with_reducible refine LeO.ite ?_ ?_)
   | (with_reducible refine LeO.bind ?_ (fun _ => ?_))
   | exact ih0 _ _ _ _
   | exact ih1 _ _ _ _ _
   | exact ih2 _ _ _ _ _ _
   | exact ih3 _ _ _ _
   | exact fibre_Masses.mono _ _ _
   | exact fibre_Near.mono _ _ _ _
   | exact fibre_Total.mono _ _
   | exact papermilllaw16_awake.mono _
   | exact LeO.none _
   | refine LeO.ite ?_ ?_
   | refine LeO.bind ?_ (fun _ => ?_)
  ·intro y0 y1 y2 y3
   unfold papermilllaw16_FibreMasses.j3
   repeat' first
   | (with_reducible exact ih0 _ _ _ _)
   | (with_reducible exact ih1 _ _ _ _ _)
   | (with_reducible exact ih2 _ _ _ _ _ _)
   | (with_reducible exact ih3 _ _ _ _)
   | (with_reducible exact fibre_Masses.mono _ _ _)
   | (with_reducible exact fibre_Near.mono _ _ _ _)
   | (with_reducible exact fibre_Total.mono _ _)
   | (with_reducible exact papermilllaw16_awake.mono _)
   | (with_reducible exact LeO.refl _)
   | (with_reducible exact LeO.none _)
   | (with_reducible refine LeO.ite ?_ ?_)
   | (with_reducible refine LeO.bind ?_ (fun _ => ?_))
   | exact ih0 _ _ _ _
   | exact ih1 _ _ _ _ _
   | exact ih2 _ _ _ _ _ _
   | exact ih3 _ _ _ _
   | exact fibre_Masses.mono _ _ _
   | exact fibre_Near.mono _ _ _ _
   | exact fibre_Total.mono _ _
   | exact papermilllaw16_awake.mono _
   | exact LeO.none _
   | refine LeO.ite ?_ ?_
   | refine LeO.bind ?_ (fun _ => ?_)
theorem papermilllaw16_FibreMasses.mono : ∀ a0 a1 k, LeO (papermilllaw16_FibreMasses.f k a0 a1) (papermilllaw16_FibreMasses.f (k + 1) a0 a1) := by
 intro a0 a1 k
 obtain ⟨ih0, ih1, ih2, ih3⟩ := papermilllaw16_FibreMasses.mono_l k
 unfold papermilllaw16_FibreMasses.f
 repeat' first
   | (with_reducible exact ih0 _ _ _ _)
   | (with_reducible exact ih1 _ _ _ _ _)
   | (with_reducible exact ih2 _ _ _ _ _ _)
   | (with_reducible exact ih3 _ _ _ _)
   | (with_reducible exact fibre_Masses.mono _ _ _)
   | (with_reducible exact fibre_Near.mono _ _ _ _)
   | (with_reducible exact fibre_Total.mono _ _)
   | (with_reducible exact papermilllaw16_awake.mono _)
   | (with_reducible exact LeO.refl _)
   | (with_reducible exact LeO.none _)
   | (with_reducible refine LeO.ite ?_ ?_)
   | (with_reducible refine LeO.bind ?_ (fun _ => ?_))
   | exact ih0 _ _ _ _
   | exact ih1 _ _ _ _ _
   | exact ih2 _ _ _ _ _ _
   | exact ih3 _ _ _ _
   | exact fibre_Masses.mono _ _ _
   | exact fibre_Near.mono _ _ _ _
   | exact fibre_Total.mono _ _
   | exact papermilllaw16_awake.mono _
   | exact LeO.none _
   | refine LeO.ite ?_ ?_
   | refine LeO.bind ?_ (fun _ => ?_)
set_option maxHeartbeats 8000000 in
set_option maxRecDepth 100000 in
theorem papermilllaw16_FibreMasses.calls (k : Nat) (A0 : Option Addr) (c0 : Nat) (l0 : List Int) (a1 : Int) (r : Bool) (w : World) (hr0 : Kd.C (Kd.int .i64) w A0 l0.length l0) (hc0 : l0.length ≤ c0) (h : papermilllaw16_FibreMasses.f k l0 a1 = some r) :
  Calls Try.prog 9 #[.slice A0 l0.length c0, .int .i64 a1] w fun e w' => e = .returned (.bool r) ∧ Below w.heap.size w w' := by
 have HR0 := Aside0.mk hr0
 have HC0 := Aside0.mk hc0
 clear hr0 hc0
 have HB := Aside0.mk (Below.refl w.heap.size w)
 have H : ((papermilllaw16_great.f l0).bind fun t450 => (if t450 = true then ((papermilllaw16_awake.f k).bind fun t451 => (some t451)) else ((fibre_Masses.f k l0 a1).bind fun bt452 => (if bt452.2 = 0 then (if (bt452.1.length : Int) = (l0.length : Int) then (if a1 < 0 then (papermilllaw16_FibreMasses.j0 k l0 a1 bt452.1 true) else (papermilllaw16_FibreMasses.j0 k l0 a1 bt452.1 (decide (a1 > 1099511627776)))) else (papermilllaw16_FibreMasses.j0 k l0 a1 bt452.1 true)) else (if (bt452.1.length : Int) = 0 then ((papermilllaw16_awake.f k).bind fun t456 => (some t456)) else (none)))))) = some r := h
 clear h
 replace H := Option.bind_eq_some_iff.mp H
 obtain ⟨t450, A30, H⟩ := H
 replace H : (if t450 = true then ((papermilllaw16_awake.f k).bind fun t451 => (some t451)) else ((fibre_Masses.f k l0 a1).bind fun bt452 => (if bt452.2 = 0 then (if (bt452.1.length : Int) = (l0.length : Int) then (if a1 < 0 then (papermilllaw16_FibreMasses.j0 k l0 a1 bt452.1 true) else (papermilllaw16_FibreMasses.j0 k l0 a1 bt452.1 (decide (a1 > 1099511627776)))) else (papermilllaw16_FibreMasses.j0 k l0 a1 bt452.1 true)) else (if (bt452.1.length : Int) = 0 then ((papermilllaw16_awake.f k).bind fun t456 => (some t456)) else (none))))) = some r := H
 have A3 := Aside0.mk A30
 clear A30
 by_cases c4 : t450 = true
 ·subst c4
  have H1 : ((papermilllaw16_awake.f k).bind fun t451 => (some t451)) = some r := by rw [if_pos rfl] at H; exact H
  clear H
  have H := H1
  clear H1
  replace H := Option.bind_eq_some_iff.mp H
  obtain ⟨t451, A50, H⟩ := H
  replace H : (some t451) = some r := H
  have A5 := Aside0.mk A50
  clear A50
  obtain rfl := Option.some.inj H
  go_enter Try.func9, Try.ntmps9
  have fl_ : True := trivial
  repeat ((first | clear fl_ | go_quiet (first | (go_at_call 15; (with_reducible refine (papermilllaw16_great.calls _ _ l0 true _ ?side1 ?side2 A3.out).mono ?_); (case side1 => repeat (first | exact HR0.out | (with_reducible refine Kd.C_alloc ?_ _) | (with_reducible refine Kd.C_drewN ?_ _) | (with_reducible refine Kd.C_drew ?_))); (case side2 => exact HC0.out); rintro e w' ⟨rfl, ⟨nd, rfl⟩⟩; (try first | exact ⟨rfl, _, World.drewN_drewN _ _ _⟩ | exact ⟨rfl, _, Eq.trans (World.drewN_drewN _ _ _) (congrArg (World.drewN _) (Nat.add_assoc _ _ _))⟩)) | (go_at_call 12; (with_reducible refine (papermilllaw16_awake.calls k  t451 _ A5.out).mono ?_); rintro e w6 ⟨rfl, hb⟩; replace HB := Aside0.mk (below_step pB hb); (try clear hb); (try clear hb2); (try clear hk); (try clear hi)))); go_wp2_with (first | (go_at_call 15; (with_reducible refine (papermilllaw16_great.calls _ _ l0 true _ ?side1 ?side2 A3.out).mono ?_); (case side1 => repeat (first | exact HR0.out | (with_reducible refine Kd.C_alloc ?_ _) | (with_reducible refine Kd.C_drewN ?_ _) | (with_reducible refine Kd.C_drew ?_))); (case side2 => exact HC0.out); rintro e w' ⟨rfl, ⟨nd, rfl⟩⟩; (try first | exact ⟨rfl, _, World.drewN_drewN _ _ _⟩ | exact ⟨rfl, _, Eq.trans (World.drewN_drewN _ _ _) (congrArg (World.drewN _) (Nat.add_assoc _ _ _))⟩)) | (go_at_call 12; (with_reducible refine (papermilllaw16_awake.calls k  t451 _ A5.out).mono ?_); rintro e w6 ⟨rfl, hb⟩; replace HB := Aside0.mk (below_step pB hb); (try clear hb); (try clear hb2); (try clear hk); (try clear hi))))
  go_ret
  exact ⟨by first | rfl | (simp [errW_none, errW_some] <;> rfl) | (simp [*, errW_none, errW_some] <;> rfl), pB⟩
 ·replace c4 := Bool.eq_false_iff.mpr c4
  subst c4
  have H1 : ((fibre_Masses.f k l0 a1).bind fun bt452 => (if bt452.2 = 0 then (if (bt452.1.length : Int) = (l0.length : Int) then (if a1 < 0 then (papermilllaw16_FibreMasses.j0 k l0 a1 bt452.1 true) else (papermilllaw16_FibreMasses.j0 k l0 a1 bt452.1 (decide (a1 > 1099511627776)))) else (papermilllaw16_FibreMasses.j0 k l0 a1 bt452.1 true)) else (if (bt452.1.length : Int) = 0 then ((papermilllaw16_awake.f k).bind fun t456 => (some t456)) else (none)))) = some r := by rw [if_neg (show ¬ (false = true) by decide)] at H; exact H
  clear H
  have H := H1
  clear H1
  replace H := Option.bind_eq_some_iff.mp H
  obtain ⟨⟨t452, t453⟩, A70, H⟩ := H
  replace H : (if t453 = 0 then (if (t452.length : Int) = (l0.length : Int) then (if a1 < 0 then (papermilllaw16_FibreMasses.j0 k l0 a1 t452 true) else (papermilllaw16_FibreMasses.j0 k l0 a1 t452 (decide (a1 > 1099511627776)))) else (papermilllaw16_FibreMasses.j0 k l0 a1 t452 true)) else (if (t452.length : Int) = 0 then ((papermilllaw16_awake.f k).bind fun t456 => (some t456)) else (none))) = some r := H
  have A7 := Aside0.mk A70
  clear A70
  by_cases c8 : t453 = 0
  ·rw [if_pos c8] at H
   have c8b0 : (t453 == 0) = true := beq_iff_eq.mpr c8
   have c8b1 : (t453 != 0) = false := bne_eq_false_iff_eq.mpr c8
   clear c8
   have HC9 := Aside0.mk H
   clear H
   go_enter Try.func9, Try.ntmps9
   go_upto_region 6 with (first | (go_at_call 15; (with_reducible refine (papermilllaw16_great.calls _ _ l0 false _ ?side1 ?side2 A3.out).mono ?_); (case side1 => repeat (first | exact HR0.out | (with_reducible refine Kd.C_alloc ?_ _) | (with_reducible refine Kd.C_drewN ?_ _) | (with_reducible refine Kd.C_drew ?_))); (case side2 => exact HC0.out); rintro e w' ⟨rfl, ⟨nd, rfl⟩⟩; (try first | exact ⟨rfl, _, World.drewN_drewN _ _ _⟩ | exact ⟨rfl, _, Eq.trans (World.drewN_drewN _ _ _) (congrArg (World.drewN _) (Nat.add_assoc _ _ _))⟩)) | (go_at_call 27; (with_reducible refine (fibre_Masses.calls k _ _ l0 a1 t452 t453 _ ?side1 ?side2 A7.out).mono ?_); (case side1 => repeat (first | exact HR0.out | (with_reducible refine Kd.C_alloc ?_ _) | (with_reducible refine Kd.C_drewN ?_ _) | (with_reducible refine Kd.C_drew ?_))); (case side2 => exact HC0.out); rintro e w10 ⟨v454, rfl, ho0, hb⟩; have HO455 := Aside0.mk (Kd.R_lower ho0 (below_size pB)); replace HB := Aside0.mk (below_step pB hb); (try clear hb); (try clear hb2); (try clear hk); (try clear hi); (try clear ho0)))
   repeat (go_quiet (first | (go_at_call 15; (with_reducible refine (papermilllaw16_great.calls _ _ l0 false _ ?side1 ?side2 A3.out).mono ?_); (case side1 => repeat (first | exact HR0.out | (with_reducible refine Kd.C_alloc ?_ _) | (with_reducible refine Kd.C_drewN ?_ _) | (with_reducible refine Kd.C_drew ?_))); (case side2 => exact HC0.out); rintro e w' ⟨rfl, ⟨nd, rfl⟩⟩; (try first | exact ⟨rfl, _, World.drewN_drewN _ _ _⟩ | exact ⟨rfl, _, Eq.trans (World.drewN_drewN _ _ _) (congrArg (World.drewN _) (Nat.add_assoc _ _ _))⟩)) | (go_at_call 27; (with_reducible refine (fibre_Masses.calls k _ _ l0 a1 t452 t453 _ ?side1 ?side2 A7.out).mono ?_); (case side1 => repeat (first | exact HR0.out | (with_reducible refine Kd.C_alloc ?_ _) | (with_reducible refine Kd.C_drewN ?_ _) | (with_reducible refine Kd.C_drew ?_))); (case side2 => exact HC0.out); rintro e w10 ⟨v454, rfl, ho0, hb⟩; have HO455 := Aside0.mk (Kd.R_lower ho0 (below_size pB)); replace HB := Aside0.mk (below_step pB hb); (try clear hb); (try clear hb2); (try clear hk); (try clear hi); (try clear ho0))); go_upto_region 6 with (first | (go_at_call 15; (with_reducible refine (papermilllaw16_great.calls _ _ l0 false _ ?side1 ?side2 A3.out).mono ?_); (case side1 => repeat (first | exact HR0.out | (with_reducible refine Kd.C_alloc ?_ _) | (with_reducible refine Kd.C_drewN ?_ _) | (with_reducible refine Kd.C_drew ?_))); (case side2 => exact HC0.out); rintro e w' ⟨rfl, ⟨nd, rfl⟩⟩; (try first | exact ⟨rfl, _, World.drewN_drewN _ _ _⟩ | exact ⟨rfl, _, Eq.trans (World.drewN_drewN _ _ _) (congrArg (World.drewN _) (Nat.add_assoc _ _ _))⟩)) | (go_at_call 27; (with_reducible refine (fibre_Masses.calls k _ _ l0 a1 t452 t453 _ ?side1 ?side2 A7.out).mono ?_); (case side1 => repeat (first | exact HR0.out | (with_reducible refine Kd.C_alloc ?_ _) | (with_reducible refine Kd.C_drewN ?_ _) | (with_reducible refine Kd.C_drew ?_))); (case side2 => exact HC0.out); rintro e w10 ⟨v454, rfl, ho0, hb⟩; have HO455 := Aside0.mk (Kd.R_lower ho0 (below_size pB)); replace HB := Aside0.mk (below_step pB hb); (try clear hb); (try clear hb2); (try clear hk); (try clear hi); (try clear ho0))))
   (try simp only [Act.put, List.setIfInBounds_toArray, List.set_cons_zero, List.set_cons_succ])
   go_cut [43] (fun v43 wc => ∃ (kq : Nat) (x43_8 : Bool), v43 = .bool x43_8 ∧ Aside0 (papermilllaw16_FibreMasses.j0 kq l0 a1 t452 x43_8 = some r) ∧ Aside0 (kq ≤ k) ∧ Aside0 (Kd.R (Kd.int .i64) 3 wc w.heap.size (fun _ => True) v454 t452) ∧ Aside0 (Below w.heap.size w wc))
   case first =>
    have H := HC9.out
    clear HC9
    by_cases c11 : (t452.length : Int) = (l0.length : Int)
    ·rw [if_pos c11] at H
     have c11b0 : ((t452.length : Int) == (l0.length : Int)) = true := beq_iff_eq.mpr c11
     have c11b1 : ((t452.length : Int) != (l0.length : Int)) = false := bne_eq_false_iff_eq.mpr c11
     have c11b2 : (t452.length == l0.length) = true := by first | simpa using c11 | (simp at c11 ⊢; omega)
     clear c11
     (first | rw [c11b0] | (simp only [i64_w, i32_w]; rw [c11b0]) | skip)
     by_cases c12 : a1 < 0
     ·rw [if_pos c12] at H
      have c12b0 : decide (a1 < 0) = true := decide_eq_true c12
      clear c12
      have H' := Aside0.mk H
      clear H
      obtain ⟨Ao13, co13, eo13⟩ := Kd.R_slice HO455.out
      subst eo13
      go_wp2
      repeat (go_quiet (fail); try go_wp2)
      go_meet
      case rel => exact ⟨_, (true), (by first | rfl | (simp; done) | (simp [*]; done)), H', ⟨by first | omega | exact Nat.le_refl _⟩, ⟨by (with_reducible repeat (first | apply Kd.R_alloc | apply Kd.R_drewN | apply Kd.R_drew)); exact HO455.out⟩, ⟨pB⟩⟩
     ·rw [if_neg c12] at H
      have c12b0 : decide (a1 < 0) = false := decide_eq_false c12
      clear c12
      have H' := Aside0.mk H
      clear H
      obtain ⟨Ao14, co14, eo14⟩ := Kd.R_slice HO455.out
      subst eo14
      go_wp2
      repeat (go_quiet (fail); try go_wp2)
      go_meet
      case rel => exact ⟨_, (decide (a1 > 1099511627776)), (by first | rfl | (simp; done) | (simp [*]; done)), H', ⟨by first | omega | exact Nat.le_refl _⟩, ⟨by (with_reducible repeat (first | apply Kd.R_alloc | apply Kd.R_drewN | apply Kd.R_drew)); exact HO455.out⟩, ⟨pB⟩⟩
    ·rw [if_neg c11] at H
     have c11b0 : ((t452.length : Int) == (l0.length : Int)) = false := beq_eq_false_iff_ne.mpr c11
     have c11b1 : ((t452.length : Int) != (l0.length : Int)) = true := bne_iff_ne.mpr c11
     have c11b2 : (t452.length == l0.length) = false := by first | simpa using c11 | (simp at c11 ⊢; omega)
     (first | rw [c11b0] | (simp only [i64_w, i32_w]; rw [c11b0]) | skip)
     have H' := Aside0.mk H
     clear H
     obtain ⟨Ao15, co15, eo15⟩ := Kd.R_slice HO455.out
     subst eo15
     go_wp2
     repeat (go_quiet (fail); try go_wp2)
     go_meet
     case rel => exact ⟨_, (true), (by first | rfl | (simp; done) | (simp [*]; done)), H', ⟨by first | omega | exact Nat.le_refl _⟩, ⟨by (with_reducible repeat (first | apply Kd.R_alloc | apply Kd.R_drewN | apply Kd.R_drew)); exact HO455.out⟩, ⟨pB⟩⟩
   case rest =>
    clear HC9
    try clear c1
    try clear p2
    try clear c4
    try clear c8
    try clear c8b0
    try clear c8b1
    try clear c9
    try clear c11
    try clear c11b0
    try clear c11b1
    try clear c11b2
    try clear c12
    try clear c12b0
    obtain ⟨kq, x43_8, rfl, HA, HJ8, HO_5, HB⟩ := hcut
    cases kq with
    | zero => exact absurd HA.out (by simp [papermilllaw16_FibreMasses.j0])
    | succ kj8 =>
     have H := HA.out
     clear HA
     simp only [papermilllaw16_FibreMasses.j0] at H
     by_cases c16 : x43_8 = true
     ·subst c16
      have H1 : (none) = some r := by rw [if_pos rfl] at H; exact H
      clear H
      have H := H1
      clear H1
      exact absurd H (by simp)
     ·replace c16 := Bool.eq_false_iff.mpr c16
      subst c16
      have H1 : (papermilllaw16_FibreMasses.l0 kj8 l0 a1 t452 0 0) = some r := by rw [if_neg (show ¬ (false = true) by decide)] at H; exact H
      clear H
      have H := H1
      clear H1
      have H' := Aside0.mk H
      clear H
      go_wp2
      repeat (go_quiet (fail); try go_wp2)
      go_loopg [7, 8] kj8 (fun kq v7 v8 w' => ∃ (x7_2 : Int) (x8_2 : Int), v7 = .int .i64 x7_2 ∧ v8 = .int .i64 x8_2 ∧ Aside0 (papermilllaw16_FibreMasses.l0 kq l0 a1 t452 x7_2 x8_2 = some r) ∧ Aside0 (kq ≤ kj8) ∧ Aside0 (Kd.R (Kd.int .i64) 3 w' w.heap.size (fun _ => True) v454 t452) ∧ Aside0 (Below w.heap.size w w'))
      case atStart => exact ⟨(0), (0), (by first | rfl | (simp; done) | (simp [*]; done)), (by first | rfl | (simp; done) | (simp [*]; done)), H', ⟨Nat.le_refl _⟩, ⟨by (with_reducible repeat (first | apply Kd.R_alloc | apply Kd.R_drewN | apply Kd.R_drew)); exact HO_5.out⟩, ⟨pB⟩⟩
      case round =>
       clear H'
       try clear c1
       try clear p2
       try clear c4
       try clear c8
       try clear c8b0
       try clear c8b1
       try clear c9
       try clear c11
       try clear c11b0
       try clear c11b1
       try clear c11b2
       try clear c12
       try clear c12b0
       try clear c16
       try clear p2
       obtain ⟨x7_2, x8_2, rfl, rfl, HA, HK2, HO_5, HB⟩ := hrel
       cases gk with
       | zero => exact absurd HA.out (by simp [papermilllaw16_FibreMasses.l0])
       | succ k2 =>
        have H := HA.out
        clear HA
        simp only [papermilllaw16_FibreMasses.l0] at H
        by_cases c17 : x8_2 < (t452.length : Int)
        ·rw [if_pos c17] at H
         have c17b0 : decide (x8_2 < (t452.length : Int)) = true := decide_eq_true c17
         clear c17
         have HC18 := Aside0.mk H
         clear H
         obtain ⟨Ao19, co19, eo19⟩ := Kd.R_slice HO_5.out
         subst eo19
         go_upto_region 12 with (fail)
         repeat (go_quiet (fail); go_upto_region 12 with (fail))
         go_cut [62] (fun v62 wc => ∃ (kq : Nat) (x62_17 : Bool), v62 = .bool x62_17 ∧ Aside0 (papermilllaw16_FibreMasses.j2 kq l0 a1 t452 x7_2 x8_2 x62_17 = some r) ∧ Aside0 (kq ≤ k2) ∧ Aside0 (Kd.R (Kd.int .i64) 3 wc w.heap.size (fun _ => True) (.slice Ao19 t452.length co19) t452) ∧ Aside0 (Below w.heap.size w wc))
         case first =>
          have H := HC18.out
          clear HC18
          by_cases c20 : 0 ≤ x8_2
          ·rw [if_pos c20] at H
           have c20b0 : decide (0 ≤ x8_2) = true := decide_eq_true c20
           clear c20
           (first | rw [c20b0] | (simp only [i64_w, i32_w]; rw [c20b0]) | skip)
           by_cases c21 : (rd t452 x8_2) < 0
           ·rw [if_pos c21] at H
            have c21b0 : decide ((rd t452 x8_2) < 0) = true := decide_eq_true c21
            clear c21
            have H' := Aside0.mk H
            clear H
            have p457 : 0 ≤ (x8_2 : Int) := of_decide_eq_true (by first | (with_reducible assumption) | assumption)
            have q457 : x8_2 < (t452.length : Int) := of_decide_eq_true (by first | (with_reducible assumption) | assumption)
            obtain ⟨ad457, e457, hx457_0⟩ := Kd.at_int (Kd.R_reads' HO_5.out).2.2 x8_2 p457 q457
            cases e457
            replace p457 := eq_true p457
            replace q457 := eq_true q457
            go_wp2
            repeat (go_quiet (fail); try go_wp2)
            go_meet
            case rel => exact ⟨_, (true), (by first | rfl | (simp; done) | (simp [*]; done)), H', ⟨by have := HJ8.out; have := HK2.out; first | omega | exact Nat.le_refl _⟩, ⟨by (with_reducible repeat (first | apply Kd.R_alloc | apply Kd.R_drewN | apply Kd.R_drew)); exact HO_5.out⟩, ⟨pB⟩⟩
           ·rw [if_neg c21] at H
            have c21b0 : decide ((rd t452 x8_2) < 0) = false := decide_eq_false c21
            clear c21
            have H' := Aside0.mk H
            clear H
            have p457 : 0 ≤ (x8_2 : Int) := of_decide_eq_true (by first | (with_reducible assumption) | assumption)
            have q457 : x8_2 < (t452.length : Int) := of_decide_eq_true (by first | (with_reducible assumption) | assumption)
            obtain ⟨ad457, e457, hx457_0⟩ := Kd.at_int (Kd.R_reads' HO_5.out).2.2 x8_2 p457 q457
            cases e457
            replace p457 := eq_true p457
            replace q457 := eq_true q457
            have p458 : 0 ≤ (x8_2 : Int) := of_decide_eq_true (by first | (with_reducible assumption) | assumption)
            have q458 : x8_2 < (t452.length : Int) := of_decide_eq_true (by first | (with_reducible assumption) | assumption)
            obtain ⟨ad458, e458, hx458_0⟩ := Kd.at_int (Kd.R_reads' HO_5.out).2.2 x8_2 p458 q458
            obtain rfl : ad457 = ad458 := (by injection e458)
            replace p458 := eq_true p458
            replace q458 := eq_true q458
            go_wp2
            repeat (go_quiet (fail); try go_wp2)
            go_meet
            case rel => exact ⟨_, (decide ((rd t452 x8_2) > a1)), (by first | rfl | (simp; done) | (simp [*]; done)), H', ⟨by have := HJ8.out; have := HK2.out; first | omega | exact Nat.le_refl _⟩, ⟨by (with_reducible repeat (first | apply Kd.R_alloc | apply Kd.R_drewN | apply Kd.R_drew)); exact HO_5.out⟩, ⟨pB⟩⟩
          ·rw [if_neg c20] at H
           exact absurd H (by simp)
         case rest =>
          clear HC18
          try clear c1
          try clear c2
          try clear p2
          try clear c4
          try clear p4
          try clear q4
          try clear hx4
          try clear c8
          try clear c8b0
          try clear c8b1
          try clear c9
          try clear c11
          try clear c11b0
          try clear c11b1
          try clear c11b2
          try clear c12
          try clear c12b0
          try clear c16
          try clear c17
          try clear c17b0
          try clear c20
          try clear c20b0
          try clear c21
          try clear c21b0
          try clear hx457_0
          try clear hx458_0
          try clear p2
          try clear p457
          try clear p458
          try clear q457
          try clear q458
          obtain ⟨kq, x62_17, rfl, HA, HJ17, HO_5, HB⟩ := hcut
          cases kq with
          | zero => exact absurd HA.out (by simp [papermilllaw16_FibreMasses.j2])
          | succ kj17 =>
           have H := HA.out
           clear HA
           simp only [papermilllaw16_FibreMasses.j2] at H
           by_cases c22 : x62_17 = true
           ·subst c22
            have H1 : (none) = some r := by rw [if_pos rfl] at H; exact H
            clear H
            have H := H1
            clear H1
            exact absurd H (by simp)
           ·replace c22 := Bool.eq_false_iff.mpr c22
            subst c22
            have H1 : (if 0 ≤ x8_2 then (if x8_2 < (t452.length : Int) then (if x8_2 < (l0.length : Int) then (if (wrap64 ((wrap64 (1000 * (rd t452 x8_2))) - (wrap64 ((rd l0 x8_2) * a1)))) ≤ (-1000) then (none) else (if (wrap64 ((wrap64 (1000 * (rd t452 x8_2))) - (wrap64 ((rd l0 x8_2) * a1)))) ≥ 1000 then (none) else (papermilllaw16_FibreMasses.l0 kj17 l0 a1 t452 (wrap64 (x7_2 + (rd t452 x8_2))) (wrap64 (x8_2 + 1))))) else (none)) else (none)) else (none)) = some r := by rw [if_neg (show ¬ (false = true) by decide)] at H; exact H
            clear H
            have H := H1
            clear H1
            by_cases c23 : 0 ≤ x8_2
            ·rw [if_pos c23] at H
             have c23b0 : decide (0 ≤ x8_2) = true := decide_eq_true c23
             clear c23
             by_cases c24 : x8_2 < (t452.length : Int)
             ·rw [if_pos c24] at H
              have c24b0 : decide (x8_2 < (t452.length : Int)) = true := decide_eq_true c24
              clear c24
              by_cases c25 : x8_2 < (l0.length : Int)
              ·rw [if_pos c25] at H
               have c25b0 : decide (x8_2 < (l0.length : Int)) = true := decide_eq_true c25
               clear c25
               by_cases c26 : (wrap64 ((wrap64 (1000 * (rd t452 x8_2))) - (wrap64 ((rd l0 x8_2) * a1)))) ≤ (-1000)
               ·rw [if_pos c26] at H
                exact absurd H (by simp)
               ·rw [if_neg c26] at H
                have c26b0 : decide ((wrap64 ((wrap64 (1000 * (rd t452 x8_2))) - (wrap64 ((rd l0 x8_2) * a1)))) ≤ (-1000)) = false := decide_eq_false c26
                have c26b0w : decide ((IntKind.i64.wrap ((IntKind.i64.wrap (1000 * (rd t452 x8_2))) - (IntKind.i64.wrap ((rd l0 x8_2) * a1)))) ≤ (-1000)) = false := by have h_ := c26b0; first | exact h_ | (simp only [i64_w]; exact h_)
                clear c26
                by_cases c27 : (wrap64 ((wrap64 (1000 * (rd t452 x8_2))) - (wrap64 ((rd l0 x8_2) * a1)))) ≥ 1000
                ·rw [if_pos c27] at H
                 exact absurd H (by simp)
                ·rw [if_neg c27] at H
                 have c27b0 : decide (1000 ≤ (wrap64 ((wrap64 (1000 * (rd t452 x8_2))) - (wrap64 ((rd l0 x8_2) * a1))))) = false := decide_eq_false c27
                 have c27b0w : decide (1000 ≤ (IntKind.i64.wrap ((IntKind.i64.wrap (1000 * (rd t452 x8_2))) - (IntKind.i64.wrap ((rd l0 x8_2) * a1))))) = false := by have h_ := c27b0; first | exact h_ | (simp only [i64_w]; exact h_)
                 clear c27
                 have H' := Aside0.mk H
                 clear H
                 have p459 : 0 ≤ (x8_2 : Int) := of_decide_eq_true (by first | (with_reducible assumption) | assumption)
                 have q459 : x8_2 < (t452.length : Int) := of_decide_eq_true (by first | (with_reducible assumption) | assumption)
                 obtain ⟨ad459, e459, hx459_0⟩ := Kd.at_int (Kd.R_reads' HO_5.out).2.2 x8_2 p459 q459
                 cases e459
                 replace p459 := eq_true p459
                 replace q459 := eq_true q459
                 have p460 : 0 ≤ (x8_2 : Int) := of_decide_eq_true (by first | (with_reducible assumption) | assumption)
                 have q460 : x8_2 < (l0.length : Int) := of_decide_eq_true (by first | (with_reducible assumption) | assumption)
                 obtain ⟨ad460, e460, hx460_0⟩ := Kd.at_int HR0.out x8_2 p460 q460
                 cases e460
                 replace hx460_0 := (HB.out.cell (World.block_lt_of_cell? w _ hx460_0)).trans hx460_0
                 replace p460 := eq_true p460
                 replace q460 := eq_true q460
                 have p461 : 0 ≤ (x8_2 : Int) := of_decide_eq_true (by first | (with_reducible assumption) | assumption)
                 have q461 : x8_2 < (t452.length : Int) := of_decide_eq_true (by first | (with_reducible assumption) | assumption)
                 obtain ⟨ad461, e461, hx461_0⟩ := Kd.at_int (Kd.R_reads' HO_5.out).2.2 x8_2 p461 q461
                 obtain rfl : ad459 = ad461 := (by injection e461)
                 replace p461 := eq_true p461
                 replace q461 := eq_true q461
                 go_wp2
                 repeat (go_quiet (fail); try go_wp2)
                 go_roundg kj17
                 case measure => have := HJ8.out; have := HK2.out; have := HJ17.out; omega
                 case rel => exact ⟨(wrap64 (x7_2 + (rd t452 x8_2))), (wrap64 (x8_2 + 1)), (by first | rfl | (simp; done) | (simp [*]; done)), (by first | rfl | (simp; done) | (simp [*]; done)), H', ⟨by have := HJ8.out; have := HK2.out; have := HJ17.out; omega⟩, ⟨by (with_reducible repeat (first | apply Kd.R_alloc | apply Kd.R_drewN | apply Kd.R_drew)); exact HO_5.out⟩, ⟨pB⟩⟩
              ·rw [if_neg c25] at H
               exact absurd H (by simp)
             ·rw [if_neg c24] at H
              exact absurd H (by simp)
            ·rw [if_neg c23] at H
             exact absurd H (by simp)
        ·rw [if_neg c17] at H
         have c17b0 : decide (x8_2 < (t452.length : Int)) = false := decide_eq_false c17
         clear c17
         replace H := Option.bind_eq_some_iff.mp H
         obtain ⟨⟨t462, t463⟩, A280, H⟩ := H
         replace H : ((fibre_Near.f k2 t452 l0 1).bind fun bt464 => (if x7_2 = a1 then (if t463 = 0 then (papermilllaw16_FibreMasses.j3 k2 a1 bt464.1 bt464.2 (t462 != a1)) else (papermilllaw16_FibreMasses.j3 k2 a1 bt464.1 bt464.2 true)) else (papermilllaw16_FibreMasses.j3 k2 a1 bt464.1 bt464.2 true))) = some r := H
         have A28 := Aside0.mk A280
         clear A280
         replace H := Option.bind_eq_some_iff.mp H
         obtain ⟨⟨t464, t465⟩, A290, H⟩ := H
         replace H : (if x7_2 = a1 then (if t463 = 0 then (papermilllaw16_FibreMasses.j3 k2 a1 t464 t465 (t462 != a1)) else (papermilllaw16_FibreMasses.j3 k2 a1 t464 t465 true)) else (papermilllaw16_FibreMasses.j3 k2 a1 t464 t465 true)) = some r := H
         have A29 := Aside0.mk A290
         clear A290
         have HC30 := Aside0.mk H
         clear H
         obtain ⟨Ao31, co31, eo31⟩ := Kd.R_slice HO_5.out
         subst eo31
         go_upto_region 20 with (first | (go_at_call 29; (with_reducible refine (fibre_Total.calls k2 _ _ t452 t462 t463 _ ?side1 ?side2 A28.out).mono ?_); (case side1 => repeat (first | exact (Kd.R_reads' HO_5.out).2.2 | (with_reducible refine Kd.C_alloc ?_ _) | (with_reducible refine Kd.C_drewN ?_ _) | (with_reducible refine Kd.C_drew ?_))); (case side2 => exact (Kd.R_reads' HO_5.out).2.1); rintro e w32 ⟨rfl, hb⟩; replace HO_5 := Aside0.mk (Kd.R_below (rX HO_5.out) hb); replace HB := Aside0.mk (below_step pB hb); (try clear hb); (try clear hb2); (try clear hk); (try clear hi)) | (go_at_call 25; (with_reducible refine (fibre_Near.calls k2 _ _ t452 _ _ l0 1 t464 t465 _ ?side1 ?side2 ?side3 ?side4 A29.out).mono ?_); (case side1 => repeat (first | exact (Kd.R_reads' HO_5.out).2.2 | (with_reducible refine Kd.C_alloc ?_ _) | (with_reducible refine Kd.C_drewN ?_ _) | (with_reducible refine Kd.C_drew ?_))); (case side2 => exact (Kd.R_reads' HO_5.out).2.1); (case side3 => repeat (first | exact (Kd.C_below HR0.out HB.out) | (with_reducible refine Kd.C_alloc ?_ _) | (with_reducible refine Kd.C_drewN ?_ _) | (with_reducible refine Kd.C_drew ?_))); (case side4 => exact HC0.out); rintro e w33 ⟨rfl, hb⟩; replace HO_5 := Aside0.mk (Kd.R_below (rX HO_5.out) hb); replace HB := Aside0.mk (below_step pB hb); (try clear hb); (try clear hb2); (try clear hk); (try clear hi)))
         repeat (go_quiet (first | (go_at_call 29; (with_reducible refine (fibre_Total.calls k2 _ _ t452 t462 t463 _ ?side1 ?side2 A28.out).mono ?_); (case side1 => repeat (first | exact (Kd.R_reads' HO_5.out).2.2 | (with_reducible refine Kd.C_alloc ?_ _) | (with_reducible refine Kd.C_drewN ?_ _) | (with_reducible refine Kd.C_drew ?_))); (case side2 => exact (Kd.R_reads' HO_5.out).2.1); rintro e w32 ⟨rfl, hb⟩; replace HO_5 := Aside0.mk (Kd.R_below (rX HO_5.out) hb); replace HB := Aside0.mk (below_step pB hb); (try clear hb); (try clear hb2); (try clear hk); (try clear hi)) | (go_at_call 25; (with_reducible refine (fibre_Near.calls k2 _ _ t452 _ _ l0 1 t464 t465 _ ?side1 ?side2 ?side3 ?side4 A29.out).mono ?_); (case side1 => repeat (first | exact (Kd.R_reads' HO_5.out).2.2 | (with_reducible refine Kd.C_alloc ?_ _) | (with_reducible refine Kd.C_drewN ?_ _) | (with_reducible refine Kd.C_drew ?_))); (case side2 => exact (Kd.R_reads' HO_5.out).2.1); (case side3 => repeat (first | exact (Kd.C_below HR0.out HB.out) | (with_reducible refine Kd.C_alloc ?_ _) | (with_reducible refine Kd.C_drewN ?_ _) | (with_reducible refine Kd.C_drew ?_))); (case side4 => exact HC0.out); rintro e w33 ⟨rfl, hb⟩; replace HO_5 := Aside0.mk (Kd.R_below (rX HO_5.out) hb); replace HB := Aside0.mk (below_step pB hb); (try clear hb); (try clear hb2); (try clear hk); (try clear hi))); go_upto_region 20 with (first | (go_at_call 29; (with_reducible refine (fibre_Total.calls k2 _ _ t452 t462 t463 _ ?side1 ?side2 A28.out).mono ?_); (case side1 => repeat (first | exact (Kd.R_reads' HO_5.out).2.2 | (with_reducible refine Kd.C_alloc ?_ _) | (with_reducible refine Kd.C_drewN ?_ _) | (with_reducible refine Kd.C_drew ?_))); (case side2 => exact (Kd.R_reads' HO_5.out).2.1); rintro e w32 ⟨rfl, hb⟩; replace HO_5 := Aside0.mk (Kd.R_below (rX HO_5.out) hb); replace HB := Aside0.mk (below_step pB hb); (try clear hb); (try clear hb2); (try clear hk); (try clear hi)) | (go_at_call 25; (with_reducible refine (fibre_Near.calls k2 _ _ t452 _ _ l0 1 t464 t465 _ ?side1 ?side2 ?side3 ?side4 A29.out).mono ?_); (case side1 => repeat (first | exact (Kd.R_reads' HO_5.out).2.2 | (with_reducible refine Kd.C_alloc ?_ _) | (with_reducible refine Kd.C_drewN ?_ _) | (with_reducible refine Kd.C_drew ?_))); (case side2 => exact (Kd.R_reads' HO_5.out).2.1); (case side3 => repeat (first | exact (Kd.C_below HR0.out HB.out) | (with_reducible refine Kd.C_alloc ?_ _) | (with_reducible refine Kd.C_drewN ?_ _) | (with_reducible refine Kd.C_drew ?_))); (case side4 => exact HC0.out); rintro e w33 ⟨rfl, hb⟩; replace HO_5 := Aside0.mk (Kd.R_below (rX HO_5.out) hb); replace HB := Aside0.mk (below_step pB hb); (try clear hb); (try clear hb2); (try clear hk); (try clear hi))))
         (try simp only [Act.put, List.setIfInBounds_toArray, List.set_cons_zero, List.set_cons_succ])
         go_cut [109] (fun v109 wc => ∃ (kq : Nat) (x109_29 : Bool), v109 = .bool x109_29 ∧ Aside0 (papermilllaw16_FibreMasses.j3 kq a1 t464 t465 x109_29 = some r) ∧ Aside0 (kq ≤ k2) ∧ Aside0 (Below w.heap.size w wc))
         case first =>
          have H := HC30.out
          clear HC30
          by_cases c34 : x7_2 = a1
          ·rw [if_pos c34] at H
           have c34b0 : (x7_2 == a1) = true := beq_iff_eq.mpr c34
           have c34b1 : (x7_2 != a1) = false := bne_eq_false_iff_eq.mpr c34
           clear c34
           (first | rw [c34b0] | (simp only [i64_w, i32_w]; rw [c34b0]) | skip)
           by_cases c35 : t463 = 0
           ·rw [if_pos c35] at H
            have c35b0 : (t463 == 0) = true := beq_iff_eq.mpr c35
            have c35b1 : (t463 != 0) = false := bne_eq_false_iff_eq.mpr c35
            clear c35
            have H' := Aside0.mk H
            clear H
            go_wp2
            repeat (go_quiet (fail); try go_wp2)
            go_meet
            case rel => exact ⟨_, ((t462 != a1)), (by first | rfl | (simp; done) | (simp [*]; done)), H', ⟨by have := HJ8.out; have := HK2.out; first | omega | exact Nat.le_refl _⟩, ⟨pB⟩⟩
           ·rw [if_neg c35] at H
            have c35b0 : (t463 == 0) = false := beq_eq_false_iff_ne.mpr c35
            have c35b1 : (t463 != 0) = true := bne_iff_ne.mpr c35
            have H' := Aside0.mk H
            clear H
            go_wp2
            repeat (go_quiet (fail); try go_wp2)
            go_meet
            case rel => exact ⟨_, (true), (by first | rfl | (simp; done) | (simp [*]; done)), H', ⟨by have := HJ8.out; have := HK2.out; first | omega | exact Nat.le_refl _⟩, ⟨pB⟩⟩
          ·rw [if_neg c34] at H
           have c34b0 : (x7_2 == a1) = false := beq_eq_false_iff_ne.mpr c34
           have c34b1 : (x7_2 != a1) = true := bne_iff_ne.mpr c34
           (first | rw [c34b0] | (simp only [i64_w, i32_w]; rw [c34b0]) | skip)
           have H' := Aside0.mk H
           clear H
           go_wp2
           repeat (go_quiet (fail); try go_wp2)
           go_meet
           case rel => exact ⟨_, (true), (by first | rfl | (simp; done) | (simp [*]; done)), H', ⟨by have := HJ8.out; have := HK2.out; first | omega | exact Nat.le_refl _⟩, ⟨pB⟩⟩
         case rest =>
          clear HC30
          try clear c1
          try clear c2
          try clear p2
          try clear c3
          try clear c4
          try clear p4
          try clear q4
          try clear hx4
          try clear p6
          try clear c8
          try clear c8b0
          try clear c8b1
          try clear c9
          try clear c11
          try clear c11b0
          try clear c11b1
          try clear c11b2
          try clear c12
          try clear c12b0
          try clear c16
          try clear c17
          try clear c17b0
          try clear c20
          try clear c20b0
          try clear c21
          try clear c21b0
          try clear c22
          try clear c23
          try clear c23b0
          try clear c24
          try clear c24b0
          try clear c25
          try clear c25b0
          try clear c26
          try clear c26b0
          try clear c27
          try clear c27b0
          try clear c34
          try clear c34b0
          try clear c34b1
          try clear c35
          try clear c35b0
          try clear c35b1
          try clear hx457_0
          try clear hx458_0
          try clear hx459_0
          try clear hx460_0
          try clear hx461_0
          try clear p2
          try clear p4
          try clear p457
          try clear p458
          try clear p459
          try clear p460
          try clear p461
          try clear q4
          try clear q457
          try clear q458
          try clear q459
          try clear q460
          try clear q461
          obtain ⟨kq, x109_29, rfl, HA, HJ29, HB⟩ := hcut
          cases kq with
          | zero => exact absurd HA.out (by simp [papermilllaw16_FibreMasses.j3])
          | succ kj29 =>
           have H := HA.out
           clear HA
           simp only [papermilllaw16_FibreMasses.j3] at H
           by_cases c36 : x109_29 = true
           ·subst c36
            have H1 : (none) = some r := by rw [if_pos rfl] at H; exact H
            clear H
            have H := H1
            clear H1
            exact absurd H (by simp)
           ·replace c36 := Bool.eq_false_iff.mpr c36
            subst c36
            have H1 : (if a1 = 0 then (if t465 = 10 then (if t464 = true then (none) else ((papermilllaw16_awake.f kj29).bind fun t466 => (some t466))) else (none)) else (if t465 = 0 then (if a1 < 1000 then ((papermilllaw16_awake.f kj29).bind fun t467 => (some t467)) else (if t464 = true then ((papermilllaw16_awake.f kj29).bind fun t468 => (some t468)) else (none))) else (none))) = some r := by rw [if_neg (show ¬ (false = true) by decide)] at H; exact H
            clear H
            have H := H1
            clear H1
            by_cases c37 : a1 = 0
            ·rw [if_pos c37] at H
             have c37b0 : (a1 == 0) = true := beq_iff_eq.mpr c37
             have c37b1 : (a1 != 0) = false := bne_eq_false_iff_eq.mpr c37
             clear c37
             by_cases c38 : t465 = 10
             ·rw [if_pos c38] at H
              have c38b0 : (t465 == 10) = true := beq_iff_eq.mpr c38
              have c38b1 : (t465 != 10) = false := bne_eq_false_iff_eq.mpr c38
              clear c38
              by_cases c39 : t464 = true
              ·subst c39
               have H1 : (none) = some r := by rw [if_pos rfl] at H; exact H
               clear H
               have H := H1
               clear H1
               exact absurd H (by simp)
              ·replace c39 := Bool.eq_false_iff.mpr c39
               subst c39
               have H1 : ((papermilllaw16_awake.f kj29).bind fun t466 => (some t466)) = some r := by rw [if_neg (show ¬ (false = true) by decide)] at H; exact H
               clear H
               have H := H1
               clear H1
               replace H := Option.bind_eq_some_iff.mp H
               obtain ⟨t466, A400, H⟩ := H
               replace H : (some t466) = some r := H
               have A40 := Aside0.mk A400
               clear A400
               obtain rfl := Option.some.inj H
               go_wp2_with (first | (go_at_call 12; (with_reducible refine (papermilllaw16_awake.calls kj29  t466 _ A40.out).mono ?_); rintro e w41 ⟨rfl, hb⟩; replace HB := Aside0.mk (below_step pB hb); (try clear hb); (try clear hb2); (try clear hk); (try clear hi)))
               repeat (go_quiet (first | (go_at_call 12; (with_reducible refine (papermilllaw16_awake.calls kj29  t466 _ A40.out).mono ?_); rintro e w41 ⟨rfl, hb⟩; replace HB := Aside0.mk (below_step pB hb); (try clear hb); (try clear hb2); (try clear hk); (try clear hi))); try go_wp2_with (first | (go_at_call 12; (with_reducible refine (papermilllaw16_awake.calls kj29  t466 _ A40.out).mono ?_); rintro e w41 ⟨rfl, hb⟩; replace HB := Aside0.mk (below_step pB hb); (try clear hb); (try clear hb2); (try clear hk); (try clear hi))))
               go_ret
               exact ⟨by first | rfl | (simp [errW_none, errW_some] <;> rfl) | (simp [*, errW_none, errW_some] <;> rfl), pB⟩
             ·rw [if_neg c38] at H
              exact absurd H (by simp)
            ·rw [if_neg c37] at H
             have c37b0 : (a1 == 0) = false := beq_eq_false_iff_ne.mpr c37
             have c37b1 : (a1 != 0) = true := bne_iff_ne.mpr c37
             by_cases c42 : t465 = 0
             ·rw [if_pos c42] at H
              have c42b0 : (t465 == 0) = true := beq_iff_eq.mpr c42
              have c42b1 : (t465 != 0) = false := bne_eq_false_iff_eq.mpr c42
              clear c42
              by_cases c43 : a1 < 1000
              ·rw [if_pos c43] at H
               have c43b0 : decide (a1 < 1000) = true := decide_eq_true c43
               clear c43
               replace H := Option.bind_eq_some_iff.mp H
               obtain ⟨t467, A440, H⟩ := H
               replace H : (some t467) = some r := H
               have A44 := Aside0.mk A440
               clear A440
               obtain rfl := Option.some.inj H
               go_wp2_with (first | (go_at_call 12; (with_reducible refine (papermilllaw16_awake.calls kj29  t467 _ A44.out).mono ?_); rintro e w45 ⟨rfl, hb⟩; replace HB := Aside0.mk (below_step pB hb); (try clear hb); (try clear hb2); (try clear hk); (try clear hi)))
               repeat (go_quiet (first | (go_at_call 12; (with_reducible refine (papermilllaw16_awake.calls kj29  t467 _ A44.out).mono ?_); rintro e w45 ⟨rfl, hb⟩; replace HB := Aside0.mk (below_step pB hb); (try clear hb); (try clear hb2); (try clear hk); (try clear hi))); try go_wp2_with (first | (go_at_call 12; (with_reducible refine (papermilllaw16_awake.calls kj29  t467 _ A44.out).mono ?_); rintro e w45 ⟨rfl, hb⟩; replace HB := Aside0.mk (below_step pB hb); (try clear hb); (try clear hb2); (try clear hk); (try clear hi))))
               go_ret
               exact ⟨by first | rfl | (simp [errW_none, errW_some] <;> rfl) | (simp [*, errW_none, errW_some] <;> rfl), pB⟩
              ·rw [if_neg c43] at H
               have c43b0 : decide (a1 < 1000) = false := decide_eq_false c43
               clear c43
               by_cases c46 : t464 = true
               ·subst c46
                have H1 : ((papermilllaw16_awake.f kj29).bind fun t468 => (some t468)) = some r := by rw [if_pos rfl] at H; exact H
                clear H
                have H := H1
                clear H1
                replace H := Option.bind_eq_some_iff.mp H
                obtain ⟨t468, A470, H⟩ := H
                replace H : (some t468) = some r := H
                have A47 := Aside0.mk A470
                clear A470
                obtain rfl := Option.some.inj H
                go_wp2_with (first | (go_at_call 12; (with_reducible refine (papermilllaw16_awake.calls kj29  t468 _ A47.out).mono ?_); rintro e w48 ⟨rfl, hb⟩; replace HB := Aside0.mk (below_step pB hb); (try clear hb); (try clear hb2); (try clear hk); (try clear hi)))
                repeat (go_quiet (first | (go_at_call 12; (with_reducible refine (papermilllaw16_awake.calls kj29  t468 _ A47.out).mono ?_); rintro e w48 ⟨rfl, hb⟩; replace HB := Aside0.mk (below_step pB hb); (try clear hb); (try clear hb2); (try clear hk); (try clear hi))); try go_wp2_with (first | (go_at_call 12; (with_reducible refine (papermilllaw16_awake.calls kj29  t468 _ A47.out).mono ?_); rintro e w48 ⟨rfl, hb⟩; replace HB := Aside0.mk (below_step pB hb); (try clear hb); (try clear hb2); (try clear hk); (try clear hi))))
                go_ret
                exact ⟨by first | rfl | (simp [errW_none, errW_some] <;> rfl) | (simp [*, errW_none, errW_some] <;> rfl), pB⟩
               ·replace c46 := Bool.eq_false_iff.mpr c46
                subst c46
                have H1 : (none) = some r := by rw [if_neg (show ¬ (false = true) by decide)] at H; exact H
                clear H
                have H := H1
                clear H1
                exact absurd H (by simp)
             ·rw [if_neg c42] at H
              exact absurd H (by simp)
  ·rw [if_neg c8] at H
   have c8b0 : (t453 == 0) = false := beq_eq_false_iff_ne.mpr c8
   have c8b1 : (t453 != 0) = true := bne_iff_ne.mpr c8
   by_cases c49 : (t452.length : Int) = 0
   ·rw [if_pos c49] at H
    have c49b0 : ((t452.length : Int) == 0) = true := beq_iff_eq.mpr c49
    have c49b1 : ((t452.length : Int) != 0) = false := bne_eq_false_iff_eq.mpr c49
    clear c49
    replace H := Option.bind_eq_some_iff.mp H
    obtain ⟨t456, A500, H⟩ := H
    replace H : (some t456) = some r := H
    have A50 := Aside0.mk A500
    clear A500
    obtain rfl := Option.some.inj H
    go_enter Try.func9, Try.ntmps9
    have fl_ : True := trivial
    repeat ((first | clear fl_ | go_quiet (first | (go_at_call 15; (with_reducible refine (papermilllaw16_great.calls _ _ l0 false _ ?side1 ?side2 A3.out).mono ?_); (case side1 => repeat (first | exact HR0.out | (with_reducible refine Kd.C_alloc ?_ _) | (with_reducible refine Kd.C_drewN ?_ _) | (with_reducible refine Kd.C_drew ?_))); (case side2 => exact HC0.out); rintro e w' ⟨rfl, ⟨nd, rfl⟩⟩; (try first | exact ⟨rfl, _, World.drewN_drewN _ _ _⟩ | exact ⟨rfl, _, Eq.trans (World.drewN_drewN _ _ _) (congrArg (World.drewN _) (Nat.add_assoc _ _ _))⟩)) | (go_at_call 27; (with_reducible refine (fibre_Masses.calls k _ _ l0 a1 t452 t453 _ ?side1 ?side2 A7.out).mono ?_); (case side1 => repeat (first | exact HR0.out | (with_reducible refine Kd.C_alloc ?_ _) | (with_reducible refine Kd.C_drewN ?_ _) | (with_reducible refine Kd.C_drew ?_))); (case side2 => exact HC0.out); rintro e w51 ⟨v454, rfl, ho0, hb⟩; have HO455 := Aside0.mk (Kd.R_lower ho0 (below_size pB)); replace HB := Aside0.mk (below_step pB hb); (try clear hb); (try clear hb2); (try clear hk); (try clear hi); (try clear ho0); obtain ⟨Ao52, co52, eo52⟩ := Kd.R_slice HO455.out; subst eo52) | (go_at_call 12; (with_reducible refine (papermilllaw16_awake.calls k  t456 _ A50.out).mono ?_); rintro e w53 ⟨rfl, hb⟩; replace HO455 := Aside0.mk (Kd.R_below (rX HO455.out) hb); replace HB := Aside0.mk (below_step pB hb); (try clear hb); (try clear hb2); (try clear hk); (try clear hi)))); go_wp2_with (first | (go_at_call 15; (with_reducible refine (papermilllaw16_great.calls _ _ l0 false _ ?side1 ?side2 A3.out).mono ?_); (case side1 => repeat (first | exact HR0.out | (with_reducible refine Kd.C_alloc ?_ _) | (with_reducible refine Kd.C_drewN ?_ _) | (with_reducible refine Kd.C_drew ?_))); (case side2 => exact HC0.out); rintro e w' ⟨rfl, ⟨nd, rfl⟩⟩; (try first | exact ⟨rfl, _, World.drewN_drewN _ _ _⟩ | exact ⟨rfl, _, Eq.trans (World.drewN_drewN _ _ _) (congrArg (World.drewN _) (Nat.add_assoc _ _ _))⟩)) | (go_at_call 27; (with_reducible refine (fibre_Masses.calls k _ _ l0 a1 t452 t453 _ ?side1 ?side2 A7.out).mono ?_); (case side1 => repeat (first | exact HR0.out | (with_reducible refine Kd.C_alloc ?_ _) | (with_reducible refine Kd.C_drewN ?_ _) | (with_reducible refine Kd.C_drew ?_))); (case side2 => exact HC0.out); rintro e w51 ⟨v454, rfl, ho0, hb⟩; have HO455 := Aside0.mk (Kd.R_lower ho0 (below_size pB)); replace HB := Aside0.mk (below_step pB hb); (try clear hb); (try clear hb2); (try clear hk); (try clear hi); (try clear ho0); obtain ⟨Ao52, co52, eo52⟩ := Kd.R_slice HO455.out; subst eo52) | (go_at_call 12; (with_reducible refine (papermilllaw16_awake.calls k  t456 _ A50.out).mono ?_); rintro e w53 ⟨rfl, hb⟩; replace HO455 := Aside0.mk (Kd.R_below (rX HO455.out) hb); replace HB := Aside0.mk (below_step pB hb); (try clear hb); (try clear hb2); (try clear hk); (try clear hi))))
    go_ret
    exact ⟨by first | rfl | (simp [errW_none, errW_some] <;> rfl) | (simp [*, errW_none, errW_some] <;> rfl), pB⟩
   ·rw [if_neg c49] at H
    exact absurd H (by simp)

/-- THE ONE PURE STATEMENT of papermilllaw16_FibreMasses: yours. -/
def papermilllaw16_FibreMasses.Pure : Prop := ∀ (l0 : List Int) (a1 : Int), l0.length ≤ maxLen → l0.length * 8 ≤ 140737488351232 → (∀ x ∈ l0, (Lit.int .i64 x).wf = true) → (Lit.int .i64 a1).wf = true → ∃ k, papermilllaw16_FibreMasses.f k l0 a1 = some true
theorem papermilllaw16_FibreMasses.walk (P : papermilllaw16_FibreMasses.Pure) (a0 : Option Addr) (len0 cap0 : Nat) (z0 : List Int) (a1 : Int) (w : World) (w0 : (a0 = none ∧ len0 = 0 ∧ cap0 = 0 ∧ z0 = []) ∨ ∃ x, a0 = some x ∧ len0 ≤ cap0 ∧ cap0 ≤ maxLen ∧ z0.length = cap0 ∧ (∀ i, i < z0.length → w.cell? (x.add i) = some (.int .i64 (z0.getD i 0))) ∧ ∀ n ∈ z0, (Lit.int .i64 n).wf = true) (y0 : len0 * 8 ≤ 140737488351232) (w1 : (Lit.int .i64 a1).wf = true) :
  Calls Try.prog 9 #[.slice a0 len0 cap0, .int .i64 a1] w fun e w' => e = .returned (.bool true) ∧ Below w.heap.size w w' := by
 obtain ⟨l0, rfl, hr0, hm0, hw0, hc0⟩ := ReadsInt.ofRowC w0
 obtain ⟨k, h⟩ := P l0 a1 hm0 y0 hw0 w1
 refine (papermilllaw16_FibreMasses.calls k _ _ l0 a1 true w (Kd.C_of_reads (d := (0 : Int)) (h1 := fun _ => rfl) hr0) hc0 h).mono ?_
 rintro e w' ⟨rfl, hd⟩
 exact ⟨rfl, hd⟩

end Go.Proofs.Ytlnboodobmbcjaa.Print
