-- Written by wip/tools/myprint.py out of the translation. Not trusted: Lean checks it.
import Derived.Test.YtlnboodobmbcjaaPrint0
import Derived.Test.YtlnboodobmbcjaaPrint23
namespace Go.Proofs.Ytlnboodobmbcjaa.Print
open Go.RowKit Go.Proofs.YtlnboodobmbcjaaW.PrintWords Go.Proofs.YtlnboodobmbcjaaW.PrintLast Go.Proofs.YtlnboodobmbcjaaW.PrintMore
attribute [local go_sem] max2_int min2_int max_two min_two max_three min_three max_four min_four   -- for this text's walks alone
set_option linter.unusedVariables false
set_option linter.unusedSimpArgs false

/-! ### papermillref16_Near: function 26 -/
mutual
def papermillref16_Near.j0 : Nat → List Int → List Int → Int → Bool → Option (Bool × Int)
 | 0, _, _, _, _ => none
 | k + 1, x0, x1, x2, x32 => if x32 = true then (some (false, 1)) else ((papermillref16_Sum.f k x0).bind fun t397 => (if t397 = 0 then (some (false, 10)) else (papermillref16_Near.l0 k x0 x1 x2 t397 0)))
def papermillref16_Near.l0 : Nat → List Int → List Int → Int → Int → Int → Option (Bool × Int)
 | 0, _, _, _, _, _ => none
 | k + 1, x0, x1, x2, x10, x11 => if x11 < (x0.length : Int) then (if 0 ≤ x11 then (if x11 < (x1.length : Int) then (if (wrap64 ((wrap64 (1000 * (rd x0 x11))) - (wrap64 ((rd x1 x11) * x10)))) > (wrap64 (x2 * x10)) then (some (false, 0)) else (if (wrap64 ((wrap64 (1000 * (rd x0 x11))) - (wrap64 ((rd x1 x11) * x10)))) < (wrap64 ((wrap64 (-x2)) * x10)) then (some (false, 0)) else (papermillref16_Near.l0 k x0 x1 x2 x10 (wrap64 (x11 + 1))))) else (none)) else (none)) else (some (true, 0))
end
def papermillref16_Near.f (k : Nat) (l0 : List Int) (l1 : List Int) (a2 : Int) : Option (Bool × Int) := (papermillref16_Recipe.f k l1 (l1.length : Int)).bind fun t395 => (if t395 = 0 then ((papermillref16_Parts.f k l0 (l1.length : Int)).bind fun t396 => (if t396 = 0 then (if a2 < 0 then (papermillref16_Near.j0 k l0 l1 a2 true) else (papermillref16_Near.j0 k l0 l1 a2 (decide (a2 > 1000)))) else (some (false, t396)))) else (some (false, t395)))
theorem papermillref16_Near.mono_l : ∀ k, (∀ y0 y1 y2 y3, LeO (papermillref16_Near.j0 k y0 y1 y2 y3) (papermillref16_Near.j0 (k + 1) y0 y1 y2 y3)) ∧ (∀ y0 y1 y2 y3 y4, LeO (papermillref16_Near.l0 k y0 y1 y2 y3 y4) (papermillref16_Near.l0 (k + 1) y0 y1 y2 y3 y4))
 | 0 => ⟨fun _ _ _ _ r h => by simp [papermillref16_Near.j0] at h, fun _ _ _ _ _ r h => by simp [papermillref16_Near.l0] at h⟩
 | k + 1 => by
  obtain ⟨ih0, ih1⟩ := papermillref16_Near.mono_l k
  refine ⟨?_, ?_⟩
  ·intro y0 y1 y2 y3
   unfold papermillref16_Near.j0
   repeat' first
   | (with_reducible exact ih0 _ _ _ _)
   | (with_reducible exact ih1 _ _ _ _ _)
   | (with_reducible exact papermillref16_Parts.mono _ _ _)
   | (with_reducible exact papermillref16_Recipe.mono _ _ _)
   | (with_reducible exact papermillref16_Sum.mono _ _)
   | (with_reducible exact LeO.refl _)
   | (with_reducible exact LeO.none _)
   | (with_reducible refine LeO.ite ?_ ?_)
   | (with_reducible refine LeO.bind ?_ (fun _ => ?_))
   | exact ih0 _ _ _ _
   | exact ih1 _ _ _ _ _
   | exact papermillref16_Parts.mono _ _ _
   | exact papermillref16_Recipe.mono _ _ _
   | exact papermillref16_Sum.mono _ _
   | exact LeO.none _
   | refine LeO.ite ?_ ?_
   | refine LeO.bind ?_ (fun _ => ?_)
  ·intro y0 y1 y2 y3 y4
   unfold papermillref16_Near.l0
   repeat' first
   | (with_reducible exact ih0 _ _ _ _)
   | (with_reducible exact ih1 _ _ _ _ _)
   | (with_reducible exact papermillref16_Parts.mono _ _ _)
   | (with_reducible exact papermillref16_Recipe.mono _ _ _)
   | (with_reducible exact papermillref16_Sum.mono _ _)
   | (with_reducible exact LeO.refl _)
   | (with_reducible exact LeO.none _)
   | (with_reducible refine LeO.ite ?_ ?_)
   | (with_reducible refine LeO.bind ?_ (fun _ => ?_))
   | exact ih0 _ _ _ _
   | exact ih1 _ _ _ _ _
   | exact papermillref16_Parts.mono _ _ _
   | exact papermillref16_Recipe.mono _ _ _
   | exact papermillref16_Sum.mono _ _
   | exact LeO.none _
   | refine LeO.ite ?_ ?_
   | refine LeO.bind ?_ (fun _ => ?_)
theorem papermillref16_Near.mono : ∀ a0 a1 a2 k, LeO (papermillref16_Near.f k a0 a1 a2) (papermillref16_Near.f (k + 1) a0 a1 a2) := by
 intro a0 a1 a2 k
 obtain ⟨ih0, ih1⟩ := papermillref16_Near.mono_l k
 unfold papermillref16_Near.f
 repeat' first
   | (with_reducible exact ih0 _ _ _ _)
   | (with_reducible exact ih1 _ _ _ _ _)
   | (with_reducible exact papermillref16_Parts.mono _ _ _)
   | (with_reducible exact papermillref16_Recipe.mono _ _ _)
   | (with_reducible exact papermillref16_Sum.mono _ _)
   | (with_reducible exact LeO.refl _)
   | (with_reducible exact LeO.none _)
   | (with_reducible refine LeO.ite ?_ ?_)
   | (with_reducible refine LeO.bind ?_ (fun _ => ?_))
   | exact ih0 _ _ _ _
   | exact ih1 _ _ _ _ _
   | exact papermillref16_Parts.mono _ _ _
   | exact papermillref16_Recipe.mono _ _ _
   | exact papermillref16_Sum.mono _ _
   | exact LeO.none _
   | refine LeO.ite ?_ ?_
   | refine LeO.bind ?_ (fun _ => ?_)
set_option maxHeartbeats 8000000 in
set_option maxRecDepth 100000 in
theorem papermillref16_Near.calls (k : Nat) (A0 : Option Addr) (c0 : Nat) (l0 : List Int) (A1 : Option Addr) (c1 : Nat) (l1 : List Int) (a2 : Int) (r1 : Bool) (r2 : Int) (w : World) (hr0 : Kd.C (Kd.int .i64) w A0 l0.length l0) (hc0 : l0.length ≤ c0) (hr1 : Kd.C (Kd.int .i64) w A1 l1.length l1) (hc1 : l1.length ≤ c1) (h : papermillref16_Near.f k l0 l1 a2 = some (r1, r2)) :
  Calls Try.prog 26 #[.slice A0 l0.length c0, .slice A1 l1.length c1, .int .i64 a2] w fun e w' => e = .returned (.tuple #[.bool r1, .int .i64 r2]) ∧ Drawn0 w w' := by
 have HR0 := Aside0.mk hr0
 have HC0 := Aside0.mk hc0
 clear hr0 hc0
 have HR1 := Aside0.mk hr1
 have HC1 := Aside0.mk hc1
 clear hr1 hc1
 have H : ((papermillref16_Recipe.f k l1 (l1.length : Int)).bind fun t395 => (if t395 = 0 then ((papermillref16_Parts.f k l0 (l1.length : Int)).bind fun t396 => (if t396 = 0 then (if a2 < 0 then (papermillref16_Near.j0 k l0 l1 a2 true) else (papermillref16_Near.j0 k l0 l1 a2 (decide (a2 > 1000)))) else (some (false, t396)))) else (some (false, t395)))) = some (r1, r2) := h
 clear h
 replace H := Option.bind_eq_some_iff.mp H
 obtain ⟨t395, A40, H⟩ := H
 replace H : (if t395 = 0 then ((papermillref16_Parts.f k l0 (l1.length : Int)).bind fun t396 => (if t396 = 0 then (if a2 < 0 then (papermillref16_Near.j0 k l0 l1 a2 true) else (papermillref16_Near.j0 k l0 l1 a2 (decide (a2 > 1000)))) else (some (false, t396)))) else (some (false, t395))) = some (r1, r2) := H
 have A4 := Aside0.mk A40
 clear A40
 by_cases c5 : t395 = 0
 ·rw [if_pos c5] at H
  have c5b0 : (t395 == 0) = true := beq_iff_eq.mpr c5
  have c5b1 : (t395 != 0) = false := bne_eq_false_iff_eq.mpr c5
  clear c5
  replace H := Option.bind_eq_some_iff.mp H
  obtain ⟨t396, A60, H⟩ := H
  replace H : (if t396 = 0 then (if a2 < 0 then (papermillref16_Near.j0 k l0 l1 a2 true) else (papermillref16_Near.j0 k l0 l1 a2 (decide (a2 > 1000)))) else (some (false, t396))) = some (r1, r2) := H
  have A6 := Aside0.mk A60
  clear A60
  by_cases c7 : t396 = 0
  ·rw [if_pos c7] at H
   have c7b0 : (t396 == 0) = true := beq_iff_eq.mpr c7
   have c7b1 : (t396 != 0) = false := bne_eq_false_iff_eq.mpr c7
   clear c7
   have HC8 := Aside0.mk H
   clear H
   go_enter Try.func26, Try.ntmps26
   go_upto_region 7 with (first | (go_at_call 17; (with_reducible refine (papermillref16_Recipe.calls k _ _ l1 (l1.length : Int) t395 _ ?side1 ?side2 A4.out).mono ?_); (case side1 => repeat (first | exact HR1.out | (with_reducible refine Kd.C_alloc ?_ _) | (with_reducible refine Kd.C_drewN ?_ _) | (with_reducible refine Kd.C_drew ?_))); (case side2 => exact HC1.out); rintro e w' ⟨rfl, ⟨nd, rfl⟩⟩; (try first | exact ⟨rfl, _, World.drewN_drewN _ _ _⟩ | exact ⟨rfl, _, Eq.trans (World.drewN_drewN _ _ _) (congrArg (World.drewN _) (Nat.add_assoc _ _ _))⟩)) | (go_at_call 19; (with_reducible refine (papermillref16_Parts.calls k _ _ l0 (l1.length : Int) t396 _ ?side1 ?side2 A6.out).mono ?_); (case side1 => repeat (first | exact HR0.out | (with_reducible refine Kd.C_alloc ?_ _) | (with_reducible refine Kd.C_drewN ?_ _) | (with_reducible refine Kd.C_drew ?_))); (case side2 => exact HC0.out); rintro e w' ⟨rfl, ⟨nd, rfl⟩⟩; (try first | exact ⟨rfl, _, World.drewN_drewN _ _ _⟩ | exact ⟨rfl, _, Eq.trans (World.drewN_drewN _ _ _) (congrArg (World.drewN _) (Nat.add_assoc _ _ _))⟩)))
   repeat (go_quiet (first | (go_at_call 17; (with_reducible refine (papermillref16_Recipe.calls k _ _ l1 (l1.length : Int) t395 _ ?side1 ?side2 A4.out).mono ?_); (case side1 => repeat (first | exact HR1.out | (with_reducible refine Kd.C_alloc ?_ _) | (with_reducible refine Kd.C_drewN ?_ _) | (with_reducible refine Kd.C_drew ?_))); (case side2 => exact HC1.out); rintro e w' ⟨rfl, ⟨nd, rfl⟩⟩; (try first | exact ⟨rfl, _, World.drewN_drewN _ _ _⟩ | exact ⟨rfl, _, Eq.trans (World.drewN_drewN _ _ _) (congrArg (World.drewN _) (Nat.add_assoc _ _ _))⟩)) | (go_at_call 19; (with_reducible refine (papermillref16_Parts.calls k _ _ l0 (l1.length : Int) t396 _ ?side1 ?side2 A6.out).mono ?_); (case side1 => repeat (first | exact HR0.out | (with_reducible refine Kd.C_alloc ?_ _) | (with_reducible refine Kd.C_drewN ?_ _) | (with_reducible refine Kd.C_drew ?_))); (case side2 => exact HC0.out); rintro e w' ⟨rfl, ⟨nd, rfl⟩⟩; (try first | exact ⟨rfl, _, World.drewN_drewN _ _ _⟩ | exact ⟨rfl, _, Eq.trans (World.drewN_drewN _ _ _) (congrArg (World.drewN _) (Nat.add_assoc _ _ _))⟩))); go_upto_region 7 with (first | (go_at_call 17; (with_reducible refine (papermillref16_Recipe.calls k _ _ l1 (l1.length : Int) t395 _ ?side1 ?side2 A4.out).mono ?_); (case side1 => repeat (first | exact HR1.out | (with_reducible refine Kd.C_alloc ?_ _) | (with_reducible refine Kd.C_drewN ?_ _) | (with_reducible refine Kd.C_drew ?_))); (case side2 => exact HC1.out); rintro e w' ⟨rfl, ⟨nd, rfl⟩⟩; (try first | exact ⟨rfl, _, World.drewN_drewN _ _ _⟩ | exact ⟨rfl, _, Eq.trans (World.drewN_drewN _ _ _) (congrArg (World.drewN _) (Nat.add_assoc _ _ _))⟩)) | (go_at_call 19; (with_reducible refine (papermillref16_Parts.calls k _ _ l0 (l1.length : Int) t396 _ ?side1 ?side2 A6.out).mono ?_); (case side1 => repeat (first | exact HR0.out | (with_reducible refine Kd.C_alloc ?_ _) | (with_reducible refine Kd.C_drewN ?_ _) | (with_reducible refine Kd.C_drew ?_))); (case side2 => exact HC0.out); rintro e w' ⟨rfl, ⟨nd, rfl⟩⟩; (try first | exact ⟨rfl, _, World.drewN_drewN _ _ _⟩ | exact ⟨rfl, _, Eq.trans (World.drewN_drewN _ _ _) (congrArg (World.drewN _) (Nat.add_assoc _ _ _))⟩))))
   (try simp only [Act.put, List.setIfInBounds_toArray, List.set_cons_zero, List.set_cons_succ])
   go_cut [32] (fun v32 wc => ∃ (kq : Nat) (x32_7 : Bool), v32 = .bool x32_7 ∧ Aside0 (papermillref16_Near.j0 kq l0 l1 a2 x32_7 = some (r1, r2)) ∧ Aside0 (kq ≤ k) ∧ Drawn0 w wc)
   case first =>
    have H := HC8.out
    clear HC8
    by_cases c9 : a2 < 0
    ·rw [if_pos c9] at H
     have c9b0 : decide (a2 < 0) = true := decide_eq_true c9
     clear c9
     (first | rw [c9b0] | (simp only [i64_w, i32_w]; rw [c9b0]) | skip)
     have H' := Aside0.mk H
     clear H
     go_wp2
     repeat (go_quiet (fail); try go_wp2)
     go_meet
     case rel => exact ⟨_, (true), (by first | rfl | (simp; done) | (simp [*]; done)), H', ⟨by first | omega | exact Nat.le_refl _⟩, by repeat (first | exact Drawn0.refl _ | apply Drawn0.step)⟩
    ·rw [if_neg c9] at H
     have c9b0 : decide (a2 < 0) = false := decide_eq_false c9
     clear c9
     (first | rw [c9b0] | (simp only [i64_w, i32_w]; rw [c9b0]) | skip)
     have H' := Aside0.mk H
     clear H
     go_wp2
     repeat (go_quiet (fail); try go_wp2)
     go_meet
     case rel => exact ⟨_, (decide (a2 > 1000)), (by first | rfl | (simp; done) | (simp [*]; done)), H', ⟨by first | omega | exact Nat.le_refl _⟩, by repeat (first | exact Drawn0.refl _ | apply Drawn0.step)⟩
   case rest =>
    clear HC8
    try clear c1
    try clear c2
    try clear p2
    try clear c5
    try clear c5b0
    try clear c5b1
    try clear c7
    try clear c7b0
    try clear c7b1
    try clear c9
    try clear c9b0
    obtain ⟨kq, x32_7, rfl, HA, HJ7, ⟨mc7, rfl⟩⟩ := hcut
    cases kq with
    | zero => exact absurd HA.out (by simp [papermillref16_Near.j0])
    | succ kj7 =>
     have H := HA.out
     clear HA
     simp only [papermillref16_Near.j0] at H
     by_cases c10 : x32_7 = true
     ·subst c10
      have H1 : (some (false, 1)) = some (r1, r2) := by rw [if_pos rfl] at H; exact H
      clear H
      have H := H1
      clear H1
      simp only [Option.some.injEq, Prod.mk.injEq] at H
      obtain ⟨rfl, rfl⟩ := H
      go_wp2
      repeat (go_quiet (fail); try go_wp2)
      go_ret2
      exact ⟨by first | rfl | (simp; done) | (simp [*]; done), by repeat (first | exact Drawn0.refl _ | apply Drawn0.step)⟩
     ·replace c10 := Bool.eq_false_iff.mpr c10
      subst c10
      have H1 : ((papermillref16_Sum.f kj7 l0).bind fun t397 => (if t397 = 0 then (some (false, 10)) else (papermillref16_Near.l0 kj7 l0 l1 a2 t397 0))) = some (r1, r2) := by rw [if_neg (show ¬ (false = true) by decide)] at H; exact H
      clear H
      have H := H1
      clear H1
      replace H := Option.bind_eq_some_iff.mp H
      obtain ⟨t397, A110, H⟩ := H
      replace H : (if t397 = 0 then (some (false, 10)) else (papermillref16_Near.l0 kj7 l0 l1 a2 t397 0)) = some (r1, r2) := H
      have A11 := Aside0.mk A110
      clear A110
      by_cases c12 : t397 = 0
      ·rw [if_pos c12] at H
       have c12b0 : (t397 == 0) = true := beq_iff_eq.mpr c12
       have c12b1 : (t397 != 0) = false := bne_eq_false_iff_eq.mpr c12
       clear c12
       simp only [Option.some.injEq, Prod.mk.injEq] at H
       obtain ⟨rfl, rfl⟩ := H
       have fl_ : True := trivial
       repeat ((first | clear fl_ | go_quiet (first | (go_at_call 39; (with_reducible refine (papermillref16_Sum.calls kj7 _ _ l0 t397 _ ?side1 ?side2 A11.out).mono ?_); (case side1 => repeat (first | exact HR0.out | (with_reducible refine Kd.C_alloc ?_ _) | (with_reducible refine Kd.C_drewN ?_ _) | (with_reducible refine Kd.C_drew ?_))); (case side2 => exact HC0.out); rintro e w' ⟨rfl, ⟨nd, rfl⟩⟩; (try first | exact ⟨rfl, _, World.drewN_drewN _ _ _⟩ | exact ⟨rfl, _, Eq.trans (World.drewN_drewN _ _ _) (congrArg (World.drewN _) (Nat.add_assoc _ _ _))⟩)))); go_wp2_with (first | (go_at_call 39; (with_reducible refine (papermillref16_Sum.calls kj7 _ _ l0 t397 _ ?side1 ?side2 A11.out).mono ?_); (case side1 => repeat (first | exact HR0.out | (with_reducible refine Kd.C_alloc ?_ _) | (with_reducible refine Kd.C_drewN ?_ _) | (with_reducible refine Kd.C_drew ?_))); (case side2 => exact HC0.out); rintro e w' ⟨rfl, ⟨nd, rfl⟩⟩; (try first | exact ⟨rfl, _, World.drewN_drewN _ _ _⟩ | exact ⟨rfl, _, Eq.trans (World.drewN_drewN _ _ _) (congrArg (World.drewN _) (Nat.add_assoc _ _ _))⟩))))
       go_ret2
       exact ⟨by first | rfl | (simp; done) | (simp [*]; done), by repeat (first | exact Drawn0.refl _ | apply Drawn0.step)⟩
      ·rw [if_neg c12] at H
       have c12b0 : (t397 == 0) = false := beq_eq_false_iff_ne.mpr c12
       have c12b1 : (t397 != 0) = true := bne_iff_ne.mpr c12
       have H' := Aside0.mk H
       clear H
       have fl_ : True := trivial
       repeat ((first | clear fl_ | go_quiet (first | (go_at_call 39; (with_reducible refine (papermillref16_Sum.calls kj7 _ _ l0 t397 _ ?side1 ?side2 A11.out).mono ?_); (case side1 => repeat (first | exact HR0.out | (with_reducible refine Kd.C_alloc ?_ _) | (with_reducible refine Kd.C_drewN ?_ _) | (with_reducible refine Kd.C_drew ?_))); (case side2 => exact HC0.out); rintro e w' ⟨rfl, ⟨nd, rfl⟩⟩; (try first | exact ⟨rfl, _, World.drewN_drewN _ _ _⟩ | exact ⟨rfl, _, Eq.trans (World.drewN_drewN _ _ _) (congrArg (World.drewN _) (Nat.add_assoc _ _ _))⟩)))); go_wp2_with (first | (go_at_call 39; (with_reducible refine (papermillref16_Sum.calls kj7 _ _ l0 t397 _ ?side1 ?side2 A11.out).mono ?_); (case side1 => repeat (first | exact HR0.out | (with_reducible refine Kd.C_alloc ?_ _) | (with_reducible refine Kd.C_drewN ?_ _) | (with_reducible refine Kd.C_drew ?_))); (case side2 => exact HC0.out); rintro e w' ⟨rfl, ⟨nd, rfl⟩⟩; (try first | exact ⟨rfl, _, World.drewN_drewN _ _ _⟩ | exact ⟨rfl, _, Eq.trans (World.drewN_drewN _ _ _) (congrArg (World.drewN _) (Nat.add_assoc _ _ _))⟩))))
       try simp only [Act.put, List.setIfInBounds_toArray, List.set_cons_zero, List.set_cons_succ]
       go_loopg [11] kj7 (fun kq v11 w' => ∃ (x11_2 : Int), v11 = .int .i64 x11_2 ∧ Aside0 (papermillref16_Near.l0 kq l0 l1 a2 t397 x11_2 = some (r1, r2)) ∧ Aside0 (kq ≤ kj7) ∧ Drawn0 w w')
       case atStart => exact ⟨(0), (by first | rfl | (simp; done) | (simp [*]; done)), H', ⟨Nat.le_refl _⟩, by repeat (first | exact Drawn0.refl _ | apply Drawn0.step)⟩
       case round =>
        clear H'
        try clear c1
        try clear c2
        try clear p2
        try clear c5
        try clear c5b0
        try clear c5b1
        try clear c7
        try clear c7b0
        try clear c7b1
        try clear c9
        try clear c9b0
        try clear c10
        try clear c12
        try clear c12b0
        try clear c12b1
        try clear p2
        obtain ⟨x11_2, rfl, HA, HK2, ⟨m2, rfl⟩⟩ := hrel
        cases gk with
        | zero => exact absurd HA.out (by simp [papermillref16_Near.l0])
        | succ k2 =>
         have H := HA.out
         clear HA
         simp only [papermillref16_Near.l0] at H
         by_cases c13 : x11_2 < (l0.length : Int)
         ·rw [if_pos c13] at H
          have c13b0 : decide (x11_2 < (l0.length : Int)) = true := decide_eq_true c13
          clear c13
          by_cases c14 : 0 ≤ x11_2
          ·rw [if_pos c14] at H
           have c14b0 : decide (0 ≤ x11_2) = true := decide_eq_true c14
           clear c14
           by_cases c15 : x11_2 < (l1.length : Int)
           ·rw [if_pos c15] at H
            have c15b0 : decide (x11_2 < (l1.length : Int)) = true := decide_eq_true c15
            clear c15
            by_cases c16 : (wrap64 ((wrap64 (1000 * (rd l0 x11_2))) - (wrap64 ((rd l1 x11_2) * t397)))) > (wrap64 (a2 * t397))
            ·rw [if_pos c16] at H
             have c16b0 : decide ((wrap64 (a2 * t397)) < (wrap64 ((wrap64 (1000 * (rd l0 x11_2))) - (wrap64 ((rd l1 x11_2) * t397))))) = true := decide_eq_true c16
             have c16b0w : decide ((IntKind.i64.wrap (a2 * t397)) < (IntKind.i64.wrap ((IntKind.i64.wrap (1000 * (rd l0 x11_2))) - (IntKind.i64.wrap ((rd l1 x11_2) * t397))))) = true := by have h_ := c16b0; first | exact h_ | (simp only [i64_w]; exact h_)
             clear c16
             simp only [Option.some.injEq, Prod.mk.injEq] at H
             obtain ⟨rfl, rfl⟩ := H
             have p398 : 0 ≤ (x11_2 : Int) := of_decide_eq_true (by first | (with_reducible assumption) | assumption)
             have q398 : x11_2 < (l0.length : Int) := of_decide_eq_true (by first | (with_reducible assumption) | assumption)
             obtain ⟨ad398, e398, hx398_0⟩ := Kd.at_int HR0.out x11_2 p398 q398
             cases e398
             replace p398 := eq_true p398
             replace q398 := eq_true q398
             have p399 : 0 ≤ (x11_2 : Int) := of_decide_eq_true (by first | (with_reducible assumption) | assumption)
             have q399 : x11_2 < (l1.length : Int) := of_decide_eq_true (by first | (with_reducible assumption) | assumption)
             obtain ⟨ad399, e399, hx399_0⟩ := Kd.at_int HR1.out x11_2 p399 q399
             cases e399
             replace p399 := eq_true p399
             replace q399 := eq_true q399
             go_wp2
             repeat (go_quiet (fail); try go_wp2)
             go_ret2
             exact ⟨by first | rfl | (simp; done) | (simp [*]; done), by repeat (first | exact Drawn0.refl _ | apply Drawn0.step)⟩
            ·rw [if_neg c16] at H
             have c16b0 : decide ((wrap64 (a2 * t397)) < (wrap64 ((wrap64 (1000 * (rd l0 x11_2))) - (wrap64 ((rd l1 x11_2) * t397))))) = false := decide_eq_false c16
             have c16b0w : decide ((IntKind.i64.wrap (a2 * t397)) < (IntKind.i64.wrap ((IntKind.i64.wrap (1000 * (rd l0 x11_2))) - (IntKind.i64.wrap ((rd l1 x11_2) * t397))))) = false := by have h_ := c16b0; first | exact h_ | (simp only [i64_w]; exact h_)
             clear c16
             by_cases c17 : (wrap64 ((wrap64 (1000 * (rd l0 x11_2))) - (wrap64 ((rd l1 x11_2) * t397)))) < (wrap64 ((wrap64 (-a2)) * t397))
             ·rw [if_pos c17] at H
              have c17b0 : decide ((wrap64 ((wrap64 (1000 * (rd l0 x11_2))) - (wrap64 ((rd l1 x11_2) * t397)))) < (wrap64 ((wrap64 (-a2)) * t397))) = true := decide_eq_true c17
              have c17b0w : decide ((IntKind.i64.wrap ((IntKind.i64.wrap (1000 * (rd l0 x11_2))) - (IntKind.i64.wrap ((rd l1 x11_2) * t397)))) < (IntKind.i64.wrap ((IntKind.i64.wrap (-a2)) * t397))) = true := by have h_ := c17b0; first | exact h_ | (simp only [i64_w]; exact h_)
              clear c17
              simp only [Option.some.injEq, Prod.mk.injEq] at H
              obtain ⟨rfl, rfl⟩ := H
              have p398 : 0 ≤ (x11_2 : Int) := of_decide_eq_true (by first | (with_reducible assumption) | assumption)
              have q398 : x11_2 < (l0.length : Int) := of_decide_eq_true (by first | (with_reducible assumption) | assumption)
              obtain ⟨ad398, e398, hx398_0⟩ := Kd.at_int HR0.out x11_2 p398 q398
              cases e398
              replace p398 := eq_true p398
              replace q398 := eq_true q398
              have p399 : 0 ≤ (x11_2 : Int) := of_decide_eq_true (by first | (with_reducible assumption) | assumption)
              have q399 : x11_2 < (l1.length : Int) := of_decide_eq_true (by first | (with_reducible assumption) | assumption)
              obtain ⟨ad399, e399, hx399_0⟩ := Kd.at_int HR1.out x11_2 p399 q399
              cases e399
              replace p399 := eq_true p399
              replace q399 := eq_true q399
              go_wp2
              repeat (go_quiet (fail); try go_wp2)
              go_ret2
              exact ⟨by first | rfl | (simp; done) | (simp [*]; done), by repeat (first | exact Drawn0.refl _ | apply Drawn0.step)⟩
             ·rw [if_neg c17] at H
              have c17b0 : decide ((wrap64 ((wrap64 (1000 * (rd l0 x11_2))) - (wrap64 ((rd l1 x11_2) * t397)))) < (wrap64 ((wrap64 (-a2)) * t397))) = false := decide_eq_false c17
              have c17b0w : decide ((IntKind.i64.wrap ((IntKind.i64.wrap (1000 * (rd l0 x11_2))) - (IntKind.i64.wrap ((rd l1 x11_2) * t397)))) < (IntKind.i64.wrap ((IntKind.i64.wrap (-a2)) * t397))) = false := by have h_ := c17b0; first | exact h_ | (simp only [i64_w]; exact h_)
              clear c17
              have H' := Aside0.mk H
              clear H
              have p398 : 0 ≤ (x11_2 : Int) := of_decide_eq_true (by first | (with_reducible assumption) | assumption)
              have q398 : x11_2 < (l0.length : Int) := of_decide_eq_true (by first | (with_reducible assumption) | assumption)
              obtain ⟨ad398, e398, hx398_0⟩ := Kd.at_int HR0.out x11_2 p398 q398
              cases e398
              replace p398 := eq_true p398
              replace q398 := eq_true q398
              have p399 : 0 ≤ (x11_2 : Int) := of_decide_eq_true (by first | (with_reducible assumption) | assumption)
              have q399 : x11_2 < (l1.length : Int) := of_decide_eq_true (by first | (with_reducible assumption) | assumption)
              obtain ⟨ad399, e399, hx399_0⟩ := Kd.at_int HR1.out x11_2 p399 q399
              cases e399
              replace p399 := eq_true p399
              replace q399 := eq_true q399
              go_wp2
              repeat (go_quiet (fail); try go_wp2)
              go_roundg k2
              case measure => have := HJ7.out; have := HK2.out; omega
              case rel => exact ⟨(wrap64 (x11_2 + 1)), (by first | rfl | (simp; done) | (simp [*]; done)), H', ⟨by have := HJ7.out; have := HK2.out; omega⟩, by repeat (first | exact Drawn0.refl _ | apply Drawn0.step)⟩
           ·rw [if_neg c15] at H
            exact absurd H (by simp)
          ·rw [if_neg c14] at H
           exact absurd H (by simp)
         ·rw [if_neg c13] at H
          have c13b0 : decide (x11_2 < (l0.length : Int)) = false := decide_eq_false c13
          clear c13
          simp only [Option.some.injEq, Prod.mk.injEq] at H
          obtain ⟨rfl, rfl⟩ := H
          go_wp2
          repeat (go_quiet (fail); try go_wp2)
          go_ret2
          exact ⟨by first | rfl | (simp; done) | (simp [*]; done), by repeat (first | exact Drawn0.refl _ | apply Drawn0.step)⟩
  ·rw [if_neg c7] at H
   have c7b0 : (t396 == 0) = false := beq_eq_false_iff_ne.mpr c7
   have c7b1 : (t396 != 0) = true := bne_iff_ne.mpr c7
   simp only [Option.some.injEq, Prod.mk.injEq] at H
   obtain ⟨rfl, rfl⟩ := H
   go_enter Try.func26, Try.ntmps26
   have fl_ : True := trivial
   repeat ((first | clear fl_ | go_quiet (first | (go_at_call 17; (with_reducible refine (papermillref16_Recipe.calls k _ _ l1 (l1.length : Int) t395 _ ?side1 ?side2 A4.out).mono ?_); (case side1 => repeat (first | exact HR1.out | (with_reducible refine Kd.C_alloc ?_ _) | (with_reducible refine Kd.C_drewN ?_ _) | (with_reducible refine Kd.C_drew ?_))); (case side2 => exact HC1.out); rintro e w' ⟨rfl, ⟨nd, rfl⟩⟩; (try first | exact ⟨rfl, _, World.drewN_drewN _ _ _⟩ | exact ⟨rfl, _, Eq.trans (World.drewN_drewN _ _ _) (congrArg (World.drewN _) (Nat.add_assoc _ _ _))⟩)) | (go_at_call 19; (with_reducible refine (papermillref16_Parts.calls k _ _ l0 (l1.length : Int) t396 _ ?side1 ?side2 A6.out).mono ?_); (case side1 => repeat (first | exact HR0.out | (with_reducible refine Kd.C_alloc ?_ _) | (with_reducible refine Kd.C_drewN ?_ _) | (with_reducible refine Kd.C_drew ?_))); (case side2 => exact HC0.out); rintro e w' ⟨rfl, ⟨nd, rfl⟩⟩; (try first | exact ⟨rfl, _, World.drewN_drewN _ _ _⟩ | exact ⟨rfl, _, Eq.trans (World.drewN_drewN _ _ _) (congrArg (World.drewN _) (Nat.add_assoc _ _ _))⟩)))); go_wp2_with (first | (go_at_call 17; (with_reducible refine (papermillref16_Recipe.calls k _ _ l1 (l1.length : Int) t395 _ ?side1 ?side2 A4.out).mono ?_); (case side1 => repeat (first | exact HR1.out | (with_reducible refine Kd.C_alloc ?_ _) | (with_reducible refine Kd.C_drewN ?_ _) | (with_reducible refine Kd.C_drew ?_))); (case side2 => exact HC1.out); rintro e w' ⟨rfl, ⟨nd, rfl⟩⟩; (try first | exact ⟨rfl, _, World.drewN_drewN _ _ _⟩ | exact ⟨rfl, _, Eq.trans (World.drewN_drewN _ _ _) (congrArg (World.drewN _) (Nat.add_assoc _ _ _))⟩)) | (go_at_call 19; (with_reducible refine (papermillref16_Parts.calls k _ _ l0 (l1.length : Int) t396 _ ?side1 ?side2 A6.out).mono ?_); (case side1 => repeat (first | exact HR0.out | (with_reducible refine Kd.C_alloc ?_ _) | (with_reducible refine Kd.C_drewN ?_ _) | (with_reducible refine Kd.C_drew ?_))); (case side2 => exact HC0.out); rintro e w' ⟨rfl, ⟨nd, rfl⟩⟩; (try first | exact ⟨rfl, _, World.drewN_drewN _ _ _⟩ | exact ⟨rfl, _, Eq.trans (World.drewN_drewN _ _ _) (congrArg (World.drewN _) (Nat.add_assoc _ _ _))⟩))))
   go_ret2
   exact ⟨by first | rfl | (simp; done) | (simp [*]; done), by repeat (first | exact Drawn0.refl _ | apply Drawn0.step)⟩
 ·rw [if_neg c5] at H
  have c5b0 : (t395 == 0) = false := beq_eq_false_iff_ne.mpr c5
  have c5b1 : (t395 != 0) = true := bne_iff_ne.mpr c5
  simp only [Option.some.injEq, Prod.mk.injEq] at H
  obtain ⟨rfl, rfl⟩ := H
  go_enter Try.func26, Try.ntmps26
  have fl_ : True := trivial
  repeat ((first | clear fl_ | go_quiet (first | (go_at_call 17; (with_reducible refine (papermillref16_Recipe.calls k _ _ l1 (l1.length : Int) t395 _ ?side1 ?side2 A4.out).mono ?_); (case side1 => repeat (first | exact HR1.out | (with_reducible refine Kd.C_alloc ?_ _) | (with_reducible refine Kd.C_drewN ?_ _) | (with_reducible refine Kd.C_drew ?_))); (case side2 => exact HC1.out); rintro e w' ⟨rfl, ⟨nd, rfl⟩⟩; (try first | exact ⟨rfl, _, World.drewN_drewN _ _ _⟩ | exact ⟨rfl, _, Eq.trans (World.drewN_drewN _ _ _) (congrArg (World.drewN _) (Nat.add_assoc _ _ _))⟩)))); go_wp2_with (first | (go_at_call 17; (with_reducible refine (papermillref16_Recipe.calls k _ _ l1 (l1.length : Int) t395 _ ?side1 ?side2 A4.out).mono ?_); (case side1 => repeat (first | exact HR1.out | (with_reducible refine Kd.C_alloc ?_ _) | (with_reducible refine Kd.C_drewN ?_ _) | (with_reducible refine Kd.C_drew ?_))); (case side2 => exact HC1.out); rintro e w' ⟨rfl, ⟨nd, rfl⟩⟩; (try first | exact ⟨rfl, _, World.drewN_drewN _ _ _⟩ | exact ⟨rfl, _, Eq.trans (World.drewN_drewN _ _ _) (congrArg (World.drewN _) (Nat.add_assoc _ _ _))⟩))))
  go_ret2
  exact ⟨by first | rfl | (simp; done) | (simp [*]; done), by repeat (first | exact Drawn0.refl _ | apply Drawn0.step)⟩

end Go.Proofs.Ytlnboodobmbcjaa.Print
