-- Written by wip/tools/myprint.py out of the translation. Not trusted: Lean checks it.
import Derived.Test.YtpjcpgobdiahpaaPrint0
import Derived.Test.YtpjcpgobdiahpaaPrint2
import Derived.Test.YtpjcpgobdiahpaaPrint5
import Derived.Test.YtpjcpgobdiahpaaPrint14
import Derived.Test.YtpjcpgobdiahpaaPrint15
import Derived.Test.YtpjcpgobdiahpaaPrint16
import Derived.Test.YtpjcpgobdiahpaaPrint29
namespace Go.Proofs.Ytpjcpgobdiahpaa.Print
open Go.RowKit Go.Proofs.YtpjcpgobdiahpaaW.PrintWords Go.Proofs.YtpjcpgobdiahpaaW.PrintLast Go.Proofs.YtpjcpgobdiahpaaW.PrintMore
attribute [local go_sem] max2_int min2_int max_two min_two max_three min_three max_four min_four   -- for this text's walks alone
set_option linter.unusedVariables false
set_option linter.unusedSimpArgs false

/-! ### papermilllaw18_ChestKeeps: function 7 -/
mutual
def papermilllaw18_ChestKeeps.j0 : Nat → Int → Bool → Int → List Int → Int → List Int → Option (Bool)
 | 0, _, _, _, _, _, _ => none
 | k + 1, x2, x29, x520000, x520001, x521000, x521001 => if x29 = true then ((papermilllaw18_awake.f k).bind fun t521 => (some t521)) else ((chest_Draw.f k x520000 x520001 x2).bind fun bt522 => (if bt522.2.2.2 = 0 then (if (bt522.2.1.length : Int) = (x520001.length : Int) then (if (bt522.2.2.1.length : Int) = (x520001.length : Int) then (if bt522.1 = x520000 then ((chest_Check.f k bt522.1 bt522.2.1).bind fun t531 => (papermilllaw18_ChestKeeps.j1 k x2 bt522.2.2.1 0 (t531 != 0) x520000 x520001 x521000 x521001 bt522.1 bt522.2.1)) else (papermilllaw18_ChestKeeps.j1 k x2 bt522.2.2.1 0 true x520000 x520001 x521000 x521001 bt522.1 bt522.2.1)) else (papermilllaw18_ChestKeeps.j1 k x2 bt522.2.2.1 0 true x520000 x520001 x521000 x521001 bt522.1 bt522.2.1)) else (papermilllaw18_ChestKeeps.j1 k x2 bt522.2.2.1 0 true x520000 x520001 x521000 x521001 bt522.1 bt522.2.1)) else (papermilllaw18_ChestKeeps.j3 k x2 x520000 x520001 x521000 x521001)))
def papermilllaw18_ChestKeeps.j3 : Nat → Int → Int → List Int → Int → List Int → Option (Bool)
 | 0, _, _, _, _, _ => none
 | k + 1, x2, x520000, x520001, x521000, x521001 => (chest_Pour.f k x520000 x520001 x521000 x521001 x2).bind fun bt547 => (if bt547.2.2.2.2 = 0 then (if (bt547.2.1.length : Int) = (x520001.length : Int) then (if (bt547.2.2.2.1.length : Int) = (x520001.length : Int) then (if (x521001.length : Int) = (x520001.length : Int) then (if bt547.1 = x520000 then (papermilllaw18_ChestKeeps.j4 k (bt547.2.2.1 != x521000) x520000 x520001 x521000 x521001 bt547.1 bt547.2.1 bt547.2.2.1 bt547.2.2.2.1) else (papermilllaw18_ChestKeeps.j4 k true x520000 x520001 x521000 x521001 bt547.1 bt547.2.1 bt547.2.2.1 bt547.2.2.2.1)) else (papermilllaw18_ChestKeeps.j4 k true x520000 x520001 x521000 x521001 bt547.1 bt547.2.1 bt547.2.2.1 bt547.2.2.2.1)) else (papermilllaw18_ChestKeeps.j4 k true x520000 x520001 x521000 x521001 bt547.1 bt547.2.1 bt547.2.2.1 bt547.2.2.2.1)) else (papermilllaw18_ChestKeeps.j4 k true x520000 x520001 x521000 x521001 bt547.1 bt547.2.1 bt547.2.2.1 bt547.2.2.2.1)) else (if (bt547.2.1.length : Int) = 0 then (if (bt547.2.2.2.1.length : Int) = 0 then ((papermilllaw18_awake.f k).bind fun t558 => (some t558)) else (none)) else (none)))
def papermilllaw18_ChestKeeps.j4 : Nat → Bool → Int → List Int → Int → List Int → Int → List Int → Int → List Int → Option (Bool)
 | 0, _, _, _, _, _, _, _, _, _ => none
 | k + 1, x202, x520000, x520001, x521000, x521001, x557000, x557001, x558000, x558001 => if x202 = true then (none) else (papermilllaw18_ChestKeeps.l1 k 0 x520000 x520001 x521000 x521001 x557000 x557001 x558000 x558001)
def papermilllaw18_ChestKeeps.l1 : Nat → Int → Int → List Int → Int → List Int → Int → List Int → Int → List Int → Option (Bool)
 | 0, _, _, _, _, _, _, _, _, _ => none
 | k + 1, x19, x520000, x520001, x521000, x521001, x557000, x557001, x558000, x558001 => if x19 < (x557001.length : Int) then (if 0 ≤ x19 then (if x19 < (x558001.length : Int) then (if x19 < (x520001.length : Int) then (if x19 < (x521001.length : Int) then (if (wrap64 ((rd x557001 x19) + (rd x558001 x19))) = (wrap64 ((rd x520001 x19) + (rd x521001 x19))) then (papermilllaw18_ChestKeeps.l1 k (wrap64 (x19 + 1)) x520000 x520001 x521000 x521001 x557000 x557001 x558000 x558001) else (none)) else (none)) else (none)) else (none)) else (none)) else ((chest_Check.f k x557000 x557001).bind fun t563 => (if t563 = 0 then ((chest_Check.f k x558000 x558001).bind fun t564 => (if t564 = 0 then ((papermilllaw18_awake.f k).bind fun t565 => (some t565)) else (none))) else (none)))
def papermilllaw18_ChestKeeps.j1 : Nat → Int → List Int → Int → Bool → Int → List Int → Int → List Int → Int → List Int → Option (Bool)
 | 0, _, _, _, _, _, _, _, _, _, _ => none
 | k + 1, x2, x8, x10, x66, x520000, x520001, x521000, x521001, x531000, x531001 => if x66 = true then (none) else (papermilllaw18_ChestKeeps.l0 k x2 x8 x10 0 x520000 x520001 x521000 x521001 x531000 x531001)
def papermilllaw18_ChestKeeps.l0 : Nat → Int → List Int → Int → Int → Int → List Int → Int → List Int → Int → List Int → Option (Bool)
 | 0, _, _, _, _, _, _, _, _, _, _ => none
 | k + 1, x2, x8, x10, x11, x520000, x520001, x521000, x521001, x531000, x531001 => if x11 < (x8.length : Int) then (if 0 ≤ x11 then (if (rd x8 x11) < 0 then (none) else (if x11 < (x531001.length : Int) then (if (rd x531001 x11) < 0 then (none) else (if x11 < (x520001.length : Int) then (if (wrap64 ((rd x531001 x11) + (rd x8 x11))) = (rd x520001 x11) then (papermilllaw18_ChestKeeps.l0 k x2 x8 (wrap64 (x10 + (rd x8 x11))) (wrap64 (x11 + 1)) x520000 x520001 x521000 x521001 x531000 x531001) else (none)) else (none))) else (none))) else (none)) else (if x10 = x2 then ((chest_Level.f k x520000 x520001).bind fun bt538 => ((chest_Fill.f k x531000 x531001 x8).bind fun bt540 => (if bt538.2 = 0 then (if bt540.2.2 = 0 then ((papermillref18_Same.f k bt540.1 bt540.2.1 x520000 x520001).bind fun t546 => (if t546 = true then (if bt538.1 < x2 then (none) else (papermilllaw18_ChestKeeps.j3 k x2 x520000 x520001 x521000 x521001)) else (none))) else (none)) else (none)))) else (none))
end
def papermilllaw18_ChestKeeps.f (k : Nat) (a0_0 : Int) (l0_1 : List Int) (a1_0 : Int) (l1_1 : List Int) (a2 : Int) : Option (Bool) := if (l0_1.length : Int) > 20 then (papermilllaw18_ChestKeeps.j0 k a2 true a0_0 l0_1 a1_0 l1_1) else (papermilllaw18_ChestKeeps.j0 k a2 (decide ((l1_1.length : Int) > 20)) a0_0 l0_1 a1_0 l1_1)
theorem papermilllaw18_ChestKeeps.mono_l : ∀ k, (∀ y0 y1 y2 y3 y4 y5, LeO (papermilllaw18_ChestKeeps.j0 k y0 y1 y2 y3 y4 y5) (papermilllaw18_ChestKeeps.j0 (k + 1) y0 y1 y2 y3 y4 y5)) ∧ (∀ y0 y1 y2 y3 y4, LeO (papermilllaw18_ChestKeeps.j3 k y0 y1 y2 y3 y4) (papermilllaw18_ChestKeeps.j3 (k + 1) y0 y1 y2 y3 y4)) ∧ (∀ y0 y1 y2 y3 y4 y5 y6 y7 y8, LeO (papermilllaw18_ChestKeeps.j4 k y0 y1 y2 y3 y4 y5 y6 y7 y8) (papermilllaw18_ChestKeeps.j4 (k + 1) y0 y1 y2 y3 y4 y5 y6 y7 y8)) ∧ (∀ y0 y1 y2 y3 y4 y5 y6 y7 y8, LeO (papermilllaw18_ChestKeeps.l1 k y0 y1 y2 y3 y4 y5 y6 y7 y8) (papermilllaw18_ChestKeeps.l1 (k + 1) y0 y1 y2 y3 y4 y5 y6 y7 y8)) ∧ (∀ y0 y1 y2 y3 y4 y5 y6 y7 y8 y9, LeO (papermilllaw18_ChestKeeps.j1 k y0 y1 y2 y3 y4 y5 y6 y7 y8 y9) (papermilllaw18_ChestKeeps.j1 (k + 1) y0 y1 y2 y3 y4 y5 y6 y7 y8 y9)) ∧ (∀ y0 y1 y2 y3 y4 y5 y6 y7 y8 y9, LeO (papermilllaw18_ChestKeeps.l0 k y0 y1 y2 y3 y4 y5 y6 y7 y8 y9) (papermilllaw18_ChestKeeps.l0 (k + 1) y0 y1 y2 y3 y4 y5 y6 y7 y8 y9))
 | 0 => ⟨fun _ _ _ _ _ _ r h => by simp [papermilllaw18_ChestKeeps.j0] at h, fun _ _ _ _ _ r h => by simp [papermilllaw18_ChestKeeps.j3] at h, fun _ _ _ _ _ _ _ _ _ r h => by simp [papermilllaw18_ChestKeeps.j4] at h, fun _ _ _ _ _ _ _ _ _ r h => by simp [papermilllaw18_ChestKeeps.l1] at h, fun _ _ _ _ _ _ _ _ _ _ r h => by simp [papermilllaw18_ChestKeeps.j1] at h, fun _ _ _ _ _ _ _ _ _ _ r h => by simp [papermilllaw18_ChestKeeps.l0] at h⟩
 | k + 1 => by
  obtain ⟨ih0, ih1, ih2, ih3, ih4, ih5⟩ := papermilllaw18_ChestKeeps.mono_l k
  refine ⟨?_, ?_, ?_, ?_, ?_, ?_⟩
  ·intro y0 y1 y2 y3 y4 y5
   unfold papermilllaw18_ChestKeeps.j0
   repeat' first
   | (with_reducible exact ih0 _ _ _ _ _ _)
   | (with_reducible exact ih1 _ _ _ _ _)
   | (with_reducible exact ih2 _ _ _ _ _ _ _ _ _)
   | (with_reducible exact ih3 _ _ _ _ _ _ _ _ _)
   | (with_reducible exact ih4 _ _ _ _ _ _ _ _ _ _)
   | (with_reducible exact ih5 _ _ _ _ _ _ _ _ _ _)
   | (with_reducible exact chest_Check.mono _ _ _)
   | (with_reducible exact chest_Draw.mono _ _ _ _)
   | (with_reducible exact chest_Fill.mono _ _ _ _)
   | (with_reducible exact chest_Level.mono _ _ _)
   | (with_reducible exact chest_Pour.mono _ _ _ _ _ _)
   | (with_reducible exact papermilllaw18_awake.mono _)
   | (with_reducible exact papermillref18_Same.mono _ _ _ _ _)
   | (with_reducible exact LeO.refl _)
   | (with_reducible exact LeO.none _)
   | (with_reducible refine LeO.ite ?_ ?_)
   | (with_reducible refine LeO.bind ?_ (fun _ => ?_))
   | exact ih0 _ _ _ _ _ _
   | exact ih1 _ _ _ _ _
   | exact ih2 _ _ _ _ _ _ _ _ _
   | exact ih3 _ _ _ _ _ _ _ _ _
   | exact ih4 _ _ _ _ _ _ _ _ _ _
   | exact ih5 _ _ _ _ _ _ _ _ _ _
   | exact chest_Check.mono _ _ _
   | exact chest_Draw.mono _ _ _ _
   | exact chest_Fill.mono _ _ _ _
   | exact chest_Level.mono _ _ _
   | exact chest_Pour.mono _ _ _ _ _ _
   | exact papermilllaw18_awake.mono _
   | exact papermillref18_Same.mono _ _ _ _ _
   | exact LeO.none _
   | refine LeO.ite ?_ ?_
   | refine LeO.bind ?_ (fun _ => ?_)
  ·intro y0 y1 y2 y3 y4
   unfold papermilllaw18_ChestKeeps.j3
   repeat' first
   | (with_reducible exact ih0 _ _ _ _ _ _)
   | (with_reducible exact ih1 _ _ _ _ _)
   | (with_reducible exact ih2 _ _ _ _ _ _ _ _ _)
   | (with_reducible exact ih3 _ _ _ _ _ _ _ _ _)
   | (with_reducible exact ih4 _ _ _ _ _ _ _ _ _ _)
   | (with_reducible exact ih5 _ _ _ _ _ _ _ _ _ _)
   | (with_reducible exact chest_Check.mono _ _ _)
   | (with_reducible exact chest_Draw.mono _ _ _ _)
   | (with_reducible exact chest_Fill.mono _ _ _ _)
   | (with_reducible exact chest_Level.mono _ _ _)
   | (with_reducible exact chest_Pour.mono _ _ _ _ _ _)
   | (with_reducible exact papermilllaw18_awake.mono _)
   | (with_reducible exact papermillref18_Same.mono _ _ _ _ _)
   | (with_reducible exact LeO.refl _)
   | (with_reducible exact LeO.none _)
   | (with_reducible refine LeO.ite ?_ ?_)
   | (with_reducible refine LeO.bind ?_ (fun _ => ?_))
   | exact ih0 _ _ _ _ _ _
   | exact ih1 _ _ _ _ _
   | exact ih2 _ _ _ _ _ _ _ _ _
   | exact ih3 _ _ _ _ _ _ _ _ _
   | exact ih4 _ _ _ _ _ _ _ _ _ _
   | exact ih5 _ _ _ _ _ _ _ _ _ _
   | exact chest_Check.mono _ _ _
   | exact chest_Draw.mono _ _ _ _
   | exact chest_Fill.mono _ _ _ _
   | exact chest_Level.mono _ _ _
   | exact chest_Pour.mono _ _ _ _ _ _
   | exact papermilllaw18_awake.mono _
   | exact papermillref18_Same.mono _ _ _ _ _
   | exact LeO.none _
   | refine LeO.ite ?_ ?_
   | refine LeO.bind ?_ (fun _ => ?_)
  ·intro y0 y1 y2 y3 y4 y5 y6 y7 y8
   unfold papermilllaw18_ChestKeeps.j4
   repeat' first
   | (with_reducible exact ih0 _ _ _ _ _ _)
   | (with_reducible exact ih1 _ _ _ _ _)
   | (with_reducible exact ih2 _ _ _ _ _ _ _ _ _)
   | (with_reducible exact ih3 _ _ _ _ _ _ _ _ _)
   | (with_reducible exact ih4 _ _ _ _ _ _ _ _ _ _)
   | (with_reducible exact ih5 _ _ _ _ _ _ _ _ _ _)
   | (with_reducible exact chest_Check.mono _ _ _)
   | (with_reducible exact chest_Draw.mono _ _ _ _)
   | (with_reducible exact chest_Fill.mono _ _ _ _)
   | (with_reducible exact chest_Level.mono _ _ _)
   | (with_reducible exact chest_Pour.mono _ _ _ _ _ _)
   | (with_reducible exact papermilllaw18_awake.mono _)
   | (with_reducible exact papermillref18_Same.mono _ _ _ _ _)
   | (with_reducible exact LeO.refl _)
   | (with_reducible exact LeO.none _)
   | (with_reducible refine LeO.ite ?_ ?_)
   | (with_reducible refine LeO.bind ?_ (fun _ => ?_))
   | exact ih0 _ _ _ _ _ _
   | exact ih1 _ _ _ _ _
   | exact ih2 _ _ _ _ _ _ _ _ _
   | exact ih3 _ _ _ _ _ _ _ _ _
   | exact ih4 _ _ _ _ _ _ _ _ _ _
   | exact ih5 _ _ _ _ _ _ _ _ _ _
   | exact chest_Check.mono _ _ _
   | exact chest_Draw.mono _ _ _ _
   | exact chest_Fill.mono _ _ _ _
   | exact chest_Level.mono _ _ _
   | exact chest_Pour.mono _ _ _ _ _ _
   | exact papermilllaw18_awake.mono _
   | exact papermillref18_Same.mono _ _ _ _ _
   | exact LeO.none _
   | refine LeO.ite ?_ ?_
   | refine LeO.bind ?_ (fun _ => ?_)
  ·intro y0 y1 y2 y3 y4 y5 y6 y7 y8
   unfold papermilllaw18_ChestKeeps.l1
   repeat' first
   | (with_reducible exact ih0 _ _ _ _ _ _)
   | (with_reducible exact ih1 _ _ _ _ _)
   | (with_reducible exact ih2 _ _ _ _ _ _ _ _ _)
   | (with_reducible exact ih3 _ _ _ _ _ _ _ _ _)
   | (with_reducible exact ih4 _ _ _ _ _ _ _ _ _ _)
   | (with_reducible exact ih5 _ _ _ _ _ _ _ _ _ _)
   | (with_reducible exact chest_Check.mono _ _ _)
   | (with_reducible exact chest_Draw.mono _ _ _ _)
   | (with_reducible exact chest_Fill.mono _ _ _ _)
   | (with_reducible exact chest_Level.mono _ _ _)
   | (with_reducible exact chest_Pour.mono _ _ _ _ _ _)
   | (with_reducible exact papermilllaw18_awake.mono _)
   | (with_reducible exact papermillref18_Same.mono _ _ _ _ _)
   | (with_reducible exact LeO.refl _)
   | (with_reducible exact LeO.none _)
   | (with_reducible refine LeO.ite ?_ ?_)
   | (with_reducible refine LeO.bind ?_ (fun _ => ?_))
   | exact ih0 _ _ _ _ _ _
   | exact ih1 _ _ _ _ _
   | exact ih2 _ _ _ _ _ _ _ _ _
   | exact ih3 _ _ _ _ _ _ _ _ _
   | exact ih4 _ _ _ _ _ _ _ _ _ _
   | exact ih5 _ _ _ _ _ _ _ _ _ _
   | exact chest_Check.mono _ _ _
   | exact chest_Draw.mono _ _ _ _
   | exact chest_Fill.mono _ _ _ _
   | exact chest_Level.mono _ _ _
   | exact chest_Pour.mono _ _ _ _ _ _
   | exact papermilllaw18_awake.mono _
   | exact papermillref18_Same.mono _ _ _ _ _
   | exact LeO.none _
   | refine LeO.ite ?_ ?_
   | refine LeO.bind ?_ (fun _ => ?_)
  ·intro y0 y1 y2 y3 y4 y5 y6 y7 y8 y9
   unfold papermilllaw18_ChestKeeps.j1
   repeat' first
   | (with_reducible exact ih0 _ _ _ _ _ _)
   | (with_reducible exact ih1 _ _ _ _ _)
   | (with_reducible exact ih2 _ _ _ _ _ _ _ _ _)
   | (with_reducible exact ih3 _ _ _ _ _ _ _ _ _)
   | (with_reducible exact ih4 _ _ _ _ _ _ _ _ _ _)
   | (with_reducible exact ih5 _ _ _ _ _ _ _ _ _ _)
   | (with_reducible exact chest_Check.mono _ _ _)
   | (with_reducible exact chest_Draw.mono _ _ _ _)
   | (with_reducible exact chest_Fill.mono _ _ _ _)
   | (with_reducible exact chest_Level.mono _ _ _)
   | (with_reducible exact chest_Pour.mono _ _ _ _ _ _)
   | (with_reducible exact papermilllaw18_awake.mono _)
   | (with_reducible exact papermillref18_Same.mono _ _ _ _ _)
   | (with_reducible exact LeO.refl _)
   | (with_reducible exact LeO.none _)
   | (with_reducible refine LeO.ite ?_ ?_)
   | (with_reducible refine LeO.bind ?_ (fun _ => ?_))
   | exact ih0 _ _ _ _ _ _
   | exact ih1 _ _ _ _ _
   | exact ih2 _ _ _ _ _ _ _ _ _
   | exact ih3 _ _ _ _ _ _ _ _ _
   | exact ih4 _ _ _ _ _ _ _ _ _ _
   | exact ih5 _ _ _ _ _ _ _ _ _ _
   | exact chest_Check.mono _ _ _
   | exact chest_Draw.mono _ _ _ _
   | exact chest_Fill.mono _ _ _ _
   | exact chest_Level.mono _ _ _
   | exact chest_Pour.mono _ _ _ _ _ _
   | exact papermilllaw18_awake.mono _
   | exact papermillref18_Same.mono _ _ _ _ _
   | exact LeO.none _
   | refine LeO.ite ?_ ?_
   | refine LeO.bind ?_ (fun _ => ?_)
  ·intro y0 y1 y2 y3 y4 y5 y6 y7 y8 y9
   unfold papermilllaw18_ChestKeeps.l0
   repeat' first
   | (with_reducible exact ih0 _ _ _ _ _ _)
   | (with_reducible exact ih1 _ _ _ _ _)
   | (with_reducible exact ih2 _ _ _ _ _ _ _ _ _)
   | (with_reducible exact ih3 _ _ _ _ _ _ _ _ _)
   | (with_reducible exact ih4 _ _ _ _ _ _ _ _ _ _)
   | (with_reducible exact ih5 _ _ _ _ _ _ _ _ _ _)
   | (with_reducible exact chest_Check.mono _ _ _)
   | (with_reducible exact chest_Draw.mono _ _ _ _)
   | (with_reducible exact chest_Fill.mono _ _ _ _)
   | (with_reducible exact chest_Level.mono _ _ _)
   | (with_reducible exact chest_Pour.mono _ _ _ _ _ _)
   | (with_reducible exact papermilllaw18_awake.mono _)
   | (with_reducible exact papermillref18_Same.mono _ _ _ _ _)
   | (with_reducible exact LeO.refl _)
   | (with_reducible exact LeO.none _)
   | (with_reducible refine LeO.ite ?_ ?_)
   | (with_reducible refine LeO.bind ?_ (fun _ => ?_))
   | exact ih0 _ _ _ _ _ _
   | exact ih1 _ _ _ _ _
   | exact ih2 _ _ _ _ _ _ _ _ _
   | exact ih3 _ _ _ _ _ _ _ _ _
   | exact ih4 _ _ _ _ _ _ _ _ _ _
   | exact ih5 _ _ _ _ _ _ _ _ _ _
   | exact chest_Check.mono _ _ _
   | exact chest_Draw.mono _ _ _ _
   | exact chest_Fill.mono _ _ _ _
   | exact chest_Level.mono _ _ _
   | exact chest_Pour.mono _ _ _ _ _ _
   | exact papermilllaw18_awake.mono _
   | exact papermillref18_Same.mono _ _ _ _ _
   | exact LeO.none _
   | refine LeO.ite ?_ ?_
   | refine LeO.bind ?_ (fun _ => ?_)
theorem papermilllaw18_ChestKeeps.mono : ∀ a0 a1 a2 a3 a4 k, LeO (papermilllaw18_ChestKeeps.f k a0 a1 a2 a3 a4) (papermilllaw18_ChestKeeps.f (k + 1) a0 a1 a2 a3 a4) := by
 intro a0 a1 a2 a3 a4 k
 obtain ⟨ih0, ih1, ih2, ih3, ih4, ih5⟩ := papermilllaw18_ChestKeeps.mono_l k
 unfold papermilllaw18_ChestKeeps.f
 repeat' first
   | (with_reducible exact ih0 _ _ _ _ _ _)
   | (with_reducible exact ih1 _ _ _ _ _)
   | (with_reducible exact ih2 _ _ _ _ _ _ _ _ _)
   | (with_reducible exact ih3 _ _ _ _ _ _ _ _ _)
   | (with_reducible exact ih4 _ _ _ _ _ _ _ _ _ _)
   | (with_reducible exact ih5 _ _ _ _ _ _ _ _ _ _)
   | (with_reducible exact chest_Check.mono _ _ _)
   | (with_reducible exact chest_Draw.mono _ _ _ _)
   | (with_reducible exact chest_Fill.mono _ _ _ _)
   | (with_reducible exact chest_Level.mono _ _ _)
   | (with_reducible exact chest_Pour.mono _ _ _ _ _ _)
   | (with_reducible exact papermilllaw18_awake.mono _)
   | (with_reducible exact papermillref18_Same.mono _ _ _ _ _)
   | (with_reducible exact LeO.refl _)
   | (with_reducible exact LeO.none _)
   | (with_reducible refine LeO.ite ?_ ?_)
   | (with_reducible refine LeO.bind ?_ (fun _ => ?_))
   | exact ih0 _ _ _ _ _ _
   | exact ih1 _ _ _ _ _
   | exact ih2 _ _ _ _ _ _ _ _ _
   | exact ih3 _ _ _ _ _ _ _ _ _
   | exact ih4 _ _ _ _ _ _ _ _ _ _
   | exact ih5 _ _ _ _ _ _ _ _ _ _
   | exact chest_Check.mono _ _ _
   | exact chest_Draw.mono _ _ _ _
   | exact chest_Fill.mono _ _ _ _
   | exact chest_Level.mono _ _ _
   | exact chest_Pour.mono _ _ _ _ _ _
   | exact papermilllaw18_awake.mono _
   | exact papermillref18_Same.mono _ _ _ _ _
   | exact LeO.none _
   | refine LeO.ite ?_ ?_
   | refine LeO.bind ?_ (fun _ => ?_)
set_option maxHeartbeats 8000000 in
set_option maxRecDepth 100000 in
theorem papermilllaw18_ChestKeeps.calls (k : Nat) (a0_0 : Int) (A0_1 : Option Addr) (c0_1 : Nat) (l0_1 : List Int) (a1_0 : Int) (A1_1 : Option Addr) (c1_1 : Nat) (l1_1 : List Int) (a2 : Int) (r : Bool) (w : World) (hr0_1 : Kd.C (Kd.int .i64) w A0_1 l0_1.length l0_1) (hc0_1 : l0_1.length ≤ c0_1) (hr1_1 : Kd.C (Kd.int .i64) w A1_1 l1_1.length l1_1) (hc1_1 : l1_1.length ≤ c1_1) (h : papermilllaw18_ChestKeeps.f k a0_0 l0_1 a1_0 l1_1 a2 = some r) :
  Calls Try.prog 7 #[.agg #[.int .i64 a0_0, .slice A0_1 l0_1.length c0_1], .agg #[.int .i64 a1_0, .slice A1_1 l1_1.length c1_1], .int .i64 a2] w fun e w' => e = .returned (.bool r) ∧ Below w.heap.size w w' := by
 have hu24 := Try.underlying24
 have HR0_1 := Aside0.mk hr0_1
 have HC0_1 := Aside0.mk hc0_1
 clear hr0_1 hc0_1
 have HR1_1 := Aside0.mk hr1_1
 have HC1_1 := Aside0.mk hc1_1
 clear hr1_1 hc1_1
 have HB := Aside0.mk (Below.refl w.heap.size w)
 have H : (if (l0_1.length : Int) > 20 then (papermilllaw18_ChestKeeps.j0 k a2 true a0_0 l0_1 a1_0 l1_1) else (papermilllaw18_ChestKeeps.j0 k a2 (decide ((l1_1.length : Int) > 20)) a0_0 l0_1 a1_0 l1_1)) = some r := h
 clear h
 have HC4 := Aside0.mk H
 clear H
 go_enter Try.func7, Try.ntmps7
 go_upto_region 1 with (first | ((with_reducible refine gate_dst (N := 3) rfl ?_); (try (refine gate_guard (by rfl) ?_; dsimp only)); refine box_event ?hg (N := 3) ?hd (cs := #[.int .i64 a0_0, .slice A0_1 l0_1.length c0_1]) (t := 24) ?hr ?_; (case hd => rfl); (case hg => rfl); (case hr => first | (go_simp; done) | (go_simp; rfl)); intro gb519 hg w5 hbox hb; have BK519 := Aside0.mk (hbox); have GW519 := Aside0.mk (gW hg : w.heap.size ≤ gb519); have GE519 := Aside0.mk (gW hg : w.heap.size ≤ gb519); replace HB := Aside0.mk (below_step pB hb); clear hb hbox hg) | ((with_reducible refine gate_dst (N := 4) rfl ?_); (try (refine gate_guard (by rfl) ?_; dsimp only)); refine box_event ?hg (N := 4) ?hd (cs := #[.int .i64 a1_0, .slice A1_1 l1_1.length c1_1]) (t := 24) ?hr ?_; (case hd => rfl); (case hg => rfl); (case hr => first | (go_simp; done) | (go_simp; rfl)); intro gb520 hg w6 hbox hb; have BK520 := Aside0.mk (hbox); have GW520 := Aside0.mk (gW hg : w.heap.size ≤ gb520); have GE520 := Aside0.mk (gW hg : w.heap.size ≤ gb520); have NB519_520 := Aside0.mk (nL hg BK519 : gb519 ≠ gb520); have NB520_519 := Aside0.mk (nG hg BK519 : gb520 ≠ gb519); replace BK519 := Aside0.mk (kB BK519 hb); replace HB := Aside0.mk (below_step pB hb); clear hb hbox hg))
 repeat (go_quiet (first | ((with_reducible refine gate_dst (N := 3) rfl ?_); (try (refine gate_guard (by rfl) ?_; dsimp only)); refine box_event ?hg (N := 3) ?hd (cs := #[.int .i64 a0_0, .slice A0_1 l0_1.length c0_1]) (t := 24) ?hr ?_; (case hd => rfl); (case hg => rfl); (case hr => first | (go_simp; done) | (go_simp; rfl)); intro gb519 hg w5 hbox hb; have BK519 := Aside0.mk (hbox); have GW519 := Aside0.mk (gW hg : w.heap.size ≤ gb519); have GE519 := Aside0.mk (gW hg : w.heap.size ≤ gb519); replace HB := Aside0.mk (below_step pB hb); clear hb hbox hg) | ((with_reducible refine gate_dst (N := 4) rfl ?_); (try (refine gate_guard (by rfl) ?_; dsimp only)); refine box_event ?hg (N := 4) ?hd (cs := #[.int .i64 a1_0, .slice A1_1 l1_1.length c1_1]) (t := 24) ?hr ?_; (case hd => rfl); (case hg => rfl); (case hr => first | (go_simp; done) | (go_simp; rfl)); intro gb520 hg w6 hbox hb; have BK520 := Aside0.mk (hbox); have GW520 := Aside0.mk (gW hg : w.heap.size ≤ gb520); have GE520 := Aside0.mk (gW hg : w.heap.size ≤ gb520); have NB519_520 := Aside0.mk (nL hg BK519 : gb519 ≠ gb520); have NB520_519 := Aside0.mk (nG hg BK519 : gb520 ≠ gb519); replace BK519 := Aside0.mk (kB BK519 hb); replace HB := Aside0.mk (below_step pB hb); clear hb hbox hg)); go_upto_region 1 with (first | ((with_reducible refine gate_dst (N := 3) rfl ?_); (try (refine gate_guard (by rfl) ?_; dsimp only)); refine box_event ?hg (N := 3) ?hd (cs := #[.int .i64 a0_0, .slice A0_1 l0_1.length c0_1]) (t := 24) ?hr ?_; (case hd => rfl); (case hg => rfl); (case hr => first | (go_simp; done) | (go_simp; rfl)); intro gb519 hg w5 hbox hb; have BK519 := Aside0.mk (hbox); have GW519 := Aside0.mk (gW hg : w.heap.size ≤ gb519); have GE519 := Aside0.mk (gW hg : w.heap.size ≤ gb519); replace HB := Aside0.mk (below_step pB hb); clear hb hbox hg) | ((with_reducible refine gate_dst (N := 4) rfl ?_); (try (refine gate_guard (by rfl) ?_; dsimp only)); refine box_event ?hg (N := 4) ?hd (cs := #[.int .i64 a1_0, .slice A1_1 l1_1.length c1_1]) (t := 24) ?hr ?_; (case hd => rfl); (case hg => rfl); (case hr => first | (go_simp; done) | (go_simp; rfl)); intro gb520 hg w6 hbox hb; have BK520 := Aside0.mk (hbox); have GW520 := Aside0.mk (gW hg : w.heap.size ≤ gb520); have GE520 := Aside0.mk (gW hg : w.heap.size ≤ gb520); have NB519_520 := Aside0.mk (nL hg BK519 : gb519 ≠ gb520); have NB520_519 := Aside0.mk (nG hg BK519 : gb520 ≠ gb519); replace BK519 := Aside0.mk (kB BK519 hb); replace HB := Aside0.mk (below_step pB hb); clear hb hbox hg)))
 (try simp only [Act.put, List.setIfInBounds_toArray, List.set_cons_zero, List.set_cons_succ])
 go_cut [29] (fun v29 wc => ∃ (kq : Nat) (x29_3 : Bool), v29 = .bool x29_3 ∧ Aside0 (papermilllaw18_ChestKeeps.j0 kq a2 x29_3 a0_0 l0_1 a1_0 l1_1 = some r) ∧ Aside0 (kq ≤ k) ∧ Aside0 (wc.heap[gb519]? = some (.cells #[.int .i64 a0_0, (.slice A0_1 l0_1.length c0_1)] 24 (0, 0))) ∧ Aside0 (wc.heap[gb520]? = some (.cells #[.int .i64 a1_0, (.slice A1_1 l1_1.length c1_1)] 24 (0, 0))) ∧ Aside0 (Below w.heap.size w wc))
 case first =>
  have H := HC4.out
  clear HC4
  by_cases c7 : (l0_1.length : Int) > 20
  ·rw [if_pos c7] at H
   have c7b0 : decide (20 < (l0_1.length : Int)) = true := decide_eq_true c7
   have c7b1 : decide (20 < l0_1.length) = true := decide_eq_true (by omega)
   clear c7
   (first | rw [c7b0] | (simp only [i64_w, i32_w]; rw [c7b0]) | skip)
   have H' := Aside0.mk H
   clear H
   have hnb8 := NB519_520.out
   have hnc8 := NB520_519.out
   obtain ⟨hcz9_0, hcz9_1, hfz9_0, hfz9_1⟩ := bk2 BK519
   go_wp2
   repeat (go_quiet (fail); try go_wp2)
   go_meet
   case rel => exact ⟨_, (true), (by first | rfl | (simp; done) | (simp [*]; done)), H', ⟨by first | omega | exact Nat.le_refl _⟩, ⟨by (with_reducible repeat (first | refine blk_drewN ?_ _ | refine blk_drew ?_ | refine blk_alloc ?_ _)); exact BK519.out⟩, ⟨by (with_reducible repeat (first | refine blk_drewN ?_ _ | refine blk_drew ?_ | refine blk_alloc ?_ _)); exact BK520.out⟩, ⟨pB⟩⟩
  ·rw [if_neg c7] at H
   have c7b0 : decide (20 < (l0_1.length : Int)) = false := decide_eq_false c7
   have c7b1 : decide (20 < l0_1.length) = false := decide_eq_false (by omega)
   clear c7
   (first | rw [c7b0] | (simp only [i64_w, i32_w]; rw [c7b0]) | skip)
   have H' := Aside0.mk H
   clear H
   have hnb10 := NB519_520.out
   have hnc10 := NB520_519.out
   obtain ⟨hcz11_0, hcz11_1, hfz11_0, hfz11_1⟩ := bk2 BK519
   obtain ⟨hcz12_0, hcz12_1, hfz12_0, hfz12_1⟩ := bk2 BK520
   go_wp2
   repeat (go_quiet (fail); try go_wp2)
   go_meet
   case rel => exact ⟨_, (decide ((l1_1.length : Int) > 20)), (by first | rfl | (simp; done) | (simp [*]; done)), H', ⟨by first | omega | exact Nat.le_refl _⟩, ⟨by (with_reducible repeat (first | refine blk_drewN ?_ _ | refine blk_drew ?_ | refine blk_alloc ?_ _)); exact BK519.out⟩, ⟨by (with_reducible repeat (first | refine blk_drewN ?_ _ | refine blk_drew ?_ | refine blk_alloc ?_ _)); exact BK520.out⟩, ⟨pB⟩⟩
 case rest => as_aux_lemma =>
  clear HC4
  try clear c1
  try clear p2
  try clear c7
  try clear c7b0
  try clear c7b1
  try clear c8
  try clear c10
  try clear hcz11_0
  try clear hcz11_1
  try clear hcz12_0
  try clear hcz12_1
  try clear hcz9_0
  try clear hcz9_1
  try clear hfz11_0
  try clear hfz11_1
  try clear hfz12_0
  try clear hfz12_1
  try clear hfz9_0
  try clear hfz9_1
  obtain ⟨kq, x29_3, rfl, HA, HJ3, BK519, BK520, HB⟩ := hcut
  cases kq with
  | zero => exact absurd HA.out (by simp [papermilllaw18_ChestKeeps.j0])
  | succ kj3 =>
   have H := HA.out
   clear HA
   simp only [papermilllaw18_ChestKeeps.j0] at H
   by_cases c13 : x29_3 = true
   ·subst c13
    have H1 : ((papermilllaw18_awake.f kj3).bind fun t521 => (some t521)) = some r := by rw [if_pos rfl] at H; exact H
    clear H
    have H := H1
    clear H1
    replace H := Option.bind_eq_some_iff.mp H
    obtain ⟨t521, A140, H⟩ := H
    try dsimp only at H
    have A14 := Aside0.mk A140
    clear A140
    obtain rfl := Option.some.inj H
    have fl_ : True := trivial
    repeat ((first | clear fl_ | go_quiet (first | (go_at_call 10; (with_reducible refine (papermilllaw18_awake.calls kj3  t521 _ A14.out).mono ?_); rintro e w15 ⟨rfl, hb⟩; replace BK519 := Aside0.mk (kB BK519 hb); replace BK520 := Aside0.mk (kB BK520 hb); replace HB := Aside0.mk (below_step pB hb); (try clear hb); (try clear hb2); (try clear hk); (try clear hi)))); go_wp2_with (first | (go_at_call 10; (with_reducible refine (papermilllaw18_awake.calls kj3  t521 _ A14.out).mono ?_); rintro e w15 ⟨rfl, hb⟩; replace BK519 := Aside0.mk (kB BK519 hb); replace BK520 := Aside0.mk (kB BK520 hb); replace HB := Aside0.mk (below_step pB hb); (try clear hb); (try clear hb2); (try clear hk); (try clear hi))))
    go_ret
    exact ⟨by first | rfl | (simp [errW_none, errW_some] <;> rfl) | (simp [*, errW_none, errW_some] <;> rfl), pB⟩
   ·replace c13 := Bool.eq_false_iff.mpr c13
    subst c13
    have H1 : ((chest_Draw.f kj3 a0_0 l0_1 a2).bind fun bt522 => (if bt522.2.2.2 = 0 then (if (bt522.2.1.length : Int) = (l0_1.length : Int) then (if (bt522.2.2.1.length : Int) = (l0_1.length : Int) then (if bt522.1 = a0_0 then ((chest_Check.f kj3 bt522.1 bt522.2.1).bind fun t531 => (papermilllaw18_ChestKeeps.j1 kj3 a2 bt522.2.2.1 0 (t531 != 0) a0_0 l0_1 a1_0 l1_1 bt522.1 bt522.2.1)) else (papermilllaw18_ChestKeeps.j1 kj3 a2 bt522.2.2.1 0 true a0_0 l0_1 a1_0 l1_1 bt522.1 bt522.2.1)) else (papermilllaw18_ChestKeeps.j1 kj3 a2 bt522.2.2.1 0 true a0_0 l0_1 a1_0 l1_1 bt522.1 bt522.2.1)) else (papermilllaw18_ChestKeeps.j1 kj3 a2 bt522.2.2.1 0 true a0_0 l0_1 a1_0 l1_1 bt522.1 bt522.2.1)) else (papermilllaw18_ChestKeeps.j3 kj3 a2 a0_0 l0_1 a1_0 l1_1))) = some r := by rw [if_neg (show ¬ (false = true) by decide)] at H; exact H
    clear H
    have H := H1
    clear H1
    replace H := Option.bind_eq_some_iff.mp H
    obtain ⟨⟨t522, t523, t526, t529⟩, A160, H⟩ := H
    try dsimp only at H
    have A16 := Aside0.mk A160
    clear A160
    have HC17 := Aside0.mk H
    clear H
    have hnb18 := NB519_520.out
    have hnc18 := NB520_519.out
    obtain ⟨hcz19_0, hcz19_1, hfz19_0, hfz19_1⟩ := bk2 BK519
    go_upto_if 39 with (first | (go_at_call 19; (with_reducible refine (chest_Draw.calls kj3 a0_0 _ _ l0_1 a2 t522 t523 t526 t529 _ ?side1 ?side2 A16.out).mono ?_); (case side1 => repeat (first | exact (Kd.C_below HR0_1.out HB.out) | (with_reducible refine Kd.C_alloc ?_ _) | (with_reducible refine Kd.C_drewN ?_ _) | (with_reducible refine Kd.C_drew ?_))); (case side2 => exact HC0_1.out); rintro e w20 ⟨v524, v527, rfl, ho0, ho1, hb⟩; have HO525 := Aside0.mk (Kd.R_lower ho0 (below_size pB)); have HO528 := Aside0.mk (Kd.R_lower ho1 (below_size pB)); replace BK519 := Aside0.mk (kB BK519 hb); replace BK520 := Aside0.mk (kB BK520 hb); replace HB := Aside0.mk (below_step pB hb); (try clear hb); (try clear hb2); (try clear hk); (try clear hi); (try clear ho0); (try clear ho1)) | ((with_reducible refine gate_dst (N := 7) rfl ?_); (try (refine gate_guard (by rfl) ?_; dsimp only)); refine box_event ?hg (N := 7) ?hd (cs := #[.int .i64 0, .slice none 0 0]) (t := 24) ?hr ?_; (case hd => rfl); (case hg => rfl); (case hr => first | (go_simp; done) | (go_simp; rfl)); intro gb530 hg w21 hbox hb; have BK530 := Aside0.mk (hbox); have GW530 := Aside0.mk (gW hg : w.heap.size ≤ gb530); have GE530 := Aside0.mk (gW hg : w.heap.size ≤ gb530); have NB519_530 := Aside0.mk (nL hg BK519 : gb519 ≠ gb530); have NB530_519 := Aside0.mk (nG hg BK519 : gb530 ≠ gb519); have NB520_530 := Aside0.mk (nL hg BK520 : gb520 ≠ gb530); have NB530_520 := Aside0.mk (nG hg BK520 : gb530 ≠ gb520); replace HO525 := Aside0.mk (Kd.R_below (rX HO525.out) hb); replace HO528 := Aside0.mk (Kd.R_below (rX HO528.out) hb); replace BK519 := Aside0.mk (kB BK519 hb); replace BK520 := Aside0.mk (kB BK520 hb); replace HB := Aside0.mk (below_step pB hb); clear hb hbox hg; have hnb22 := NB530_519.out; have hnc22 := NB519_530.out; have hnb23 := NB530_520.out; have hnc23 := NB520_530.out; obtain ⟨hcz24_0, hcz24_1, hfz24_0, hfz24_1⟩ := bk2 BK530; obtain ⟨Ao25, co25, eo25⟩ := Kd.R_slice HO525.out; subst eo25))
    repeat (go_quiet (first | (go_at_call 19; (with_reducible refine (chest_Draw.calls kj3 a0_0 _ _ l0_1 a2 t522 t523 t526 t529 _ ?side1 ?side2 A16.out).mono ?_); (case side1 => repeat (first | exact (Kd.C_below HR0_1.out HB.out) | (with_reducible refine Kd.C_alloc ?_ _) | (with_reducible refine Kd.C_drewN ?_ _) | (with_reducible refine Kd.C_drew ?_))); (case side2 => exact HC0_1.out); rintro e w20 ⟨v524, v527, rfl, ho0, ho1, hb⟩; have HO525 := Aside0.mk (Kd.R_lower ho0 (below_size pB)); have HO528 := Aside0.mk (Kd.R_lower ho1 (below_size pB)); replace BK519 := Aside0.mk (kB BK519 hb); replace BK520 := Aside0.mk (kB BK520 hb); replace HB := Aside0.mk (below_step pB hb); (try clear hb); (try clear hb2); (try clear hk); (try clear hi); (try clear ho0); (try clear ho1)) | ((with_reducible refine gate_dst (N := 7) rfl ?_); (try (refine gate_guard (by rfl) ?_; dsimp only)); refine box_event ?hg (N := 7) ?hd (cs := #[.int .i64 0, .slice none 0 0]) (t := 24) ?hr ?_; (case hd => rfl); (case hg => rfl); (case hr => first | (go_simp; done) | (go_simp; rfl)); intro gb530 hg w21 hbox hb; have BK530 := Aside0.mk (hbox); have GW530 := Aside0.mk (gW hg : w.heap.size ≤ gb530); have GE530 := Aside0.mk (gW hg : w.heap.size ≤ gb530); have NB519_530 := Aside0.mk (nL hg BK519 : gb519 ≠ gb530); have NB530_519 := Aside0.mk (nG hg BK519 : gb530 ≠ gb519); have NB520_530 := Aside0.mk (nL hg BK520 : gb520 ≠ gb530); have NB530_520 := Aside0.mk (nG hg BK520 : gb530 ≠ gb520); replace HO525 := Aside0.mk (Kd.R_below (rX HO525.out) hb); replace HO528 := Aside0.mk (Kd.R_below (rX HO528.out) hb); replace BK519 := Aside0.mk (kB BK519 hb); replace BK520 := Aside0.mk (kB BK520 hb); replace HB := Aside0.mk (below_step pB hb); clear hb hbox hg; have hnb22 := NB530_519.out; have hnc22 := NB519_530.out; have hnb23 := NB530_520.out; have hnc23 := NB520_530.out; obtain ⟨hcz24_0, hcz24_1, hfz24_0, hfz24_1⟩ := bk2 BK530; obtain ⟨Ao25, co25, eo25⟩ := Kd.R_slice HO525.out; subst eo25)); go_upto_if 39 with (first | (go_at_call 19; (with_reducible refine (chest_Draw.calls kj3 a0_0 _ _ l0_1 a2 t522 t523 t526 t529 _ ?side1 ?side2 A16.out).mono ?_); (case side1 => repeat (first | exact (Kd.C_below HR0_1.out HB.out) | (with_reducible refine Kd.C_alloc ?_ _) | (with_reducible refine Kd.C_drewN ?_ _) | (with_reducible refine Kd.C_drew ?_))); (case side2 => exact HC0_1.out); rintro e w20 ⟨v524, v527, rfl, ho0, ho1, hb⟩; have HO525 := Aside0.mk (Kd.R_lower ho0 (below_size pB)); have HO528 := Aside0.mk (Kd.R_lower ho1 (below_size pB)); replace BK519 := Aside0.mk (kB BK519 hb); replace BK520 := Aside0.mk (kB BK520 hb); replace HB := Aside0.mk (below_step pB hb); (try clear hb); (try clear hb2); (try clear hk); (try clear hi); (try clear ho0); (try clear ho1)) | ((with_reducible refine gate_dst (N := 7) rfl ?_); (try (refine gate_guard (by rfl) ?_; dsimp only)); refine box_event ?hg (N := 7) ?hd (cs := #[.int .i64 0, .slice none 0 0]) (t := 24) ?hr ?_; (case hd => rfl); (case hg => rfl); (case hr => first | (go_simp; done) | (go_simp; rfl)); intro gb530 hg w21 hbox hb; have BK530 := Aside0.mk (hbox); have GW530 := Aside0.mk (gW hg : w.heap.size ≤ gb530); have GE530 := Aside0.mk (gW hg : w.heap.size ≤ gb530); have NB519_530 := Aside0.mk (nL hg BK519 : gb519 ≠ gb530); have NB530_519 := Aside0.mk (nG hg BK519 : gb530 ≠ gb519); have NB520_530 := Aside0.mk (nL hg BK520 : gb520 ≠ gb530); have NB530_520 := Aside0.mk (nG hg BK520 : gb530 ≠ gb520); replace HO525 := Aside0.mk (Kd.R_below (rX HO525.out) hb); replace HO528 := Aside0.mk (Kd.R_below (rX HO528.out) hb); replace BK519 := Aside0.mk (kB BK519 hb); replace BK520 := Aside0.mk (kB BK520 hb); replace HB := Aside0.mk (below_step pB hb); clear hb hbox hg; have hnb22 := NB530_519.out; have hnc22 := NB519_530.out; have hnb23 := NB530_520.out; have hnc23 := NB520_530.out; obtain ⟨hcz24_0, hcz24_1, hfz24_0, hfz24_1⟩ := bk2 BK530; obtain ⟨Ao25, co25, eo25⟩ := Kd.R_slice HO525.out; subst eo25)))
    (try simp only [Act.put, List.setIfInBounds_toArray, List.set_cons_zero, List.set_cons_succ])
    go_cut [] (fun wc => ∃ (kq : Nat), Aside0 (papermilllaw18_ChestKeeps.j3 kq a2 a0_0 l0_1 a1_0 l1_1 = some r) ∧ Aside0 (kq ≤ kj3) ∧ Aside0 (Kd.R (Kd.int .i64) 3 wc w.heap.size (fun _ => True) (.slice Ao25 t523.length co25) t523) ∧ Aside0 (wc.heap[gb519]? = some (.cells #[.int .i64 a0_0, (.slice A0_1 l0_1.length c0_1)] 24 (0, 0))) ∧ Aside0 (wc.heap[gb520]? = some (.cells #[.int .i64 a1_0, (.slice A1_1 l1_1.length c1_1)] 24 (0, 0))) ∧ Aside0 (wc.heap[gb530]? = some (.cells #[.int .i64 t522, (.slice Ao25 t523.length co25)] 24 (0, 0))) ∧ Aside0 (Below w.heap.size w wc))
    case first =>
     have H := HC17.out
     clear HC17
     by_cases c26 : t529 = 0
     ·rw [if_pos c26] at H
      have c26b0 : (t529 == 0) = true := beq_iff_eq.mpr c26
      have c26b1 : (t529 != 0) = false := bne_eq_false_iff_eq.mpr c26
      clear c26
      (first | rw [c26b0] | (simp only [i64_w, i32_w]; rw [c26b0]) | skip)
      have HC27 := Aside0.mk H
      clear H
      go_upto_region 6 with (fail)
      repeat (go_quiet (fail); go_upto_region 6 with (fail))
      go_cut [66] (fun v66 wc => ∃ (kq : Nat) (x66_26 : Bool), v66 = .bool x66_26 ∧ Aside0 (papermilllaw18_ChestKeeps.j1 kq a2 t526 0 x66_26 a0_0 l0_1 a1_0 l1_1 t522 t523 = some r) ∧ Aside0 (kq ≤ kj3) ∧ Aside0 (Kd.R (Kd.int .i64) 3 wc w.heap.size (fun k_ => some k_ ≠ ((.slice Ao25 t523.length co25) : Value).ownBlock) v527 t526) ∧ Aside0 (Kd.R (Kd.int .i64) 3 wc w.heap.size (fun k_ => some k_ ≠ (v527 : Value).ownBlock) (.slice Ao25 t523.length co25) t523) ∧ Aside0 (wc.heap[gb519]? = some (.cells #[.int .i64 a0_0, (.slice A0_1 l0_1.length c0_1)] 24 (0, 0))) ∧ Aside0 (wc.heap[gb520]? = some (.cells #[.int .i64 a1_0, (.slice A1_1 l1_1.length c1_1)] 24 (0, 0))) ∧ Aside0 (wc.heap[gb530]? = some (.cells #[.int .i64 t522, (.slice Ao25 t523.length co25)] 24 (0, 0))) ∧ Aside0 (Below w.heap.size w wc))
      case first =>
       have H := HC27.out
       clear HC27
       by_cases c28 : (t523.length : Int) = (l0_1.length : Int)
       ·rw [if_pos c28] at H
        have c28b0 : ((t523.length : Int) == (l0_1.length : Int)) = true := beq_iff_eq.mpr c28
        have c28b1 : ((t523.length : Int) != (l0_1.length : Int)) = false := bne_eq_false_iff_eq.mpr c28
        have c28b2 : (t523.length == l0_1.length) = true := by first | simpa using c28 | (simp at c28 ⊢; omega)
        clear c28
        (first | rw [c28b0] | (simp only [i64_w, i32_w]; rw [c28b0]) | skip)
        by_cases c29 : (t526.length : Int) = (l0_1.length : Int)
        ·rw [if_pos c29] at H
         have c29b0 : ((t526.length : Int) == (l0_1.length : Int)) = true := beq_iff_eq.mpr c29
         have c29b1 : ((t526.length : Int) != (l0_1.length : Int)) = false := bne_eq_false_iff_eq.mpr c29
         have c29b2 : (t526.length == l0_1.length) = true := by first | simpa using c29 | (simp at c29 ⊢; omega)
         clear c29
         by_cases c30 : t522 = a0_0
         ·rw [if_pos c30] at H
          have c30b0 : (t522 == a0_0) = true := beq_iff_eq.mpr c30
          have c30b1 : (t522 != a0_0) = false := bne_eq_false_iff_eq.mpr c30
          clear c30
          replace H := Option.bind_eq_some_iff.mp H
          obtain ⟨t531, A310, H⟩ := H
          try dsimp only at H
          have A31 := Aside0.mk A310
          clear A310
          have H' := Aside0.mk H
          clear H
          have hnb32 := NB530_519.out
          have hnc32 := NB519_530.out
          have hnb33 := NB530_520.out
          have hnc33 := NB520_530.out
          obtain ⟨hcz34_0, hcz34_1, hfz34_0, hfz34_1⟩ := bk2 BK530
          have hnb35 := NB519_520.out
          have hnc35 := NB520_519.out
          obtain ⟨hcz36_0, hcz36_1, hfz36_0, hfz36_1⟩ := bk2 BK519
          obtain ⟨Ao37, co37, eo37⟩ := Kd.R_slice HO528.out
          subst eo37
          have fl_ : True := trivial
          repeat ((first | clear fl_ | go_quiet (first | (go_at_call 15; (with_reducible refine (chest_Check.calls kj3 t522 _ _ t523 t531 _ ?side1 ?side2 A31.out).mono ?_); (case side1 => refine (Kd.R_reads' (e := 3) (base := w.heap.size) (ok := fun k_ => some k_ ≠ (.slice Ao37 t526.length co37 : Value).ownBlock) (n := t523.length) (c := co25) ?_).2.2; exact (rX (Kd.R_mono (Kd.R_far (p := ⟨gb530, 1, none⟩) (Kd.R_far (p := ⟨gb530, 0, none⟩) (Kd.R_types HO525.out BK530.out (by decide)) (fun _ hk => hk.2) (.int .i64 t522)) (fun _ hk => hk.2) (.slice Ao25 t523.length co25)) (fun _ h_ => h_.1)))); (case side2 => exact (Kd.R_reads' HO525.out).2.1); rintro e w38 ⟨rfl, hb⟩; replace HO525 := Aside0.mk (Kd.R_below (rX (Kd.R_mono (Kd.R_far (p := ⟨gb530, 1, none⟩) (Kd.R_far (p := ⟨gb530, 0, none⟩) (Kd.R_types HO525.out BK530.out (by decide)) (fun _ hk => hk.2) (.int .i64 t522)) (fun _ hk => hk.2) (.slice Ao25 t523.length co25)) (fun _ h_ => h_.1))) hb); replace HO528 := Aside0.mk (Kd.R_below (rX (Kd.R_mono (Kd.R_far (p := ⟨gb530, 1, none⟩) (Kd.R_far (p := ⟨gb530, 0, none⟩) (Kd.R_types HO528.out BK530.out (by decide)) (fun _ hk => hk.2) (.int .i64 t522)) (fun _ hk => hk.2) (.slice Ao25 t523.length co25)) (fun _ h_ => h_.1))) hb); replace BK519 := Aside0.mk (blk_below (g := gb519) (o := .cells #[.int .i64 a0_0, .slice A0_1 l0_1.length c0_1] 24 (0, 0)) (by (with_reducible repeat (first | refine blk_drewN ?_ _ | refine blk_drew ?_ | refine blk_alloc ?_ _)); refine blk_far ?_ NB519_530.out _; (with_reducible repeat (first | refine blk_drewN ?_ _ | refine blk_drew ?_ | refine blk_alloc ?_ _)); refine blk_far ?_ NB519_530.out _; (with_reducible repeat (first | refine blk_drewN ?_ _ | refine blk_drew ?_ | refine blk_alloc ?_ _)); exact BK519.out) hb); replace BK520 := Aside0.mk (blk_below (g := gb520) (o := .cells #[.int .i64 a1_0, .slice A1_1 l1_1.length c1_1] 24 (0, 0)) (by (with_reducible repeat (first | refine blk_drewN ?_ _ | refine blk_drew ?_ | refine blk_alloc ?_ _)); refine blk_far ?_ NB520_530.out _; (with_reducible repeat (first | refine blk_drewN ?_ _ | refine blk_drew ?_ | refine blk_alloc ?_ _)); refine blk_far ?_ NB520_530.out _; (with_reducible repeat (first | refine blk_drewN ?_ _ | refine blk_drew ?_ | refine blk_alloc ?_ _)); exact BK520.out) hb); replace BK530 := Aside0.mk (blk_below (g := gb530) (o := .cells #[.int .i64 t522, .slice Ao25 t523.length co25] 24 (0, 0)) (by (with_reducible repeat (first | refine blk_drewN ?_ _ | refine blk_drew ?_ | refine blk_alloc ?_ _)); refine blk_put (cs := #[.int .i64 t522, .slice none 0 0]) ?_ 1 _ rfl; (with_reducible repeat (first | refine blk_drewN ?_ _ | refine blk_drew ?_ | refine blk_alloc ?_ _)); refine blk_put (cs := #[.int .i64 0, .slice none 0 0]) ?_ 0 _ rfl; (with_reducible repeat (first | refine blk_drewN ?_ _ | refine blk_drew ?_ | refine blk_alloc ?_ _)); exact BK530.out) hb); replace HB := Aside0.mk (below_step pB hb); (try clear hb); (try clear hb2); (try clear hk); (try clear hi)))); go_wp2_with (first | (go_at_call 15; (with_reducible refine (chest_Check.calls kj3 t522 _ _ t523 t531 _ ?side1 ?side2 A31.out).mono ?_); (case side1 => refine (Kd.R_reads' (e := 3) (base := w.heap.size) (ok := fun k_ => some k_ ≠ (.slice Ao37 t526.length co37 : Value).ownBlock) (n := t523.length) (c := co25) ?_).2.2; exact (rX (Kd.R_mono (Kd.R_far (p := ⟨gb530, 1, none⟩) (Kd.R_far (p := ⟨gb530, 0, none⟩) (Kd.R_types HO525.out BK530.out (by decide)) (fun _ hk => hk.2) (.int .i64 t522)) (fun _ hk => hk.2) (.slice Ao25 t523.length co25)) (fun _ h_ => h_.1)))); (case side2 => exact (Kd.R_reads' HO525.out).2.1); rintro e w38 ⟨rfl, hb⟩; replace HO525 := Aside0.mk (Kd.R_below (rX (Kd.R_mono (Kd.R_far (p := ⟨gb530, 1, none⟩) (Kd.R_far (p := ⟨gb530, 0, none⟩) (Kd.R_types HO525.out BK530.out (by decide)) (fun _ hk => hk.2) (.int .i64 t522)) (fun _ hk => hk.2) (.slice Ao25 t523.length co25)) (fun _ h_ => h_.1))) hb); replace HO528 := Aside0.mk (Kd.R_below (rX (Kd.R_mono (Kd.R_far (p := ⟨gb530, 1, none⟩) (Kd.R_far (p := ⟨gb530, 0, none⟩) (Kd.R_types HO528.out BK530.out (by decide)) (fun _ hk => hk.2) (.int .i64 t522)) (fun _ hk => hk.2) (.slice Ao25 t523.length co25)) (fun _ h_ => h_.1))) hb); replace BK519 := Aside0.mk (blk_below (g := gb519) (o := .cells #[.int .i64 a0_0, .slice A0_1 l0_1.length c0_1] 24 (0, 0)) (by (with_reducible repeat (first | refine blk_drewN ?_ _ | refine blk_drew ?_ | refine blk_alloc ?_ _)); refine blk_far ?_ NB519_530.out _; (with_reducible repeat (first | refine blk_drewN ?_ _ | refine blk_drew ?_ | refine blk_alloc ?_ _)); refine blk_far ?_ NB519_530.out _; (with_reducible repeat (first | refine blk_drewN ?_ _ | refine blk_drew ?_ | refine blk_alloc ?_ _)); exact BK519.out) hb); replace BK520 := Aside0.mk (blk_below (g := gb520) (o := .cells #[.int .i64 a1_0, .slice A1_1 l1_1.length c1_1] 24 (0, 0)) (by (with_reducible repeat (first | refine blk_drewN ?_ _ | refine blk_drew ?_ | refine blk_alloc ?_ _)); refine blk_far ?_ NB520_530.out _; (with_reducible repeat (first | refine blk_drewN ?_ _ | refine blk_drew ?_ | refine blk_alloc ?_ _)); refine blk_far ?_ NB520_530.out _; (with_reducible repeat (first | refine blk_drewN ?_ _ | refine blk_drew ?_ | refine blk_alloc ?_ _)); exact BK520.out) hb); replace BK530 := Aside0.mk (blk_below (g := gb530) (o := .cells #[.int .i64 t522, .slice Ao25 t523.length co25] 24 (0, 0)) (by (with_reducible repeat (first | refine blk_drewN ?_ _ | refine blk_drew ?_ | refine blk_alloc ?_ _)); refine blk_put (cs := #[.int .i64 t522, .slice none 0 0]) ?_ 1 _ rfl; (with_reducible repeat (first | refine blk_drewN ?_ _ | refine blk_drew ?_ | refine blk_alloc ?_ _)); refine blk_put (cs := #[.int .i64 0, .slice none 0 0]) ?_ 0 _ rfl; (with_reducible repeat (first | refine blk_drewN ?_ _ | refine blk_drew ?_ | refine blk_alloc ?_ _)); exact BK530.out) hb); replace HB := Aside0.mk (below_step pB hb); (try clear hb); (try clear hb2); (try clear hk); (try clear hi))))
          go_meet
          case rel => exact ⟨_, ((t531 != 0)), (by first | rfl | (simp; done) | (simp [*]; done)), H', ⟨by have := HJ3.out; first | omega | exact Nat.le_refl _⟩, ⟨by (with_reducible repeat (first | apply Kd.R_alloc | apply Kd.R_drewN | apply Kd.R_drew)); exact HO528.out⟩, ⟨by (with_reducible repeat (first | apply Kd.R_alloc | apply Kd.R_drewN | apply Kd.R_drew)); exact HO525.out⟩, ⟨by (with_reducible repeat (first | refine blk_drewN ?_ _ | refine blk_drew ?_ | refine blk_alloc ?_ _)); exact BK519.out⟩, ⟨by (with_reducible repeat (first | refine blk_drewN ?_ _ | refine blk_drew ?_ | refine blk_alloc ?_ _)); exact BK520.out⟩, ⟨by (with_reducible repeat (first | refine blk_drewN ?_ _ | refine blk_drew ?_ | refine blk_alloc ?_ _)); exact BK530.out⟩, ⟨pB⟩⟩
         ·rw [if_neg c30] at H
          have c30b0 : (t522 == a0_0) = false := beq_eq_false_iff_ne.mpr c30
          have c30b1 : (t522 != a0_0) = true := bne_iff_ne.mpr c30
          have H' := Aside0.mk H
          clear H
          have hnb39 := NB530_519.out
          have hnc39 := NB519_530.out
          have hnb40 := NB530_520.out
          have hnc40 := NB520_530.out
          obtain ⟨hcz41_0, hcz41_1, hfz41_0, hfz41_1⟩ := bk2 BK530
          have hnb42 := NB519_520.out
          have hnc42 := NB520_519.out
          obtain ⟨hcz43_0, hcz43_1, hfz43_0, hfz43_1⟩ := bk2 BK519
          obtain ⟨Ao44, co44, eo44⟩ := Kd.R_slice HO528.out
          subst eo44
          go_wp2
          repeat (go_quiet (fail); try go_wp2)
          go_meet
          case rel => exact ⟨_, (true), (by first | rfl | (simp; done) | (simp [*]; done)), H', ⟨by have := HJ3.out; first | omega | exact Nat.le_refl _⟩, ⟨by (with_reducible repeat (first | apply Kd.R_alloc | apply Kd.R_drewN | apply Kd.R_drew)); exact Kd.R_mono (Kd.R_far (p := ⟨gb530, 1, none⟩) (Kd.R_far (p := ⟨gb530, 0, none⟩) (Kd.R_types HO528.out BK530.out (by decide)) (fun _ hk => hk.2) (.int .i64 t522)) (fun _ hk => hk.2) (.slice Ao25 t523.length co25)) (fun _ hk => hk.1)⟩, ⟨by (with_reducible repeat (first | apply Kd.R_alloc | apply Kd.R_drewN | apply Kd.R_drew)); exact Kd.R_mono (Kd.R_far (p := ⟨gb530, 1, none⟩) (Kd.R_far (p := ⟨gb530, 0, none⟩) (Kd.R_types HO525.out BK530.out (by decide)) (fun _ hk => hk.2) (.int .i64 t522)) (fun _ hk => hk.2) (.slice Ao25 t523.length co25)) (fun _ hk => hk.1)⟩, ⟨by (with_reducible repeat (first | refine blk_drewN ?_ _ | refine blk_drew ?_ | refine blk_alloc ?_ _)); refine blk_far ?_ NB519_530.out _; (with_reducible repeat (first | refine blk_drewN ?_ _ | refine blk_drew ?_ | refine blk_alloc ?_ _)); refine blk_far ?_ NB519_530.out _; (with_reducible repeat (first | refine blk_drewN ?_ _ | refine blk_drew ?_ | refine blk_alloc ?_ _)); exact BK519.out⟩, ⟨by (with_reducible repeat (first | refine blk_drewN ?_ _ | refine blk_drew ?_ | refine blk_alloc ?_ _)); refine blk_far ?_ NB520_530.out _; (with_reducible repeat (first | refine blk_drewN ?_ _ | refine blk_drew ?_ | refine blk_alloc ?_ _)); refine blk_far ?_ NB520_530.out _; (with_reducible repeat (first | refine blk_drewN ?_ _ | refine blk_drew ?_ | refine blk_alloc ?_ _)); exact BK520.out⟩, ⟨by (with_reducible repeat (first | refine blk_drewN ?_ _ | refine blk_drew ?_ | refine blk_alloc ?_ _)); refine blk_put (cs := #[.int .i64 t522, .slice none 0 0]) ?_ 1 _ rfl; (with_reducible repeat (first | refine blk_drewN ?_ _ | refine blk_drew ?_ | refine blk_alloc ?_ _)); refine blk_put (cs := #[.int .i64 0, .slice none 0 0]) ?_ 0 _ rfl; (with_reducible repeat (first | refine blk_drewN ?_ _ | refine blk_drew ?_ | refine blk_alloc ?_ _)); exact BK530.out⟩, ⟨pB⟩⟩
        ·rw [if_neg c29] at H
         have c29b0 : ((t526.length : Int) == (l0_1.length : Int)) = false := beq_eq_false_iff_ne.mpr c29
         have c29b1 : ((t526.length : Int) != (l0_1.length : Int)) = true := bne_iff_ne.mpr c29
         have c29b2 : (t526.length == l0_1.length) = false := by first | simpa using c29 | (simp at c29 ⊢; omega)
         have H' := Aside0.mk H
         clear H
         have hnb45 := NB530_519.out
         have hnc45 := NB519_530.out
         have hnb46 := NB530_520.out
         have hnc46 := NB520_530.out
         obtain ⟨hcz47_0, hcz47_1, hfz47_0, hfz47_1⟩ := bk2 BK530
         have hnb48 := NB519_520.out
         have hnc48 := NB520_519.out
         obtain ⟨hcz49_0, hcz49_1, hfz49_0, hfz49_1⟩ := bk2 BK519
         obtain ⟨Ao50, co50, eo50⟩ := Kd.R_slice HO528.out
         subst eo50
         go_wp2
         repeat (go_quiet (fail); try go_wp2)
         go_meet
         case rel => exact ⟨_, (true), (by first | rfl | (simp; done) | (simp [*]; done)), H', ⟨by have := HJ3.out; first | omega | exact Nat.le_refl _⟩, ⟨by (with_reducible repeat (first | apply Kd.R_alloc | apply Kd.R_drewN | apply Kd.R_drew)); exact Kd.R_mono (Kd.R_far (p := ⟨gb530, 1, none⟩) (Kd.R_far (p := ⟨gb530, 0, none⟩) (Kd.R_types HO528.out BK530.out (by decide)) (fun _ hk => hk.2) (.int .i64 t522)) (fun _ hk => hk.2) (.slice Ao25 t523.length co25)) (fun _ hk => hk.1)⟩, ⟨by (with_reducible repeat (first | apply Kd.R_alloc | apply Kd.R_drewN | apply Kd.R_drew)); exact Kd.R_mono (Kd.R_far (p := ⟨gb530, 1, none⟩) (Kd.R_far (p := ⟨gb530, 0, none⟩) (Kd.R_types HO525.out BK530.out (by decide)) (fun _ hk => hk.2) (.int .i64 t522)) (fun _ hk => hk.2) (.slice Ao25 t523.length co25)) (fun _ hk => hk.1)⟩, ⟨by (with_reducible repeat (first | refine blk_drewN ?_ _ | refine blk_drew ?_ | refine blk_alloc ?_ _)); refine blk_far ?_ NB519_530.out _; (with_reducible repeat (first | refine blk_drewN ?_ _ | refine blk_drew ?_ | refine blk_alloc ?_ _)); refine blk_far ?_ NB519_530.out _; (with_reducible repeat (first | refine blk_drewN ?_ _ | refine blk_drew ?_ | refine blk_alloc ?_ _)); exact BK519.out⟩, ⟨by (with_reducible repeat (first | refine blk_drewN ?_ _ | refine blk_drew ?_ | refine blk_alloc ?_ _)); refine blk_far ?_ NB520_530.out _; (with_reducible repeat (first | refine blk_drewN ?_ _ | refine blk_drew ?_ | refine blk_alloc ?_ _)); refine blk_far ?_ NB520_530.out _; (with_reducible repeat (first | refine blk_drewN ?_ _ | refine blk_drew ?_ | refine blk_alloc ?_ _)); exact BK520.out⟩, ⟨by (with_reducible repeat (first | refine blk_drewN ?_ _ | refine blk_drew ?_ | refine blk_alloc ?_ _)); refine blk_put (cs := #[.int .i64 t522, .slice none 0 0]) ?_ 1 _ rfl; (with_reducible repeat (first | refine blk_drewN ?_ _ | refine blk_drew ?_ | refine blk_alloc ?_ _)); refine blk_put (cs := #[.int .i64 0, .slice none 0 0]) ?_ 0 _ rfl; (with_reducible repeat (first | refine blk_drewN ?_ _ | refine blk_drew ?_ | refine blk_alloc ?_ _)); exact BK530.out⟩, ⟨pB⟩⟩
       ·rw [if_neg c28] at H
        have c28b0 : ((t523.length : Int) == (l0_1.length : Int)) = false := beq_eq_false_iff_ne.mpr c28
        have c28b1 : ((t523.length : Int) != (l0_1.length : Int)) = true := bne_iff_ne.mpr c28
        have c28b2 : (t523.length == l0_1.length) = false := by first | simpa using c28 | (simp at c28 ⊢; omega)
        (first | rw [c28b0] | (simp only [i64_w, i32_w]; rw [c28b0]) | skip)
        have H' := Aside0.mk H
        clear H
        have hnb51 := NB530_519.out
        have hnc51 := NB519_530.out
        have hnb52 := NB530_520.out
        have hnc52 := NB520_530.out
        obtain ⟨hcz53_0, hcz53_1, hfz53_0, hfz53_1⟩ := bk2 BK530
        have hnb54 := NB519_520.out
        have hnc54 := NB520_519.out
        obtain ⟨hcz55_0, hcz55_1, hfz55_0, hfz55_1⟩ := bk2 BK519
        go_wp2
        repeat (go_quiet (fail); try go_wp2)
        go_meet
        case rel => exact ⟨_, (true), (by first | rfl | (simp; done) | (simp [*]; done)), H', ⟨by have := HJ3.out; first | omega | exact Nat.le_refl _⟩, ⟨by (with_reducible repeat (first | apply Kd.R_alloc | apply Kd.R_drewN | apply Kd.R_drew)); exact Kd.R_mono (Kd.R_far (p := ⟨gb530, 1, none⟩) (Kd.R_far (p := ⟨gb530, 0, none⟩) (Kd.R_types HO528.out BK530.out (by decide)) (fun _ hk => hk.2) (.int .i64 t522)) (fun _ hk => hk.2) (.slice Ao25 t523.length co25)) (fun _ hk => hk.1)⟩, ⟨by (with_reducible repeat (first | apply Kd.R_alloc | apply Kd.R_drewN | apply Kd.R_drew)); exact Kd.R_mono (Kd.R_far (p := ⟨gb530, 1, none⟩) (Kd.R_far (p := ⟨gb530, 0, none⟩) (Kd.R_types HO525.out BK530.out (by decide)) (fun _ hk => hk.2) (.int .i64 t522)) (fun _ hk => hk.2) (.slice Ao25 t523.length co25)) (fun _ hk => hk.1)⟩, ⟨by (with_reducible repeat (first | refine blk_drewN ?_ _ | refine blk_drew ?_ | refine blk_alloc ?_ _)); refine blk_far ?_ NB519_530.out _; (with_reducible repeat (first | refine blk_drewN ?_ _ | refine blk_drew ?_ | refine blk_alloc ?_ _)); refine blk_far ?_ NB519_530.out _; (with_reducible repeat (first | refine blk_drewN ?_ _ | refine blk_drew ?_ | refine blk_alloc ?_ _)); exact BK519.out⟩, ⟨by (with_reducible repeat (first | refine blk_drewN ?_ _ | refine blk_drew ?_ | refine blk_alloc ?_ _)); refine blk_far ?_ NB520_530.out _; (with_reducible repeat (first | refine blk_drewN ?_ _ | refine blk_drew ?_ | refine blk_alloc ?_ _)); refine blk_far ?_ NB520_530.out _; (with_reducible repeat (first | refine blk_drewN ?_ _ | refine blk_drew ?_ | refine blk_alloc ?_ _)); exact BK520.out⟩, ⟨by (with_reducible repeat (first | refine blk_drewN ?_ _ | refine blk_drew ?_ | refine blk_alloc ?_ _)); refine blk_put (cs := #[.int .i64 t522, .slice none 0 0]) ?_ 1 _ rfl; (with_reducible repeat (first | refine blk_drewN ?_ _ | refine blk_drew ?_ | refine blk_alloc ?_ _)); refine blk_put (cs := #[.int .i64 0, .slice none 0 0]) ?_ 0 _ rfl; (with_reducible repeat (first | refine blk_drewN ?_ _ | refine blk_drew ?_ | refine blk_alloc ?_ _)); exact BK530.out⟩, ⟨pB⟩⟩
      case rest => as_aux_lemma =>
       clear HC27
       try clear c1
       try clear c2
       try clear p2
       try clear c3
       try clear c4
       try clear c5
       try clear c7
       try clear c7b0
       try clear c7b1
       try clear c8
       try clear c10
       try clear c13
       try clear c18
       try clear c22
       try clear c23
       try clear c26
       try clear c26b0
       try clear c26b1
       try clear c28
       try clear c28b0
       try clear c28b1
       try clear c28b2
       try clear c29
       try clear c29b0
       try clear c29b1
       try clear c29b2
       try clear c30
       try clear c30b0
       try clear c30b1
       try clear c32
       try clear c33
       try clear c35
       try clear c39
       try clear c40
       try clear c42
       try clear c45
       try clear c46
       try clear c48
       try clear c51
       try clear c52
       try clear c54
       try clear hcz11_0
       try clear hcz11_1
       try clear hcz12_0
       try clear hcz12_1
       try clear hcz19_0
       try clear hcz19_1
       try clear hcz24_0
       try clear hcz24_1
       try clear hcz34_0
       try clear hcz34_1
       try clear hcz36_0
       try clear hcz36_1
       try clear hcz41_0
       try clear hcz41_1
       try clear hcz43_0
       try clear hcz43_1
       try clear hcz47_0
       try clear hcz47_1
       try clear hcz49_0
       try clear hcz49_1
       try clear hcz53_0
       try clear hcz53_1
       try clear hcz55_0
       try clear hcz55_1
       try clear hcz9_0
       try clear hcz9_1
       try clear hfz11_0
       try clear hfz11_1
       try clear hfz12_0
       try clear hfz12_1
       try clear hfz19_0
       try clear hfz19_1
       try clear hfz24_0
       try clear hfz24_1
       try clear hfz34_0
       try clear hfz34_1
       try clear hfz36_0
       try clear hfz36_1
       try clear hfz41_0
       try clear hfz41_1
       try clear hfz43_0
       try clear hfz43_1
       try clear hfz47_0
       try clear hfz47_1
       try clear hfz49_0
       try clear hfz49_1
       try clear hfz53_0
       try clear hfz53_1
       try clear hfz55_0
       try clear hfz55_1
       try clear hfz9_0
       try clear hfz9_1
       try clear p2
       obtain ⟨kq, x66_26, rfl, HA, HJ26, HO_8, HO_531001, BK519, BK520, BK530, HB⟩ := hcut
       cases kq with
       | zero => exact absurd HA.out (by simp [papermilllaw18_ChestKeeps.j1])
       | succ kj26 =>
        have H := HA.out
        clear HA
        simp only [papermilllaw18_ChestKeeps.j1] at H
        by_cases c56 : x66_26 = true
        ·subst c56
         have H1 : (none) = some r := by rw [if_pos rfl] at H; exact H
         clear H
         have H := H1
         clear H1
         exact absurd H (by simp)
        ·replace c56 := Bool.eq_false_iff.mpr c56
         subst c56
         have H1 : (papermilllaw18_ChestKeeps.l0 kj26 a2 t526 0 0 a0_0 l0_1 a1_0 l1_1 t522 t523) = some r := by rw [if_neg (show ¬ (false = true) by decide)] at H; exact H
         clear H
         have H := H1
         clear H1
         have H' := Aside0.mk H
         clear H
         go_wp2
         repeat (go_quiet (fail); try go_wp2)
         go_loopg [10, 11] kj26 (fun kq v10 v11 w' => ∃ (x10_3 : Int) (x11_3 : Int), v10 = .int .i64 x10_3 ∧ v11 = .int .i64 x11_3 ∧ Aside0 (papermilllaw18_ChestKeeps.l0 kq a2 t526 x10_3 x11_3 a0_0 l0_1 a1_0 l1_1 t522 t523 = some r) ∧ Aside0 (kq ≤ kj26) ∧ Aside0 (Kd.R (Kd.int .i64) 3 w' w.heap.size (fun k_ => some k_ ≠ ((.slice Ao25 t523.length co25) : Value).ownBlock) v527 t526) ∧ Aside0 (Kd.R (Kd.int .i64) 3 w' w.heap.size (fun k_ => some k_ ≠ (v527 : Value).ownBlock) (.slice Ao25 t523.length co25) t523) ∧ Aside0 (w'.heap[gb519]? = some (.cells #[.int .i64 a0_0, (.slice A0_1 l0_1.length c0_1)] 24 (0, 0))) ∧ Aside0 (w'.heap[gb520]? = some (.cells #[.int .i64 a1_0, (.slice A1_1 l1_1.length c1_1)] 24 (0, 0))) ∧ Aside0 (w'.heap[gb530]? = some (.cells #[.int .i64 t522, (.slice Ao25 t523.length co25)] 24 (0, 0))) ∧ Aside0 (Below w.heap.size w w'))
         case atStart => exact ⟨(0), (0), (by first | rfl | (simp; done) | (simp [*]; done)), (by first | rfl | (simp; done) | (simp [*]; done)), H', ⟨Nat.le_refl _⟩, ⟨by (with_reducible repeat (first | apply Kd.R_alloc | apply Kd.R_drewN | apply Kd.R_drew)); exact HO_8.out⟩, ⟨by (with_reducible repeat (first | apply Kd.R_alloc | apply Kd.R_drewN | apply Kd.R_drew)); exact HO_531001.out⟩, ⟨by (with_reducible repeat (first | refine blk_drewN ?_ _ | refine blk_drew ?_ | refine blk_alloc ?_ _)); exact BK519.out⟩, ⟨by (with_reducible repeat (first | refine blk_drewN ?_ _ | refine blk_drew ?_ | refine blk_alloc ?_ _)); exact BK520.out⟩, ⟨by (with_reducible repeat (first | refine blk_drewN ?_ _ | refine blk_drew ?_ | refine blk_alloc ?_ _)); exact BK530.out⟩, ⟨pB⟩⟩
         case round =>
          clear H'
          try clear c1
          try clear c2
          try clear p2
          try clear c3
          try clear c4
          try clear c5
          try clear c7
          try clear c7b0
          try clear c7b1
          try clear c8
          try clear c10
          try clear c13
          try clear c18
          try clear c22
          try clear c23
          try clear c26
          try clear c26b0
          try clear c26b1
          try clear c28
          try clear c28b0
          try clear c28b1
          try clear c28b2
          try clear c29
          try clear c29b0
          try clear c29b1
          try clear c29b2
          try clear c30
          try clear c30b0
          try clear c30b1
          try clear c32
          try clear c33
          try clear c35
          try clear c39
          try clear c40
          try clear c42
          try clear c45
          try clear c46
          try clear c48
          try clear c51
          try clear c52
          try clear c54
          try clear c56
          try clear hcz11_0
          try clear hcz11_1
          try clear hcz12_0
          try clear hcz12_1
          try clear hcz19_0
          try clear hcz19_1
          try clear hcz24_0
          try clear hcz24_1
          try clear hcz34_0
          try clear hcz34_1
          try clear hcz36_0
          try clear hcz36_1
          try clear hcz41_0
          try clear hcz41_1
          try clear hcz43_0
          try clear hcz43_1
          try clear hcz47_0
          try clear hcz47_1
          try clear hcz49_0
          try clear hcz49_1
          try clear hcz53_0
          try clear hcz53_1
          try clear hcz55_0
          try clear hcz55_1
          try clear hcz9_0
          try clear hcz9_1
          try clear hfz11_0
          try clear hfz11_1
          try clear hfz12_0
          try clear hfz12_1
          try clear hfz19_0
          try clear hfz19_1
          try clear hfz24_0
          try clear hfz24_1
          try clear hfz34_0
          try clear hfz34_1
          try clear hfz36_0
          try clear hfz36_1
          try clear hfz41_0
          try clear hfz41_1
          try clear hfz43_0
          try clear hfz43_1
          try clear hfz47_0
          try clear hfz47_1
          try clear hfz49_0
          try clear hfz49_1
          try clear hfz53_0
          try clear hfz53_1
          try clear hfz55_0
          try clear hfz55_1
          try clear hfz9_0
          try clear hfz9_1
          try clear p2
          obtain ⟨x10_3, x11_3, rfl, rfl, HA, HK3, HO_8, HO_531001, BK519, BK520, BK530, HB⟩ := hrel
          cases gk with
          | zero => exact absurd HA.out (by simp [papermilllaw18_ChestKeeps.l0])
          | succ k3 =>
           have H := HA.out
           clear HA
           simp only [papermilllaw18_ChestKeeps.l0] at H
           by_cases c57 : x11_3 < (t526.length : Int)
           ·rw [if_pos c57] at H
            have c57b0 : decide (x11_3 < (t526.length : Int)) = true := decide_eq_true c57
            clear c57
            by_cases c58 : 0 ≤ x11_3
            ·rw [if_pos c58] at H
             have c58b0 : decide (0 ≤ x11_3) = true := decide_eq_true c58
             clear c58
             by_cases c59 : (rd t526 x11_3) < 0
             ·rw [if_pos c59] at H
              exact absurd H (by simp)
             ·rw [if_neg c59] at H
              have c59b0 : decide ((rd t526 x11_3) < 0) = false := decide_eq_false c59
              clear c59
              by_cases c60 : x11_3 < (t523.length : Int)
              ·rw [if_pos c60] at H
               have c60b0 : decide (x11_3 < (t523.length : Int)) = true := decide_eq_true c60
               clear c60
               by_cases c61 : (rd t523 x11_3) < 0
               ·rw [if_pos c61] at H
                exact absurd H (by simp)
               ·rw [if_neg c61] at H
                have c61b0 : decide ((rd t523 x11_3) < 0) = false := decide_eq_false c61
                clear c61
                by_cases c62 : x11_3 < (l0_1.length : Int)
                ·rw [if_pos c62] at H
                 have c62b0 : decide (x11_3 < (l0_1.length : Int)) = true := decide_eq_true c62
                 clear c62
                 by_cases c63 : (wrap64 ((rd t523 x11_3) + (rd t526 x11_3))) = (rd l0_1 x11_3)
                 ·rw [if_pos c63] at H
                  have c63b0 : ((wrap64 ((rd t523 x11_3) + (rd t526 x11_3))) == (rd l0_1 x11_3)) = true := beq_iff_eq.mpr c63
                  have c63b1 : ((wrap64 ((rd t523 x11_3) + (rd t526 x11_3))) != (rd l0_1 x11_3)) = false := bne_eq_false_iff_eq.mpr c63
                  clear c63
                  have H' := Aside0.mk H
                  clear H
                  obtain ⟨Ao64, co64, eo64⟩ := Kd.R_slice HO_8.out
                  subst eo64
                  have p532 : 0 ≤ (x11_3 : Int) := of_decide_eq_true (by first | (with_reducible assumption) | assumption)
                  have q532 : x11_3 < (t526.length : Int) := of_decide_eq_true (by first | (with_reducible assumption) | assumption)
                  obtain ⟨ad532, e532, hx532_0⟩ := Kd.at_int (Kd.R_reads' HO_8.out).2.2 x11_3 p532 q532
                  cases e532
                  replace p532 := eq_true p532
                  replace q532 := eq_true q532
                  have hnb65 := NB530_519.out
                  have hnc65 := NB519_530.out
                  have hnb66 := NB530_520.out
                  have hnc66 := NB520_530.out
                  obtain ⟨hcz67_0, hcz67_1, hfz67_0, hfz67_1⟩ := bk2 BK530
                  have p533 : 0 ≤ (x11_3 : Int) := of_decide_eq_true (by first | (with_reducible assumption) | assumption)
                  have q533 : x11_3 < (t523.length : Int) := of_decide_eq_true (by first | (with_reducible assumption) | assumption)
                  obtain ⟨ad533, e533, hx533_0⟩ := Kd.at_int (Kd.R_reads' HO_531001.out).2.2 x11_3 p533 q533
                  cases e533
                  replace p533 := eq_true p533
                  replace q533 := eq_true q533
                  have p534 : 0 ≤ (x11_3 : Int) := of_decide_eq_true (by first | (with_reducible assumption) | assumption)
                  have q534 : x11_3 < (t523.length : Int) := of_decide_eq_true (by first | (with_reducible assumption) | assumption)
                  obtain ⟨ad534, e534, hx534_0⟩ := Kd.at_int (Kd.R_reads' HO_531001.out).2.2 x11_3 p534 q534
                  obtain rfl : ad533 = ad534 := (by injection e534)
                  replace p534 := eq_true p534
                  replace q534 := eq_true q534
                  have p535 : 0 ≤ (x11_3 : Int) := of_decide_eq_true (by first | (with_reducible assumption) | assumption)
                  have q535 : x11_3 < (t526.length : Int) := of_decide_eq_true (by first | (with_reducible assumption) | assumption)
                  obtain ⟨ad535, e535, hx535_0⟩ := Kd.at_int (Kd.R_reads' HO_8.out).2.2 x11_3 p535 q535
                  obtain rfl : ad532 = ad535 := (by injection e535)
                  replace p535 := eq_true p535
                  replace q535 := eq_true q535
                  have hnb68 := NB519_520.out
                  have hnc68 := NB520_519.out
                  obtain ⟨hcz69_0, hcz69_1, hfz69_0, hfz69_1⟩ := bk2 BK519
                  have p536 : 0 ≤ (x11_3 : Int) := of_decide_eq_true (by first | (with_reducible assumption) | assumption)
                  have q536 : x11_3 < (l0_1.length : Int) := of_decide_eq_true (by first | (with_reducible assumption) | assumption)
                  obtain ⟨ad536, e536, hx536_0⟩ := Kd.at_int HR0_1.out x11_3 p536 q536
                  cases e536
                  replace hx536_0 := (HB.out.cell (World.block_lt_of_cell? w _ hx536_0)).trans hx536_0
                  replace p536 := eq_true p536
                  replace q536 := eq_true q536
                  have p537 : 0 ≤ (x11_3 : Int) := of_decide_eq_true (by first | (with_reducible assumption) | assumption)
                  have q537 : x11_3 < (t526.length : Int) := of_decide_eq_true (by first | (with_reducible assumption) | assumption)
                  obtain ⟨ad537, e537, hx537_0⟩ := Kd.at_int (Kd.R_reads' HO_8.out).2.2 x11_3 p537 q537
                  obtain rfl : ad532 = ad537 := (by injection e537)
                  replace p537 := eq_true p537
                  replace q537 := eq_true q537
                  go_wp2
                  repeat (go_quiet (fail); try go_wp2)
                  go_roundg k3
                  case measure => have := HJ3.out; have := HJ26.out; have := HK3.out; omega
                  case rel => exact ⟨(wrap64 (x10_3 + (rd t526 x11_3))), (wrap64 (x11_3 + 1)), (by first | rfl | (simp; done) | (simp [*]; done)), (by first | rfl | (simp; done) | (simp [*]; done)), H', ⟨by have := HJ3.out; have := HJ26.out; have := HK3.out; omega⟩, ⟨by (with_reducible repeat (first | apply Kd.R_alloc | apply Kd.R_drewN | apply Kd.R_drew)); exact HO_8.out⟩, ⟨by (with_reducible repeat (first | apply Kd.R_alloc | apply Kd.R_drewN | apply Kd.R_drew)); exact HO_531001.out⟩, ⟨by (with_reducible repeat (first | refine blk_drewN ?_ _ | refine blk_drew ?_ | refine blk_alloc ?_ _)); exact BK519.out⟩, ⟨by (with_reducible repeat (first | refine blk_drewN ?_ _ | refine blk_drew ?_ | refine blk_alloc ?_ _)); exact BK520.out⟩, ⟨by (with_reducible repeat (first | refine blk_drewN ?_ _ | refine blk_drew ?_ | refine blk_alloc ?_ _)); exact BK530.out⟩, ⟨pB⟩⟩
                 ·rw [if_neg c63] at H
                  exact absurd H (by simp)
                ·rw [if_neg c62] at H
                 exact absurd H (by simp)
              ·rw [if_neg c60] at H
               exact absurd H (by simp)
            ·rw [if_neg c58] at H
             exact absurd H (by simp)
           ·rw [if_neg c57] at H
            have c57b0 : decide (x11_3 < (t526.length : Int)) = false := decide_eq_false c57
            clear c57
            by_cases c70 : x10_3 = a2
            ·rw [if_pos c70] at H
             have c70b0 : (x10_3 == a2) = true := beq_iff_eq.mpr c70
             have c70b1 : (x10_3 != a2) = false := bne_eq_false_iff_eq.mpr c70
             clear c70
             replace H := Option.bind_eq_some_iff.mp H
             obtain ⟨⟨t538, t539⟩, A710, H⟩ := H
             try dsimp only at H
             have A71 := Aside0.mk A710
             clear A710
             replace H := Option.bind_eq_some_iff.mp H
             obtain ⟨⟨t540, t541, t544⟩, A720, H⟩ := H
             try dsimp only at H
             have A72 := Aside0.mk A720
             clear A720
             by_cases c73 : t539 = 0
             ·rw [if_pos c73] at H
              have c73b0 : (t539 == 0) = true := beq_iff_eq.mpr c73
              have c73b1 : (t539 != 0) = false := bne_eq_false_iff_eq.mpr c73
              clear c73
              by_cases c74 : t544 = 0
              ·rw [if_pos c74] at H
               have c74b0 : (t544 == 0) = true := beq_iff_eq.mpr c74
               have c74b1 : (t544 != 0) = false := bne_eq_false_iff_eq.mpr c74
               clear c74
               replace H := Option.bind_eq_some_iff.mp H
               obtain ⟨t546, A750, H⟩ := H
               try dsimp only at H
               have A75 := Aside0.mk A750
               clear A750
               by_cases c76 : t546 = true
               ·subst c76
                have H1 : (if t538 < a2 then (none) else (papermilllaw18_ChestKeeps.j3 k3 a2 a0_0 l0_1 a1_0 l1_1)) = some r := by rw [if_pos rfl] at H; exact H
                clear H
                have H := H1
                clear H1
                by_cases c77 : t538 < a2
                ·rw [if_pos c77] at H
                 exact absurd H (by simp)
                ·rw [if_neg c77] at H
                 have c77b0 : decide (t538 < a2) = false := decide_eq_false c77
                 clear c77
                 have H' := Aside0.mk H
                 clear H
                 obtain ⟨Ao78, co78, eo78⟩ := Kd.R_slice HO_8.out
                 subst eo78
                 have hnb79 := NB519_520.out
                 have hnc79 := NB520_519.out
                 have hnb80 := NB519_530.out
                 have hnc80 := NB530_519.out
                 obtain ⟨hcz81_0, hcz81_1, hfz81_0, hfz81_1⟩ := bk2 BK519
                 have fl_ : True := trivial
                 repeat ((first | clear fl_ | go_quiet (first | (go_at_call 11; (with_reducible refine (chest_Level.calls k3 a0_0 _ _ l0_1 t538 t539 _ ?side1 ?side2 A71.out).mono ?_); (case side1 => repeat (first | exact (Kd.C_below HR0_1.out HB.out) | (with_reducible refine Kd.C_alloc ?_ _) | (with_reducible refine Kd.C_drewN ?_ _) | (with_reducible refine Kd.C_drew ?_))); (case side2 => exact HC0_1.out); rintro e w82 ⟨rfl, hb⟩; replace HO_8 := Aside0.mk (Kd.R_below (rX HO_8.out) hb); replace HO_531001 := Aside0.mk (Kd.R_below (rX HO_531001.out) hb); replace BK519 := Aside0.mk (kB BK519 hb); replace BK520 := Aside0.mk (kB BK520 hb); replace BK530 := Aside0.mk (kB BK530 hb); replace HB := Aside0.mk (below_step pB hb); (try clear hb); (try clear hb2); (try clear hk); (try clear hi); have hnb83 := NB530_520.out; have hnc83 := NB520_530.out; obtain ⟨hcz84_0, hcz84_1, hfz84_0, hfz84_1⟩ := bk2 BK530) | (go_at_call 17; (with_reducible refine (chest_Fill.calls k3 t522 _ _ t523 _ _ t526 t540 t541 t544 _ ?side1 ?side2 ?side3 ?side4 A72.out).mono ?_); (case side1 => repeat (first | exact (Kd.R_reads' HO_531001.out).2.2 | (with_reducible refine Kd.C_alloc ?_ _) | (with_reducible refine Kd.C_drewN ?_ _) | (with_reducible refine Kd.C_drew ?_))); (case side2 => exact (Kd.R_reads' HO_531001.out).2.1); (case side3 => repeat (first | exact (Kd.R_reads' HO_8.out).2.2 | (with_reducible refine Kd.C_alloc ?_ _) | (with_reducible refine Kd.C_drewN ?_ _) | (with_reducible refine Kd.C_drew ?_))); (case side4 => exact (Kd.R_reads' HO_8.out).2.1); rintro e w85 ⟨v542, rfl, ho0, hb⟩; have HO543 := Aside0.mk (Kd.R_lower (Kd.R_new' (Kd.R_new' ho0 (Kd.R_lt (rX HO_8.out))) (Kd.R_lt (rX HO_531001.out))) (below_size pB)); replace HO_8 := Aside0.mk (Kd.R_elder' (rX HO_8.out) (Kd.R_base ho0) hb); replace HO_531001 := Aside0.mk (Kd.R_elder' (rX HO_531001.out) (Kd.R_base ho0) hb); replace BK519 := Aside0.mk (kB BK519 hb); replace BK520 := Aside0.mk (kB BK520 hb); replace BK530 := Aside0.mk (kB BK530 hb); replace HB := Aside0.mk (below_step pB hb); (try clear hb); (try clear hb2); (try clear hk); (try clear hi); (try clear ho0)) | ((with_reducible refine gate_dst (N := 14) rfl ?_); (try (refine gate_guard (by rfl) ?_; dsimp only)); refine box_event ?hg (N := 14) ?hd (cs := #[.int .i64 0, .slice none 0 0]) (t := 24) ?hr ?_; (case hd => rfl); (case hg => rfl); (case hr => first | (go_simp; done) | (go_simp; rfl)); intro gb545 hg w86 hbox hb; have BK545 := Aside0.mk (hbox); have GW545 := Aside0.mk (gW hg : w.heap.size ≤ gb545); have GE545 := Aside0.mk (gW hg : w.heap.size ≤ gb545); have NB519_545 := Aside0.mk (nL hg BK519 : gb519 ≠ gb545); have NB545_519 := Aside0.mk (nG hg BK519 : gb545 ≠ gb519); have NB520_545 := Aside0.mk (nL hg BK520 : gb520 ≠ gb545); have NB545_520 := Aside0.mk (nG hg BK520 : gb545 ≠ gb520); have NB530_545 := Aside0.mk (nL hg BK530 : gb530 ≠ gb545); have NB545_530 := Aside0.mk (nG hg BK530 : gb545 ≠ gb530); replace HO_8 := Aside0.mk (Kd.R_below (rX HO_8.out) hb); replace HO_531001 := Aside0.mk (Kd.R_below (rX HO_531001.out) hb); replace HO543 := Aside0.mk (Kd.R_below (rX HO543.out) hb); replace BK519 := Aside0.mk (kB BK519 hb); replace BK520 := Aside0.mk (kB BK520 hb); replace BK530 := Aside0.mk (kB BK530 hb); replace HB := Aside0.mk (below_step pB hb); clear hb hbox hg; have hnb87 := NB545_519.out; have hnc87 := NB519_545.out; have hnb88 := NB545_520.out; have hnc88 := NB520_545.out; have hnb89 := NB545_530.out; have hnc89 := NB530_545.out; obtain ⟨hcz90_0, hcz90_1, hfz90_0, hfz90_1⟩ := bk2 BK545; obtain ⟨Ao91, co91, eo91⟩ := Kd.R_slice HO543.out; subst eo91; obtain ⟨hcz92_0, hcz92_1, hfz92_0, hfz92_1⟩ := bk2 BK519) | (go_at_call 21; (with_reducible refine (papermillref18_Same.calls k3 t540 _ _ t541 a0_0 _ _ l0_1 true _ ?side1 ?side2 ?side3 ?side4 A75.out).mono ?_); (case side1 => refine (Kd.R_reads' (e := 3) (base := w.heap.size) (ok := fun k_ => ((True ∧ some k_ ≠ (.slice Ao78 t526.length co78 : Value).ownBlock) ∧ some k_ ≠ (.slice Ao25 t523.length co25 : Value).ownBlock)) (n := t541.length) (c := co91) ?_).2.2; exact (rX (Kd.R_mono (Kd.R_far (p := ⟨gb545, 1, none⟩) (Kd.R_far (p := ⟨gb545, 0, none⟩) (Kd.R_types HO543.out BK545.out (by decide)) (fun _ hk => hk.2) (.int .i64 t540)) (fun _ hk => hk.2) (.slice Ao91 t541.length co91)) (fun _ h_ => h_.1)))); (case side2 => exact (Kd.R_reads' HO543.out).2.1); (case side3 => exact Kd.C_below HR0_1.out pB); (case side4 => exact HC0_1.out); rintro e w93 ⟨rfl, hb⟩; replace HO_8 := Aside0.mk (Kd.R_below (rX (Kd.R_mono (Kd.R_far (p := ⟨gb545, 1, none⟩) (Kd.R_far (p := ⟨gb545, 0, none⟩) (Kd.R_types HO_8.out BK545.out (by decide)) (fun _ hk => hk.2) (.int .i64 t540)) (fun _ hk => hk.2) (.slice Ao91 t541.length co91)) (fun _ h_ => h_.1))) hb); replace HO_531001 := Aside0.mk (Kd.R_below (rX (Kd.R_mono (Kd.R_far (p := ⟨gb545, 1, none⟩) (Kd.R_far (p := ⟨gb545, 0, none⟩) (Kd.R_types HO_531001.out BK545.out (by decide)) (fun _ hk => hk.2) (.int .i64 t540)) (fun _ hk => hk.2) (.slice Ao91 t541.length co91)) (fun _ h_ => h_.1))) hb); replace HO543 := Aside0.mk (Kd.R_below (rX (Kd.R_mono (Kd.R_far (p := ⟨gb545, 1, none⟩) (Kd.R_far (p := ⟨gb545, 0, none⟩) (Kd.R_types HO543.out BK545.out (by decide)) (fun _ hk => hk.2) (.int .i64 t540)) (fun _ hk => hk.2) (.slice Ao91 t541.length co91)) (fun _ h_ => h_.1))) hb); replace BK519 := Aside0.mk (blk_below (g := gb519) (o := .cells #[.int .i64 a0_0, .slice A0_1 l0_1.length c0_1] 24 (0, 0)) (by (with_reducible repeat (first | refine blk_drewN ?_ _ | refine blk_drew ?_ | refine blk_alloc ?_ _)); refine blk_far ?_ NB519_545.out _; (with_reducible repeat (first | refine blk_drewN ?_ _ | refine blk_drew ?_ | refine blk_alloc ?_ _)); refine blk_far ?_ NB519_545.out _; (with_reducible repeat (first | refine blk_drewN ?_ _ | refine blk_drew ?_ | refine blk_alloc ?_ _)); exact BK519.out) hb); replace BK520 := Aside0.mk (blk_below (g := gb520) (o := .cells #[.int .i64 a1_0, .slice A1_1 l1_1.length c1_1] 24 (0, 0)) (by (with_reducible repeat (first | refine blk_drewN ?_ _ | refine blk_drew ?_ | refine blk_alloc ?_ _)); refine blk_far ?_ NB520_545.out _; (with_reducible repeat (first | refine blk_drewN ?_ _ | refine blk_drew ?_ | refine blk_alloc ?_ _)); refine blk_far ?_ NB520_545.out _; (with_reducible repeat (first | refine blk_drewN ?_ _ | refine blk_drew ?_ | refine blk_alloc ?_ _)); exact BK520.out) hb); replace BK530 := Aside0.mk (blk_below (g := gb530) (o := .cells #[.int .i64 t522, .slice Ao25 t523.length co25] 24 (0, 0)) (by (with_reducible repeat (first | refine blk_drewN ?_ _ | refine blk_drew ?_ | refine blk_alloc ?_ _)); refine blk_far ?_ NB530_545.out _; (with_reducible repeat (first | refine blk_drewN ?_ _ | refine blk_drew ?_ | refine blk_alloc ?_ _)); refine blk_far ?_ NB530_545.out _; (with_reducible repeat (first | refine blk_drewN ?_ _ | refine blk_drew ?_ | refine blk_alloc ?_ _)); exact BK530.out) hb); replace BK545 := Aside0.mk (blk_below (g := gb545) (o := .cells #[.int .i64 t540, .slice Ao91 t541.length co91] 24 (0, 0)) (by (with_reducible repeat (first | refine blk_drewN ?_ _ | refine blk_drew ?_ | refine blk_alloc ?_ _)); refine blk_put (cs := #[.int .i64 t540, .slice none 0 0]) ?_ 1 _ rfl; (with_reducible repeat (first | refine blk_drewN ?_ _ | refine blk_drew ?_ | refine blk_alloc ?_ _)); refine blk_put (cs := #[.int .i64 0, .slice none 0 0]) ?_ 0 _ rfl; (with_reducible repeat (first | refine blk_drewN ?_ _ | refine blk_drew ?_ | refine blk_alloc ?_ _)); exact BK545.out) hb); replace HB := Aside0.mk (below_step pB hb); (try clear hb); (try clear hb2); (try clear hk); (try clear hi)))); go_wp2_with (first | (go_at_call 11; (with_reducible refine (chest_Level.calls k3 a0_0 _ _ l0_1 t538 t539 _ ?side1 ?side2 A71.out).mono ?_); (case side1 => repeat (first | exact (Kd.C_below HR0_1.out HB.out) | (with_reducible refine Kd.C_alloc ?_ _) | (with_reducible refine Kd.C_drewN ?_ _) | (with_reducible refine Kd.C_drew ?_))); (case side2 => exact HC0_1.out); rintro e w82 ⟨rfl, hb⟩; replace HO_8 := Aside0.mk (Kd.R_below (rX HO_8.out) hb); replace HO_531001 := Aside0.mk (Kd.R_below (rX HO_531001.out) hb); replace BK519 := Aside0.mk (kB BK519 hb); replace BK520 := Aside0.mk (kB BK520 hb); replace BK530 := Aside0.mk (kB BK530 hb); replace HB := Aside0.mk (below_step pB hb); (try clear hb); (try clear hb2); (try clear hk); (try clear hi); have hnb83 := NB530_520.out; have hnc83 := NB520_530.out; obtain ⟨hcz84_0, hcz84_1, hfz84_0, hfz84_1⟩ := bk2 BK530) | (go_at_call 17; (with_reducible refine (chest_Fill.calls k3 t522 _ _ t523 _ _ t526 t540 t541 t544 _ ?side1 ?side2 ?side3 ?side4 A72.out).mono ?_); (case side1 => repeat (first | exact (Kd.R_reads' HO_531001.out).2.2 | (with_reducible refine Kd.C_alloc ?_ _) | (with_reducible refine Kd.C_drewN ?_ _) | (with_reducible refine Kd.C_drew ?_))); (case side2 => exact (Kd.R_reads' HO_531001.out).2.1); (case side3 => repeat (first | exact (Kd.R_reads' HO_8.out).2.2 | (with_reducible refine Kd.C_alloc ?_ _) | (with_reducible refine Kd.C_drewN ?_ _) | (with_reducible refine Kd.C_drew ?_))); (case side4 => exact (Kd.R_reads' HO_8.out).2.1); rintro e w85 ⟨v542, rfl, ho0, hb⟩; have HO543 := Aside0.mk (Kd.R_lower (Kd.R_new' (Kd.R_new' ho0 (Kd.R_lt (rX HO_8.out))) (Kd.R_lt (rX HO_531001.out))) (below_size pB)); replace HO_8 := Aside0.mk (Kd.R_elder' (rX HO_8.out) (Kd.R_base ho0) hb); replace HO_531001 := Aside0.mk (Kd.R_elder' (rX HO_531001.out) (Kd.R_base ho0) hb); replace BK519 := Aside0.mk (kB BK519 hb); replace BK520 := Aside0.mk (kB BK520 hb); replace BK530 := Aside0.mk (kB BK530 hb); replace HB := Aside0.mk (below_step pB hb); (try clear hb); (try clear hb2); (try clear hk); (try clear hi); (try clear ho0)) | ((with_reducible refine gate_dst (N := 14) rfl ?_); (try (refine gate_guard (by rfl) ?_; dsimp only)); refine box_event ?hg (N := 14) ?hd (cs := #[.int .i64 0, .slice none 0 0]) (t := 24) ?hr ?_; (case hd => rfl); (case hg => rfl); (case hr => first | (go_simp; done) | (go_simp; rfl)); intro gb545 hg w86 hbox hb; have BK545 := Aside0.mk (hbox); have GW545 := Aside0.mk (gW hg : w.heap.size ≤ gb545); have GE545 := Aside0.mk (gW hg : w.heap.size ≤ gb545); have NB519_545 := Aside0.mk (nL hg BK519 : gb519 ≠ gb545); have NB545_519 := Aside0.mk (nG hg BK519 : gb545 ≠ gb519); have NB520_545 := Aside0.mk (nL hg BK520 : gb520 ≠ gb545); have NB545_520 := Aside0.mk (nG hg BK520 : gb545 ≠ gb520); have NB530_545 := Aside0.mk (nL hg BK530 : gb530 ≠ gb545); have NB545_530 := Aside0.mk (nG hg BK530 : gb545 ≠ gb530); replace HO_8 := Aside0.mk (Kd.R_below (rX HO_8.out) hb); replace HO_531001 := Aside0.mk (Kd.R_below (rX HO_531001.out) hb); replace HO543 := Aside0.mk (Kd.R_below (rX HO543.out) hb); replace BK519 := Aside0.mk (kB BK519 hb); replace BK520 := Aside0.mk (kB BK520 hb); replace BK530 := Aside0.mk (kB BK530 hb); replace HB := Aside0.mk (below_step pB hb); clear hb hbox hg; have hnb87 := NB545_519.out; have hnc87 := NB519_545.out; have hnb88 := NB545_520.out; have hnc88 := NB520_545.out; have hnb89 := NB545_530.out; have hnc89 := NB530_545.out; obtain ⟨hcz90_0, hcz90_1, hfz90_0, hfz90_1⟩ := bk2 BK545; obtain ⟨Ao91, co91, eo91⟩ := Kd.R_slice HO543.out; subst eo91; obtain ⟨hcz92_0, hcz92_1, hfz92_0, hfz92_1⟩ := bk2 BK519) | (go_at_call 21; (with_reducible refine (papermillref18_Same.calls k3 t540 _ _ t541 a0_0 _ _ l0_1 true _ ?side1 ?side2 ?side3 ?side4 A75.out).mono ?_); (case side1 => refine (Kd.R_reads' (e := 3) (base := w.heap.size) (ok := fun k_ => ((True ∧ some k_ ≠ (.slice Ao78 t526.length co78 : Value).ownBlock) ∧ some k_ ≠ (.slice Ao25 t523.length co25 : Value).ownBlock)) (n := t541.length) (c := co91) ?_).2.2; exact (rX (Kd.R_mono (Kd.R_far (p := ⟨gb545, 1, none⟩) (Kd.R_far (p := ⟨gb545, 0, none⟩) (Kd.R_types HO543.out BK545.out (by decide)) (fun _ hk => hk.2) (.int .i64 t540)) (fun _ hk => hk.2) (.slice Ao91 t541.length co91)) (fun _ h_ => h_.1)))); (case side2 => exact (Kd.R_reads' HO543.out).2.1); (case side3 => exact Kd.C_below HR0_1.out pB); (case side4 => exact HC0_1.out); rintro e w93 ⟨rfl, hb⟩; replace HO_8 := Aside0.mk (Kd.R_below (rX (Kd.R_mono (Kd.R_far (p := ⟨gb545, 1, none⟩) (Kd.R_far (p := ⟨gb545, 0, none⟩) (Kd.R_types HO_8.out BK545.out (by decide)) (fun _ hk => hk.2) (.int .i64 t540)) (fun _ hk => hk.2) (.slice Ao91 t541.length co91)) (fun _ h_ => h_.1))) hb); replace HO_531001 := Aside0.mk (Kd.R_below (rX (Kd.R_mono (Kd.R_far (p := ⟨gb545, 1, none⟩) (Kd.R_far (p := ⟨gb545, 0, none⟩) (Kd.R_types HO_531001.out BK545.out (by decide)) (fun _ hk => hk.2) (.int .i64 t540)) (fun _ hk => hk.2) (.slice Ao91 t541.length co91)) (fun _ h_ => h_.1))) hb); replace HO543 := Aside0.mk (Kd.R_below (rX (Kd.R_mono (Kd.R_far (p := ⟨gb545, 1, none⟩) (Kd.R_far (p := ⟨gb545, 0, none⟩) (Kd.R_types HO543.out BK545.out (by decide)) (fun _ hk => hk.2) (.int .i64 t540)) (fun _ hk => hk.2) (.slice Ao91 t541.length co91)) (fun _ h_ => h_.1))) hb); replace BK519 := Aside0.mk (blk_below (g := gb519) (o := .cells #[.int .i64 a0_0, .slice A0_1 l0_1.length c0_1] 24 (0, 0)) (by (with_reducible repeat (first | refine blk_drewN ?_ _ | refine blk_drew ?_ | refine blk_alloc ?_ _)); refine blk_far ?_ NB519_545.out _; (with_reducible repeat (first | refine blk_drewN ?_ _ | refine blk_drew ?_ | refine blk_alloc ?_ _)); refine blk_far ?_ NB519_545.out _; (with_reducible repeat (first | refine blk_drewN ?_ _ | refine blk_drew ?_ | refine blk_alloc ?_ _)); exact BK519.out) hb); replace BK520 := Aside0.mk (blk_below (g := gb520) (o := .cells #[.int .i64 a1_0, .slice A1_1 l1_1.length c1_1] 24 (0, 0)) (by (with_reducible repeat (first | refine blk_drewN ?_ _ | refine blk_drew ?_ | refine blk_alloc ?_ _)); refine blk_far ?_ NB520_545.out _; (with_reducible repeat (first | refine blk_drewN ?_ _ | refine blk_drew ?_ | refine blk_alloc ?_ _)); refine blk_far ?_ NB520_545.out _; (with_reducible repeat (first | refine blk_drewN ?_ _ | refine blk_drew ?_ | refine blk_alloc ?_ _)); exact BK520.out) hb); replace BK530 := Aside0.mk (blk_below (g := gb530) (o := .cells #[.int .i64 t522, .slice Ao25 t523.length co25] 24 (0, 0)) (by (with_reducible repeat (first | refine blk_drewN ?_ _ | refine blk_drew ?_ | refine blk_alloc ?_ _)); refine blk_far ?_ NB530_545.out _; (with_reducible repeat (first | refine blk_drewN ?_ _ | refine blk_drew ?_ | refine blk_alloc ?_ _)); refine blk_far ?_ NB530_545.out _; (with_reducible repeat (first | refine blk_drewN ?_ _ | refine blk_drew ?_ | refine blk_alloc ?_ _)); exact BK530.out) hb); replace BK545 := Aside0.mk (blk_below (g := gb545) (o := .cells #[.int .i64 t540, .slice Ao91 t541.length co91] 24 (0, 0)) (by (with_reducible repeat (first | refine blk_drewN ?_ _ | refine blk_drew ?_ | refine blk_alloc ?_ _)); refine blk_put (cs := #[.int .i64 t540, .slice none 0 0]) ?_ 1 _ rfl; (with_reducible repeat (first | refine blk_drewN ?_ _ | refine blk_drew ?_ | refine blk_alloc ?_ _)); refine blk_put (cs := #[.int .i64 0, .slice none 0 0]) ?_ 0 _ rfl; (with_reducible repeat (first | refine blk_drewN ?_ _ | refine blk_drew ?_ | refine blk_alloc ?_ _)); exact BK545.out) hb); replace HB := Aside0.mk (below_step pB hb); (try clear hb); (try clear hb2); (try clear hk); (try clear hi))))
                 go_meet
                 case rel => exact ⟨_, H', ⟨by have := HJ3.out; have := HJ26.out; have := HK3.out; first | omega | exact Nat.le_refl _⟩, ⟨by (with_reducible repeat (first | apply Kd.R_alloc | apply Kd.R_drewN | apply Kd.R_drew)); exact Kd.R_mono HO_531001.out (fun _ hk => trivial)⟩, ⟨by (with_reducible repeat (first | refine blk_drewN ?_ _ | refine blk_drew ?_ | refine blk_alloc ?_ _)); exact BK519.out⟩, ⟨by (with_reducible repeat (first | refine blk_drewN ?_ _ | refine blk_drew ?_ | refine blk_alloc ?_ _)); exact BK520.out⟩, ⟨by (with_reducible repeat (first | refine blk_drewN ?_ _ | refine blk_drew ?_ | refine blk_alloc ?_ _)); exact BK530.out⟩, ⟨pB⟩⟩
               ·replace c76 := Bool.eq_false_iff.mpr c76
                subst c76
                have H1 : (none) = some r := by rw [if_neg (show ¬ (false = true) by decide)] at H; exact H
                clear H
                have H := H1
                clear H1
                exact absurd H (by simp)
              ·rw [if_neg c74] at H
               exact absurd H (by simp)
             ·rw [if_neg c73] at H
              exact absurd H (by simp)
            ·rw [if_neg c70] at H
             exact absurd H (by simp)
     ·rw [if_neg c26] at H
      have c26b0 : (t529 == 0) = false := beq_eq_false_iff_ne.mpr c26
      have c26b1 : (t529 != 0) = true := bne_iff_ne.mpr c26
      (first | rw [c26b0] | (simp only [i64_w, i32_w]; rw [c26b0]) | skip)
      have H' := Aside0.mk H
      clear H
      go_wp2
      repeat (go_quiet (fail); try go_wp2)
      go_meet
      case rel => exact ⟨_, H', ⟨by have := HJ3.out; first | omega | exact Nat.le_refl _⟩, ⟨by (with_reducible repeat (first | apply Kd.R_alloc | apply Kd.R_drewN | apply Kd.R_drew)); exact Kd.R_mono (Kd.R_far (p := ⟨gb530, 1, none⟩) (Kd.R_far (p := ⟨gb530, 0, none⟩) (Kd.R_types HO525.out BK530.out (by decide)) (fun _ hk => hk.2) (.int .i64 t522)) (fun _ hk => hk.2) (.slice Ao25 t523.length co25)) (fun _ hk => trivial)⟩, ⟨by (with_reducible repeat (first | refine blk_drewN ?_ _ | refine blk_drew ?_ | refine blk_alloc ?_ _)); refine blk_far ?_ NB519_530.out _; (with_reducible repeat (first | refine blk_drewN ?_ _ | refine blk_drew ?_ | refine blk_alloc ?_ _)); refine blk_far ?_ NB519_530.out _; (with_reducible repeat (first | refine blk_drewN ?_ _ | refine blk_drew ?_ | refine blk_alloc ?_ _)); exact BK519.out⟩, ⟨by (with_reducible repeat (first | refine blk_drewN ?_ _ | refine blk_drew ?_ | refine blk_alloc ?_ _)); refine blk_far ?_ NB520_530.out _; (with_reducible repeat (first | refine blk_drewN ?_ _ | refine blk_drew ?_ | refine blk_alloc ?_ _)); refine blk_far ?_ NB520_530.out _; (with_reducible repeat (first | refine blk_drewN ?_ _ | refine blk_drew ?_ | refine blk_alloc ?_ _)); exact BK520.out⟩, ⟨by (with_reducible repeat (first | refine blk_drewN ?_ _ | refine blk_drew ?_ | refine blk_alloc ?_ _)); refine blk_put (cs := #[.int .i64 t522, .slice none 0 0]) ?_ 1 _ rfl; (with_reducible repeat (first | refine blk_drewN ?_ _ | refine blk_drew ?_ | refine blk_alloc ?_ _)); refine blk_put (cs := #[.int .i64 0, .slice none 0 0]) ?_ 0 _ rfl; (with_reducible repeat (first | refine blk_drewN ?_ _ | refine blk_drew ?_ | refine blk_alloc ?_ _)); exact BK530.out⟩, ⟨pB⟩⟩
    case rest => as_aux_lemma =>
     clear HC17
     try clear c1
     try clear c2
     try clear p2
     try clear c3
     try clear c4
     try clear c5
     try clear p5
     try clear q5
     try clear hx5
     try clear c6
     try clear p6
     try clear c7
     try clear c7b0
     try clear c7b1
     try clear c8
     try clear c10
     try clear c13
     try clear c18
     try clear c22
     try clear c23
     try clear c26
     try clear c26b0
     try clear c26b1
     try clear c28
     try clear c28b0
     try clear c28b1
     try clear c28b2
     try clear c29
     try clear c29b0
     try clear c29b1
     try clear c29b2
     try clear c30
     try clear c30b0
     try clear c30b1
     try clear c32
     try clear c33
     try clear c35
     try clear c39
     try clear c40
     try clear c42
     try clear c45
     try clear c46
     try clear c48
     try clear c51
     try clear c52
     try clear p53
     try clear q53
     try clear hx53
     try clear c54
     try clear c56
     try clear c57
     try clear c57b0
     try clear c58
     try clear c58b0
     try clear c59
     try clear c59b0
     try clear c60
     try clear c60b0
     try clear c61
     try clear c61b0
     try clear c62
     try clear c62b0
     try clear c63
     try clear c63b0
     try clear c63b1
     try clear p64
     try clear c65
     try clear c66
     try clear c68
     try clear c70
     try clear c70b0
     try clear c70b1
     try clear c73
     try clear c73b0
     try clear c73b1
     try clear c74
     try clear c74b0
     try clear c74b1
     try clear c76
     try clear c77
     try clear c77b0
     try clear c79
     try clear c80
     try clear c83
     try clear c87
     try clear c88
     try clear c89
     try clear hcz11_0
     try clear hcz11_1
     try clear hcz12_0
     try clear hcz12_1
     try clear hcz19_0
     try clear hcz19_1
     try clear hcz24_0
     try clear hcz24_1
     try clear hcz34_0
     try clear hcz34_1
     try clear hcz36_0
     try clear hcz36_1
     try clear hcz41_0
     try clear hcz41_1
     try clear hcz43_0
     try clear hcz43_1
     try clear hcz47_0
     try clear hcz47_1
     try clear hcz49_0
     try clear hcz49_1
     try clear hcz53_0
     try clear hcz53_1
     try clear hcz55_0
     try clear hcz55_1
     try clear hcz67_0
     try clear hcz67_1
     try clear hcz69_0
     try clear hcz69_1
     try clear hcz81_0
     try clear hcz81_1
     try clear hcz84_0
     try clear hcz84_1
     try clear hcz90_0
     try clear hcz90_1
     try clear hcz92_0
     try clear hcz92_1
     try clear hcz9_0
     try clear hcz9_1
     try clear hfz11_0
     try clear hfz11_1
     try clear hfz12_0
     try clear hfz12_1
     try clear hfz19_0
     try clear hfz19_1
     try clear hfz24_0
     try clear hfz24_1
     try clear hfz34_0
     try clear hfz34_1
     try clear hfz36_0
     try clear hfz36_1
     try clear hfz41_0
     try clear hfz41_1
     try clear hfz43_0
     try clear hfz43_1
     try clear hfz47_0
     try clear hfz47_1
     try clear hfz49_0
     try clear hfz49_1
     try clear hfz53_0
     try clear hfz53_1
     try clear hfz55_0
     try clear hfz55_1
     try clear hfz67_0
     try clear hfz67_1
     try clear hfz69_0
     try clear hfz69_1
     try clear hfz81_0
     try clear hfz81_1
     try clear hfz84_0
     try clear hfz84_1
     try clear hfz90_0
     try clear hfz90_1
     try clear hfz92_0
     try clear hfz92_1
     try clear hfz9_0
     try clear hfz9_1
     try clear hx532_0
     try clear hx533_0
     try clear hx534_0
     try clear hx535_0
     try clear hx536_0
     try clear hx537_0
     try clear p2
     try clear p532
     try clear p533
     try clear p534
     try clear p535
     try clear p536
     try clear p537
     try clear q532
     try clear q533
     try clear q534
     try clear q535
     try clear q536
     try clear q537
     obtain ⟨kq, HA, HJ16, HO_531001, BK519, BK520, BK530, HB⟩ := hcut
     cases kq with
     | zero => exact absurd HA.out (by simp [papermilllaw18_ChestKeeps.j3])
     | succ kj16 =>
      have H := HA.out
      clear HA
      simp only [papermilllaw18_ChestKeeps.j3] at H
      replace H := Option.bind_eq_some_iff.mp H
      obtain ⟨⟨t547, t548, t551, t552, t555⟩, A940, H⟩ := H
      try dsimp only at H
      have A94 := Aside0.mk A940
      clear A940
      by_cases c95 : t555 = 0
      ·rw [if_pos c95] at H
       have c95b0 : (t555 == 0) = true := beq_iff_eq.mpr c95
       have c95b1 : (t555 != 0) = false := bne_eq_false_iff_eq.mpr c95
       clear c95
       have HC96 := Aside0.mk H
       clear H
       have hnb97 := NB519_520.out
       have hnc97 := NB520_519.out
       have hnb98 := NB519_530.out
       have hnc98 := NB530_519.out
       obtain ⟨hcz99_0, hcz99_1, hfz99_0, hfz99_1⟩ := bk2 BK519
       have hnb100 := NB520_530.out
       have hnc100 := NB530_520.out
       obtain ⟨hcz101_0, hcz101_1, hfz101_0, hfz101_1⟩ := bk2 BK520
       go_upto_region 23 with (first | (go_at_call 25; (with_reducible refine (chest_Pour.calls kj16 a0_0 (fun k_ => k_ < w.heap.size) _ _ l0_1 a1_0 (fun k_ => k_ < w.heap.size) _ _ l1_1 a2 t547 t548 t551 t552 t555 _ ?side1 ?side2 A94.out).mono ?_); (case side1 => exact Kd.V_mk HC0_1.out (Kd.F_below (Kd.C_F (Kd.heap_int .i64) HR0_1.out) pB)); (case side2 => exact Kd.V_mk HC1_1.out (Kd.F_below (Kd.C_F (Kd.heap_int .i64) HR1_1.out) pB)); rintro e w102 ⟨v549, v553, rfl, ho0, ho1, hb⟩; have HO550 := Aside0.mk (Kd.R_lower (Kd.R_new' (Kd.R_mono (ok' := fun k_ => some k_ ≠ (v553 : Value).ownBlock) ho0 (fun _ hk_ => hk_.2)) (Kd.R_lt (rX HO_531001.out))) (below_size pB)); have HO554 := Aside0.mk (Kd.R_lower (Kd.R_new' (Kd.R_mono (ok' := fun k_ => some k_ ≠ (v549 : Value).ownBlock) ho1 (fun _ hk_ => hk_.2)) (Kd.R_lt (rX HO_531001.out))) (below_size pB)); replace HO_531001 := Aside0.mk (Kd.R_mono (Kd.R_told (Kd.R_told (Kd.R_old (rX HO_531001.out) hb) (Kd.R_base ho0)) (Kd.R_base ho1)) (fun _ h_ => h_.1)); replace BK519 := Aside0.mk (kB BK519 hb); replace BK520 := Aside0.mk (kB BK520 hb); replace BK530 := Aside0.mk (kB BK530 hb); replace HB := Aside0.mk (below_step pB hb); (try clear hb); (try clear hb2); (try clear hk); (try clear hi); (try clear ho0); (try clear ho1)) | ((with_reducible refine gate_dst (N := 16) rfl ?_); (try (refine gate_guard (by rfl) ?_; dsimp only)); refine box_event ?hg (N := 16) ?hd (cs := #[.int .i64 0, .slice none 0 0]) (t := 24) ?hr ?_; (case hd => rfl); (case hg => rfl); (case hr => first | (go_simp; done) | (go_simp; rfl)); intro gb556 hg w103 hbox hb; have BK556 := Aside0.mk (hbox); have GW556 := Aside0.mk (gW hg : w.heap.size ≤ gb556); have GE556 := Aside0.mk (gW hg : w.heap.size ≤ gb556); have NB519_556 := Aside0.mk (nL hg BK519 : gb519 ≠ gb556); have NB556_519 := Aside0.mk (nG hg BK519 : gb556 ≠ gb519); have NB520_556 := Aside0.mk (nL hg BK520 : gb520 ≠ gb556); have NB556_520 := Aside0.mk (nG hg BK520 : gb556 ≠ gb520); have NB530_556 := Aside0.mk (nL hg BK530 : gb530 ≠ gb556); have NB556_530 := Aside0.mk (nG hg BK530 : gb556 ≠ gb530); replace HO_531001 := Aside0.mk (Kd.R_below (rX HO_531001.out) hb); replace HO550 := Aside0.mk (Kd.R_below (rX HO550.out) hb); replace HO554 := Aside0.mk (Kd.R_below (rX HO554.out) hb); replace BK519 := Aside0.mk (kB BK519 hb); replace BK520 := Aside0.mk (kB BK520 hb); replace BK530 := Aside0.mk (kB BK530 hb); replace HB := Aside0.mk (below_step pB hb); clear hb hbox hg) | ((with_reducible refine gate_dst (N := 17) rfl ?_); (try (refine gate_guard (by rfl) ?_; dsimp only)); refine box_event ?hg (N := 17) ?hd (cs := #[.int .i64 0, .slice none 0 0]) (t := 24) ?hr ?_; (case hd => rfl); (case hg => rfl); (case hr => first | (go_simp; done) | (go_simp; rfl)); intro gb557 hg w104 hbox hb; have BK557 := Aside0.mk (hbox); have GW557 := Aside0.mk (gW hg : w.heap.size ≤ gb557); have GE557 := Aside0.mk (gW hg : w.heap.size ≤ gb557); have NB519_557 := Aside0.mk (nL hg BK519 : gb519 ≠ gb557); have NB557_519 := Aside0.mk (nG hg BK519 : gb557 ≠ gb519); have NB520_557 := Aside0.mk (nL hg BK520 : gb520 ≠ gb557); have NB557_520 := Aside0.mk (nG hg BK520 : gb557 ≠ gb520); have NB530_557 := Aside0.mk (nL hg BK530 : gb530 ≠ gb557); have NB557_530 := Aside0.mk (nG hg BK530 : gb557 ≠ gb530); have NB556_557 := Aside0.mk (nL hg BK556 : gb556 ≠ gb557); have NB557_556 := Aside0.mk (nG hg BK556 : gb557 ≠ gb556); replace HO_531001 := Aside0.mk (Kd.R_below (rX HO_531001.out) hb); replace HO550 := Aside0.mk (Kd.R_below (rX HO550.out) hb); replace HO554 := Aside0.mk (Kd.R_below (rX HO554.out) hb); replace BK519 := Aside0.mk (kB BK519 hb); replace BK520 := Aside0.mk (kB BK520 hb); replace BK530 := Aside0.mk (kB BK530 hb); replace BK556 := Aside0.mk (kB BK556 hb); replace HB := Aside0.mk (below_step pB hb); clear hb hbox hg; have hnb105 := NB556_519.out; have hnc105 := NB519_556.out; have hnb106 := NB556_520.out; have hnc106 := NB520_556.out; have hnb107 := NB556_530.out; have hnc107 := NB530_556.out; have hnb108 := NB556_557.out; have hnc108 := NB557_556.out; obtain ⟨hcz109_0, hcz109_1, hfz109_0, hfz109_1⟩ := bk2 BK556; obtain ⟨Ao110, co110, eo110⟩ := Kd.R_slice HO550.out; subst eo110; have hnb111 := NB557_519.out; have hnc111 := NB519_557.out; have hnb112 := NB557_520.out; have hnc112 := NB520_557.out; have hnb113 := NB557_530.out; have hnc113 := NB530_557.out; obtain ⟨hcz114_0, hcz114_1, hfz114_0, hfz114_1⟩ := bk2 BK557; obtain ⟨Ao115, co115, eo115⟩ := Kd.R_slice HO554.out; subst eo115))
       repeat (go_quiet (first | (go_at_call 25; (with_reducible refine (chest_Pour.calls kj16 a0_0 (fun k_ => k_ < w.heap.size) _ _ l0_1 a1_0 (fun k_ => k_ < w.heap.size) _ _ l1_1 a2 t547 t548 t551 t552 t555 _ ?side1 ?side2 A94.out).mono ?_); (case side1 => exact Kd.V_mk HC0_1.out (Kd.F_below (Kd.C_F (Kd.heap_int .i64) HR0_1.out) pB)); (case side2 => exact Kd.V_mk HC1_1.out (Kd.F_below (Kd.C_F (Kd.heap_int .i64) HR1_1.out) pB)); rintro e w102 ⟨v549, v553, rfl, ho0, ho1, hb⟩; have HO550 := Aside0.mk (Kd.R_lower (Kd.R_new' (Kd.R_mono (ok' := fun k_ => some k_ ≠ (v553 : Value).ownBlock) ho0 (fun _ hk_ => hk_.2)) (Kd.R_lt (rX HO_531001.out))) (below_size pB)); have HO554 := Aside0.mk (Kd.R_lower (Kd.R_new' (Kd.R_mono (ok' := fun k_ => some k_ ≠ (v549 : Value).ownBlock) ho1 (fun _ hk_ => hk_.2)) (Kd.R_lt (rX HO_531001.out))) (below_size pB)); replace HO_531001 := Aside0.mk (Kd.R_mono (Kd.R_told (Kd.R_told (Kd.R_old (rX HO_531001.out) hb) (Kd.R_base ho0)) (Kd.R_base ho1)) (fun _ h_ => h_.1)); replace BK519 := Aside0.mk (kB BK519 hb); replace BK520 := Aside0.mk (kB BK520 hb); replace BK530 := Aside0.mk (kB BK530 hb); replace HB := Aside0.mk (below_step pB hb); (try clear hb); (try clear hb2); (try clear hk); (try clear hi); (try clear ho0); (try clear ho1)) | ((with_reducible refine gate_dst (N := 16) rfl ?_); (try (refine gate_guard (by rfl) ?_; dsimp only)); refine box_event ?hg (N := 16) ?hd (cs := #[.int .i64 0, .slice none 0 0]) (t := 24) ?hr ?_; (case hd => rfl); (case hg => rfl); (case hr => first | (go_simp; done) | (go_simp; rfl)); intro gb556 hg w103 hbox hb; have BK556 := Aside0.mk (hbox); have GW556 := Aside0.mk (gW hg : w.heap.size ≤ gb556); have GE556 := Aside0.mk (gW hg : w.heap.size ≤ gb556); have NB519_556 := Aside0.mk (nL hg BK519 : gb519 ≠ gb556); have NB556_519 := Aside0.mk (nG hg BK519 : gb556 ≠ gb519); have NB520_556 := Aside0.mk (nL hg BK520 : gb520 ≠ gb556); have NB556_520 := Aside0.mk (nG hg BK520 : gb556 ≠ gb520); have NB530_556 := Aside0.mk (nL hg BK530 : gb530 ≠ gb556); have NB556_530 := Aside0.mk (nG hg BK530 : gb556 ≠ gb530); replace HO_531001 := Aside0.mk (Kd.R_below (rX HO_531001.out) hb); replace HO550 := Aside0.mk (Kd.R_below (rX HO550.out) hb); replace HO554 := Aside0.mk (Kd.R_below (rX HO554.out) hb); replace BK519 := Aside0.mk (kB BK519 hb); replace BK520 := Aside0.mk (kB BK520 hb); replace BK530 := Aside0.mk (kB BK530 hb); replace HB := Aside0.mk (below_step pB hb); clear hb hbox hg) | ((with_reducible refine gate_dst (N := 17) rfl ?_); (try (refine gate_guard (by rfl) ?_; dsimp only)); refine box_event ?hg (N := 17) ?hd (cs := #[.int .i64 0, .slice none 0 0]) (t := 24) ?hr ?_; (case hd => rfl); (case hg => rfl); (case hr => first | (go_simp; done) | (go_simp; rfl)); intro gb557 hg w104 hbox hb; have BK557 := Aside0.mk (hbox); have GW557 := Aside0.mk (gW hg : w.heap.size ≤ gb557); have GE557 := Aside0.mk (gW hg : w.heap.size ≤ gb557); have NB519_557 := Aside0.mk (nL hg BK519 : gb519 ≠ gb557); have NB557_519 := Aside0.mk (nG hg BK519 : gb557 ≠ gb519); have NB520_557 := Aside0.mk (nL hg BK520 : gb520 ≠ gb557); have NB557_520 := Aside0.mk (nG hg BK520 : gb557 ≠ gb520); have NB530_557 := Aside0.mk (nL hg BK530 : gb530 ≠ gb557); have NB557_530 := Aside0.mk (nG hg BK530 : gb557 ≠ gb530); have NB556_557 := Aside0.mk (nL hg BK556 : gb556 ≠ gb557); have NB557_556 := Aside0.mk (nG hg BK556 : gb557 ≠ gb556); replace HO_531001 := Aside0.mk (Kd.R_below (rX HO_531001.out) hb); replace HO550 := Aside0.mk (Kd.R_below (rX HO550.out) hb); replace HO554 := Aside0.mk (Kd.R_below (rX HO554.out) hb); replace BK519 := Aside0.mk (kB BK519 hb); replace BK520 := Aside0.mk (kB BK520 hb); replace BK530 := Aside0.mk (kB BK530 hb); replace BK556 := Aside0.mk (kB BK556 hb); replace HB := Aside0.mk (below_step pB hb); clear hb hbox hg; have hnb105 := NB556_519.out; have hnc105 := NB519_556.out; have hnb106 := NB556_520.out; have hnc106 := NB520_556.out; have hnb107 := NB556_530.out; have hnc107 := NB530_556.out; have hnb108 := NB556_557.out; have hnc108 := NB557_556.out; obtain ⟨hcz109_0, hcz109_1, hfz109_0, hfz109_1⟩ := bk2 BK556; obtain ⟨Ao110, co110, eo110⟩ := Kd.R_slice HO550.out; subst eo110; have hnb111 := NB557_519.out; have hnc111 := NB519_557.out; have hnb112 := NB557_520.out; have hnc112 := NB520_557.out; have hnb113 := NB557_530.out; have hnc113 := NB530_557.out; obtain ⟨hcz114_0, hcz114_1, hfz114_0, hfz114_1⟩ := bk2 BK557; obtain ⟨Ao115, co115, eo115⟩ := Kd.R_slice HO554.out; subst eo115)); go_upto_region 23 with (first | (go_at_call 25; (with_reducible refine (chest_Pour.calls kj16 a0_0 (fun k_ => k_ < w.heap.size) _ _ l0_1 a1_0 (fun k_ => k_ < w.heap.size) _ _ l1_1 a2 t547 t548 t551 t552 t555 _ ?side1 ?side2 A94.out).mono ?_); (case side1 => exact Kd.V_mk HC0_1.out (Kd.F_below (Kd.C_F (Kd.heap_int .i64) HR0_1.out) pB)); (case side2 => exact Kd.V_mk HC1_1.out (Kd.F_below (Kd.C_F (Kd.heap_int .i64) HR1_1.out) pB)); rintro e w102 ⟨v549, v553, rfl, ho0, ho1, hb⟩; have HO550 := Aside0.mk (Kd.R_lower (Kd.R_new' (Kd.R_mono (ok' := fun k_ => some k_ ≠ (v553 : Value).ownBlock) ho0 (fun _ hk_ => hk_.2)) (Kd.R_lt (rX HO_531001.out))) (below_size pB)); have HO554 := Aside0.mk (Kd.R_lower (Kd.R_new' (Kd.R_mono (ok' := fun k_ => some k_ ≠ (v549 : Value).ownBlock) ho1 (fun _ hk_ => hk_.2)) (Kd.R_lt (rX HO_531001.out))) (below_size pB)); replace HO_531001 := Aside0.mk (Kd.R_mono (Kd.R_told (Kd.R_told (Kd.R_old (rX HO_531001.out) hb) (Kd.R_base ho0)) (Kd.R_base ho1)) (fun _ h_ => h_.1)); replace BK519 := Aside0.mk (kB BK519 hb); replace BK520 := Aside0.mk (kB BK520 hb); replace BK530 := Aside0.mk (kB BK530 hb); replace HB := Aside0.mk (below_step pB hb); (try clear hb); (try clear hb2); (try clear hk); (try clear hi); (try clear ho0); (try clear ho1)) | ((with_reducible refine gate_dst (N := 16) rfl ?_); (try (refine gate_guard (by rfl) ?_; dsimp only)); refine box_event ?hg (N := 16) ?hd (cs := #[.int .i64 0, .slice none 0 0]) (t := 24) ?hr ?_; (case hd => rfl); (case hg => rfl); (case hr => first | (go_simp; done) | (go_simp; rfl)); intro gb556 hg w103 hbox hb; have BK556 := Aside0.mk (hbox); have GW556 := Aside0.mk (gW hg : w.heap.size ≤ gb556); have GE556 := Aside0.mk (gW hg : w.heap.size ≤ gb556); have NB519_556 := Aside0.mk (nL hg BK519 : gb519 ≠ gb556); have NB556_519 := Aside0.mk (nG hg BK519 : gb556 ≠ gb519); have NB520_556 := Aside0.mk (nL hg BK520 : gb520 ≠ gb556); have NB556_520 := Aside0.mk (nG hg BK520 : gb556 ≠ gb520); have NB530_556 := Aside0.mk (nL hg BK530 : gb530 ≠ gb556); have NB556_530 := Aside0.mk (nG hg BK530 : gb556 ≠ gb530); replace HO_531001 := Aside0.mk (Kd.R_below (rX HO_531001.out) hb); replace HO550 := Aside0.mk (Kd.R_below (rX HO550.out) hb); replace HO554 := Aside0.mk (Kd.R_below (rX HO554.out) hb); replace BK519 := Aside0.mk (kB BK519 hb); replace BK520 := Aside0.mk (kB BK520 hb); replace BK530 := Aside0.mk (kB BK530 hb); replace HB := Aside0.mk (below_step pB hb); clear hb hbox hg) | ((with_reducible refine gate_dst (N := 17) rfl ?_); (try (refine gate_guard (by rfl) ?_; dsimp only)); refine box_event ?hg (N := 17) ?hd (cs := #[.int .i64 0, .slice none 0 0]) (t := 24) ?hr ?_; (case hd => rfl); (case hg => rfl); (case hr => first | (go_simp; done) | (go_simp; rfl)); intro gb557 hg w104 hbox hb; have BK557 := Aside0.mk (hbox); have GW557 := Aside0.mk (gW hg : w.heap.size ≤ gb557); have GE557 := Aside0.mk (gW hg : w.heap.size ≤ gb557); have NB519_557 := Aside0.mk (nL hg BK519 : gb519 ≠ gb557); have NB557_519 := Aside0.mk (nG hg BK519 : gb557 ≠ gb519); have NB520_557 := Aside0.mk (nL hg BK520 : gb520 ≠ gb557); have NB557_520 := Aside0.mk (nG hg BK520 : gb557 ≠ gb520); have NB530_557 := Aside0.mk (nL hg BK530 : gb530 ≠ gb557); have NB557_530 := Aside0.mk (nG hg BK530 : gb557 ≠ gb530); have NB556_557 := Aside0.mk (nL hg BK556 : gb556 ≠ gb557); have NB557_556 := Aside0.mk (nG hg BK556 : gb557 ≠ gb556); replace HO_531001 := Aside0.mk (Kd.R_below (rX HO_531001.out) hb); replace HO550 := Aside0.mk (Kd.R_below (rX HO550.out) hb); replace HO554 := Aside0.mk (Kd.R_below (rX HO554.out) hb); replace BK519 := Aside0.mk (kB BK519 hb); replace BK520 := Aside0.mk (kB BK520 hb); replace BK530 := Aside0.mk (kB BK530 hb); replace BK556 := Aside0.mk (kB BK556 hb); replace HB := Aside0.mk (below_step pB hb); clear hb hbox hg; have hnb105 := NB556_519.out; have hnc105 := NB519_556.out; have hnb106 := NB556_520.out; have hnc106 := NB520_556.out; have hnb107 := NB556_530.out; have hnc107 := NB530_556.out; have hnb108 := NB556_557.out; have hnc108 := NB557_556.out; obtain ⟨hcz109_0, hcz109_1, hfz109_0, hfz109_1⟩ := bk2 BK556; obtain ⟨Ao110, co110, eo110⟩ := Kd.R_slice HO550.out; subst eo110; have hnb111 := NB557_519.out; have hnc111 := NB519_557.out; have hnb112 := NB557_520.out; have hnc112 := NB520_557.out; have hnb113 := NB557_530.out; have hnc113 := NB530_557.out; obtain ⟨hcz114_0, hcz114_1, hfz114_0, hfz114_1⟩ := bk2 BK557; obtain ⟨Ao115, co115, eo115⟩ := Kd.R_slice HO554.out; subst eo115)))
       (try simp only [Act.put, List.setIfInBounds_toArray, List.set_cons_zero, List.set_cons_succ])
       go_cut [202] (fun v202 wc => ∃ (kq : Nat) (x202_95 : Bool), v202 = .bool x202_95 ∧ Aside0 (papermilllaw18_ChestKeeps.j4 kq x202_95 a0_0 l0_1 a1_0 l1_1 t547 t548 t551 t552 = some r) ∧ Aside0 (kq ≤ kj16) ∧ Aside0 (Kd.R (Kd.int .i64) 3 wc w.heap.size (fun k_ => some k_ ≠ ((.slice Ao110 t548.length co110) : Value).ownBlock ∧ some k_ ≠ ((.slice Ao115 t552.length co115) : Value).ownBlock) (.slice Ao25 t523.length co25) t523) ∧ Aside0 (Kd.R (Kd.int .i64) 3 wc w.heap.size (fun k_ => some k_ ≠ ((.slice Ao25 t523.length co25) : Value).ownBlock ∧ some k_ ≠ ((.slice Ao115 t552.length co115) : Value).ownBlock) (.slice Ao110 t548.length co110) t548) ∧ Aside0 (Kd.R (Kd.int .i64) 3 wc w.heap.size (fun k_ => some k_ ≠ ((.slice Ao25 t523.length co25) : Value).ownBlock ∧ some k_ ≠ ((.slice Ao110 t548.length co110) : Value).ownBlock) (.slice Ao115 t552.length co115) t552) ∧ Aside0 (wc.heap[gb519]? = some (.cells #[.int .i64 a0_0, (.slice A0_1 l0_1.length c0_1)] 24 (0, 0))) ∧ Aside0 (wc.heap[gb520]? = some (.cells #[.int .i64 a1_0, (.slice A1_1 l1_1.length c1_1)] 24 (0, 0))) ∧ Aside0 (wc.heap[gb530]? = some (.cells #[.int .i64 t522, (.slice Ao25 t523.length co25)] 24 (0, 0))) ∧ Aside0 (wc.heap[gb556]? = some (.cells #[.int .i64 t547, (.slice Ao110 t548.length co110)] 24 (0, 0))) ∧ Aside0 (wc.heap[gb557]? = some (.cells #[.int .i64 t551, (.slice Ao115 t552.length co115)] 24 (0, 0))) ∧ Aside0 (Below w.heap.size w wc))
       case first =>
        have H := HC96.out
        clear HC96
        by_cases c116 : (t548.length : Int) = (l0_1.length : Int)
        ·rw [if_pos c116] at H
         have c116b0 : ((t548.length : Int) == (l0_1.length : Int)) = true := beq_iff_eq.mpr c116
         have c116b1 : ((t548.length : Int) != (l0_1.length : Int)) = false := bne_eq_false_iff_eq.mpr c116
         have c116b2 : (t548.length == l0_1.length) = true := by first | simpa using c116 | (simp at c116 ⊢; omega)
         clear c116
         (first | rw [c116b0] | (simp only [i64_w, i32_w]; rw [c116b0]) | skip)
         by_cases c117 : (t552.length : Int) = (l0_1.length : Int)
         ·rw [if_pos c117] at H
          have c117b0 : ((t552.length : Int) == (l0_1.length : Int)) = true := beq_iff_eq.mpr c117
          have c117b1 : ((t552.length : Int) != (l0_1.length : Int)) = false := bne_eq_false_iff_eq.mpr c117
          have c117b2 : (t552.length == l0_1.length) = true := by first | simpa using c117 | (simp at c117 ⊢; omega)
          clear c117
          by_cases c118 : (l1_1.length : Int) = (l0_1.length : Int)
          ·rw [if_pos c118] at H
           have c118b0 : ((l1_1.length : Int) == (l0_1.length : Int)) = true := beq_iff_eq.mpr c118
           have c118b1 : ((l1_1.length : Int) != (l0_1.length : Int)) = false := bne_eq_false_iff_eq.mpr c118
           have c118b2 : (l1_1.length == l0_1.length) = true := by first | simpa using c118 | (simp at c118 ⊢; omega)
           clear c118
           by_cases c119 : t547 = a0_0
           ·rw [if_pos c119] at H
            have c119b0 : (t547 == a0_0) = true := beq_iff_eq.mpr c119
            have c119b1 : (t547 != a0_0) = false := bne_eq_false_iff_eq.mpr c119
            clear c119
            have H' := Aside0.mk H
            clear H
            have hnb120 := NB556_519.out
            have hnc120 := NB519_556.out
            have hnb121 := NB556_520.out
            have hnc121 := NB520_556.out
            have hnb122 := NB556_530.out
            have hnc122 := NB530_556.out
            have hnb123 := NB556_557.out
            have hnc123 := NB557_556.out
            obtain ⟨hcz124_0, hcz124_1, hfz124_0, hfz124_1⟩ := bk2 BK556
            have hnb125 := NB519_520.out
            have hnc125 := NB520_519.out
            have hnb126 := NB519_530.out
            have hnc126 := NB530_519.out
            have hnb127 := NB519_557.out
            have hnc127 := NB557_519.out
            obtain ⟨hcz128_0, hcz128_1, hfz128_0, hfz128_1⟩ := bk2 BK519
            have hnb129 := NB557_520.out
            have hnc129 := NB520_557.out
            have hnb130 := NB557_530.out
            have hnc130 := NB530_557.out
            obtain ⟨hcz131_0, hcz131_1, hfz131_0, hfz131_1⟩ := bk2 BK557
            have hnb132 := NB520_530.out
            have hnc132 := NB530_520.out
            obtain ⟨hcz133_0, hcz133_1, hfz133_0, hfz133_1⟩ := bk2 BK520
            go_wp2
            repeat (go_quiet (fail); try go_wp2)
            go_meet
            case rel => exact ⟨_, ((t551 != a1_0)), (by first | rfl | (simp; done) | (simp [*]; done)), H', ⟨by have := HJ3.out; have := HJ16.out; first | omega | exact Nat.le_refl _⟩, ⟨by (with_reducible repeat (first | apply Kd.R_alloc | apply Kd.R_drewN | apply Kd.R_drew)); exact Kd.R_mono (Kd.R_far (p := ⟨gb557, 1, none⟩) (Kd.R_far (p := ⟨gb557, 0, none⟩) (Kd.R_far (p := ⟨gb556, 1, none⟩) (Kd.R_far (p := ⟨gb556, 0, none⟩) (Kd.R_types (Kd.R_types HO_531001.out BK556.out (by decide)) BK557.out (by decide)) (fun _ hk => hk.1.2) (.int .i64 t547)) (fun _ hk => hk.1.2) (.slice Ao110 t548.length co110)) (fun _ hk => hk.2) (.int .i64 t551)) (fun _ hk => hk.2) (.slice Ao115 t552.length co115)) (fun _ hk => ⟨hk.1.1.1.2, hk.1.1.2⟩)⟩, ⟨by (with_reducible repeat (first | apply Kd.R_alloc | apply Kd.R_drewN | apply Kd.R_drew)); exact Kd.R_mono (Kd.R_far (p := ⟨gb557, 1, none⟩) (Kd.R_far (p := ⟨gb557, 0, none⟩) (Kd.R_far (p := ⟨gb556, 1, none⟩) (Kd.R_far (p := ⟨gb556, 0, none⟩) (Kd.R_types (Kd.R_types HO550.out BK556.out (by decide)) BK557.out (by decide)) (fun _ hk => hk.1.2) (.int .i64 t547)) (fun _ hk => hk.1.2) (.slice Ao110 t548.length co110)) (fun _ hk => hk.2) (.int .i64 t551)) (fun _ hk => hk.2) (.slice Ao115 t552.length co115)) (fun _ hk => ⟨hk.1.1.2, hk.1.1.1⟩)⟩, ⟨by (with_reducible repeat (first | apply Kd.R_alloc | apply Kd.R_drewN | apply Kd.R_drew)); exact Kd.R_mono (Kd.R_far (p := ⟨gb557, 1, none⟩) (Kd.R_far (p := ⟨gb557, 0, none⟩) (Kd.R_far (p := ⟨gb556, 1, none⟩) (Kd.R_far (p := ⟨gb556, 0, none⟩) (Kd.R_types (Kd.R_types HO554.out BK556.out (by decide)) BK557.out (by decide)) (fun _ hk => hk.1.2) (.int .i64 t547)) (fun _ hk => hk.1.2) (.slice Ao110 t548.length co110)) (fun _ hk => hk.2) (.int .i64 t551)) (fun _ hk => hk.2) (.slice Ao115 t552.length co115)) (fun _ hk => ⟨hk.1.1.2, hk.1.1.1⟩)⟩, ⟨by (with_reducible repeat (first | refine blk_drewN ?_ _ | refine blk_drew ?_ | refine blk_alloc ?_ _)); refine blk_far ?_ NB519_557.out _; (with_reducible repeat (first | refine blk_drewN ?_ _ | refine blk_drew ?_ | refine blk_alloc ?_ _)); refine blk_far ?_ NB519_557.out _; (with_reducible repeat (first | refine blk_drewN ?_ _ | refine blk_drew ?_ | refine blk_alloc ?_ _)); refine blk_far ?_ NB519_556.out _; (with_reducible repeat (first | refine blk_drewN ?_ _ | refine blk_drew ?_ | refine blk_alloc ?_ _)); refine blk_far ?_ NB519_556.out _; (with_reducible repeat (first | refine blk_drewN ?_ _ | refine blk_drew ?_ | refine blk_alloc ?_ _)); exact BK519.out⟩, ⟨by (with_reducible repeat (first | refine blk_drewN ?_ _ | refine blk_drew ?_ | refine blk_alloc ?_ _)); refine blk_far ?_ NB520_557.out _; (with_reducible repeat (first | refine blk_drewN ?_ _ | refine blk_drew ?_ | refine blk_alloc ?_ _)); refine blk_far ?_ NB520_557.out _; (with_reducible repeat (first | refine blk_drewN ?_ _ | refine blk_drew ?_ | refine blk_alloc ?_ _)); refine blk_far ?_ NB520_556.out _; (with_reducible repeat (first | refine blk_drewN ?_ _ | refine blk_drew ?_ | refine blk_alloc ?_ _)); refine blk_far ?_ NB520_556.out _; (with_reducible repeat (first | refine blk_drewN ?_ _ | refine blk_drew ?_ | refine blk_alloc ?_ _)); exact BK520.out⟩, ⟨by (with_reducible repeat (first | refine blk_drewN ?_ _ | refine blk_drew ?_ | refine blk_alloc ?_ _)); refine blk_far ?_ NB530_557.out _; (with_reducible repeat (first | refine blk_drewN ?_ _ | refine blk_drew ?_ | refine blk_alloc ?_ _)); refine blk_far ?_ NB530_557.out _; (with_reducible repeat (first | refine blk_drewN ?_ _ | refine blk_drew ?_ | refine blk_alloc ?_ _)); refine blk_far ?_ NB530_556.out _; (with_reducible repeat (first | refine blk_drewN ?_ _ | refine blk_drew ?_ | refine blk_alloc ?_ _)); refine blk_far ?_ NB530_556.out _; (with_reducible repeat (first | refine blk_drewN ?_ _ | refine blk_drew ?_ | refine blk_alloc ?_ _)); exact BK530.out⟩, ⟨by (with_reducible repeat (first | refine blk_drewN ?_ _ | refine blk_drew ?_ | refine blk_alloc ?_ _)); refine blk_far ?_ NB556_557.out _; (with_reducible repeat (first | refine blk_drewN ?_ _ | refine blk_drew ?_ | refine blk_alloc ?_ _)); refine blk_far ?_ NB556_557.out _; (with_reducible repeat (first | refine blk_drewN ?_ _ | refine blk_drew ?_ | refine blk_alloc ?_ _)); refine blk_put (cs := #[.int .i64 t547, .slice none 0 0]) ?_ 1 _ rfl; (with_reducible repeat (first | refine blk_drewN ?_ _ | refine blk_drew ?_ | refine blk_alloc ?_ _)); refine blk_put (cs := #[.int .i64 0, .slice none 0 0]) ?_ 0 _ rfl; (with_reducible repeat (first | refine blk_drewN ?_ _ | refine blk_drew ?_ | refine blk_alloc ?_ _)); exact BK556.out⟩, ⟨by (with_reducible repeat (first | refine blk_drewN ?_ _ | refine blk_drew ?_ | refine blk_alloc ?_ _)); refine blk_put (cs := #[.int .i64 t551, .slice none 0 0]) ?_ 1 _ rfl; (with_reducible repeat (first | refine blk_drewN ?_ _ | refine blk_drew ?_ | refine blk_alloc ?_ _)); refine blk_put (cs := #[.int .i64 0, .slice none 0 0]) ?_ 0 _ rfl; (with_reducible repeat (first | refine blk_drewN ?_ _ | refine blk_drew ?_ | refine blk_alloc ?_ _)); refine blk_far ?_ NB557_556.out _; (with_reducible repeat (first | refine blk_drewN ?_ _ | refine blk_drew ?_ | refine blk_alloc ?_ _)); refine blk_far ?_ NB557_556.out _; (with_reducible repeat (first | refine blk_drewN ?_ _ | refine blk_drew ?_ | refine blk_alloc ?_ _)); exact BK557.out⟩, ⟨pB⟩⟩
           ·rw [if_neg c119] at H
            have c119b0 : (t547 == a0_0) = false := beq_eq_false_iff_ne.mpr c119
            have c119b1 : (t547 != a0_0) = true := bne_iff_ne.mpr c119
            have H' := Aside0.mk H
            clear H
            have hnb134 := NB556_519.out
            have hnc134 := NB519_556.out
            have hnb135 := NB556_520.out
            have hnc135 := NB520_556.out
            have hnb136 := NB556_530.out
            have hnc136 := NB530_556.out
            have hnb137 := NB556_557.out
            have hnc137 := NB557_556.out
            obtain ⟨hcz138_0, hcz138_1, hfz138_0, hfz138_1⟩ := bk2 BK556
            have hnb139 := NB519_520.out
            have hnc139 := NB520_519.out
            have hnb140 := NB519_530.out
            have hnc140 := NB530_519.out
            have hnb141 := NB519_557.out
            have hnc141 := NB557_519.out
            obtain ⟨hcz142_0, hcz142_1, hfz142_0, hfz142_1⟩ := bk2 BK519
            have hnb143 := NB557_520.out
            have hnc143 := NB520_557.out
            have hnb144 := NB557_530.out
            have hnc144 := NB530_557.out
            obtain ⟨hcz145_0, hcz145_1, hfz145_0, hfz145_1⟩ := bk2 BK557
            have hnb146 := NB520_530.out
            have hnc146 := NB530_520.out
            obtain ⟨hcz147_0, hcz147_1, hfz147_0, hfz147_1⟩ := bk2 BK520
            go_wp2
            repeat (go_quiet (fail); try go_wp2)
            go_meet
            case rel => exact ⟨_, (true), (by first | rfl | (simp; done) | (simp [*]; done)), H', ⟨by have := HJ3.out; have := HJ16.out; first | omega | exact Nat.le_refl _⟩, ⟨by (with_reducible repeat (first | apply Kd.R_alloc | apply Kd.R_drewN | apply Kd.R_drew)); exact Kd.R_mono (Kd.R_far (p := ⟨gb557, 1, none⟩) (Kd.R_far (p := ⟨gb557, 0, none⟩) (Kd.R_far (p := ⟨gb556, 1, none⟩) (Kd.R_far (p := ⟨gb556, 0, none⟩) (Kd.R_types (Kd.R_types HO_531001.out BK556.out (by decide)) BK557.out (by decide)) (fun _ hk => hk.1.2) (.int .i64 t547)) (fun _ hk => hk.1.2) (.slice Ao110 t548.length co110)) (fun _ hk => hk.2) (.int .i64 t551)) (fun _ hk => hk.2) (.slice Ao115 t552.length co115)) (fun _ hk => ⟨hk.1.1.1.2, hk.1.1.2⟩)⟩, ⟨by (with_reducible repeat (first | apply Kd.R_alloc | apply Kd.R_drewN | apply Kd.R_drew)); exact Kd.R_mono (Kd.R_far (p := ⟨gb557, 1, none⟩) (Kd.R_far (p := ⟨gb557, 0, none⟩) (Kd.R_far (p := ⟨gb556, 1, none⟩) (Kd.R_far (p := ⟨gb556, 0, none⟩) (Kd.R_types (Kd.R_types HO550.out BK556.out (by decide)) BK557.out (by decide)) (fun _ hk => hk.1.2) (.int .i64 t547)) (fun _ hk => hk.1.2) (.slice Ao110 t548.length co110)) (fun _ hk => hk.2) (.int .i64 t551)) (fun _ hk => hk.2) (.slice Ao115 t552.length co115)) (fun _ hk => ⟨hk.1.1.2, hk.1.1.1⟩)⟩, ⟨by (with_reducible repeat (first | apply Kd.R_alloc | apply Kd.R_drewN | apply Kd.R_drew)); exact Kd.R_mono (Kd.R_far (p := ⟨gb557, 1, none⟩) (Kd.R_far (p := ⟨gb557, 0, none⟩) (Kd.R_far (p := ⟨gb556, 1, none⟩) (Kd.R_far (p := ⟨gb556, 0, none⟩) (Kd.R_types (Kd.R_types HO554.out BK556.out (by decide)) BK557.out (by decide)) (fun _ hk => hk.1.2) (.int .i64 t547)) (fun _ hk => hk.1.2) (.slice Ao110 t548.length co110)) (fun _ hk => hk.2) (.int .i64 t551)) (fun _ hk => hk.2) (.slice Ao115 t552.length co115)) (fun _ hk => ⟨hk.1.1.2, hk.1.1.1⟩)⟩, ⟨by (with_reducible repeat (first | refine blk_drewN ?_ _ | refine blk_drew ?_ | refine blk_alloc ?_ _)); refine blk_far ?_ NB519_557.out _; (with_reducible repeat (first | refine blk_drewN ?_ _ | refine blk_drew ?_ | refine blk_alloc ?_ _)); refine blk_far ?_ NB519_557.out _; (with_reducible repeat (first | refine blk_drewN ?_ _ | refine blk_drew ?_ | refine blk_alloc ?_ _)); refine blk_far ?_ NB519_556.out _; (with_reducible repeat (first | refine blk_drewN ?_ _ | refine blk_drew ?_ | refine blk_alloc ?_ _)); refine blk_far ?_ NB519_556.out _; (with_reducible repeat (first | refine blk_drewN ?_ _ | refine blk_drew ?_ | refine blk_alloc ?_ _)); exact BK519.out⟩, ⟨by (with_reducible repeat (first | refine blk_drewN ?_ _ | refine blk_drew ?_ | refine blk_alloc ?_ _)); refine blk_far ?_ NB520_557.out _; (with_reducible repeat (first | refine blk_drewN ?_ _ | refine blk_drew ?_ | refine blk_alloc ?_ _)); refine blk_far ?_ NB520_557.out _; (with_reducible repeat (first | refine blk_drewN ?_ _ | refine blk_drew ?_ | refine blk_alloc ?_ _)); refine blk_far ?_ NB520_556.out _; (with_reducible repeat (first | refine blk_drewN ?_ _ | refine blk_drew ?_ | refine blk_alloc ?_ _)); refine blk_far ?_ NB520_556.out _; (with_reducible repeat (first | refine blk_drewN ?_ _ | refine blk_drew ?_ | refine blk_alloc ?_ _)); exact BK520.out⟩, ⟨by (with_reducible repeat (first | refine blk_drewN ?_ _ | refine blk_drew ?_ | refine blk_alloc ?_ _)); refine blk_far ?_ NB530_557.out _; (with_reducible repeat (first | refine blk_drewN ?_ _ | refine blk_drew ?_ | refine blk_alloc ?_ _)); refine blk_far ?_ NB530_557.out _; (with_reducible repeat (first | refine blk_drewN ?_ _ | refine blk_drew ?_ | refine blk_alloc ?_ _)); refine blk_far ?_ NB530_556.out _; (with_reducible repeat (first | refine blk_drewN ?_ _ | refine blk_drew ?_ | refine blk_alloc ?_ _)); refine blk_far ?_ NB530_556.out _; (with_reducible repeat (first | refine blk_drewN ?_ _ | refine blk_drew ?_ | refine blk_alloc ?_ _)); exact BK530.out⟩, ⟨by (with_reducible repeat (first | refine blk_drewN ?_ _ | refine blk_drew ?_ | refine blk_alloc ?_ _)); refine blk_far ?_ NB556_557.out _; (with_reducible repeat (first | refine blk_drewN ?_ _ | refine blk_drew ?_ | refine blk_alloc ?_ _)); refine blk_far ?_ NB556_557.out _; (with_reducible repeat (first | refine blk_drewN ?_ _ | refine blk_drew ?_ | refine blk_alloc ?_ _)); refine blk_put (cs := #[.int .i64 t547, .slice none 0 0]) ?_ 1 _ rfl; (with_reducible repeat (first | refine blk_drewN ?_ _ | refine blk_drew ?_ | refine blk_alloc ?_ _)); refine blk_put (cs := #[.int .i64 0, .slice none 0 0]) ?_ 0 _ rfl; (with_reducible repeat (first | refine blk_drewN ?_ _ | refine blk_drew ?_ | refine blk_alloc ?_ _)); exact BK556.out⟩, ⟨by (with_reducible repeat (first | refine blk_drewN ?_ _ | refine blk_drew ?_ | refine blk_alloc ?_ _)); refine blk_put (cs := #[.int .i64 t551, .slice none 0 0]) ?_ 1 _ rfl; (with_reducible repeat (first | refine blk_drewN ?_ _ | refine blk_drew ?_ | refine blk_alloc ?_ _)); refine blk_put (cs := #[.int .i64 0, .slice none 0 0]) ?_ 0 _ rfl; (with_reducible repeat (first | refine blk_drewN ?_ _ | refine blk_drew ?_ | refine blk_alloc ?_ _)); refine blk_far ?_ NB557_556.out _; (with_reducible repeat (first | refine blk_drewN ?_ _ | refine blk_drew ?_ | refine blk_alloc ?_ _)); refine blk_far ?_ NB557_556.out _; (with_reducible repeat (first | refine blk_drewN ?_ _ | refine blk_drew ?_ | refine blk_alloc ?_ _)); exact BK557.out⟩, ⟨pB⟩⟩
          ·rw [if_neg c118] at H
           have c118b0 : ((l1_1.length : Int) == (l0_1.length : Int)) = false := beq_eq_false_iff_ne.mpr c118
           have c118b1 : ((l1_1.length : Int) != (l0_1.length : Int)) = true := bne_iff_ne.mpr c118
           have c118b2 : (l1_1.length == l0_1.length) = false := by first | simpa using c118 | (simp at c118 ⊢; omega)
           have H' := Aside0.mk H
           clear H
           have hnb148 := NB556_519.out
           have hnc148 := NB519_556.out
           have hnb149 := NB556_520.out
           have hnc149 := NB520_556.out
           have hnb150 := NB556_530.out
           have hnc150 := NB530_556.out
           have hnb151 := NB556_557.out
           have hnc151 := NB557_556.out
           obtain ⟨hcz152_0, hcz152_1, hfz152_0, hfz152_1⟩ := bk2 BK556
           have hnb153 := NB519_520.out
           have hnc153 := NB520_519.out
           have hnb154 := NB519_530.out
           have hnc154 := NB530_519.out
           have hnb155 := NB519_557.out
           have hnc155 := NB557_519.out
           obtain ⟨hcz156_0, hcz156_1, hfz156_0, hfz156_1⟩ := bk2 BK519
           have hnb157 := NB557_520.out
           have hnc157 := NB520_557.out
           have hnb158 := NB557_530.out
           have hnc158 := NB530_557.out
           obtain ⟨hcz159_0, hcz159_1, hfz159_0, hfz159_1⟩ := bk2 BK557
           have hnb160 := NB520_530.out
           have hnc160 := NB530_520.out
           obtain ⟨hcz161_0, hcz161_1, hfz161_0, hfz161_1⟩ := bk2 BK520
           go_wp2
           repeat (go_quiet (fail); try go_wp2)
           go_meet
           case rel => exact ⟨_, (true), (by first | rfl | (simp; done) | (simp [*]; done)), H', ⟨by have := HJ3.out; have := HJ16.out; first | omega | exact Nat.le_refl _⟩, ⟨by (with_reducible repeat (first | apply Kd.R_alloc | apply Kd.R_drewN | apply Kd.R_drew)); exact Kd.R_mono (Kd.R_far (p := ⟨gb557, 1, none⟩) (Kd.R_far (p := ⟨gb557, 0, none⟩) (Kd.R_far (p := ⟨gb556, 1, none⟩) (Kd.R_far (p := ⟨gb556, 0, none⟩) (Kd.R_types (Kd.R_types HO_531001.out BK556.out (by decide)) BK557.out (by decide)) (fun _ hk => hk.1.2) (.int .i64 t547)) (fun _ hk => hk.1.2) (.slice Ao110 t548.length co110)) (fun _ hk => hk.2) (.int .i64 t551)) (fun _ hk => hk.2) (.slice Ao115 t552.length co115)) (fun _ hk => ⟨hk.1.1.1.2, hk.1.1.2⟩)⟩, ⟨by (with_reducible repeat (first | apply Kd.R_alloc | apply Kd.R_drewN | apply Kd.R_drew)); exact Kd.R_mono (Kd.R_far (p := ⟨gb557, 1, none⟩) (Kd.R_far (p := ⟨gb557, 0, none⟩) (Kd.R_far (p := ⟨gb556, 1, none⟩) (Kd.R_far (p := ⟨gb556, 0, none⟩) (Kd.R_types (Kd.R_types HO550.out BK556.out (by decide)) BK557.out (by decide)) (fun _ hk => hk.1.2) (.int .i64 t547)) (fun _ hk => hk.1.2) (.slice Ao110 t548.length co110)) (fun _ hk => hk.2) (.int .i64 t551)) (fun _ hk => hk.2) (.slice Ao115 t552.length co115)) (fun _ hk => ⟨hk.1.1.2, hk.1.1.1⟩)⟩, ⟨by (with_reducible repeat (first | apply Kd.R_alloc | apply Kd.R_drewN | apply Kd.R_drew)); exact Kd.R_mono (Kd.R_far (p := ⟨gb557, 1, none⟩) (Kd.R_far (p := ⟨gb557, 0, none⟩) (Kd.R_far (p := ⟨gb556, 1, none⟩) (Kd.R_far (p := ⟨gb556, 0, none⟩) (Kd.R_types (Kd.R_types HO554.out BK556.out (by decide)) BK557.out (by decide)) (fun _ hk => hk.1.2) (.int .i64 t547)) (fun _ hk => hk.1.2) (.slice Ao110 t548.length co110)) (fun _ hk => hk.2) (.int .i64 t551)) (fun _ hk => hk.2) (.slice Ao115 t552.length co115)) (fun _ hk => ⟨hk.1.1.2, hk.1.1.1⟩)⟩, ⟨by (with_reducible repeat (first | refine blk_drewN ?_ _ | refine blk_drew ?_ | refine blk_alloc ?_ _)); refine blk_far ?_ NB519_557.out _; (with_reducible repeat (first | refine blk_drewN ?_ _ | refine blk_drew ?_ | refine blk_alloc ?_ _)); refine blk_far ?_ NB519_557.out _; (with_reducible repeat (first | refine blk_drewN ?_ _ | refine blk_drew ?_ | refine blk_alloc ?_ _)); refine blk_far ?_ NB519_556.out _; (with_reducible repeat (first | refine blk_drewN ?_ _ | refine blk_drew ?_ | refine blk_alloc ?_ _)); refine blk_far ?_ NB519_556.out _; (with_reducible repeat (first | refine blk_drewN ?_ _ | refine blk_drew ?_ | refine blk_alloc ?_ _)); exact BK519.out⟩, ⟨by (with_reducible repeat (first | refine blk_drewN ?_ _ | refine blk_drew ?_ | refine blk_alloc ?_ _)); refine blk_far ?_ NB520_557.out _; (with_reducible repeat (first | refine blk_drewN ?_ _ | refine blk_drew ?_ | refine blk_alloc ?_ _)); refine blk_far ?_ NB520_557.out _; (with_reducible repeat (first | refine blk_drewN ?_ _ | refine blk_drew ?_ | refine blk_alloc ?_ _)); refine blk_far ?_ NB520_556.out _; (with_reducible repeat (first | refine blk_drewN ?_ _ | refine blk_drew ?_ | refine blk_alloc ?_ _)); refine blk_far ?_ NB520_556.out _; (with_reducible repeat (first | refine blk_drewN ?_ _ | refine blk_drew ?_ | refine blk_alloc ?_ _)); exact BK520.out⟩, ⟨by (with_reducible repeat (first | refine blk_drewN ?_ _ | refine blk_drew ?_ | refine blk_alloc ?_ _)); refine blk_far ?_ NB530_557.out _; (with_reducible repeat (first | refine blk_drewN ?_ _ | refine blk_drew ?_ | refine blk_alloc ?_ _)); refine blk_far ?_ NB530_557.out _; (with_reducible repeat (first | refine blk_drewN ?_ _ | refine blk_drew ?_ | refine blk_alloc ?_ _)); refine blk_far ?_ NB530_556.out _; (with_reducible repeat (first | refine blk_drewN ?_ _ | refine blk_drew ?_ | refine blk_alloc ?_ _)); refine blk_far ?_ NB530_556.out _; (with_reducible repeat (first | refine blk_drewN ?_ _ | refine blk_drew ?_ | refine blk_alloc ?_ _)); exact BK530.out⟩, ⟨by (with_reducible repeat (first | refine blk_drewN ?_ _ | refine blk_drew ?_ | refine blk_alloc ?_ _)); refine blk_far ?_ NB556_557.out _; (with_reducible repeat (first | refine blk_drewN ?_ _ | refine blk_drew ?_ | refine blk_alloc ?_ _)); refine blk_far ?_ NB556_557.out _; (with_reducible repeat (first | refine blk_drewN ?_ _ | refine blk_drew ?_ | refine blk_alloc ?_ _)); refine blk_put (cs := #[.int .i64 t547, .slice none 0 0]) ?_ 1 _ rfl; (with_reducible repeat (first | refine blk_drewN ?_ _ | refine blk_drew ?_ | refine blk_alloc ?_ _)); refine blk_put (cs := #[.int .i64 0, .slice none 0 0]) ?_ 0 _ rfl; (with_reducible repeat (first | refine blk_drewN ?_ _ | refine blk_drew ?_ | refine blk_alloc ?_ _)); exact BK556.out⟩, ⟨by (with_reducible repeat (first | refine blk_drewN ?_ _ | refine blk_drew ?_ | refine blk_alloc ?_ _)); refine blk_put (cs := #[.int .i64 t551, .slice none 0 0]) ?_ 1 _ rfl; (with_reducible repeat (first | refine blk_drewN ?_ _ | refine blk_drew ?_ | refine blk_alloc ?_ _)); refine blk_put (cs := #[.int .i64 0, .slice none 0 0]) ?_ 0 _ rfl; (with_reducible repeat (first | refine blk_drewN ?_ _ | refine blk_drew ?_ | refine blk_alloc ?_ _)); refine blk_far ?_ NB557_556.out _; (with_reducible repeat (first | refine blk_drewN ?_ _ | refine blk_drew ?_ | refine blk_alloc ?_ _)); refine blk_far ?_ NB557_556.out _; (with_reducible repeat (first | refine blk_drewN ?_ _ | refine blk_drew ?_ | refine blk_alloc ?_ _)); exact BK557.out⟩, ⟨pB⟩⟩
         ·rw [if_neg c117] at H
          have c117b0 : ((t552.length : Int) == (l0_1.length : Int)) = false := beq_eq_false_iff_ne.mpr c117
          have c117b1 : ((t552.length : Int) != (l0_1.length : Int)) = true := bne_iff_ne.mpr c117
          have c117b2 : (t552.length == l0_1.length) = false := by first | simpa using c117 | (simp at c117 ⊢; omega)
          have H' := Aside0.mk H
          clear H
          have hnb162 := NB556_519.out
          have hnc162 := NB519_556.out
          have hnb163 := NB556_520.out
          have hnc163 := NB520_556.out
          have hnb164 := NB556_530.out
          have hnc164 := NB530_556.out
          have hnb165 := NB556_557.out
          have hnc165 := NB557_556.out
          obtain ⟨hcz166_0, hcz166_1, hfz166_0, hfz166_1⟩ := bk2 BK556
          have hnb167 := NB519_520.out
          have hnc167 := NB520_519.out
          have hnb168 := NB519_530.out
          have hnc168 := NB530_519.out
          have hnb169 := NB519_557.out
          have hnc169 := NB557_519.out
          obtain ⟨hcz170_0, hcz170_1, hfz170_0, hfz170_1⟩ := bk2 BK519
          have hnb171 := NB557_520.out
          have hnc171 := NB520_557.out
          have hnb172 := NB557_530.out
          have hnc172 := NB530_557.out
          obtain ⟨hcz173_0, hcz173_1, hfz173_0, hfz173_1⟩ := bk2 BK557
          go_wp2
          repeat (go_quiet (fail); try go_wp2)
          go_meet
          case rel => exact ⟨_, (true), (by first | rfl | (simp; done) | (simp [*]; done)), H', ⟨by have := HJ3.out; have := HJ16.out; first | omega | exact Nat.le_refl _⟩, ⟨by (with_reducible repeat (first | apply Kd.R_alloc | apply Kd.R_drewN | apply Kd.R_drew)); exact Kd.R_mono (Kd.R_far (p := ⟨gb557, 1, none⟩) (Kd.R_far (p := ⟨gb557, 0, none⟩) (Kd.R_far (p := ⟨gb556, 1, none⟩) (Kd.R_far (p := ⟨gb556, 0, none⟩) (Kd.R_types (Kd.R_types HO_531001.out BK556.out (by decide)) BK557.out (by decide)) (fun _ hk => hk.1.2) (.int .i64 t547)) (fun _ hk => hk.1.2) (.slice Ao110 t548.length co110)) (fun _ hk => hk.2) (.int .i64 t551)) (fun _ hk => hk.2) (.slice Ao115 t552.length co115)) (fun _ hk => ⟨hk.1.1.1.2, hk.1.1.2⟩)⟩, ⟨by (with_reducible repeat (first | apply Kd.R_alloc | apply Kd.R_drewN | apply Kd.R_drew)); exact Kd.R_mono (Kd.R_far (p := ⟨gb557, 1, none⟩) (Kd.R_far (p := ⟨gb557, 0, none⟩) (Kd.R_far (p := ⟨gb556, 1, none⟩) (Kd.R_far (p := ⟨gb556, 0, none⟩) (Kd.R_types (Kd.R_types HO550.out BK556.out (by decide)) BK557.out (by decide)) (fun _ hk => hk.1.2) (.int .i64 t547)) (fun _ hk => hk.1.2) (.slice Ao110 t548.length co110)) (fun _ hk => hk.2) (.int .i64 t551)) (fun _ hk => hk.2) (.slice Ao115 t552.length co115)) (fun _ hk => ⟨hk.1.1.2, hk.1.1.1⟩)⟩, ⟨by (with_reducible repeat (first | apply Kd.R_alloc | apply Kd.R_drewN | apply Kd.R_drew)); exact Kd.R_mono (Kd.R_far (p := ⟨gb557, 1, none⟩) (Kd.R_far (p := ⟨gb557, 0, none⟩) (Kd.R_far (p := ⟨gb556, 1, none⟩) (Kd.R_far (p := ⟨gb556, 0, none⟩) (Kd.R_types (Kd.R_types HO554.out BK556.out (by decide)) BK557.out (by decide)) (fun _ hk => hk.1.2) (.int .i64 t547)) (fun _ hk => hk.1.2) (.slice Ao110 t548.length co110)) (fun _ hk => hk.2) (.int .i64 t551)) (fun _ hk => hk.2) (.slice Ao115 t552.length co115)) (fun _ hk => ⟨hk.1.1.2, hk.1.1.1⟩)⟩, ⟨by (with_reducible repeat (first | refine blk_drewN ?_ _ | refine blk_drew ?_ | refine blk_alloc ?_ _)); refine blk_far ?_ NB519_557.out _; (with_reducible repeat (first | refine blk_drewN ?_ _ | refine blk_drew ?_ | refine blk_alloc ?_ _)); refine blk_far ?_ NB519_557.out _; (with_reducible repeat (first | refine blk_drewN ?_ _ | refine blk_drew ?_ | refine blk_alloc ?_ _)); refine blk_far ?_ NB519_556.out _; (with_reducible repeat (first | refine blk_drewN ?_ _ | refine blk_drew ?_ | refine blk_alloc ?_ _)); refine blk_far ?_ NB519_556.out _; (with_reducible repeat (first | refine blk_drewN ?_ _ | refine blk_drew ?_ | refine blk_alloc ?_ _)); exact BK519.out⟩, ⟨by (with_reducible repeat (first | refine blk_drewN ?_ _ | refine blk_drew ?_ | refine blk_alloc ?_ _)); refine blk_far ?_ NB520_557.out _; (with_reducible repeat (first | refine blk_drewN ?_ _ | refine blk_drew ?_ | refine blk_alloc ?_ _)); refine blk_far ?_ NB520_557.out _; (with_reducible repeat (first | refine blk_drewN ?_ _ | refine blk_drew ?_ | refine blk_alloc ?_ _)); refine blk_far ?_ NB520_556.out _; (with_reducible repeat (first | refine blk_drewN ?_ _ | refine blk_drew ?_ | refine blk_alloc ?_ _)); refine blk_far ?_ NB520_556.out _; (with_reducible repeat (first | refine blk_drewN ?_ _ | refine blk_drew ?_ | refine blk_alloc ?_ _)); exact BK520.out⟩, ⟨by (with_reducible repeat (first | refine blk_drewN ?_ _ | refine blk_drew ?_ | refine blk_alloc ?_ _)); refine blk_far ?_ NB530_557.out _; (with_reducible repeat (first | refine blk_drewN ?_ _ | refine blk_drew ?_ | refine blk_alloc ?_ _)); refine blk_far ?_ NB530_557.out _; (with_reducible repeat (first | refine blk_drewN ?_ _ | refine blk_drew ?_ | refine blk_alloc ?_ _)); refine blk_far ?_ NB530_556.out _; (with_reducible repeat (first | refine blk_drewN ?_ _ | refine blk_drew ?_ | refine blk_alloc ?_ _)); refine blk_far ?_ NB530_556.out _; (with_reducible repeat (first | refine blk_drewN ?_ _ | refine blk_drew ?_ | refine blk_alloc ?_ _)); exact BK530.out⟩, ⟨by (with_reducible repeat (first | refine blk_drewN ?_ _ | refine blk_drew ?_ | refine blk_alloc ?_ _)); refine blk_far ?_ NB556_557.out _; (with_reducible repeat (first | refine blk_drewN ?_ _ | refine blk_drew ?_ | refine blk_alloc ?_ _)); refine blk_far ?_ NB556_557.out _; (with_reducible repeat (first | refine blk_drewN ?_ _ | refine blk_drew ?_ | refine blk_alloc ?_ _)); refine blk_put (cs := #[.int .i64 t547, .slice none 0 0]) ?_ 1 _ rfl; (with_reducible repeat (first | refine blk_drewN ?_ _ | refine blk_drew ?_ | refine blk_alloc ?_ _)); refine blk_put (cs := #[.int .i64 0, .slice none 0 0]) ?_ 0 _ rfl; (with_reducible repeat (first | refine blk_drewN ?_ _ | refine blk_drew ?_ | refine blk_alloc ?_ _)); exact BK556.out⟩, ⟨by (with_reducible repeat (first | refine blk_drewN ?_ _ | refine blk_drew ?_ | refine blk_alloc ?_ _)); refine blk_put (cs := #[.int .i64 t551, .slice none 0 0]) ?_ 1 _ rfl; (with_reducible repeat (first | refine blk_drewN ?_ _ | refine blk_drew ?_ | refine blk_alloc ?_ _)); refine blk_put (cs := #[.int .i64 0, .slice none 0 0]) ?_ 0 _ rfl; (with_reducible repeat (first | refine blk_drewN ?_ _ | refine blk_drew ?_ | refine blk_alloc ?_ _)); refine blk_far ?_ NB557_556.out _; (with_reducible repeat (first | refine blk_drewN ?_ _ | refine blk_drew ?_ | refine blk_alloc ?_ _)); refine blk_far ?_ NB557_556.out _; (with_reducible repeat (first | refine blk_drewN ?_ _ | refine blk_drew ?_ | refine blk_alloc ?_ _)); exact BK557.out⟩, ⟨pB⟩⟩
        ·rw [if_neg c116] at H
         have c116b0 : ((t548.length : Int) == (l0_1.length : Int)) = false := beq_eq_false_iff_ne.mpr c116
         have c116b1 : ((t548.length : Int) != (l0_1.length : Int)) = true := bne_iff_ne.mpr c116
         have c116b2 : (t548.length == l0_1.length) = false := by first | simpa using c116 | (simp at c116 ⊢; omega)
         (first | rw [c116b0] | (simp only [i64_w, i32_w]; rw [c116b0]) | skip)
         have H' := Aside0.mk H
         clear H
         have hnb174 := NB556_519.out
         have hnc174 := NB519_556.out
         have hnb175 := NB556_520.out
         have hnc175 := NB520_556.out
         have hnb176 := NB556_530.out
         have hnc176 := NB530_556.out
         have hnb177 := NB556_557.out
         have hnc177 := NB557_556.out
         obtain ⟨hcz178_0, hcz178_1, hfz178_0, hfz178_1⟩ := bk2 BK556
         have hnb179 := NB519_520.out
         have hnc179 := NB520_519.out
         have hnb180 := NB519_530.out
         have hnc180 := NB530_519.out
         have hnb181 := NB519_557.out
         have hnc181 := NB557_519.out
         obtain ⟨hcz182_0, hcz182_1, hfz182_0, hfz182_1⟩ := bk2 BK519
         go_wp2
         repeat (go_quiet (fail); try go_wp2)
         go_meet
         case rel => exact ⟨_, (true), (by first | rfl | (simp; done) | (simp [*]; done)), H', ⟨by have := HJ3.out; have := HJ16.out; first | omega | exact Nat.le_refl _⟩, ⟨by (with_reducible repeat (first | apply Kd.R_alloc | apply Kd.R_drewN | apply Kd.R_drew)); exact Kd.R_mono (Kd.R_far (p := ⟨gb557, 1, none⟩) (Kd.R_far (p := ⟨gb557, 0, none⟩) (Kd.R_far (p := ⟨gb556, 1, none⟩) (Kd.R_far (p := ⟨gb556, 0, none⟩) (Kd.R_types (Kd.R_types HO_531001.out BK556.out (by decide)) BK557.out (by decide)) (fun _ hk => hk.1.2) (.int .i64 t547)) (fun _ hk => hk.1.2) (.slice Ao110 t548.length co110)) (fun _ hk => hk.2) (.int .i64 t551)) (fun _ hk => hk.2) (.slice Ao115 t552.length co115)) (fun _ hk => ⟨hk.1.1.1.2, hk.1.1.2⟩)⟩, ⟨by (with_reducible repeat (first | apply Kd.R_alloc | apply Kd.R_drewN | apply Kd.R_drew)); exact Kd.R_mono (Kd.R_far (p := ⟨gb557, 1, none⟩) (Kd.R_far (p := ⟨gb557, 0, none⟩) (Kd.R_far (p := ⟨gb556, 1, none⟩) (Kd.R_far (p := ⟨gb556, 0, none⟩) (Kd.R_types (Kd.R_types HO550.out BK556.out (by decide)) BK557.out (by decide)) (fun _ hk => hk.1.2) (.int .i64 t547)) (fun _ hk => hk.1.2) (.slice Ao110 t548.length co110)) (fun _ hk => hk.2) (.int .i64 t551)) (fun _ hk => hk.2) (.slice Ao115 t552.length co115)) (fun _ hk => ⟨hk.1.1.2, hk.1.1.1⟩)⟩, ⟨by (with_reducible repeat (first | apply Kd.R_alloc | apply Kd.R_drewN | apply Kd.R_drew)); exact Kd.R_mono (Kd.R_far (p := ⟨gb557, 1, none⟩) (Kd.R_far (p := ⟨gb557, 0, none⟩) (Kd.R_far (p := ⟨gb556, 1, none⟩) (Kd.R_far (p := ⟨gb556, 0, none⟩) (Kd.R_types (Kd.R_types HO554.out BK556.out (by decide)) BK557.out (by decide)) (fun _ hk => hk.1.2) (.int .i64 t547)) (fun _ hk => hk.1.2) (.slice Ao110 t548.length co110)) (fun _ hk => hk.2) (.int .i64 t551)) (fun _ hk => hk.2) (.slice Ao115 t552.length co115)) (fun _ hk => ⟨hk.1.1.2, hk.1.1.1⟩)⟩, ⟨by (with_reducible repeat (first | refine blk_drewN ?_ _ | refine blk_drew ?_ | refine blk_alloc ?_ _)); refine blk_far ?_ NB519_557.out _; (with_reducible repeat (first | refine blk_drewN ?_ _ | refine blk_drew ?_ | refine blk_alloc ?_ _)); refine blk_far ?_ NB519_557.out _; (with_reducible repeat (first | refine blk_drewN ?_ _ | refine blk_drew ?_ | refine blk_alloc ?_ _)); refine blk_far ?_ NB519_556.out _; (with_reducible repeat (first | refine blk_drewN ?_ _ | refine blk_drew ?_ | refine blk_alloc ?_ _)); refine blk_far ?_ NB519_556.out _; (with_reducible repeat (first | refine blk_drewN ?_ _ | refine blk_drew ?_ | refine blk_alloc ?_ _)); exact BK519.out⟩, ⟨by (with_reducible repeat (first | refine blk_drewN ?_ _ | refine blk_drew ?_ | refine blk_alloc ?_ _)); refine blk_far ?_ NB520_557.out _; (with_reducible repeat (first | refine blk_drewN ?_ _ | refine blk_drew ?_ | refine blk_alloc ?_ _)); refine blk_far ?_ NB520_557.out _; (with_reducible repeat (first | refine blk_drewN ?_ _ | refine blk_drew ?_ | refine blk_alloc ?_ _)); refine blk_far ?_ NB520_556.out _; (with_reducible repeat (first | refine blk_drewN ?_ _ | refine blk_drew ?_ | refine blk_alloc ?_ _)); refine blk_far ?_ NB520_556.out _; (with_reducible repeat (first | refine blk_drewN ?_ _ | refine blk_drew ?_ | refine blk_alloc ?_ _)); exact BK520.out⟩, ⟨by (with_reducible repeat (first | refine blk_drewN ?_ _ | refine blk_drew ?_ | refine blk_alloc ?_ _)); refine blk_far ?_ NB530_557.out _; (with_reducible repeat (first | refine blk_drewN ?_ _ | refine blk_drew ?_ | refine blk_alloc ?_ _)); refine blk_far ?_ NB530_557.out _; (with_reducible repeat (first | refine blk_drewN ?_ _ | refine blk_drew ?_ | refine blk_alloc ?_ _)); refine blk_far ?_ NB530_556.out _; (with_reducible repeat (first | refine blk_drewN ?_ _ | refine blk_drew ?_ | refine blk_alloc ?_ _)); refine blk_far ?_ NB530_556.out _; (with_reducible repeat (first | refine blk_drewN ?_ _ | refine blk_drew ?_ | refine blk_alloc ?_ _)); exact BK530.out⟩, ⟨by (with_reducible repeat (first | refine blk_drewN ?_ _ | refine blk_drew ?_ | refine blk_alloc ?_ _)); refine blk_far ?_ NB556_557.out _; (with_reducible repeat (first | refine blk_drewN ?_ _ | refine blk_drew ?_ | refine blk_alloc ?_ _)); refine blk_far ?_ NB556_557.out _; (with_reducible repeat (first | refine blk_drewN ?_ _ | refine blk_drew ?_ | refine blk_alloc ?_ _)); refine blk_put (cs := #[.int .i64 t547, .slice none 0 0]) ?_ 1 _ rfl; (with_reducible repeat (first | refine blk_drewN ?_ _ | refine blk_drew ?_ | refine blk_alloc ?_ _)); refine blk_put (cs := #[.int .i64 0, .slice none 0 0]) ?_ 0 _ rfl; (with_reducible repeat (first | refine blk_drewN ?_ _ | refine blk_drew ?_ | refine blk_alloc ?_ _)); exact BK556.out⟩, ⟨by (with_reducible repeat (first | refine blk_drewN ?_ _ | refine blk_drew ?_ | refine blk_alloc ?_ _)); refine blk_put (cs := #[.int .i64 t551, .slice none 0 0]) ?_ 1 _ rfl; (with_reducible repeat (first | refine blk_drewN ?_ _ | refine blk_drew ?_ | refine blk_alloc ?_ _)); refine blk_put (cs := #[.int .i64 0, .slice none 0 0]) ?_ 0 _ rfl; (with_reducible repeat (first | refine blk_drewN ?_ _ | refine blk_drew ?_ | refine blk_alloc ?_ _)); refine blk_far ?_ NB557_556.out _; (with_reducible repeat (first | refine blk_drewN ?_ _ | refine blk_drew ?_ | refine blk_alloc ?_ _)); refine blk_far ?_ NB557_556.out _; (with_reducible repeat (first | refine blk_drewN ?_ _ | refine blk_drew ?_ | refine blk_alloc ?_ _)); exact BK557.out⟩, ⟨pB⟩⟩
       case rest => as_aux_lemma =>
        clear HC96
        try clear c1
        try clear c2
        try clear p2
        try clear c3
        try clear c4
        try clear c5
        try clear p5
        try clear q5
        try clear hx5
        try clear c6
        try clear p6
        try clear c7
        try clear c7b0
        try clear c7b1
        try clear c8
        try clear c9
        try clear c10
        try clear c11
        try clear c12
        try clear c13
        try clear c14
        try clear c15
        try clear c16
        try clear c17
        try clear c18
        try clear c22
        try clear c23
        try clear c26
        try clear c26b0
        try clear c26b1
        try clear c28
        try clear c28b0
        try clear c28b1
        try clear c28b2
        try clear c29
        try clear c29b0
        try clear c29b1
        try clear c29b2
        try clear c30
        try clear c30b0
        try clear c30b1
        try clear c32
        try clear c33
        try clear c35
        try clear c39
        try clear c40
        try clear c42
        try clear c45
        try clear c46
        try clear c48
        try clear c51
        try clear c52
        try clear p53
        try clear q53
        try clear hx53
        try clear c54
        try clear c56
        try clear c57
        try clear c57b0
        try clear c58
        try clear c58b0
        try clear c59
        try clear c59b0
        try clear c60
        try clear c60b0
        try clear c61
        try clear c61b0
        try clear c62
        try clear c62b0
        try clear c63
        try clear c63b0
        try clear c63b1
        try clear p64
        try clear c65
        try clear c66
        try clear c68
        try clear c70
        try clear c70b0
        try clear c70b1
        try clear c73
        try clear c73b0
        try clear c73b1
        try clear c74
        try clear c74b0
        try clear c74b1
        try clear c76
        try clear c77
        try clear c77b0
        try clear c79
        try clear c80
        try clear c83
        try clear c87
        try clear c88
        try clear c89
        try clear c95
        try clear c95b0
        try clear c95b1
        try clear c97
        try clear c98
        try clear c100
        try clear c105
        try clear c106
        try clear c107
        try clear c108
        try clear c111
        try clear c112
        try clear c113
        try clear c116
        try clear c116b0
        try clear c116b1
        try clear c116b2
        try clear c117
        try clear c117b0
        try clear c117b1
        try clear c117b2
        try clear c118
        try clear c118b0
        try clear c118b1
        try clear c118b2
        try clear c119
        try clear c119b0
        try clear c119b1
        try clear c120
        try clear c121
        try clear c122
        try clear c123
        try clear c125
        try clear c126
        try clear c127
        try clear c129
        try clear c130
        try clear c132
        try clear c134
        try clear c135
        try clear c136
        try clear c137
        try clear c139
        try clear c140
        try clear c141
        try clear c143
        try clear c144
        try clear c146
        try clear c148
        try clear c149
        try clear c150
        try clear c151
        try clear c153
        try clear c154
        try clear c155
        try clear c157
        try clear c158
        try clear c160
        try clear c162
        try clear c163
        try clear c164
        try clear c165
        try clear c167
        try clear c168
        try clear c169
        try clear c171
        try clear c172
        try clear c174
        try clear c175
        try clear c176
        try clear c177
        try clear c179
        try clear c180
        try clear c181
        try clear hcz101_0
        try clear hcz101_1
        try clear hcz109_0
        try clear hcz109_1
        try clear hcz114_0
        try clear hcz114_1
        try clear hcz11_0
        try clear hcz11_1
        try clear hcz124_0
        try clear hcz124_1
        try clear hcz128_0
        try clear hcz128_1
        try clear hcz12_0
        try clear hcz12_1
        try clear hcz131_0
        try clear hcz131_1
        try clear hcz133_0
        try clear hcz133_1
        try clear hcz138_0
        try clear hcz138_1
        try clear hcz142_0
        try clear hcz142_1
        try clear hcz145_0
        try clear hcz145_1
        try clear hcz147_0
        try clear hcz147_1
        try clear hcz152_0
        try clear hcz152_1
        try clear hcz156_0
        try clear hcz156_1
        try clear hcz159_0
        try clear hcz159_1
        try clear hcz161_0
        try clear hcz161_1
        try clear hcz166_0
        try clear hcz166_1
        try clear hcz170_0
        try clear hcz170_1
        try clear hcz173_0
        try clear hcz173_1
        try clear hcz178_0
        try clear hcz178_1
        try clear hcz182_0
        try clear hcz182_1
        try clear hcz19_0
        try clear hcz19_1
        try clear hcz24_0
        try clear hcz24_1
        try clear hcz34_0
        try clear hcz34_1
        try clear hcz36_0
        try clear hcz36_1
        try clear hcz41_0
        try clear hcz41_1
        try clear hcz43_0
        try clear hcz43_1
        try clear hcz47_0
        try clear hcz47_1
        try clear hcz49_0
        try clear hcz49_1
        try clear hcz53_0
        try clear hcz53_1
        try clear hcz55_0
        try clear hcz55_1
        try clear hcz67_0
        try clear hcz67_1
        try clear hcz69_0
        try clear hcz69_1
        try clear hcz81_0
        try clear hcz81_1
        try clear hcz84_0
        try clear hcz84_1
        try clear hcz90_0
        try clear hcz90_1
        try clear hcz92_0
        try clear hcz92_1
        try clear hcz99_0
        try clear hcz99_1
        try clear hcz9_0
        try clear hcz9_1
        try clear hfz101_0
        try clear hfz101_1
        try clear hfz109_0
        try clear hfz109_1
        try clear hfz114_0
        try clear hfz114_1
        try clear hfz11_0
        try clear hfz11_1
        try clear hfz124_0
        try clear hfz124_1
        try clear hfz128_0
        try clear hfz128_1
        try clear hfz12_0
        try clear hfz12_1
        try clear hfz131_0
        try clear hfz131_1
        try clear hfz133_0
        try clear hfz133_1
        try clear hfz138_0
        try clear hfz138_1
        try clear hfz142_0
        try clear hfz142_1
        try clear hfz145_0
        try clear hfz145_1
        try clear hfz147_0
        try clear hfz147_1
        try clear hfz152_0
        try clear hfz152_1
        try clear hfz156_0
        try clear hfz156_1
        try clear hfz159_0
        try clear hfz159_1
        try clear hfz161_0
        try clear hfz161_1
        try clear hfz166_0
        try clear hfz166_1
        try clear hfz170_0
        try clear hfz170_1
        try clear hfz173_0
        try clear hfz173_1
        try clear hfz178_0
        try clear hfz178_1
        try clear hfz182_0
        try clear hfz182_1
        try clear hfz19_0
        try clear hfz19_1
        try clear hfz24_0
        try clear hfz24_1
        try clear hfz34_0
        try clear hfz34_1
        try clear hfz36_0
        try clear hfz36_1
        try clear hfz41_0
        try clear hfz41_1
        try clear hfz43_0
        try clear hfz43_1
        try clear hfz47_0
        try clear hfz47_1
        try clear hfz49_0
        try clear hfz49_1
        try clear hfz53_0
        try clear hfz53_1
        try clear hfz55_0
        try clear hfz55_1
        try clear hfz67_0
        try clear hfz67_1
        try clear hfz69_0
        try clear hfz69_1
        try clear hfz81_0
        try clear hfz81_1
        try clear hfz84_0
        try clear hfz84_1
        try clear hfz90_0
        try clear hfz90_1
        try clear hfz92_0
        try clear hfz92_1
        try clear hfz99_0
        try clear hfz99_1
        try clear hfz9_0
        try clear hfz9_1
        try clear hx532_0
        try clear hx533_0
        try clear hx534_0
        try clear hx535_0
        try clear hx536_0
        try clear hx537_0
        try clear p2
        try clear p5
        try clear p53
        try clear p532
        try clear p533
        try clear p534
        try clear p535
        try clear p536
        try clear p537
        try clear p6
        try clear p64
        try clear q5
        try clear q53
        try clear q532
        try clear q533
        try clear q534
        try clear q535
        try clear q536
        try clear q537
        obtain ⟨kq, x202_95, rfl, HA, HJ95, HO_531001, HO_557001, HO_558001, BK519, BK520, BK530, BK556, BK557, HB⟩ := hcut
        cases kq with
        | zero => exact absurd HA.out (by simp [papermilllaw18_ChestKeeps.j4])
        | succ kj95 =>
         have H := HA.out
         clear HA
         simp only [papermilllaw18_ChestKeeps.j4] at H
         by_cases c183 : x202_95 = true
         ·subst c183
          have H1 : (none) = some r := by rw [if_pos rfl] at H; exact H
          clear H
          have H := H1
          clear H1
          exact absurd H (by simp)
         ·replace c183 := Bool.eq_false_iff.mpr c183
          subst c183
          have H1 : (papermilllaw18_ChestKeeps.l1 kj95 0 a0_0 l0_1 a1_0 l1_1 t547 t548 t551 t552) = some r := by rw [if_neg (show ¬ (false = true) by decide)] at H; exact H
          clear H
          have H := H1
          clear H1
          have H' := Aside0.mk H
          clear H
          go_wp2
          repeat (go_quiet (fail); try go_wp2)
          go_loopg [19] kj95 (fun kq v19 w' => ∃ (x19_4 : Int), v19 = .int .i64 x19_4 ∧ Aside0 (papermilllaw18_ChestKeeps.l1 kq x19_4 a0_0 l0_1 a1_0 l1_1 t547 t548 t551 t552 = some r) ∧ Aside0 (kq ≤ kj95) ∧ Aside0 (Kd.R (Kd.int .i64) 3 w' w.heap.size (fun k_ => some k_ ≠ ((.slice Ao110 t548.length co110) : Value).ownBlock ∧ some k_ ≠ ((.slice Ao115 t552.length co115) : Value).ownBlock) (.slice Ao25 t523.length co25) t523) ∧ Aside0 (Kd.R (Kd.int .i64) 3 w' w.heap.size (fun k_ => some k_ ≠ ((.slice Ao25 t523.length co25) : Value).ownBlock ∧ some k_ ≠ ((.slice Ao115 t552.length co115) : Value).ownBlock) (.slice Ao110 t548.length co110) t548) ∧ Aside0 (Kd.R (Kd.int .i64) 3 w' w.heap.size (fun k_ => some k_ ≠ ((.slice Ao25 t523.length co25) : Value).ownBlock ∧ some k_ ≠ ((.slice Ao110 t548.length co110) : Value).ownBlock) (.slice Ao115 t552.length co115) t552) ∧ Aside0 (w'.heap[gb519]? = some (.cells #[.int .i64 a0_0, (.slice A0_1 l0_1.length c0_1)] 24 (0, 0))) ∧ Aside0 (w'.heap[gb520]? = some (.cells #[.int .i64 a1_0, (.slice A1_1 l1_1.length c1_1)] 24 (0, 0))) ∧ Aside0 (w'.heap[gb530]? = some (.cells #[.int .i64 t522, (.slice Ao25 t523.length co25)] 24 (0, 0))) ∧ Aside0 (w'.heap[gb556]? = some (.cells #[.int .i64 t547, (.slice Ao110 t548.length co110)] 24 (0, 0))) ∧ Aside0 (w'.heap[gb557]? = some (.cells #[.int .i64 t551, (.slice Ao115 t552.length co115)] 24 (0, 0))) ∧ Aside0 (Below w.heap.size w w'))
          case atStart => exact ⟨(0), (by first | rfl | (simp; done) | (simp [*]; done)), H', ⟨Nat.le_refl _⟩, ⟨by (with_reducible repeat (first | apply Kd.R_alloc | apply Kd.R_drewN | apply Kd.R_drew)); exact HO_531001.out⟩, ⟨by (with_reducible repeat (first | apply Kd.R_alloc | apply Kd.R_drewN | apply Kd.R_drew)); exact HO_557001.out⟩, ⟨by (with_reducible repeat (first | apply Kd.R_alloc | apply Kd.R_drewN | apply Kd.R_drew)); exact HO_558001.out⟩, ⟨by (with_reducible repeat (first | refine blk_drewN ?_ _ | refine blk_drew ?_ | refine blk_alloc ?_ _)); exact BK519.out⟩, ⟨by (with_reducible repeat (first | refine blk_drewN ?_ _ | refine blk_drew ?_ | refine blk_alloc ?_ _)); exact BK520.out⟩, ⟨by (with_reducible repeat (first | refine blk_drewN ?_ _ | refine blk_drew ?_ | refine blk_alloc ?_ _)); exact BK530.out⟩, ⟨by (with_reducible repeat (first | refine blk_drewN ?_ _ | refine blk_drew ?_ | refine blk_alloc ?_ _)); exact BK556.out⟩, ⟨by (with_reducible repeat (first | refine blk_drewN ?_ _ | refine blk_drew ?_ | refine blk_alloc ?_ _)); exact BK557.out⟩, ⟨pB⟩⟩
          case round =>
           clear H'
           try clear c1
           try clear c2
           try clear p2
           try clear c3
           try clear c4
           try clear c5
           try clear p5
           try clear q5
           try clear hx5
           try clear c6
           try clear p6
           try clear c7
           try clear c7b0
           try clear c7b1
           try clear c8
           try clear c9
           try clear c10
           try clear c11
           try clear c12
           try clear c13
           try clear c14
           try clear c15
           try clear c16
           try clear c17
           try clear c18
           try clear c22
           try clear c23
           try clear c26
           try clear c26b0
           try clear c26b1
           try clear c28
           try clear c28b0
           try clear c28b1
           try clear c28b2
           try clear c29
           try clear c29b0
           try clear c29b1
           try clear c29b2
           try clear c30
           try clear c30b0
           try clear c30b1
           try clear c32
           try clear c33
           try clear c35
           try clear c39
           try clear c40
           try clear c42
           try clear c45
           try clear c46
           try clear c48
           try clear c51
           try clear c52
           try clear p53
           try clear q53
           try clear hx53
           try clear c54
           try clear c56
           try clear c57
           try clear c57b0
           try clear c58
           try clear c58b0
           try clear c59
           try clear c59b0
           try clear c60
           try clear c60b0
           try clear c61
           try clear c61b0
           try clear c62
           try clear c62b0
           try clear c63
           try clear c63b0
           try clear c63b1
           try clear p64
           try clear c65
           try clear c66
           try clear c68
           try clear c70
           try clear c70b0
           try clear c70b1
           try clear c73
           try clear c73b0
           try clear c73b1
           try clear c74
           try clear c74b0
           try clear c74b1
           try clear c76
           try clear c77
           try clear c77b0
           try clear c79
           try clear c80
           try clear c83
           try clear c87
           try clear c88
           try clear c89
           try clear c95
           try clear c95b0
           try clear c95b1
           try clear c97
           try clear c98
           try clear c100
           try clear c105
           try clear c106
           try clear c107
           try clear c108
           try clear c111
           try clear c112
           try clear c113
           try clear c116
           try clear c116b0
           try clear c116b1
           try clear c116b2
           try clear c117
           try clear c117b0
           try clear c117b1
           try clear c117b2
           try clear c118
           try clear c118b0
           try clear c118b1
           try clear c118b2
           try clear c119
           try clear c119b0
           try clear c119b1
           try clear c120
           try clear c121
           try clear c122
           try clear c123
           try clear c125
           try clear c126
           try clear c127
           try clear c129
           try clear c130
           try clear c132
           try clear c134
           try clear c135
           try clear c136
           try clear c137
           try clear c139
           try clear c140
           try clear c141
           try clear c143
           try clear c144
           try clear c146
           try clear c148
           try clear c149
           try clear c150
           try clear c151
           try clear c153
           try clear c154
           try clear c155
           try clear c157
           try clear c158
           try clear c160
           try clear c162
           try clear c163
           try clear c164
           try clear c165
           try clear c167
           try clear c168
           try clear c169
           try clear c171
           try clear c172
           try clear c174
           try clear c175
           try clear c176
           try clear c177
           try clear c179
           try clear c180
           try clear c181
           try clear c183
           try clear hcz101_0
           try clear hcz101_1
           try clear hcz109_0
           try clear hcz109_1
           try clear hcz114_0
           try clear hcz114_1
           try clear hcz11_0
           try clear hcz11_1
           try clear hcz124_0
           try clear hcz124_1
           try clear hcz128_0
           try clear hcz128_1
           try clear hcz12_0
           try clear hcz12_1
           try clear hcz131_0
           try clear hcz131_1
           try clear hcz133_0
           try clear hcz133_1
           try clear hcz138_0
           try clear hcz138_1
           try clear hcz142_0
           try clear hcz142_1
           try clear hcz145_0
           try clear hcz145_1
           try clear hcz147_0
           try clear hcz147_1
           try clear hcz152_0
           try clear hcz152_1
           try clear hcz156_0
           try clear hcz156_1
           try clear hcz159_0
           try clear hcz159_1
           try clear hcz161_0
           try clear hcz161_1
           try clear hcz166_0
           try clear hcz166_1
           try clear hcz170_0
           try clear hcz170_1
           try clear hcz173_0
           try clear hcz173_1
           try clear hcz178_0
           try clear hcz178_1
           try clear hcz182_0
           try clear hcz182_1
           try clear hcz19_0
           try clear hcz19_1
           try clear hcz24_0
           try clear hcz24_1
           try clear hcz34_0
           try clear hcz34_1
           try clear hcz36_0
           try clear hcz36_1
           try clear hcz41_0
           try clear hcz41_1
           try clear hcz43_0
           try clear hcz43_1
           try clear hcz47_0
           try clear hcz47_1
           try clear hcz49_0
           try clear hcz49_1
           try clear hcz53_0
           try clear hcz53_1
           try clear hcz55_0
           try clear hcz55_1
           try clear hcz67_0
           try clear hcz67_1
           try clear hcz69_0
           try clear hcz69_1
           try clear hcz81_0
           try clear hcz81_1
           try clear hcz84_0
           try clear hcz84_1
           try clear hcz90_0
           try clear hcz90_1
           try clear hcz92_0
           try clear hcz92_1
           try clear hcz99_0
           try clear hcz99_1
           try clear hcz9_0
           try clear hcz9_1
           try clear hfz101_0
           try clear hfz101_1
           try clear hfz109_0
           try clear hfz109_1
           try clear hfz114_0
           try clear hfz114_1
           try clear hfz11_0
           try clear hfz11_1
           try clear hfz124_0
           try clear hfz124_1
           try clear hfz128_0
           try clear hfz128_1
           try clear hfz12_0
           try clear hfz12_1
           try clear hfz131_0
           try clear hfz131_1
           try clear hfz133_0
           try clear hfz133_1
           try clear hfz138_0
           try clear hfz138_1
           try clear hfz142_0
           try clear hfz142_1
           try clear hfz145_0
           try clear hfz145_1
           try clear hfz147_0
           try clear hfz147_1
           try clear hfz152_0
           try clear hfz152_1
           try clear hfz156_0
           try clear hfz156_1
           try clear hfz159_0
           try clear hfz159_1
           try clear hfz161_0
           try clear hfz161_1
           try clear hfz166_0
           try clear hfz166_1
           try clear hfz170_0
           try clear hfz170_1
           try clear hfz173_0
           try clear hfz173_1
           try clear hfz178_0
           try clear hfz178_1
           try clear hfz182_0
           try clear hfz182_1
           try clear hfz19_0
           try clear hfz19_1
           try clear hfz24_0
           try clear hfz24_1
           try clear hfz34_0
           try clear hfz34_1
           try clear hfz36_0
           try clear hfz36_1
           try clear hfz41_0
           try clear hfz41_1
           try clear hfz43_0
           try clear hfz43_1
           try clear hfz47_0
           try clear hfz47_1
           try clear hfz49_0
           try clear hfz49_1
           try clear hfz53_0
           try clear hfz53_1
           try clear hfz55_0
           try clear hfz55_1
           try clear hfz67_0
           try clear hfz67_1
           try clear hfz69_0
           try clear hfz69_1
           try clear hfz81_0
           try clear hfz81_1
           try clear hfz84_0
           try clear hfz84_1
           try clear hfz90_0
           try clear hfz90_1
           try clear hfz92_0
           try clear hfz92_1
           try clear hfz99_0
           try clear hfz99_1
           try clear hfz9_0
           try clear hfz9_1
           try clear hx532_0
           try clear hx533_0
           try clear hx534_0
           try clear hx535_0
           try clear hx536_0
           try clear hx537_0
           try clear p2
           try clear p5
           try clear p53
           try clear p532
           try clear p533
           try clear p534
           try clear p535
           try clear p536
           try clear p537
           try clear p6
           try clear p64
           try clear q5
           try clear q53
           try clear q532
           try clear q533
           try clear q534
           try clear q535
           try clear q536
           try clear q537
           obtain ⟨x19_4, rfl, HA, HK4, HO_531001, HO_557001, HO_558001, BK519, BK520, BK530, BK556, BK557, HB⟩ := hrel
           cases gk with
           | zero => exact absurd HA.out (by simp [papermilllaw18_ChestKeeps.l1])
           | succ k4 =>
            have H := HA.out
            clear HA
            simp only [papermilllaw18_ChestKeeps.l1] at H
            by_cases c184 : x19_4 < (t548.length : Int)
            ·rw [if_pos c184] at H
             have c184b0 : decide (x19_4 < (t548.length : Int)) = true := decide_eq_true c184
             clear c184
             by_cases c185 : 0 ≤ x19_4
             ·rw [if_pos c185] at H
              have c185b0 : decide (0 ≤ x19_4) = true := decide_eq_true c185
              clear c185
              by_cases c186 : x19_4 < (t552.length : Int)
              ·rw [if_pos c186] at H
               have c186b0 : decide (x19_4 < (t552.length : Int)) = true := decide_eq_true c186
               clear c186
               by_cases c187 : x19_4 < (l0_1.length : Int)
               ·rw [if_pos c187] at H
                have c187b0 : decide (x19_4 < (l0_1.length : Int)) = true := decide_eq_true c187
                clear c187
                by_cases c188 : x19_4 < (l1_1.length : Int)
                ·rw [if_pos c188] at H
                 have c188b0 : decide (x19_4 < (l1_1.length : Int)) = true := decide_eq_true c188
                 clear c188
                 by_cases c189 : (wrap64 ((rd t548 x19_4) + (rd t552 x19_4))) = (wrap64 ((rd l0_1 x19_4) + (rd l1_1 x19_4)))
                 ·rw [if_pos c189] at H
                  have c189b0 : ((wrap64 ((rd t548 x19_4) + (rd t552 x19_4))) == (wrap64 ((rd l0_1 x19_4) + (rd l1_1 x19_4)))) = true := beq_iff_eq.mpr c189
                  have c189b1 : ((wrap64 ((rd t548 x19_4) + (rd t552 x19_4))) != (wrap64 ((rd l0_1 x19_4) + (rd l1_1 x19_4)))) = false := bne_eq_false_iff_eq.mpr c189
                  clear c189
                  have H' := Aside0.mk H
                  clear H
                  have hnb190 := NB556_519.out
                  have hnc190 := NB519_556.out
                  have hnb191 := NB556_520.out
                  have hnc191 := NB520_556.out
                  have hnb192 := NB556_530.out
                  have hnc192 := NB530_556.out
                  have hnb193 := NB556_557.out
                  have hnc193 := NB557_556.out
                  obtain ⟨hcz194_0, hcz194_1, hfz194_0, hfz194_1⟩ := bk2 BK556
                  have p559 : 0 ≤ (x19_4 : Int) := of_decide_eq_true (by first | (with_reducible assumption) | assumption)
                  have q559 : x19_4 < (t548.length : Int) := of_decide_eq_true (by first | (with_reducible assumption) | assumption)
                  obtain ⟨ad559, e559, hx559_0⟩ := Kd.at_int (Kd.R_reads' HO_557001.out).2.2 x19_4 p559 q559
                  cases e559
                  replace p559 := eq_true p559
                  replace q559 := eq_true q559
                  have hnb195 := NB557_519.out
                  have hnc195 := NB519_557.out
                  have hnb196 := NB557_520.out
                  have hnc196 := NB520_557.out
                  have hnb197 := NB557_530.out
                  have hnc197 := NB530_557.out
                  obtain ⟨hcz198_0, hcz198_1, hfz198_0, hfz198_1⟩ := bk2 BK557
                  have p560 : 0 ≤ (x19_4 : Int) := of_decide_eq_true (by first | (with_reducible assumption) | assumption)
                  have q560 : x19_4 < (t552.length : Int) := of_decide_eq_true (by first | (with_reducible assumption) | assumption)
                  obtain ⟨ad560, e560, hx560_0⟩ := Kd.at_int (Kd.R_reads' HO_558001.out).2.2 x19_4 p560 q560
                  cases e560
                  replace p560 := eq_true p560
                  replace q560 := eq_true q560
                  have hnb199 := NB519_520.out
                  have hnc199 := NB520_519.out
                  have hnb200 := NB519_530.out
                  have hnc200 := NB530_519.out
                  obtain ⟨hcz201_0, hcz201_1, hfz201_0, hfz201_1⟩ := bk2 BK519
                  have p561 : 0 ≤ (x19_4 : Int) := of_decide_eq_true (by first | (with_reducible assumption) | assumption)
                  have q561 : x19_4 < (l0_1.length : Int) := of_decide_eq_true (by first | (with_reducible assumption) | assumption)
                  obtain ⟨ad561, e561, hx561_0⟩ := Kd.at_int HR0_1.out x19_4 p561 q561
                  cases e561
                  replace hx561_0 := (HB.out.cell (World.block_lt_of_cell? w _ hx561_0)).trans hx561_0
                  replace p561 := eq_true p561
                  replace q561 := eq_true q561
                  have hnb202 := NB520_530.out
                  have hnc202 := NB530_520.out
                  obtain ⟨hcz203_0, hcz203_1, hfz203_0, hfz203_1⟩ := bk2 BK520
                  have p562 : 0 ≤ (x19_4 : Int) := of_decide_eq_true (by first | (with_reducible assumption) | assumption)
                  have q562 : x19_4 < (l1_1.length : Int) := of_decide_eq_true (by first | (with_reducible assumption) | assumption)
                  obtain ⟨ad562, e562, hx562_0⟩ := Kd.at_int HR1_1.out x19_4 p562 q562
                  cases e562
                  replace hx562_0 := (HB.out.cell (World.block_lt_of_cell? w _ hx562_0)).trans hx562_0
                  replace p562 := eq_true p562
                  replace q562 := eq_true q562
                  go_wp2
                  repeat (go_quiet (fail); try go_wp2)
                  go_roundg k4
                  case measure => have := HJ3.out; have := HJ16.out; have := HJ95.out; have := HK4.out; omega
                  case rel => exact ⟨(wrap64 (x19_4 + 1)), (by first | rfl | (simp; done) | (simp [*]; done)), H', ⟨by have := HJ3.out; have := HJ16.out; have := HJ95.out; have := HK4.out; omega⟩, ⟨by (with_reducible repeat (first | apply Kd.R_alloc | apply Kd.R_drewN | apply Kd.R_drew)); exact HO_531001.out⟩, ⟨by (with_reducible repeat (first | apply Kd.R_alloc | apply Kd.R_drewN | apply Kd.R_drew)); exact HO_557001.out⟩, ⟨by (with_reducible repeat (first | apply Kd.R_alloc | apply Kd.R_drewN | apply Kd.R_drew)); exact HO_558001.out⟩, ⟨by (with_reducible repeat (first | refine blk_drewN ?_ _ | refine blk_drew ?_ | refine blk_alloc ?_ _)); exact BK519.out⟩, ⟨by (with_reducible repeat (first | refine blk_drewN ?_ _ | refine blk_drew ?_ | refine blk_alloc ?_ _)); exact BK520.out⟩, ⟨by (with_reducible repeat (first | refine blk_drewN ?_ _ | refine blk_drew ?_ | refine blk_alloc ?_ _)); exact BK530.out⟩, ⟨by (with_reducible repeat (first | refine blk_drewN ?_ _ | refine blk_drew ?_ | refine blk_alloc ?_ _)); exact BK556.out⟩, ⟨by (with_reducible repeat (first | refine blk_drewN ?_ _ | refine blk_drew ?_ | refine blk_alloc ?_ _)); exact BK557.out⟩, ⟨pB⟩⟩
                 ·rw [if_neg c189] at H
                  exact absurd H (by simp)
                ·rw [if_neg c188] at H
                 exact absurd H (by simp)
               ·rw [if_neg c187] at H
                exact absurd H (by simp)
              ·rw [if_neg c186] at H
               exact absurd H (by simp)
             ·rw [if_neg c185] at H
              exact absurd H (by simp)
            ·rw [if_neg c184] at H
             have c184b0 : decide (x19_4 < (t548.length : Int)) = false := decide_eq_false c184
             clear c184
             replace H := Option.bind_eq_some_iff.mp H
             obtain ⟨t563, A2040, H⟩ := H
             try dsimp only at H
             have A204 := Aside0.mk A2040
             clear A2040
             by_cases c205 : t563 = 0
             ·rw [if_pos c205] at H
              have c205b0 : (t563 == 0) = true := beq_iff_eq.mpr c205
              have c205b1 : (t563 != 0) = false := bne_eq_false_iff_eq.mpr c205
              clear c205
              replace H := Option.bind_eq_some_iff.mp H
              obtain ⟨t564, A2060, H⟩ := H
              try dsimp only at H
              have A206 := Aside0.mk A2060
              clear A2060
              by_cases c207 : t564 = 0
              ·rw [if_pos c207] at H
               have c207b0 : (t564 == 0) = true := beq_iff_eq.mpr c207
               have c207b1 : (t564 != 0) = false := bne_eq_false_iff_eq.mpr c207
               clear c207
               replace H := Option.bind_eq_some_iff.mp H
               obtain ⟨t565, A2080, H⟩ := H
               try dsimp only at H
               have A208 := Aside0.mk A2080
               clear A2080
               obtain rfl := Option.some.inj H
               have hnb209 := NB556_519.out
               have hnc209 := NB519_556.out
               have hnb210 := NB556_520.out
               have hnc210 := NB520_556.out
               have hnb211 := NB556_530.out
               have hnc211 := NB530_556.out
               have hnb212 := NB556_557.out
               have hnc212 := NB557_556.out
               obtain ⟨hcz213_0, hcz213_1, hfz213_0, hfz213_1⟩ := bk2 BK556
               have fl_ : True := trivial
               repeat ((first | clear fl_ | go_quiet (first | (go_at_call 15; (with_reducible refine (chest_Check.calls k4 t547 _ _ t548 t563 _ ?side1 ?side2 A204.out).mono ?_); (case side1 => repeat (first | exact (Kd.R_reads' HO_557001.out).2.2 | (with_reducible refine Kd.C_alloc ?_ _) | (with_reducible refine Kd.C_drewN ?_ _) | (with_reducible refine Kd.C_drew ?_))); (case side2 => exact (Kd.R_reads' HO_557001.out).2.1); rintro e w214 ⟨rfl, hb⟩; replace HO_531001 := Aside0.mk (Kd.R_below (rX HO_531001.out) hb); replace HO_557001 := Aside0.mk (Kd.R_below (rX HO_557001.out) hb); replace HO_558001 := Aside0.mk (Kd.R_below (rX HO_558001.out) hb); replace BK519 := Aside0.mk (kB BK519 hb); replace BK520 := Aside0.mk (kB BK520 hb); replace BK530 := Aside0.mk (kB BK530 hb); replace BK556 := Aside0.mk (kB BK556 hb); replace BK557 := Aside0.mk (kB BK557 hb); replace HB := Aside0.mk (below_step pB hb); (try clear hb); (try clear hb2); (try clear hk); (try clear hi); have hnb215 := NB557_519.out; have hnc215 := NB519_557.out; have hnb216 := NB557_520.out; have hnc216 := NB520_557.out; have hnb217 := NB557_530.out; have hnc217 := NB530_557.out; obtain ⟨hcz218_0, hcz218_1, hfz218_0, hfz218_1⟩ := bk2 BK557) | (go_at_call 15; (with_reducible refine (chest_Check.calls k4 t551 _ _ t552 t564 _ ?side1 ?side2 A206.out).mono ?_); (case side1 => repeat (first | exact (Kd.R_reads' HO_558001.out).2.2 | (with_reducible refine Kd.C_alloc ?_ _) | (with_reducible refine Kd.C_drewN ?_ _) | (with_reducible refine Kd.C_drew ?_))); (case side2 => exact (Kd.R_reads' HO_558001.out).2.1); rintro e w219 ⟨rfl, hb⟩; replace HO_531001 := Aside0.mk (Kd.R_below (rX HO_531001.out) hb); replace HO_557001 := Aside0.mk (Kd.R_below (rX HO_557001.out) hb); replace HO_558001 := Aside0.mk (Kd.R_below (rX HO_558001.out) hb); replace BK519 := Aside0.mk (kB BK519 hb); replace BK520 := Aside0.mk (kB BK520 hb); replace BK530 := Aside0.mk (kB BK530 hb); replace BK556 := Aside0.mk (kB BK556 hb); replace BK557 := Aside0.mk (kB BK557 hb); replace HB := Aside0.mk (below_step pB hb); (try clear hb); (try clear hb2); (try clear hk); (try clear hi)) | (go_at_call 10; (with_reducible refine (papermilllaw18_awake.calls k4  t565 _ A208.out).mono ?_); rintro e w220 ⟨rfl, hb⟩; replace HO_531001 := Aside0.mk (Kd.R_below (rX HO_531001.out) hb); replace HO_557001 := Aside0.mk (Kd.R_below (rX HO_557001.out) hb); replace HO_558001 := Aside0.mk (Kd.R_below (rX HO_558001.out) hb); replace BK519 := Aside0.mk (kB BK519 hb); replace BK520 := Aside0.mk (kB BK520 hb); replace BK530 := Aside0.mk (kB BK530 hb); replace BK556 := Aside0.mk (kB BK556 hb); replace BK557 := Aside0.mk (kB BK557 hb); replace HB := Aside0.mk (below_step pB hb); (try clear hb); (try clear hb2); (try clear hk); (try clear hi)))); go_wp2_with (first | (go_at_call 15; (with_reducible refine (chest_Check.calls k4 t547 _ _ t548 t563 _ ?side1 ?side2 A204.out).mono ?_); (case side1 => repeat (first | exact (Kd.R_reads' HO_557001.out).2.2 | (with_reducible refine Kd.C_alloc ?_ _) | (with_reducible refine Kd.C_drewN ?_ _) | (with_reducible refine Kd.C_drew ?_))); (case side2 => exact (Kd.R_reads' HO_557001.out).2.1); rintro e w214 ⟨rfl, hb⟩; replace HO_531001 := Aside0.mk (Kd.R_below (rX HO_531001.out) hb); replace HO_557001 := Aside0.mk (Kd.R_below (rX HO_557001.out) hb); replace HO_558001 := Aside0.mk (Kd.R_below (rX HO_558001.out) hb); replace BK519 := Aside0.mk (kB BK519 hb); replace BK520 := Aside0.mk (kB BK520 hb); replace BK530 := Aside0.mk (kB BK530 hb); replace BK556 := Aside0.mk (kB BK556 hb); replace BK557 := Aside0.mk (kB BK557 hb); replace HB := Aside0.mk (below_step pB hb); (try clear hb); (try clear hb2); (try clear hk); (try clear hi); have hnb215 := NB557_519.out; have hnc215 := NB519_557.out; have hnb216 := NB557_520.out; have hnc216 := NB520_557.out; have hnb217 := NB557_530.out; have hnc217 := NB530_557.out; obtain ⟨hcz218_0, hcz218_1, hfz218_0, hfz218_1⟩ := bk2 BK557) | (go_at_call 15; (with_reducible refine (chest_Check.calls k4 t551 _ _ t552 t564 _ ?side1 ?side2 A206.out).mono ?_); (case side1 => repeat (first | exact (Kd.R_reads' HO_558001.out).2.2 | (with_reducible refine Kd.C_alloc ?_ _) | (with_reducible refine Kd.C_drewN ?_ _) | (with_reducible refine Kd.C_drew ?_))); (case side2 => exact (Kd.R_reads' HO_558001.out).2.1); rintro e w219 ⟨rfl, hb⟩; replace HO_531001 := Aside0.mk (Kd.R_below (rX HO_531001.out) hb); replace HO_557001 := Aside0.mk (Kd.R_below (rX HO_557001.out) hb); replace HO_558001 := Aside0.mk (Kd.R_below (rX HO_558001.out) hb); replace BK519 := Aside0.mk (kB BK519 hb); replace BK520 := Aside0.mk (kB BK520 hb); replace BK530 := Aside0.mk (kB BK530 hb); replace BK556 := Aside0.mk (kB BK556 hb); replace BK557 := Aside0.mk (kB BK557 hb); replace HB := Aside0.mk (below_step pB hb); (try clear hb); (try clear hb2); (try clear hk); (try clear hi)) | (go_at_call 10; (with_reducible refine (papermilllaw18_awake.calls k4  t565 _ A208.out).mono ?_); rintro e w220 ⟨rfl, hb⟩; replace HO_531001 := Aside0.mk (Kd.R_below (rX HO_531001.out) hb); replace HO_557001 := Aside0.mk (Kd.R_below (rX HO_557001.out) hb); replace HO_558001 := Aside0.mk (Kd.R_below (rX HO_558001.out) hb); replace BK519 := Aside0.mk (kB BK519 hb); replace BK520 := Aside0.mk (kB BK520 hb); replace BK530 := Aside0.mk (kB BK530 hb); replace BK556 := Aside0.mk (kB BK556 hb); replace BK557 := Aside0.mk (kB BK557 hb); replace HB := Aside0.mk (below_step pB hb); (try clear hb); (try clear hb2); (try clear hk); (try clear hi))))
               go_ret
               exact ⟨by first | rfl | (simp [errW_none, errW_some] <;> rfl) | (simp [*, errW_none, errW_some] <;> rfl), pB⟩
              ·rw [if_neg c207] at H
               exact absurd H (by simp)
             ·rw [if_neg c205] at H
              exact absurd H (by simp)
      ·rw [if_neg c95] at H
       have c95b0 : (t555 == 0) = false := beq_eq_false_iff_ne.mpr c95
       have c95b1 : (t555 != 0) = true := bne_iff_ne.mpr c95
       by_cases c221 : (t548.length : Int) = 0
       ·rw [if_pos c221] at H
        have c221b0 : ((t548.length : Int) == 0) = true := beq_iff_eq.mpr c221
        have c221b1 : ((t548.length : Int) != 0) = false := bne_eq_false_iff_eq.mpr c221
        clear c221
        by_cases c222 : (t552.length : Int) = 0
        ·rw [if_pos c222] at H
         have c222b0 : ((t552.length : Int) == 0) = true := beq_iff_eq.mpr c222
         have c222b1 : ((t552.length : Int) != 0) = false := bne_eq_false_iff_eq.mpr c222
         clear c222
         replace H := Option.bind_eq_some_iff.mp H
         obtain ⟨t558, A2230, H⟩ := H
         try dsimp only at H
         have A223 := Aside0.mk A2230
         clear A2230
         obtain rfl := Option.some.inj H
         have hnb224 := NB519_520.out
         have hnc224 := NB520_519.out
         have hnb225 := NB519_530.out
         have hnc225 := NB530_519.out
         obtain ⟨hcz226_0, hcz226_1, hfz226_0, hfz226_1⟩ := bk2 BK519
         have hnb227 := NB520_530.out
         have hnc227 := NB530_520.out
         obtain ⟨hcz228_0, hcz228_1, hfz228_0, hfz228_1⟩ := bk2 BK520
         have fl_ : True := trivial
         repeat ((first | clear fl_ | go_quiet (first | (go_at_call 25; (with_reducible refine (chest_Pour.calls kj16 a0_0 (fun k_ => k_ < w.heap.size) _ _ l0_1 a1_0 (fun k_ => k_ < w.heap.size) _ _ l1_1 a2 t547 t548 t551 t552 t555 _ ?side1 ?side2 A94.out).mono ?_); (case side1 => exact Kd.V_mk HC0_1.out (Kd.F_below (Kd.C_F (Kd.heap_int .i64) HR0_1.out) pB)); (case side2 => exact Kd.V_mk HC1_1.out (Kd.F_below (Kd.C_F (Kd.heap_int .i64) HR1_1.out) pB)); rintro e w229 ⟨v549, v553, rfl, ho0, ho1, hb⟩; have HO550 := Aside0.mk (Kd.R_lower (Kd.R_new' (Kd.R_mono (ok' := fun k_ => some k_ ≠ (v553 : Value).ownBlock) ho0 (fun _ hk_ => hk_.2)) (Kd.R_lt (rX HO_531001.out))) (below_size pB)); have HO554 := Aside0.mk (Kd.R_lower (Kd.R_new' (Kd.R_mono (ok' := fun k_ => some k_ ≠ (v549 : Value).ownBlock) ho1 (fun _ hk_ => hk_.2)) (Kd.R_lt (rX HO_531001.out))) (below_size pB)); replace HO_531001 := Aside0.mk (Kd.R_mono (Kd.R_told (Kd.R_told (Kd.R_old (rX HO_531001.out) hb) (Kd.R_base ho0)) (Kd.R_base ho1)) (fun _ h_ => h_.1)); replace BK519 := Aside0.mk (kB BK519 hb); replace BK520 := Aside0.mk (kB BK520 hb); replace BK530 := Aside0.mk (kB BK530 hb); replace HB := Aside0.mk (below_step pB hb); (try clear hb); (try clear hb2); (try clear hk); (try clear hi); (try clear ho0); (try clear ho1)) | ((with_reducible refine gate_dst (N := 16) rfl ?_); (try (refine gate_guard (by rfl) ?_; dsimp only)); refine box_event ?hg (N := 16) ?hd (cs := #[.int .i64 0, .slice none 0 0]) (t := 24) ?hr ?_; (case hd => rfl); (case hg => rfl); (case hr => first | (go_simp; done) | (go_simp; rfl)); intro gb556 hg w230 hbox hb; have BK556 := Aside0.mk (hbox); have GW556 := Aside0.mk (gW hg : w.heap.size ≤ gb556); have GE556 := Aside0.mk (gW hg : w.heap.size ≤ gb556); have NB519_556 := Aside0.mk (nL hg BK519 : gb519 ≠ gb556); have NB556_519 := Aside0.mk (nG hg BK519 : gb556 ≠ gb519); have NB520_556 := Aside0.mk (nL hg BK520 : gb520 ≠ gb556); have NB556_520 := Aside0.mk (nG hg BK520 : gb556 ≠ gb520); have NB530_556 := Aside0.mk (nL hg BK530 : gb530 ≠ gb556); have NB556_530 := Aside0.mk (nG hg BK530 : gb556 ≠ gb530); replace HO_531001 := Aside0.mk (Kd.R_below (rX HO_531001.out) hb); replace HO550 := Aside0.mk (Kd.R_below (rX HO550.out) hb); replace HO554 := Aside0.mk (Kd.R_below (rX HO554.out) hb); replace BK519 := Aside0.mk (kB BK519 hb); replace BK520 := Aside0.mk (kB BK520 hb); replace BK530 := Aside0.mk (kB BK530 hb); replace HB := Aside0.mk (below_step pB hb); clear hb hbox hg) | ((with_reducible refine gate_dst (N := 17) rfl ?_); (try (refine gate_guard (by rfl) ?_; dsimp only)); refine box_event ?hg (N := 17) ?hd (cs := #[.int .i64 0, .slice none 0 0]) (t := 24) ?hr ?_; (case hd => rfl); (case hg => rfl); (case hr => first | (go_simp; done) | (go_simp; rfl)); intro gb557 hg w231 hbox hb; have BK557 := Aside0.mk (hbox); have GW557 := Aside0.mk (gW hg : w.heap.size ≤ gb557); have GE557 := Aside0.mk (gW hg : w.heap.size ≤ gb557); have NB519_557 := Aside0.mk (nL hg BK519 : gb519 ≠ gb557); have NB557_519 := Aside0.mk (nG hg BK519 : gb557 ≠ gb519); have NB520_557 := Aside0.mk (nL hg BK520 : gb520 ≠ gb557); have NB557_520 := Aside0.mk (nG hg BK520 : gb557 ≠ gb520); have NB530_557 := Aside0.mk (nL hg BK530 : gb530 ≠ gb557); have NB557_530 := Aside0.mk (nG hg BK530 : gb557 ≠ gb530); have NB556_557 := Aside0.mk (nL hg BK556 : gb556 ≠ gb557); have NB557_556 := Aside0.mk (nG hg BK556 : gb557 ≠ gb556); replace HO_531001 := Aside0.mk (Kd.R_below (rX HO_531001.out) hb); replace HO550 := Aside0.mk (Kd.R_below (rX HO550.out) hb); replace HO554 := Aside0.mk (Kd.R_below (rX HO554.out) hb); replace BK519 := Aside0.mk (kB BK519 hb); replace BK520 := Aside0.mk (kB BK520 hb); replace BK530 := Aside0.mk (kB BK530 hb); replace BK556 := Aside0.mk (kB BK556 hb); replace HB := Aside0.mk (below_step pB hb); clear hb hbox hg; have hnb232 := NB556_519.out; have hnc232 := NB519_556.out; have hnb233 := NB556_520.out; have hnc233 := NB520_556.out; have hnb234 := NB556_530.out; have hnc234 := NB530_556.out; have hnb235 := NB556_557.out; have hnc235 := NB557_556.out; obtain ⟨hcz236_0, hcz236_1, hfz236_0, hfz236_1⟩ := bk2 BK556; obtain ⟨Ao237, co237, eo237⟩ := Kd.R_slice HO550.out; subst eo237; have hnb238 := NB557_519.out; have hnc238 := NB519_557.out; have hnb239 := NB557_520.out; have hnc239 := NB520_557.out; have hnb240 := NB557_530.out; have hnc240 := NB530_557.out; obtain ⟨hcz241_0, hcz241_1, hfz241_0, hfz241_1⟩ := bk2 BK557; obtain ⟨Ao242, co242, eo242⟩ := Kd.R_slice HO554.out; subst eo242) | (go_at_call 10; (with_reducible refine (papermilllaw18_awake.calls kj16  t558 _ A223.out).mono ?_); rintro e w243 ⟨rfl, hb⟩; replace HO_531001 := Aside0.mk (Kd.R_below (rX (Kd.R_mono (Kd.R_mono (Kd.R_far (p := ⟨gb557, 1, none⟩) (Kd.R_far (p := ⟨gb557, 0, none⟩) (Kd.R_far (p := ⟨gb556, 1, none⟩) (Kd.R_far (p := ⟨gb556, 0, none⟩) (Kd.R_types (Kd.R_types HO_531001.out BK556.out (by decide)) BK557.out (by decide)) (fun _ hk => hk.1.2) (.int .i64 t547)) (fun _ hk => hk.1.2) (.slice Ao237 t548.length co237)) (fun _ hk => hk.2) (.int .i64 t551)) (fun _ hk => hk.2) (.slice Ao242 t552.length co242)) (fun _ h_ => h_.1)) (fun _ h_ => h_.1))) hb); replace HO550 := Aside0.mk (Kd.R_below (rX (Kd.R_mono (Kd.R_mono (Kd.R_far (p := ⟨gb557, 1, none⟩) (Kd.R_far (p := ⟨gb557, 0, none⟩) (Kd.R_far (p := ⟨gb556, 1, none⟩) (Kd.R_far (p := ⟨gb556, 0, none⟩) (Kd.R_types (Kd.R_types HO550.out BK556.out (by decide)) BK557.out (by decide)) (fun _ hk => hk.1.2) (.int .i64 t547)) (fun _ hk => hk.1.2) (.slice Ao237 t548.length co237)) (fun _ hk => hk.2) (.int .i64 t551)) (fun _ hk => hk.2) (.slice Ao242 t552.length co242)) (fun _ h_ => h_.1)) (fun _ h_ => h_.1))) hb); replace HO554 := Aside0.mk (Kd.R_below (rX (Kd.R_mono (Kd.R_mono (Kd.R_far (p := ⟨gb557, 1, none⟩) (Kd.R_far (p := ⟨gb557, 0, none⟩) (Kd.R_far (p := ⟨gb556, 1, none⟩) (Kd.R_far (p := ⟨gb556, 0, none⟩) (Kd.R_types (Kd.R_types HO554.out BK556.out (by decide)) BK557.out (by decide)) (fun _ hk => hk.1.2) (.int .i64 t547)) (fun _ hk => hk.1.2) (.slice Ao237 t548.length co237)) (fun _ hk => hk.2) (.int .i64 t551)) (fun _ hk => hk.2) (.slice Ao242 t552.length co242)) (fun _ h_ => h_.1)) (fun _ h_ => h_.1))) hb); replace BK519 := Aside0.mk (blk_below (g := gb519) (o := .cells #[.int .i64 a0_0, .slice A0_1 l0_1.length c0_1] 24 (0, 0)) (by (with_reducible repeat (first | refine blk_drewN ?_ _ | refine blk_drew ?_ | refine blk_alloc ?_ _)); refine blk_far ?_ NB519_557.out _; (with_reducible repeat (first | refine blk_drewN ?_ _ | refine blk_drew ?_ | refine blk_alloc ?_ _)); refine blk_far ?_ NB519_557.out _; (with_reducible repeat (first | refine blk_drewN ?_ _ | refine blk_drew ?_ | refine blk_alloc ?_ _)); refine blk_far ?_ NB519_556.out _; (with_reducible repeat (first | refine blk_drewN ?_ _ | refine blk_drew ?_ | refine blk_alloc ?_ _)); refine blk_far ?_ NB519_556.out _; (with_reducible repeat (first | refine blk_drewN ?_ _ | refine blk_drew ?_ | refine blk_alloc ?_ _)); exact BK519.out) hb); replace BK520 := Aside0.mk (blk_below (g := gb520) (o := .cells #[.int .i64 a1_0, .slice A1_1 l1_1.length c1_1] 24 (0, 0)) (by (with_reducible repeat (first | refine blk_drewN ?_ _ | refine blk_drew ?_ | refine blk_alloc ?_ _)); refine blk_far ?_ NB520_557.out _; (with_reducible repeat (first | refine blk_drewN ?_ _ | refine blk_drew ?_ | refine blk_alloc ?_ _)); refine blk_far ?_ NB520_557.out _; (with_reducible repeat (first | refine blk_drewN ?_ _ | refine blk_drew ?_ | refine blk_alloc ?_ _)); refine blk_far ?_ NB520_556.out _; (with_reducible repeat (first | refine blk_drewN ?_ _ | refine blk_drew ?_ | refine blk_alloc ?_ _)); refine blk_far ?_ NB520_556.out _; (with_reducible repeat (first | refine blk_drewN ?_ _ | refine blk_drew ?_ | refine blk_alloc ?_ _)); exact BK520.out) hb); replace BK530 := Aside0.mk (blk_below (g := gb530) (o := .cells #[.int .i64 t522, .slice Ao25 t523.length co25] 24 (0, 0)) (by (with_reducible repeat (first | refine blk_drewN ?_ _ | refine blk_drew ?_ | refine blk_alloc ?_ _)); refine blk_far ?_ NB530_557.out _; (with_reducible repeat (first | refine blk_drewN ?_ _ | refine blk_drew ?_ | refine blk_alloc ?_ _)); refine blk_far ?_ NB530_557.out _; (with_reducible repeat (first | refine blk_drewN ?_ _ | refine blk_drew ?_ | refine blk_alloc ?_ _)); refine blk_far ?_ NB530_556.out _; (with_reducible repeat (first | refine blk_drewN ?_ _ | refine blk_drew ?_ | refine blk_alloc ?_ _)); refine blk_far ?_ NB530_556.out _; (with_reducible repeat (first | refine blk_drewN ?_ _ | refine blk_drew ?_ | refine blk_alloc ?_ _)); exact BK530.out) hb); replace BK556 := Aside0.mk (blk_below (g := gb556) (o := .cells #[.int .i64 t547, .slice Ao237 t548.length co237] 24 (0, 0)) (by (with_reducible repeat (first | refine blk_drewN ?_ _ | refine blk_drew ?_ | refine blk_alloc ?_ _)); refine blk_far ?_ NB556_557.out _; (with_reducible repeat (first | refine blk_drewN ?_ _ | refine blk_drew ?_ | refine blk_alloc ?_ _)); refine blk_far ?_ NB556_557.out _; (with_reducible repeat (first | refine blk_drewN ?_ _ | refine blk_drew ?_ | refine blk_alloc ?_ _)); refine blk_put (cs := #[.int .i64 t547, .slice none 0 0]) ?_ 1 _ rfl; (with_reducible repeat (first | refine blk_drewN ?_ _ | refine blk_drew ?_ | refine blk_alloc ?_ _)); refine blk_put (cs := #[.int .i64 0, .slice none 0 0]) ?_ 0 _ rfl; (with_reducible repeat (first | refine blk_drewN ?_ _ | refine blk_drew ?_ | refine blk_alloc ?_ _)); exact BK556.out) hb); replace BK557 := Aside0.mk (blk_below (g := gb557) (o := .cells #[.int .i64 t551, .slice Ao242 t552.length co242] 24 (0, 0)) (by (with_reducible repeat (first | refine blk_drewN ?_ _ | refine blk_drew ?_ | refine blk_alloc ?_ _)); refine blk_put (cs := #[.int .i64 t551, .slice none 0 0]) ?_ 1 _ rfl; (with_reducible repeat (first | refine blk_drewN ?_ _ | refine blk_drew ?_ | refine blk_alloc ?_ _)); refine blk_put (cs := #[.int .i64 0, .slice none 0 0]) ?_ 0 _ rfl; (with_reducible repeat (first | refine blk_drewN ?_ _ | refine blk_drew ?_ | refine blk_alloc ?_ _)); refine blk_far ?_ NB557_556.out _; (with_reducible repeat (first | refine blk_drewN ?_ _ | refine blk_drew ?_ | refine blk_alloc ?_ _)); refine blk_far ?_ NB557_556.out _; (with_reducible repeat (first | refine blk_drewN ?_ _ | refine blk_drew ?_ | refine blk_alloc ?_ _)); exact BK557.out) hb); replace HB := Aside0.mk (below_step pB hb); (try clear hb); (try clear hb2); (try clear hk); (try clear hi)))); go_wp2_with (first | (go_at_call 25; (with_reducible refine (chest_Pour.calls kj16 a0_0 (fun k_ => k_ < w.heap.size) _ _ l0_1 a1_0 (fun k_ => k_ < w.heap.size) _ _ l1_1 a2 t547 t548 t551 t552 t555 _ ?side1 ?side2 A94.out).mono ?_); (case side1 => exact Kd.V_mk HC0_1.out (Kd.F_below (Kd.C_F (Kd.heap_int .i64) HR0_1.out) pB)); (case side2 => exact Kd.V_mk HC1_1.out (Kd.F_below (Kd.C_F (Kd.heap_int .i64) HR1_1.out) pB)); rintro e w229 ⟨v549, v553, rfl, ho0, ho1, hb⟩; have HO550 := Aside0.mk (Kd.R_lower (Kd.R_new' (Kd.R_mono (ok' := fun k_ => some k_ ≠ (v553 : Value).ownBlock) ho0 (fun _ hk_ => hk_.2)) (Kd.R_lt (rX HO_531001.out))) (below_size pB)); have HO554 := Aside0.mk (Kd.R_lower (Kd.R_new' (Kd.R_mono (ok' := fun k_ => some k_ ≠ (v549 : Value).ownBlock) ho1 (fun _ hk_ => hk_.2)) (Kd.R_lt (rX HO_531001.out))) (below_size pB)); replace HO_531001 := Aside0.mk (Kd.R_mono (Kd.R_told (Kd.R_told (Kd.R_old (rX HO_531001.out) hb) (Kd.R_base ho0)) (Kd.R_base ho1)) (fun _ h_ => h_.1)); replace BK519 := Aside0.mk (kB BK519 hb); replace BK520 := Aside0.mk (kB BK520 hb); replace BK530 := Aside0.mk (kB BK530 hb); replace HB := Aside0.mk (below_step pB hb); (try clear hb); (try clear hb2); (try clear hk); (try clear hi); (try clear ho0); (try clear ho1)) | ((with_reducible refine gate_dst (N := 16) rfl ?_); (try (refine gate_guard (by rfl) ?_; dsimp only)); refine box_event ?hg (N := 16) ?hd (cs := #[.int .i64 0, .slice none 0 0]) (t := 24) ?hr ?_; (case hd => rfl); (case hg => rfl); (case hr => first | (go_simp; done) | (go_simp; rfl)); intro gb556 hg w230 hbox hb; have BK556 := Aside0.mk (hbox); have GW556 := Aside0.mk (gW hg : w.heap.size ≤ gb556); have GE556 := Aside0.mk (gW hg : w.heap.size ≤ gb556); have NB519_556 := Aside0.mk (nL hg BK519 : gb519 ≠ gb556); have NB556_519 := Aside0.mk (nG hg BK519 : gb556 ≠ gb519); have NB520_556 := Aside0.mk (nL hg BK520 : gb520 ≠ gb556); have NB556_520 := Aside0.mk (nG hg BK520 : gb556 ≠ gb520); have NB530_556 := Aside0.mk (nL hg BK530 : gb530 ≠ gb556); have NB556_530 := Aside0.mk (nG hg BK530 : gb556 ≠ gb530); replace HO_531001 := Aside0.mk (Kd.R_below (rX HO_531001.out) hb); replace HO550 := Aside0.mk (Kd.R_below (rX HO550.out) hb); replace HO554 := Aside0.mk (Kd.R_below (rX HO554.out) hb); replace BK519 := Aside0.mk (kB BK519 hb); replace BK520 := Aside0.mk (kB BK520 hb); replace BK530 := Aside0.mk (kB BK530 hb); replace HB := Aside0.mk (below_step pB hb); clear hb hbox hg) | ((with_reducible refine gate_dst (N := 17) rfl ?_); (try (refine gate_guard (by rfl) ?_; dsimp only)); refine box_event ?hg (N := 17) ?hd (cs := #[.int .i64 0, .slice none 0 0]) (t := 24) ?hr ?_; (case hd => rfl); (case hg => rfl); (case hr => first | (go_simp; done) | (go_simp; rfl)); intro gb557 hg w231 hbox hb; have BK557 := Aside0.mk (hbox); have GW557 := Aside0.mk (gW hg : w.heap.size ≤ gb557); have GE557 := Aside0.mk (gW hg : w.heap.size ≤ gb557); have NB519_557 := Aside0.mk (nL hg BK519 : gb519 ≠ gb557); have NB557_519 := Aside0.mk (nG hg BK519 : gb557 ≠ gb519); have NB520_557 := Aside0.mk (nL hg BK520 : gb520 ≠ gb557); have NB557_520 := Aside0.mk (nG hg BK520 : gb557 ≠ gb520); have NB530_557 := Aside0.mk (nL hg BK530 : gb530 ≠ gb557); have NB557_530 := Aside0.mk (nG hg BK530 : gb557 ≠ gb530); have NB556_557 := Aside0.mk (nL hg BK556 : gb556 ≠ gb557); have NB557_556 := Aside0.mk (nG hg BK556 : gb557 ≠ gb556); replace HO_531001 := Aside0.mk (Kd.R_below (rX HO_531001.out) hb); replace HO550 := Aside0.mk (Kd.R_below (rX HO550.out) hb); replace HO554 := Aside0.mk (Kd.R_below (rX HO554.out) hb); replace BK519 := Aside0.mk (kB BK519 hb); replace BK520 := Aside0.mk (kB BK520 hb); replace BK530 := Aside0.mk (kB BK530 hb); replace BK556 := Aside0.mk (kB BK556 hb); replace HB := Aside0.mk (below_step pB hb); clear hb hbox hg; have hnb232 := NB556_519.out; have hnc232 := NB519_556.out; have hnb233 := NB556_520.out; have hnc233 := NB520_556.out; have hnb234 := NB556_530.out; have hnc234 := NB530_556.out; have hnb235 := NB556_557.out; have hnc235 := NB557_556.out; obtain ⟨hcz236_0, hcz236_1, hfz236_0, hfz236_1⟩ := bk2 BK556; obtain ⟨Ao237, co237, eo237⟩ := Kd.R_slice HO550.out; subst eo237; have hnb238 := NB557_519.out; have hnc238 := NB519_557.out; have hnb239 := NB557_520.out; have hnc239 := NB520_557.out; have hnb240 := NB557_530.out; have hnc240 := NB530_557.out; obtain ⟨hcz241_0, hcz241_1, hfz241_0, hfz241_1⟩ := bk2 BK557; obtain ⟨Ao242, co242, eo242⟩ := Kd.R_slice HO554.out; subst eo242) | (go_at_call 10; (with_reducible refine (papermilllaw18_awake.calls kj16  t558 _ A223.out).mono ?_); rintro e w243 ⟨rfl, hb⟩; replace HO_531001 := Aside0.mk (Kd.R_below (rX (Kd.R_mono (Kd.R_mono (Kd.R_far (p := ⟨gb557, 1, none⟩) (Kd.R_far (p := ⟨gb557, 0, none⟩) (Kd.R_far (p := ⟨gb556, 1, none⟩) (Kd.R_far (p := ⟨gb556, 0, none⟩) (Kd.R_types (Kd.R_types HO_531001.out BK556.out (by decide)) BK557.out (by decide)) (fun _ hk => hk.1.2) (.int .i64 t547)) (fun _ hk => hk.1.2) (.slice Ao237 t548.length co237)) (fun _ hk => hk.2) (.int .i64 t551)) (fun _ hk => hk.2) (.slice Ao242 t552.length co242)) (fun _ h_ => h_.1)) (fun _ h_ => h_.1))) hb); replace HO550 := Aside0.mk (Kd.R_below (rX (Kd.R_mono (Kd.R_mono (Kd.R_far (p := ⟨gb557, 1, none⟩) (Kd.R_far (p := ⟨gb557, 0, none⟩) (Kd.R_far (p := ⟨gb556, 1, none⟩) (Kd.R_far (p := ⟨gb556, 0, none⟩) (Kd.R_types (Kd.R_types HO550.out BK556.out (by decide)) BK557.out (by decide)) (fun _ hk => hk.1.2) (.int .i64 t547)) (fun _ hk => hk.1.2) (.slice Ao237 t548.length co237)) (fun _ hk => hk.2) (.int .i64 t551)) (fun _ hk => hk.2) (.slice Ao242 t552.length co242)) (fun _ h_ => h_.1)) (fun _ h_ => h_.1))) hb); replace HO554 := Aside0.mk (Kd.R_below (rX (Kd.R_mono (Kd.R_mono (Kd.R_far (p := ⟨gb557, 1, none⟩) (Kd.R_far (p := ⟨gb557, 0, none⟩) (Kd.R_far (p := ⟨gb556, 1, none⟩) (Kd.R_far (p := ⟨gb556, 0, none⟩) (Kd.R_types (Kd.R_types HO554.out BK556.out (by decide)) BK557.out (by decide)) (fun _ hk => hk.1.2) (.int .i64 t547)) (fun _ hk => hk.1.2) (.slice Ao237 t548.length co237)) (fun _ hk => hk.2) (.int .i64 t551)) (fun _ hk => hk.2) (.slice Ao242 t552.length co242)) (fun _ h_ => h_.1)) (fun _ h_ => h_.1))) hb); replace BK519 := Aside0.mk (blk_below (g := gb519) (o := .cells #[.int .i64 a0_0, .slice A0_1 l0_1.length c0_1] 24 (0, 0)) (by (with_reducible repeat (first | refine blk_drewN ?_ _ | refine blk_drew ?_ | refine blk_alloc ?_ _)); refine blk_far ?_ NB519_557.out _; (with_reducible repeat (first | refine blk_drewN ?_ _ | refine blk_drew ?_ | refine blk_alloc ?_ _)); refine blk_far ?_ NB519_557.out _; (with_reducible repeat (first | refine blk_drewN ?_ _ | refine blk_drew ?_ | refine blk_alloc ?_ _)); refine blk_far ?_ NB519_556.out _; (with_reducible repeat (first | refine blk_drewN ?_ _ | refine blk_drew ?_ | refine blk_alloc ?_ _)); refine blk_far ?_ NB519_556.out _; (with_reducible repeat (first | refine blk_drewN ?_ _ | refine blk_drew ?_ | refine blk_alloc ?_ _)); exact BK519.out) hb); replace BK520 := Aside0.mk (blk_below (g := gb520) (o := .cells #[.int .i64 a1_0, .slice A1_1 l1_1.length c1_1] 24 (0, 0)) (by (with_reducible repeat (first | refine blk_drewN ?_ _ | refine blk_drew ?_ | refine blk_alloc ?_ _)); refine blk_far ?_ NB520_557.out _; (with_reducible repeat (first | refine blk_drewN ?_ _ | refine blk_drew ?_ | refine blk_alloc ?_ _)); refine blk_far ?_ NB520_557.out _; (with_reducible repeat (first | refine blk_drewN ?_ _ | refine blk_drew ?_ | refine blk_alloc ?_ _)); refine blk_far ?_ NB520_556.out _; (with_reducible repeat (first | refine blk_drewN ?_ _ | refine blk_drew ?_ | refine blk_alloc ?_ _)); refine blk_far ?_ NB520_556.out _; (with_reducible repeat (first | refine blk_drewN ?_ _ | refine blk_drew ?_ | refine blk_alloc ?_ _)); exact BK520.out) hb); replace BK530 := Aside0.mk (blk_below (g := gb530) (o := .cells #[.int .i64 t522, .slice Ao25 t523.length co25] 24 (0, 0)) (by (with_reducible repeat (first | refine blk_drewN ?_ _ | refine blk_drew ?_ | refine blk_alloc ?_ _)); refine blk_far ?_ NB530_557.out _; (with_reducible repeat (first | refine blk_drewN ?_ _ | refine blk_drew ?_ | refine blk_alloc ?_ _)); refine blk_far ?_ NB530_557.out _; (with_reducible repeat (first | refine blk_drewN ?_ _ | refine blk_drew ?_ | refine blk_alloc ?_ _)); refine blk_far ?_ NB530_556.out _; (with_reducible repeat (first | refine blk_drewN ?_ _ | refine blk_drew ?_ | refine blk_alloc ?_ _)); refine blk_far ?_ NB530_556.out _; (with_reducible repeat (first | refine blk_drewN ?_ _ | refine blk_drew ?_ | refine blk_alloc ?_ _)); exact BK530.out) hb); replace BK556 := Aside0.mk (blk_below (g := gb556) (o := .cells #[.int .i64 t547, .slice Ao237 t548.length co237] 24 (0, 0)) (by (with_reducible repeat (first | refine blk_drewN ?_ _ | refine blk_drew ?_ | refine blk_alloc ?_ _)); refine blk_far ?_ NB556_557.out _; (with_reducible repeat (first | refine blk_drewN ?_ _ | refine blk_drew ?_ | refine blk_alloc ?_ _)); refine blk_far ?_ NB556_557.out _; (with_reducible repeat (first | refine blk_drewN ?_ _ | refine blk_drew ?_ | refine blk_alloc ?_ _)); refine blk_put (cs := #[.int .i64 t547, .slice none 0 0]) ?_ 1 _ rfl; (with_reducible repeat (first | refine blk_drewN ?_ _ | refine blk_drew ?_ | refine blk_alloc ?_ _)); refine blk_put (cs := #[.int .i64 0, .slice none 0 0]) ?_ 0 _ rfl; (with_reducible repeat (first | refine blk_drewN ?_ _ | refine blk_drew ?_ | refine blk_alloc ?_ _)); exact BK556.out) hb); replace BK557 := Aside0.mk (blk_below (g := gb557) (o := .cells #[.int .i64 t551, .slice Ao242 t552.length co242] 24 (0, 0)) (by (with_reducible repeat (first | refine blk_drewN ?_ _ | refine blk_drew ?_ | refine blk_alloc ?_ _)); refine blk_put (cs := #[.int .i64 t551, .slice none 0 0]) ?_ 1 _ rfl; (with_reducible repeat (first | refine blk_drewN ?_ _ | refine blk_drew ?_ | refine blk_alloc ?_ _)); refine blk_put (cs := #[.int .i64 0, .slice none 0 0]) ?_ 0 _ rfl; (with_reducible repeat (first | refine blk_drewN ?_ _ | refine blk_drew ?_ | refine blk_alloc ?_ _)); refine blk_far ?_ NB557_556.out _; (with_reducible repeat (first | refine blk_drewN ?_ _ | refine blk_drew ?_ | refine blk_alloc ?_ _)); refine blk_far ?_ NB557_556.out _; (with_reducible repeat (first | refine blk_drewN ?_ _ | refine blk_drew ?_ | refine blk_alloc ?_ _)); exact BK557.out) hb); replace HB := Aside0.mk (below_step pB hb); (try clear hb); (try clear hb2); (try clear hk); (try clear hi))))
         go_ret
         exact ⟨by first | rfl | (simp [errW_none, errW_some] <;> rfl) | (simp [*, errW_none, errW_some] <;> rfl), pB⟩
        ·rw [if_neg c222] at H
         exact absurd H (by simp)
       ·rw [if_neg c221] at H
        exact absurd H (by simp)

/-- THE ONE PURE STATEMENT of papermilllaw18_ChestKeeps: yours. -/
def papermilllaw18_ChestKeeps.Pure : Prop := ∀ (a0_0 : Int) (l0_1 : List Int) (a1_0 : Int) (l1_1 : List Int) (a2 : Int), (Lit.int .i64 a0_0).wf = true → l0_1.length ≤ maxLen → l0_1.length * 8 ≤ 140737488351232 → (∀ x_ ∈ l0_1, (Lit.int .i64 x_).wf = true) → (Lit.int .i64 a1_0).wf = true → l1_1.length ≤ maxLen → l1_1.length * 8 ≤ 140737488351232 → (∀ x_ ∈ l1_1, (Lit.int .i64 x_).wf = true) → (Lit.int .i64 a2).wf = true → ∃ k, papermilllaw18_ChestKeeps.f k a0_0 l0_1 a1_0 l1_1 a2 = some true

end Go.Proofs.Ytpjcpgobdiahpaa.Print
