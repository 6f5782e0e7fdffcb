-- Written by wip/tools/myprint.py out of the translation. Not trusted: Lean checks it.
import Derived.Test.YtpnfdhhfdidlmaaPrint0
import Derived.Test.YtpnfdhhfdidlmaaPrint1
import Derived.Test.YtpnfdhhfdidlmaaPrint3
import Derived.Test.YtpnfdhhfdidlmaaPrint15
import Derived.Test.YtpnfdhhfdidlmaaPrint17
namespace Go.Proofs.Ytpnfdhhfdidlmaa.Print
open Go.RowKit Go.Proofs.YtpnfdhhfdidlmaaW.PrintWords Go.Proofs.YtpnfdhhfdidlmaaW.PrintLast Go.Proofs.YtpnfdhhfdidlmaaW.PrintMore
attribute [local go_sem] max2_int min2_int max_two min_two max_three min_three max_four min_four   -- for this text's walks alone
set_option linter.unusedVariables false
set_option linter.unusedSimpArgs false

/-! ### papermilllaw19_PipeKinds: function 6 -/
mutual
def papermilllaw19_PipeKinds.j0 : Nat → List Int → List Int → Bool → Int → List (List Int) → Option (Bool)
 | 0, _, _, _, _, _ => none
 | k + 1, x1, x2, x42, x503000, x503001 => if x42 = true then ((papermilllaw19_awake.f k).bind fun t504 => (some t504)) else ((some (([] : List Int) : List Int)).bind fun y505 => (if 1 ≤ (x1.length : Int) then (if y505.length + (x1.drop 1).length < 17592186044416 then ((some (y505 ++ (x1.drop 1) : List Int)).bind fun y509 => (if 0 < (x1.length : Int) then ((some (([rd x1 0] : List Int) : List Int)).bind fun y513 => (if y509.length + y513.length < 17592186044416 then ((pipe_Push.f k x503000 x503001 x1).bind fun bt519 => ((pipe_Push.f k x503000 x503001 (y509 ++ y513)).bind fun bt528 => (if bt519.2.2.2 = 0 then (papermilllaw19_PipeKinds.j1 k x1 x2 bt519.2.2.1 bt519.2.2.2 bt528.2.2.1 bt528.2.2.2 (bt528.2.2.2 != 0) x503000 x503001 bt519.1 bt519.2.1 bt528.1 bt528.2.1) else (papermilllaw19_PipeKinds.j1 k x1 x2 bt519.2.2.1 bt519.2.2.2 bt528.2.2.1 bt528.2.2.2 true x503000 x503001 bt519.1 bt519.2.1 bt528.1 bt528.2.1)))) else (none))) else (none))) else (none)) else (none)))
def papermilllaw19_PipeKinds.j1 : Nat → List Int → List Int → List Int → Int → List Int → Int → Bool → Int → List (List Int) → Int → List (List Int) → Int → List (List Int) → Option (Bool)
 | 0, _, _, _, _, _, _, _, _, _, _, _, _, _ => none
 | k + 1, x1, x2, x9, x10, x12, x13, x72, x503000, x503001, x528000, x528001, x537000, x537001 => if x72 = true then (if x10 = x13 then ((papermilllaw19_awake.f k).bind fun t537 => (some t537)) else (none)) else ((pipe_Push.f k x528000 x528001 x2).bind fun bt538 => ((pipe_Push.f k x537000 x537001 x2).bind fun bt547 => ((papermillref16_Same.f k x9 x12).bind fun t556 => (if t556 = true then (papermilllaw19_PipeKinds.j2 k x1 x2 bt538.2.2.1 bt538.2.2.2 bt547.2.2.1 (bt538.2.2.2 != bt547.2.2.2) x503000 x503001) else (papermilllaw19_PipeKinds.j2 k x1 x2 bt538.2.2.1 bt538.2.2.2 bt547.2.2.1 true x503000 x503001)))))
def papermilllaw19_PipeKinds.j2 : Nat → List Int → List Int → List Int → Int → List Int → Bool → Int → List (List Int) → Option (Bool)
 | 0, _, _, _, _, _, _, _, _ => none
 | k + 1, x1, x2, x15, x16, x18, x101, x503000, x503001 => if x101 = true then (none) else (if x16 = 0 then ((papermillref16_Sum.f k x1).bind fun t557 => ((papermillref16_Sum.f k x2).bind fun t558 => (papermilllaw19_PipeKinds.j3 k x15 x18 (decide ((wrap64 (t557 + t558)) > x503000))))) else (papermilllaw19_PipeKinds.j3 k x15 x18 true))
def papermilllaw19_PipeKinds.j3 : Nat → List Int → List Int → Bool → Option (Bool)
 | 0, _, _, _ => none
 | k + 1, x15, x18, x113 => if x113 = true then ((papermilllaw19_awake.f k).bind fun t559 => (some t559)) else ((papermillref16_Same.f k x15 x18).bind fun t560 => (if t560 = true then ((papermilllaw19_awake.f k).bind fun t561 => (some t561)) else (none)))
end
def papermilllaw19_PipeKinds.f (k : Nat) (a0_0 : Int) (l0_1 : List (List Int)) (l1 : List Int) (l2 : List Int) : Option (Bool) := (papermilllaw19_great.f k a0_0 l0_1).bind fun t503 => (if t503 = true then (papermilllaw19_PipeKinds.j0 k l1 l2 true a0_0 l0_1) else (if (l1.length : Int) > 20 then (papermilllaw19_PipeKinds.j0 k l1 l2 true a0_0 l0_1) else (if (l2.length : Int) > 20 then (papermilllaw19_PipeKinds.j0 k l1 l2 true a0_0 l0_1) else (if (l1.length : Int) = 0 then (papermilllaw19_PipeKinds.j0 k l1 l2 true a0_0 l0_1) else (papermilllaw19_PipeKinds.j0 k l1 l2 (decide ((l0_1.length : Int) > 254)) a0_0 l0_1)))))
theorem papermilllaw19_PipeKinds.mono_l : ∀ k, (∀ y0 y1 y2 y3 y4, LeO (papermilllaw19_PipeKinds.j0 k y0 y1 y2 y3 y4) (papermilllaw19_PipeKinds.j0 (k + 1) y0 y1 y2 y3 y4)) ∧ (∀ y0 y1 y2 y3 y4 y5 y6 y7 y8 y9 y10 y11 y12, LeO (papermilllaw19_PipeKinds.j1 k y0 y1 y2 y3 y4 y5 y6 y7 y8 y9 y10 y11 y12) (papermilllaw19_PipeKinds.j1 (k + 1) y0 y1 y2 y3 y4 y5 y6 y7 y8 y9 y10 y11 y12)) ∧ (∀ y0 y1 y2 y3 y4 y5 y6 y7, LeO (papermilllaw19_PipeKinds.j2 k y0 y1 y2 y3 y4 y5 y6 y7) (papermilllaw19_PipeKinds.j2 (k + 1) y0 y1 y2 y3 y4 y5 y6 y7)) ∧ (∀ y0 y1 y2, LeO (papermilllaw19_PipeKinds.j3 k y0 y1 y2) (papermilllaw19_PipeKinds.j3 (k + 1) y0 y1 y2))
 | 0 => ⟨fun _ _ _ _ _ r h => by simp [papermilllaw19_PipeKinds.j0] at h, fun _ _ _ _ _ _ _ _ _ _ _ _ _ r h => by simp [papermilllaw19_PipeKinds.j1] at h, fun _ _ _ _ _ _ _ _ r h => by simp [papermilllaw19_PipeKinds.j2] at h, fun _ _ _ r h => by simp [papermilllaw19_PipeKinds.j3] at h⟩
 | k + 1 => by
  obtain ⟨ih0, ih1, ih2, ih3⟩ := papermilllaw19_PipeKinds.mono_l k
  refine ⟨?_, ?_, ?_, ?_⟩
  ·intro y0 y1 y2 y3 y4
   unfold papermilllaw19_PipeKinds.j0
   repeat' first
   | (with_reducible exact ih0 _ _ _ _ _)
   | (with_reducible exact ih1 _ _ _ _ _ _ _ _ _ _ _ _ _)
   | (with_reducible exact ih2 _ _ _ _ _ _ _ _)
   | (with_reducible exact ih3 _ _ _)
   | (with_reducible exact papermilllaw19_awake.mono _)
   | (with_reducible exact papermilllaw19_great.mono _ _ _)
   | (with_reducible exact papermillref16_Same.mono _ _ _)
   | (with_reducible exact papermillref16_Sum.mono _ _)
   | (with_reducible exact pipe_Push.mono _ _ _ _)
   | (with_reducible exact LeO.refl _)
   | (with_reducible exact LeO.none _)
   | (with_reducible refine LeO.ite ?_ ?_)
   | (with_reducible refine LeO.bind ?_ (fun _ => ?_))
   | exact ih0 _ _ _ _ _
   | exact ih1 _ _ _ _ _ _ _ _ _ _ _ _ _
   | exact ih2 _ _ _ _ _ _ _ _
   | exact ih3 _ _ _
   | exact papermilllaw19_awake.mono _
   | exact papermilllaw19_great.mono _ _ _
   | exact papermillref16_Same.mono _ _ _
   | exact papermillref16_Sum.mono _ _
   | exact pipe_Push.mono _ _ _ _
   | exact LeO.none _
   | refine LeO.ite ?_ ?_
   | refine LeO.bind ?_ (fun _ => ?_)
  ·intro y0 y1 y2 y3 y4 y5 y6 y7 y8 y9 y10 y11 y12
   unfold papermilllaw19_PipeKinds.j1
   repeat' first
   | (with_reducible exact ih0 _ _ _ _ _)
   | (with_reducible exact ih1 _ _ _ _ _ _ _ _ _ _ _ _ _)
   | (with_reducible exact ih2 _ _ _ _ _ _ _ _)
   | (with_reducible exact ih3 _ _ _)
   | (with_reducible exact papermilllaw19_awake.mono _)
   | (with_reducible exact papermilllaw19_great.mono _ _ _)
   | (with_reducible exact papermillref16_Same.mono _ _ _)
   | (with_reducible exact papermillref16_Sum.mono _ _)
   | (with_reducible exact pipe_Push.mono _ _ _ _)
   | (with_reducible exact LeO.refl _)
   | (with_reducible exact LeO.none _)
   | (with_reducible refine LeO.ite ?_ ?_)
   | (with_reducible refine LeO.bind ?_ (fun _ => ?_))
   | exact ih0 _ _ _ _ _
   | exact ih1 _ _ _ _ _ _ _ _ _ _ _ _ _
   | exact ih2 _ _ _ _ _ _ _ _
   | exact ih3 _ _ _
   | exact papermilllaw19_awake.mono _
   | exact papermilllaw19_great.mono _ _ _
   | exact papermillref16_Same.mono _ _ _
   | exact papermillref16_Sum.mono _ _
   | exact pipe_Push.mono _ _ _ _
   | exact LeO.none _
   | refine LeO.ite ?_ ?_
   | refine LeO.bind ?_ (fun _ => ?_)
  ·intro y0 y1 y2 y3 y4 y5 y6 y7
   unfold papermilllaw19_PipeKinds.j2
   repeat' first
   | (with_reducible exact ih0 _ _ _ _ _)
   | (with_reducible exact ih1 _ _ _ _ _ _ _ _ _ _ _ _ _)
   | (with_reducible exact ih2 _ _ _ _ _ _ _ _)
   | (with_reducible exact ih3 _ _ _)
   | (with_reducible exact papermilllaw19_awake.mono _)
   | (with_reducible exact papermilllaw19_great.mono _ _ _)
   | (with_reducible exact papermillref16_Same.mono _ _ _)
   | (with_reducible exact papermillref16_Sum.mono _ _)
   | (with_reducible exact pipe_Push.mono _ _ _ _)
   | (with_reducible exact LeO.refl _)
   | (with_reducible exact LeO.none _)
   | (with_reducible refine LeO.ite ?_ ?_)
   | (with_reducible refine LeO.bind ?_ (fun _ => ?_))
   | exact ih0 _ _ _ _ _
   | exact ih1 _ _ _ _ _ _ _ _ _ _ _ _ _
   | exact ih2 _ _ _ _ _ _ _ _
   | exact ih3 _ _ _
   | exact papermilllaw19_awake.mono _
   | exact papermilllaw19_great.mono _ _ _
   | exact papermillref16_Same.mono _ _ _
   | exact papermillref16_Sum.mono _ _
   | exact pipe_Push.mono _ _ _ _
   | exact LeO.none _
   | refine LeO.ite ?_ ?_
   | refine LeO.bind ?_ (fun _ => ?_)
  ·intro y0 y1 y2
   unfold papermilllaw19_PipeKinds.j3
   repeat' first
   | (with_reducible exact ih0 _ _ _ _ _)
   | (with_reducible exact ih1 _ _ _ _ _ _ _ _ _ _ _ _ _)
   | (with_reducible exact ih2 _ _ _ _ _ _ _ _)
   | (with_reducible exact ih3 _ _ _)
   | (with_reducible exact papermilllaw19_awake.mono _)
   | (with_reducible exact papermilllaw19_great.mono _ _ _)
   | (with_reducible exact papermillref16_Same.mono _ _ _)
   | (with_reducible exact papermillref16_Sum.mono _ _)
   | (with_reducible exact pipe_Push.mono _ _ _ _)
   | (with_reducible exact LeO.refl _)
   | (with_reducible exact LeO.none _)
   | (with_reducible refine LeO.ite ?_ ?_)
   | (with_reducible refine LeO.bind ?_ (fun _ => ?_))
   | exact ih0 _ _ _ _ _
   | exact ih1 _ _ _ _ _ _ _ _ _ _ _ _ _
   | exact ih2 _ _ _ _ _ _ _ _
   | exact ih3 _ _ _
   | exact papermilllaw19_awake.mono _
   | exact papermilllaw19_great.mono _ _ _
   | exact papermillref16_Same.mono _ _ _
   | exact papermillref16_Sum.mono _ _
   | exact pipe_Push.mono _ _ _ _
   | exact LeO.none _
   | refine LeO.ite ?_ ?_
   | refine LeO.bind ?_ (fun _ => ?_)
theorem papermilllaw19_PipeKinds.mono : ∀ a0 a1 a2 a3 k, LeO (papermilllaw19_PipeKinds.f k a0 a1 a2 a3) (papermilllaw19_PipeKinds.f (k + 1) a0 a1 a2 a3) := by
 intro a0 a1 a2 a3 k
 obtain ⟨ih0, ih1, ih2, ih3⟩ := papermilllaw19_PipeKinds.mono_l k
 unfold papermilllaw19_PipeKinds.f
 repeat' first
   | (with_reducible exact ih0 _ _ _ _ _)
   | (with_reducible exact ih1 _ _ _ _ _ _ _ _ _ _ _ _ _)
   | (with_reducible exact ih2 _ _ _ _ _ _ _ _)
   | (with_reducible exact ih3 _ _ _)
   | (with_reducible exact papermilllaw19_awake.mono _)
   | (with_reducible exact papermilllaw19_great.mono _ _ _)
   | (with_reducible exact papermillref16_Same.mono _ _ _)
   | (with_reducible exact papermillref16_Sum.mono _ _)
   | (with_reducible exact pipe_Push.mono _ _ _ _)
   | (with_reducible exact LeO.refl _)
   | (with_reducible exact LeO.none _)
   | (with_reducible refine LeO.ite ?_ ?_)
   | (with_reducible refine LeO.bind ?_ (fun _ => ?_))
   | exact ih0 _ _ _ _ _
   | exact ih1 _ _ _ _ _ _ _ _ _ _ _ _ _
   | exact ih2 _ _ _ _ _ _ _ _
   | exact ih3 _ _ _
   | exact papermilllaw19_awake.mono _
   | exact papermilllaw19_great.mono _ _ _
   | exact papermillref16_Same.mono _ _ _
   | exact papermillref16_Sum.mono _ _
   | exact pipe_Push.mono _ _ _ _
   | exact LeO.none _
   | refine LeO.ite ?_ ?_
   | refine LeO.bind ?_ (fun _ => ?_)
def papermilllaw19_PipeKinds.T3 : Bool × List (List Nat × List Nat) := (true, [([], []), ([], []), ([1], [1]), ([0, 2], [0, 2]), ([], []), ([4], [4]), ([5], [5]), ([6], [6]), ([3, 7, 3], [3, 7]), ([8, 8, 0, 1, 2, 3, 4, 5, 6, 7, 8], [8])])
def papermilllaw19_PipeKinds.B3 : List Nat := [0, 0, 2, 7, 0, 16, 48, 112, 255, 511]
theorem papermilllaw19_PipeKinds.tab3 : rtab .any (opsOf Try.f6 3) = papermilllaw19_PipeKinds.T3 := by kernel_rfl
theorem papermilllaw19_PipeKinds.bits3 : waitsOk papermilllaw19_PipeKinds.T3.2 papermilllaw19_PipeKinds.B3 = true := by kernel_rfl
def papermilllaw19_PipeKinds.T12 : Bool × List (List Nat × List Nat) := (true, [([], []), ([0], [0]), ([1], [1]), ([2], [2]), ([3, 2, 2], [2, 3]), ([2], [2]), ([5, 4, 2], [2, 5]), ([4, 6, 2], [2, 4, 6]), ([2], [2]), ([8, 2], [2, 8]), ([7, 9, 2], [2, 7, 9]), ([2, 10], [2, 10])])
def papermilllaw19_PipeKinds.B12 : List Nat := [0, 1, 3, 7, 15, 7, 63, 127, 7, 263, 1023, 2047]
theorem papermilllaw19_PipeKinds.tab12 : rtab .any (opsOf Try.f6 12) = papermilllaw19_PipeKinds.T12 := by kernel_rfl
theorem papermilllaw19_PipeKinds.bits12 : waitsOk papermilllaw19_PipeKinds.T12.2 papermilllaw19_PipeKinds.B12 = true := by kernel_rfl
set_option maxHeartbeats 8000000 in
set_option maxRecDepth 100000 in
theorem papermilllaw19_PipeKinds.calls (k : Nat) (a0_0 : Int) (A0_1 : Option Addr) (c0_1 : Nat) (l0_1 : List (List Int)) (A1 : Option Addr) (c1 : Nat) (l1 : List Int) (A2 : Option Addr) (c2 : Nat) (l2 : List Int) (r : Bool) (w : World) (hr0_1 : Kd.C (Kd.slice 3 (Kd.int .i64)) w A0_1 l0_1.length l0_1) (hc0_1 : l0_1.length ≤ c0_1) (hr1 : Kd.C (Kd.int .i64) w A1 l1.length l1) (hc1 : l1.length ≤ c1) (hr2 : Kd.C (Kd.int .i64) w A2 l2.length l2) (hc2 : l2.length ≤ c2) (h : papermilllaw19_PipeKinds.f k a0_0 l0_1 l1 l2 = some r) :
  Calls Try.prog 6 #[.agg #[.int .i64 a0_0, .slice A0_1 l0_1.length c0_1], .slice A1 l1.length c1, .slice A2 l2.length c2] w fun e w' => e = .returned (.bool r) ∧ Below w.heap.size w w' := by
 have hu24 := Try.underlying24
 have HR0_1 := Aside0.mk hr0_1
 have HC0_1 := Aside0.mk hc0_1
 clear hr0_1 hc0_1
 have HR1 := Aside0.mk hr1
 have HC1 := Aside0.mk hc1
 clear hr1 hc1
 have HR2 := Aside0.mk hr2
 have HC2 := Aside0.mk hc2
 clear hr2 hc2
 have HB := Aside0.mk (Below.refl w.heap.size w)
 have H : ((papermilllaw19_great.f k a0_0 l0_1).bind fun t503 => (if t503 = true then (papermilllaw19_PipeKinds.j0 k l1 l2 true a0_0 l0_1) else (if (l1.length : Int) > 20 then (papermilllaw19_PipeKinds.j0 k l1 l2 true a0_0 l0_1) else (if (l2.length : Int) > 20 then (papermilllaw19_PipeKinds.j0 k l1 l2 true a0_0 l0_1) else (if (l1.length : Int) = 0 then (papermilllaw19_PipeKinds.j0 k l1 l2 true a0_0 l0_1) else (papermilllaw19_PipeKinds.j0 k l1 l2 (decide ((l0_1.length : Int) > 254)) a0_0 l0_1)))))) = some r := h
 clear h
 have HC4 := Aside0.mk H
 clear H
 go_enter Try.func6, Try.ntmps6
 go_upto_region 1 with (first | ((with_reducible refine gate_dst (N := 3) rfl ?_); (try (refine gate_guard (by rfl) ?_; dsimp only)); refine box_event ?hg (N := 3) ?hd (cs := #[.int .i64 a0_0, .slice A0_1 l0_1.length c0_1]) (t := 24) ?hr ?_; (case hd => rfl); (case hg => rfl); (case hr => first | (go_simp; done) | (go_simp; rfl)); intro gb502 hg w5 hbox hb; have BK502 := Aside0.mk (hbox); have GW502 := Aside0.mk (gW hg : w.heap.size ≤ gb502); have GE502 := Aside0.mk (gW hg : w.heap.size ≤ gb502); replace HB := Aside0.mk (below_step pB hb); clear hb hbox hg))
 (try simp only [Act.put, List.setIfInBounds_toArray, List.set_cons_zero, List.set_cons_succ])
 go_cut [42] (fun v42 wc => ∃ (kq : Nat) (x42_3 : Bool), v42 = .bool x42_3 ∧ Aside0 (papermilllaw19_PipeKinds.j0 kq l1 l2 x42_3 a0_0 l0_1 = some r) ∧ Aside0 (kq ≤ k) ∧ Aside0 (wc.heap[gb502]? = some (.cells #[.int .i64 a0_0, (.slice A0_1 l0_1.length c0_1)] 24 (0, 0))) ∧ Aside0 (Below w.heap.size w wc))
 case first =>
  have H := HC4.out
  clear HC4
  replace H := Option.bind_eq_some_iff.mp H
  obtain ⟨t503, A60, H⟩ := H
  replace H : (if t503 = true then (papermilllaw19_PipeKinds.j0 k l1 l2 true a0_0 l0_1) else (if (l1.length : Int) > 20 then (papermilllaw19_PipeKinds.j0 k l1 l2 true a0_0 l0_1) else (if (l2.length : Int) > 20 then (papermilllaw19_PipeKinds.j0 k l1 l2 true a0_0 l0_1) else (if (l1.length : Int) = 0 then (papermilllaw19_PipeKinds.j0 k l1 l2 true a0_0 l0_1) else (papermilllaw19_PipeKinds.j0 k l1 l2 (decide ((l0_1.length : Int) > 254)) a0_0 l0_1))))) = some r := H
  have A6 := Aside0.mk A60
  clear A60
  by_cases c7 : t503 = true
  ·subst c7
   have H1 : (papermilllaw19_PipeKinds.j0 k l1 l2 true a0_0 l0_1) = some r := by rw [if_pos rfl] at H; exact H
   clear H
   have H := H1
   clear H1
   have H' := Aside0.mk H
   clear H
   obtain ⟨hcz8_0, hcz8_1, hfz8_0, hfz8_1⟩ := bk2 BK502
   go_wp2_with (first | ((with_reducible refine gate_callee (f := 11) rfl ?_); refine goesL_ (some 21) rfl rfl Try.func11 (by kernel_rfl) rfl #[.agg #[.int .i64 a0_0, .slice A0_1 l0_1.length c0_1]] rfl mA ?_; (with_reducible refine (papermilllaw19_great.calls k a0_0 _ _ l0_1 true _ ?side1 ?side2 A6.out).mono ?_); (case side1 => repeat (first | exact (Kd.C_below HR0_1.out HB.out) | (with_reducible refine Kd.C_alloc ?_ _) | (with_reducible refine Kd.C_drewN ?_ _) | (with_reducible refine Kd.C_drew ?_))); (case side2 => exact HC0_1.out); rintro e w9 ⟨rfl, hb⟩; refine ⟨_, rfl, ?_⟩; replace BK502 := Aside0.mk (kB BK502 hb); replace HB := Aside0.mk (below_step pB hb); (try clear hb); (try clear hb2); (try clear hk); (try clear hi)))
   go_meet
   case rel => exact ⟨_, (true), (by first | rfl | (simp; done) | (simp [*]; done)), H', ⟨by first | omega | exact Nat.le_refl _⟩, ⟨by (with_reducible repeat (first | refine blk_drewN ?_ _ | refine blk_drew ?_ | refine blk_alloc ?_ _)); exact BK502.out⟩, ⟨pB⟩⟩
  ·replace c7 := Bool.eq_false_iff.mpr c7
   subst c7
   have H1 : (if (l1.length : Int) > 20 then (papermilllaw19_PipeKinds.j0 k l1 l2 true a0_0 l0_1) else (if (l2.length : Int) > 20 then (papermilllaw19_PipeKinds.j0 k l1 l2 true a0_0 l0_1) else (if (l1.length : Int) = 0 then (papermilllaw19_PipeKinds.j0 k l1 l2 true a0_0 l0_1) else (papermilllaw19_PipeKinds.j0 k l1 l2 (decide ((l0_1.length : Int) > 254)) a0_0 l0_1)))) = some r := by rw [if_neg (show ¬ (false = true) by decide)] at H; exact H
   clear H
   have H := H1
   clear H1
   by_cases c10 : (l1.length : Int) > 20
   ·rw [if_pos c10] at H
    have c10b0 : decide (20 < (l1.length : Int)) = true := decide_eq_true c10
    have c10b1 : decide (20 < l1.length) = true := decide_eq_true (by omega)
    clear c10
    (first | rw [c10b0] | (simp only [i64_w, i32_w]; rw [c10b0]) | skip)
    have H' := Aside0.mk H
    clear H
    obtain ⟨hcz11_0, hcz11_1, hfz11_0, hfz11_1⟩ := bk2 BK502
    go_wp2_with (first | ((with_reducible refine gate_callee (f := 11) rfl ?_); refine goesL_ (some 21) rfl rfl Try.func11 (by kernel_rfl) rfl #[.agg #[.int .i64 a0_0, .slice A0_1 l0_1.length c0_1]] rfl mA ?_; (with_reducible refine (papermilllaw19_great.calls k a0_0 _ _ l0_1 false _ ?side1 ?side2 A6.out).mono ?_); (case side1 => repeat (first | exact (Kd.C_below HR0_1.out HB.out) | (with_reducible refine Kd.C_alloc ?_ _) | (with_reducible refine Kd.C_drewN ?_ _) | (with_reducible refine Kd.C_drew ?_))); (case side2 => exact HC0_1.out); rintro e w12 ⟨rfl, hb⟩; refine ⟨_, rfl, ?_⟩; replace BK502 := Aside0.mk (kB BK502 hb); replace HB := Aside0.mk (below_step pB hb); (try clear hb); (try clear hb2); (try clear hk); (try clear hi)))
    go_meet
    case rel => exact ⟨_, (true), (by first | rfl | (simp; done) | (simp [*]; done)), H', ⟨by first | omega | exact Nat.le_refl _⟩, ⟨by (with_reducible repeat (first | refine blk_drewN ?_ _ | refine blk_drew ?_ | refine blk_alloc ?_ _)); exact BK502.out⟩, ⟨pB⟩⟩
   ·rw [if_neg c10] at H
    have c10b0 : decide (20 < (l1.length : Int)) = false := decide_eq_false c10
    have c10b1 : decide (20 < l1.length) = false := decide_eq_false (by omega)
    clear c10
    (first | rw [c10b0] | (simp only [i64_w, i32_w]; rw [c10b0]) | skip)
    by_cases c13 : (l2.length : Int) > 20
    ·rw [if_pos c13] at H
     have c13b0 : decide (20 < (l2.length : Int)) = true := decide_eq_true c13
     have c13b1 : decide (20 < l2.length) = true := decide_eq_true (by omega)
     clear c13
     have H' := Aside0.mk H
     clear H
     obtain ⟨hcz14_0, hcz14_1, hfz14_0, hfz14_1⟩ := bk2 BK502
     go_wp2_with (first | ((with_reducible refine gate_callee (f := 11) rfl ?_); refine goesL_ (some 21) rfl rfl Try.func11 (by kernel_rfl) rfl #[.agg #[.int .i64 a0_0, .slice A0_1 l0_1.length c0_1]] rfl mA ?_; (with_reducible refine (papermilllaw19_great.calls k a0_0 _ _ l0_1 false _ ?side1 ?side2 A6.out).mono ?_); (case side1 => repeat (first | exact (Kd.C_below HR0_1.out HB.out) | (with_reducible refine Kd.C_alloc ?_ _) | (with_reducible refine Kd.C_drewN ?_ _) | (with_reducible refine Kd.C_drew ?_))); (case side2 => exact HC0_1.out); rintro e w15 ⟨rfl, hb⟩; refine ⟨_, rfl, ?_⟩; replace BK502 := Aside0.mk (kB BK502 hb); replace HB := Aside0.mk (below_step pB hb); (try clear hb); (try clear hb2); (try clear hk); (try clear hi)))
     go_meet
     case rel => exact ⟨_, (true), (by first | rfl | (simp; done) | (simp [*]; done)), H', ⟨by first | omega | exact Nat.le_refl _⟩, ⟨by (with_reducible repeat (first | refine blk_drewN ?_ _ | refine blk_drew ?_ | refine blk_alloc ?_ _)); exact BK502.out⟩, ⟨pB⟩⟩
    ·rw [if_neg c13] at H
     have c13b0 : decide (20 < (l2.length : Int)) = false := decide_eq_false c13
     have c13b1 : decide (20 < l2.length) = false := decide_eq_false (by omega)
     clear c13
     by_cases c16 : (l1.length : Int) = 0
     ·rw [if_pos c16] at H
      have c16b0 : ((l1.length : Int) == 0) = true := beq_iff_eq.mpr c16
      have c16b1 : ((l1.length : Int) != 0) = false := bne_eq_false_iff_eq.mpr c16
      clear c16
      have H' := Aside0.mk H
      clear H
      obtain ⟨hcz17_0, hcz17_1, hfz17_0, hfz17_1⟩ := bk2 BK502
      go_wp2_with (first | ((with_reducible refine gate_callee (f := 11) rfl ?_); refine goesL_ (some 21) rfl rfl Try.func11 (by kernel_rfl) rfl #[.agg #[.int .i64 a0_0, .slice A0_1 l0_1.length c0_1]] rfl mA ?_; (with_reducible refine (papermilllaw19_great.calls k a0_0 _ _ l0_1 false _ ?side1 ?side2 A6.out).mono ?_); (case side1 => repeat (first | exact (Kd.C_below HR0_1.out HB.out) | (with_reducible refine Kd.C_alloc ?_ _) | (with_reducible refine Kd.C_drewN ?_ _) | (with_reducible refine Kd.C_drew ?_))); (case side2 => exact HC0_1.out); rintro e w18 ⟨rfl, hb⟩; refine ⟨_, rfl, ?_⟩; replace BK502 := Aside0.mk (kB BK502 hb); replace HB := Aside0.mk (below_step pB hb); (try clear hb); (try clear hb2); (try clear hk); (try clear hi)))
      go_meet
      case rel => exact ⟨_, (true), (by first | rfl | (simp; done) | (simp [*]; done)), H', ⟨by first | omega | exact Nat.le_refl _⟩, ⟨by (with_reducible repeat (first | refine blk_drewN ?_ _ | refine blk_drew ?_ | refine blk_alloc ?_ _)); exact BK502.out⟩, ⟨pB⟩⟩
     ·rw [if_neg c16] at H
      have c16b0 : ((l1.length : Int) == 0) = false := beq_eq_false_iff_ne.mpr c16
      have c16b1 : ((l1.length : Int) != 0) = true := bne_iff_ne.mpr c16
      have c16b2 : ¬ (l1 = []) := fun h_ => c16 (by rw [h_]; rfl)
      have H' := Aside0.mk H
      clear H
      obtain ⟨hcz19_0, hcz19_1, hfz19_0, hfz19_1⟩ := bk2 BK502
      go_wp2_with (first | ((with_reducible refine gate_callee (f := 11) rfl ?_); refine goesL_ (some 21) rfl rfl Try.func11 (by kernel_rfl) rfl #[.agg #[.int .i64 a0_0, .slice A0_1 l0_1.length c0_1]] rfl mA ?_; (with_reducible refine (papermilllaw19_great.calls k a0_0 _ _ l0_1 false _ ?side1 ?side2 A6.out).mono ?_); (case side1 => repeat (first | exact (Kd.C_below HR0_1.out HB.out) | (with_reducible refine Kd.C_alloc ?_ _) | (with_reducible refine Kd.C_drewN ?_ _) | (with_reducible refine Kd.C_drew ?_))); (case side2 => exact HC0_1.out); rintro e w20 ⟨rfl, hb⟩; refine ⟨_, rfl, ?_⟩; replace BK502 := Aside0.mk (kB BK502 hb); replace HB := Aside0.mk (below_step pB hb); (try clear hb); (try clear hb2); (try clear hk); (try clear hi); obtain ⟨hcz21_0, hcz21_1, hfz21_0, hfz21_1⟩ := bk2 BK502))
      go_meet
      case rel => exact ⟨_, (decide ((l0_1.length : Int) > 254)), (by first | rfl | (simp; done) | (simp [*]; done)), H', ⟨by first | omega | exact Nat.le_refl _⟩, ⟨by (with_reducible repeat (first | refine blk_drewN ?_ _ | refine blk_drew ?_ | refine blk_alloc ?_ _)); exact BK502.out⟩, ⟨pB⟩⟩
 case rest => as_aux_lemma =>
  clear HC4
  try clear c1
  try clear c2
  try clear p2
  try clear c6
  try clear c7
  try clear c10
  try clear c10b0
  try clear c10b1
  try clear c11
  try clear c13
  try clear c13b0
  try clear c13b1
  try clear c16
  try clear c16b0
  try clear c16b1
  try clear c16b2
  try clear hcz11_0
  try clear hcz11_1
  try clear hcz14_0
  try clear hcz14_1
  try clear hcz17_0
  try clear hcz17_1
  try clear hcz19_0
  try clear hcz19_1
  try clear hcz21_0
  try clear hcz21_1
  try clear hcz8_0
  try clear hcz8_1
  try clear hfz11_0
  try clear hfz11_1
  try clear hfz14_0
  try clear hfz14_1
  try clear hfz17_0
  try clear hfz17_1
  try clear hfz19_0
  try clear hfz19_1
  try clear hfz21_0
  try clear hfz21_1
  try clear hfz8_0
  try clear hfz8_1
  obtain ⟨kq, x42_3, rfl, HA, HJ3, BK502, HB⟩ := hcut
  cases kq with
  | zero => exact absurd HA.out (by simp [papermilllaw19_PipeKinds.j0])
  | succ kj3 =>
   have H := HA.out
   clear HA
   simp only [papermilllaw19_PipeKinds.j0] at H
   by_cases c22 : x42_3 = true
   ·subst c22
    have H1 : ((papermilllaw19_awake.f kj3).bind fun t504 => (some t504)) = some r := by rw [if_pos rfl] at H; exact H
    clear H
    have H := H1
    clear H1
    replace H := Option.bind_eq_some_iff.mp H
    obtain ⟨t504, A230, H⟩ := H
    replace H : (some t504) = some r := H
    have A23 := Aside0.mk A230
    clear A230
    obtain rfl := Option.some.inj H
    go_wp2_with (first | ((with_reducible refine gate_callee (f := 12) rfl ?_); refine goesL_ (some 43) rfl rfl Try.func12 (by kernel_rfl) rfl #[] rfl mA ?_; (with_reducible refine (papermilllaw19_awake.calls kj3  t504 _ A23.out).mono ?_); rintro e w24 ⟨rfl, hb⟩; refine ⟨_, rfl, ?_⟩; replace BK502 := Aside0.mk (kB BK502 hb); replace HB := Aside0.mk (below_step pB hb); (try clear hb); (try clear hb2); (try clear hk); (try clear hi)))
    go_ret
    exact ⟨by first | rfl | (simp [errW_none, errW_some] <;> rfl) | (simp [*, errW_none, errW_some] <;> rfl), pB⟩
   ·replace c22 := Bool.eq_false_iff.mpr c22
    subst c22
    have H1 : ((some (([] : List Int) : List Int)).bind fun y505 => (if 1 ≤ (l1.length : Int) then (if y505.length + (l1.drop 1).length < 17592186044416 then ((some (y505 ++ (l1.drop 1) : List Int)).bind fun y509 => (if 0 < (l1.length : Int) then ((some (([rd l1 0] : List Int) : List Int)).bind fun y513 => (if y509.length + y513.length < 17592186044416 then ((pipe_Push.f kj3 a0_0 l0_1 l1).bind fun bt519 => ((pipe_Push.f kj3 a0_0 l0_1 (y509 ++ y513)).bind fun bt528 => (if bt519.2.2.2 = 0 then (papermilllaw19_PipeKinds.j1 kj3 l1 l2 bt519.2.2.1 bt519.2.2.2 bt528.2.2.1 bt528.2.2.2 (bt528.2.2.2 != 0) a0_0 l0_1 bt519.1 bt519.2.1 bt528.1 bt528.2.1) else (papermilllaw19_PipeKinds.j1 kj3 l1 l2 bt519.2.2.1 bt519.2.2.2 bt528.2.2.1 bt528.2.2.2 true a0_0 l0_1 bt519.1 bt519.2.1 bt528.1 bt528.2.1)))) else (none))) else (none))) else (none)) else (none))) = some r := by rw [if_neg (show ¬ (false = true) by decide)] at H; exact H
    clear H
    have H := H1
    clear H1
    obtain ⟨y505, hy505⟩ : ∃ y_ : List Int, y_ = (([] : List Int)) := ⟨_, rfl⟩
    replace H : (if 1 ≤ (l1.length : Int) then (if y505.length + (l1.drop 1).length < 17592186044416 then ((some (y505 ++ (l1.drop 1) : List Int)).bind fun y509 => (if 0 < (l1.length : Int) then ((some (([rd l1 0] : List Int) : List Int)).bind fun y513 => (if y509.length + y513.length < 17592186044416 then ((pipe_Push.f kj3 a0_0 l0_1 l1).bind fun bt519 => ((pipe_Push.f kj3 a0_0 l0_1 (y509 ++ y513)).bind fun bt528 => (if bt519.2.2.2 = 0 then (papermilllaw19_PipeKinds.j1 kj3 l1 l2 bt519.2.2.1 bt519.2.2.2 bt528.2.2.1 bt528.2.2.2 (bt528.2.2.2 != 0) a0_0 l0_1 bt519.1 bt519.2.1 bt528.1 bt528.2.1) else (papermilllaw19_PipeKinds.j1 kj3 l1 l2 bt519.2.2.1 bt519.2.2.2 bt528.2.2.1 bt528.2.2.2 true a0_0 l0_1 bt519.1 bt519.2.1 bt528.1 bt528.2.1)))) else (none))) else (none))) else (none)) else (none)) = some r := by first | (rw [hy505]; with_reducible exact H) | (have H2_ := (Option.bind_some _ _).symm.trans H; rw [hy505]; with_reducible exact H2_) | (have H2_ := (Option.bind_some _ _).symm.trans H; with_reducible exact H2_) | with_reducible exact H | (rw [hy505]; exact H) | exact H
    have Ny505 := Aside0.mk hy505
    clear hy505
    by_cases c25 : 1 ≤ (l1.length : Int)
    ·rw [if_pos c25] at H
     have c25b0 := eq_true c25
     have c25b1 : decide (1 ≤ (l1.length : Int)) = true := decide_eq_true c25
     clear c25
     by_cases c26 : y505.length + (l1.drop 1).length < 17592186044416
     ·rw [if_pos c26] at H
      have LMc26 := Aside0.mk c26
      clear c26
      obtain ⟨y509, hy509⟩ : ∃ y_ : List Int, y_ = (y505 ++ (l1.drop 1)) := ⟨_, rfl⟩
      replace H : (if 0 < (l1.length : Int) then ((some (([rd l1 0] : List Int) : List Int)).bind fun y513 => (if y509.length + y513.length < 17592186044416 then ((pipe_Push.f kj3 a0_0 l0_1 l1).bind fun bt519 => ((pipe_Push.f kj3 a0_0 l0_1 (y509 ++ y513)).bind fun bt528 => (if bt519.2.2.2 = 0 then (papermilllaw19_PipeKinds.j1 kj3 l1 l2 bt519.2.2.1 bt519.2.2.2 bt528.2.2.1 bt528.2.2.2 (bt528.2.2.2 != 0) a0_0 l0_1 bt519.1 bt519.2.1 bt528.1 bt528.2.1) else (papermilllaw19_PipeKinds.j1 kj3 l1 l2 bt519.2.2.1 bt519.2.2.2 bt528.2.2.1 bt528.2.2.2 true a0_0 l0_1 bt519.1 bt519.2.1 bt528.1 bt528.2.1)))) else (none))) else (none)) = some r := by first | (rw [hy509]; with_reducible exact H) | (have H2_ := (Option.bind_some _ _).symm.trans H; rw [hy509]; with_reducible exact H2_) | (have H2_ := (Option.bind_some _ _).symm.trans H; with_reducible exact H2_) | with_reducible exact H | (rw [hy509]; exact H) | exact H
      have Ny509 := Aside0.mk hy509
      clear hy509
      by_cases c27 : 0 < (l1.length : Int)
      ·rw [if_pos c27] at H
       have c27b0 : decide (0 < (l1.length : Int)) = true := decide_eq_true c27
       have c27b1 : decide (0 < l1.length) = true := decide_eq_true (by omega)
       clear c27
       obtain ⟨y513, hy513⟩ : ∃ y_ : List Int, y_ = (([rd l1 0] : List Int)) := ⟨_, rfl⟩
       replace H : (if y509.length + y513.length < 17592186044416 then ((pipe_Push.f kj3 a0_0 l0_1 l1).bind fun bt519 => ((pipe_Push.f kj3 a0_0 l0_1 (y509 ++ y513)).bind fun bt528 => (if bt519.2.2.2 = 0 then (papermilllaw19_PipeKinds.j1 kj3 l1 l2 bt519.2.2.1 bt519.2.2.2 bt528.2.2.1 bt528.2.2.2 (bt528.2.2.2 != 0) a0_0 l0_1 bt519.1 bt519.2.1 bt528.1 bt528.2.1) else (papermilllaw19_PipeKinds.j1 kj3 l1 l2 bt519.2.2.1 bt519.2.2.2 bt528.2.2.1 bt528.2.2.2 true a0_0 l0_1 bt519.1 bt519.2.1 bt528.1 bt528.2.1)))) else (none)) = some r := by first | (rw [hy513]; with_reducible exact H) | (have H2_ := (Option.bind_some _ _).symm.trans H; rw [hy513]; with_reducible exact H2_) | (have H2_ := (Option.bind_some _ _).symm.trans H; with_reducible exact H2_) | with_reducible exact H | (rw [hy513]; exact H) | exact H
       have Ny513 := Aside0.mk hy513
       clear hy513
       by_cases c28 : y509.length + y513.length < 17592186044416
       ·rw [if_pos c28] at H
        have LMc28 := Aside0.mk c28
        clear c28
        obtain ⟨y516, hy516⟩ : ∃ y_ : List Int, y_ = (y509 ++ y513) := ⟨_, rfl⟩
        replace H : ((pipe_Push.f kj3 a0_0 l0_1 l1).bind fun bt519 => ((pipe_Push.f kj3 a0_0 l0_1 y516).bind fun bt528 => (if bt519.2.2.2 = 0 then (papermilllaw19_PipeKinds.j1 kj3 l1 l2 bt519.2.2.1 bt519.2.2.2 bt528.2.2.1 bt528.2.2.2 (bt528.2.2.2 != 0) a0_0 l0_1 bt519.1 bt519.2.1 bt528.1 bt528.2.1) else (papermilllaw19_PipeKinds.j1 kj3 l1 l2 bt519.2.2.1 bt519.2.2.2 bt528.2.2.1 bt528.2.2.2 true a0_0 l0_1 bt519.1 bt519.2.1 bt528.1 bt528.2.1)))) = some r := by first | (rw [hy516]; with_reducible exact H) | (have H2_ := (Option.bind_some _ _).symm.trans H; rw [hy516]; with_reducible exact H2_) | (have H2_ := (Option.bind_some _ _).symm.trans H; with_reducible exact H2_) | with_reducible exact H | (rw [hy516]; exact H) | exact H
        have Ny516 := Aside0.mk hy516
        clear hy516
        replace H := Option.bind_eq_some_iff.mp H
        obtain ⟨⟨t519, t520, t523, t526⟩, A290, H⟩ := H
        replace H : ((pipe_Push.f kj3 a0_0 l0_1 y516).bind fun bt528 => (if t526 = 0 then (papermilllaw19_PipeKinds.j1 kj3 l1 l2 t523 t526 bt528.2.2.1 bt528.2.2.2 (bt528.2.2.2 != 0) a0_0 l0_1 t519 t520 bt528.1 bt528.2.1) else (papermilllaw19_PipeKinds.j1 kj3 l1 l2 t523 t526 bt528.2.2.1 bt528.2.2.2 true a0_0 l0_1 t519 t520 bt528.1 bt528.2.1))) = some r := H
        have A29 := Aside0.mk A290
        clear A290
        replace H := Option.bind_eq_some_iff.mp H
        obtain ⟨⟨t528, t529, t532, t535⟩, A300, H⟩ := H
        replace H : (if t526 = 0 then (papermilllaw19_PipeKinds.j1 kj3 l1 l2 t523 t526 t532 t535 (t535 != 0) a0_0 l0_1 t519 t520 t528 t529) else (papermilllaw19_PipeKinds.j1 kj3 l1 l2 t523 t526 t532 t535 true a0_0 l0_1 t519 t520 t528 t529)) = some r := H
        have A30 := Aside0.mk A300
        clear A300
        have HC31 := Aside0.mk H
        clear H
        try go_wp2
        have n0_ := Aside0.mk (blk_drew BK502.out)
        have n1_ := Aside0.mk (below_drew1 HB.out)
        clear BK502
        clear HB
        have BK502 := n0_
        have HB := n1_
        clear n0_ n1_
        obtain ⟨i033, hi033, _, hsz33, _⟩ := info_parts info3
        obtain ⟨A33, hcut33, hA33, hC33⟩ := print_drop_of (P := Try.prog) (Value.int .i64) 0 29 3 .i64 Try.underlying29 hi033 hsz33 A1 c1 l1 1 (by omega) (of_decide_eq_true (by first | (with_reducible assumption) | assumption)) HC1.out
        have HR508 := Aside0.mk (Kd.C_of_reads (h1 := fun _ => rfl) (hA33 _ (Kd.reads_of_C HR1.out)))
        have HC508 := Aside0.mk hC33
        clear hA33 hC33 hi033 hsz33
        have p512 : 0 ≤ (0 : Int) := (by omega)
        have q512 : 0 < (l1.length : Int) := of_decide_eq_true (by first | (with_reducible assumption) | assumption)
        obtain ⟨ad512, e512, hx512_0⟩ := Kd.at_int HR1.out 0 p512 q512
        have hw512_0 := hx512_0
        (try rw [show ((0 : Int)).toNat = 0 from rfl] at hw512_0)
        (try rw [show 0 * 1 = 0 from rfl] at hw512_0)
        (try rw [Addr.add_zero'] at hw512_0)
        cases e512
        have qi512 : (0 < l1.length) = True := eq_true (by omega)
        (try rw [show ((0 : Int)).toNat = 0 from rfl] at hx512_0)
        (try rw [Addr.add_zero'] at hx512_0)
        replace hx512_0 := (HB.out.cell (World.block_lt_of_cell? w _ hx512_0)).trans hx512_0
        replace p512 := eq_true p512
        replace q512 := eq_true q512
        refine start_ (n := 10) (S := fun w' => w'.cell? ad512 = some (.int .i64 (rd l1 0))) (ds := []) #[false, false, false, false, false, false, false, false, false, false] (by kernel_rfl) rfl rfl (((HB.out.cell (World.block_lt_of_cell? w _ hw512_0)).trans hw512_0)) (fun hHeld => ?_); refine with_tabW papermilllaw19_PipeKinds.tab3 papermilllaw19_PipeKinds.bits3 (fun HT_ HW_ => ?_)
        generalize wc.drew = w32 at BK502 HB HR508 hx512_0 hHeld ⊢
        refine pure_ (i := 1) (N := some 45) (v := ?_) (a' := ?_) #[false, true, false, false, false, false, false, false, false, false] rfl rfl (any_of HT_.out (by kernel_rfl)) (fun _ _ _ h => h) (Or.inl ⟨by rfl, ?_⟩) ?_ ?_
        rotate_left
        ·intro w'
         go_simp
         with_reducible rfl
        rotate_left
        ·simp only [Act.put, List.setIfInBounds_toArray, List.set_cons_zero, List.set_cons_succ, i64_w, i32_w]
         rfl
        refine pure_ (i := 2) (N := some 46) (v := ?_) (a' := ?_) #[false, true, true, false, false, false, false, false, false, false] rfl rfl (any_of HT_.out (by kernel_rfl)) (fun _ _ _ h => h) (Or.inl ⟨by rfl, ?_⟩) ?_ ?_
        rotate_left
        ·intro w'
         go_simp
         with_reducible rfl
        rotate_left
        ·simp only [Act.put, List.setIfInBounds_toArray, List.set_cons_zero, List.set_cons_succ, i64_w, i32_w]
         rfl
        refine pure_ (i := 4) (N := some 48) (v := ?_) (a' := ?_) #[false, true, true, false, true, false, false, false, false, false] rfl rfl (any_of HT_.out (by kernel_rfl)) (fun _ _ _ h => h) (Or.inl ⟨by rfl, ?_⟩) ?_ ?_
        rotate_left
        ·intro w'
         go_simp
         with_reducible rfl
        rotate_left
        ·simp only [Act.put, List.setIfInBounds_toArray, List.set_cons_zero, List.set_cons_succ, i64_w, i32_w]
         rfl
        refine pure_ (i := 5) (N := some 49) (v := ?_) (a' := ?_) #[false, true, true, false, true, true, false, false, false, false] rfl rfl (any_of HT_.out (by kernel_rfl)) (fun _ _ _ h => h) (Or.inl ⟨by rfl, ?_⟩) ?_ ?_
        rotate_left
        ·intro w'
         go_simp
         with_reducible rfl
        rotate_left
        ·simp only [Act.put, List.setIfInBounds_toArray, List.set_cons_zero, List.set_cons_succ, i64_w, i32_w]
         rfl
        refine take_ (i := 6) (N := some 50) (v := ?_) (a' := ?_) #[false, true, true, false, true, true, true, false, false, false] rfl rfl (take_ofW HT_.out HW_.out (by kernel_rfl)) (fun _ _ _ h => h) (Or.inl ⟨by rfl, ?_⟩) hHeld ?_ ?_
        rotate_left
        ·intro w' s0
         go_simp
         with_reducible rfl
        rotate_left
        ·simp only [Act.put, List.setIfInBounds_toArray, List.set_cons_zero, List.set_cons_succ, i64_w, i32_w]
         rfl
        refine join_ (σ := Value × Value × Value) 2 #[true, true, true, true, true, true, true, true, false, false] (fun s_ => [(44, s_.1), (47, s_.2.1), (51, s_.2.2)]) (fun s_ w' => (w'.cell? ad512 = some (.int .i64 (rd l1 0))) ∧ (Kd.R (Kd.int .i64) 3 w' w.heap.size (fun k_ => some k_ ≠ (s_.2.2 : Value).ownBlock) s_.2.1 y509) ∧ (Kd.R (Kd.int .i64) 3 w' w.heap.size (fun k_ => some k_ ≠ (s_.2.1 : Value).ownBlock) s_.2.2 y513) ∧ (w'.heap[gb502]? = some (.cells #[.int .i64 a0_0, .slice A0_1 l0_1.length c0_1] 24 (0, 0))) ∧ (Below w.heap.size w w')) ?_ ?_
        rotate_left
        ·intro hCont
         refine two_ (i := 0) (j := 7) (Ni := some 44) (Nj := some 51) #[true, true, true, false, true, true, true, false, false, false] #[false, true, true, false, true, true, true, true, false, false] rfl rfl rfl rfl (two_of HT_.out (by kernel_rfl)) (by decide) (by decide) (fun K hK => ?_) (fun K hK => ?_)
         ·skip
          refine Kd.R_lit_step (Kd.int .i64) _ 3 ?hg (N := 44) ?hd (xs := ([] : List Int)) (inner := []) (ok := fun _ => True) (okp := fun _ => True) ?hr ?hp (fun _ hk => hk) trivial (Below.refl _ _) (Nat.le_refl _) (by simp) ?_; (case hd => rfl); (case hg => rfl); (case hr => first | (go_simp; done) | (go_simp; rfl)); (case hp => exact (Reps.none _ _))
          intro v506 w34 ho35 hb hg_ hnew_
          clear hg_ hnew_
          (first | rw [← Ny505.out] at ho35 | (simp only [Int.reduceToNat] at ho35; rw [← Ny505.out] at ho35))
          have n0_ := Aside0.mk (Kd.R_lower ho35 (below_size pB))
          have n1_ := Aside0.mk (kB BK502 hb)
          have n2_ := Aside0.mk (below_step pB hb)
          clear BK502
          clear HB
          have HO507 := n0_
          have BK502 := n1_
          have HB := n2_
          clear n0_ n1_ n2_
          clear hb ho35
          refine hK.out _ _ (((HB.out.cell (World.block_lt_of_cell? w _ hw512_0)).trans hw512_0)) (fun hHeld => ?_)
          clear hK K
          refine norm_ (a' := ?_) ?_ ?_
          rotate_left
          ·show Act.put _ (some 44) _ = _
           simp only [Act.put, List.setIfInBounds_toArray, List.set_cons_zero, List.set_cons_succ, i64_w, i32_w]
           rfl
          refine two_ (i := 3) (j := 7) (Ni := some 47) (Nj := some 51) #[true, true, true, true, true, true, true, false, false, false] #[true, true, true, false, true, true, true, true, false, false] rfl rfl rfl rfl (two_of HT_.out (by kernel_rfl)) (by decide) (by decide) (fun K hK => ?_) (fun K hK => ?_)
          ·skip
           refine Kd.R_append_rows_step (Kd.int .i64) (w0 := w) w.heap.size (by rfl) (.tmp 44) (.tmp 46) 29 3 (.int .i64 0) 8 rfl Try.underlying29 info3 rfl (by decide) (by omega) v506 y505 (l1.drop 1) _ _ _ (fun _ => True) (fun _ => False) rfl rfl ?aO ?aR (fun _ _ h => h) (fun _ h => h.elim) ?aF ?aB ?aS ?aL ?_
           (case aR => first | (rw [← show (l1.drop 1).length = (l1.length - 1) from List.length_drop]; repeat (first | exact (Kd.C_below HR508.out HB.out) | (with_reducible refine Kd.C_alloc ?_ _) | (with_reducible refine Kd.C_drewN ?_ _) | (with_reducible refine Kd.C_drew ?_))) | (repeat (first | exact (Kd.C_below HR508.out HB.out) | (with_reducible refine Kd.C_alloc ?_ _) | (with_reducible refine Kd.C_drewN ?_ _) | (with_reducible refine Kd.C_drew ?_))))
           (case aB => exact pB)
           (case aF => exact (fun _ _ => trivial))
           (case aO => exact (rX HO507.out))
           (case aS => exact (below_size pB))
           (case aL => have := LMc26.out; have hlx_ := (show (l1.drop 1).length = (l1.length - 1) from List.length_drop); omega)
           intro v510 w36 ho hb hg hat
           rw [← Ny509.out] at ho
           have n0_ := Aside0.mk (blk_grown (g := gb502) (o := .cells #[.int .i64 a0_0, .slice A0_1 l0_1.length c0_1] 24 (0, 0)) (kW BK502) hg (Kd.R_ne HO507.out BK502.out (by decide)))
           have n1_ := Aside0.mk (hb)
           have n2_ := Aside0.mk (ho)
           clear BK502
           clear HB
           clear HO507
           have BK502 := n0_
           have HB := n1_
           have HO511 := n2_
           clear n0_ n1_ n2_
           clear ho hb hg hat
           refine hK.out _ _ (((HB.out.cell (World.block_lt_of_cell? w _ hw512_0)).trans hw512_0)) (fun hHeld => ?_)
           clear hK K
           refine norm_ (a' := ?_) ?_ ?_
           rotate_left
           ·show Act.put _ (some 47) _ = _
            simp only [Act.put, List.setIfInBounds_toArray, List.set_cons_zero, List.set_cons_succ, i64_w, i32_w]
            rfl
           refine one_ (i := 7) (N := some 51) #[true, true, true, true, true, true, true, true, false, false] rfl rfl (one_of HT_.out (by kernel_rfl)) (by decide) (fun K hK => ?_)
           refine Kd.R_lit_step (Kd.int .i64) _ 3 ?hg (N := 51) ?hd (xs := ([rd l1 0] : List Int)) (inner := [.int .i64 (rd l1 0)]) (ok := fun _ => True) (okp := fun _ => True) ?hr ?hp (fun _ hk => hk) trivial (Below.refl _ _) (Nat.le_refl _) (by simp) ?_; (case hd => rfl); (case hg => rfl); (case hr => first | (go_simp; done) | (go_simp; rfl)); (case hp => exact (Reps.one (show Kd.M (Kd.int .i64) _ _ _ (rd l1 0) [.int .i64 (rd l1 0)] from rfl) (Reps.none _ _)))
           intro v514 w37 ho38 hb hg_ hnew_
           clear hg_ hnew_
           (first | rw [← Ny513.out] at ho38 | (simp only [Int.reduceToNat] at ho38; rw [← Ny513.out] at ho38))
           have n0_ := Aside0.mk (Kd.R_elder' (rX HO511.out) (Kd.R_base ho38) hb)
           have n1_ := Aside0.mk (Kd.R_lower (Kd.R_new' ho38 (Kd.R_lt (rX HO511.out))) (below_size pB))
           have n2_ := Aside0.mk (kB BK502 hb)
           have n3_ := Aside0.mk (below_step pB hb)
           clear HO511
           clear BK502
           clear HB
           have HO511 := n0_
           have HO515 := n1_
           have BK502 := n2_
           have HB := n3_
           clear n0_ n1_ n2_ n3_
           clear hb ho38
           refine hK.out _ _ (((HB.out.cell (World.block_lt_of_cell? w _ hw512_0)).trans hw512_0)) (fun hHeld => ?_)
           clear hK K
           refine norm_ (a' := ?_) ?_ ?_
           rotate_left
           ·show Act.put _ (some 51) _ = _
            simp only [Act.put, List.setIfInBounds_toArray, List.set_cons_zero, List.set_cons_succ, i64_w, i32_w]
            rfl
           exact norm_ (by simp only [putAll, Act.put, List.setIfInBounds_toArray, List.set_cons_zero, List.set_cons_succ]) (hCont (v506, v510, v514) _ ⟨hHeld, (rX (Kd.R_mono HO511.out (fun _ hk => hk.2))), (rX (Kd.R_mono HO515.out (fun _ hk => hk.2))), (kW BK502), pB⟩)
          ·skip
           refine Kd.R_lit_step (Kd.int .i64) _ 3 ?hg (N := 51) ?hd (xs := ([rd l1 0] : List Int)) (inner := [.int .i64 (rd l1 0)]) (ok := fun _ => True) (okp := fun _ => True) ?hr ?hp (fun _ hk => hk) trivial (Below.refl _ _) (Nat.le_refl _) (by simp) ?_; (case hd => rfl); (case hg => rfl); (case hr => first | (go_simp; done) | (go_simp; rfl)); (case hp => exact (Reps.one (show Kd.M (Kd.int .i64) _ _ _ (rd l1 0) [.int .i64 (rd l1 0)] from rfl) (Reps.none _ _)))
           intro v514 w36 ho37 hb hg_ hnew_
           clear hg_ hnew_
           (first | rw [← Ny513.out] at ho37 | (simp only [Int.reduceToNat] at ho37; rw [← Ny513.out] at ho37))
           have n0_ := Aside0.mk (Kd.R_elder' (rX HO507.out) (Kd.R_base ho37) hb)
           have n1_ := Aside0.mk (Kd.R_lower (Kd.R_new' ho37 (Kd.R_lt (rX HO507.out))) (below_size pB))
           have n2_ := Aside0.mk (kB BK502 hb)
           have n3_ := Aside0.mk (below_step pB hb)
           clear HO507
           clear BK502
           clear HB
           have HO507 := n0_
           have HO515 := n1_
           have BK502 := n2_
           have HB := n3_
           clear n0_ n1_ n2_ n3_
           clear hb ho37
           refine hK.out _ _ (((HB.out.cell (World.block_lt_of_cell? w _ hw512_0)).trans hw512_0)) (fun hHeld => ?_)
           clear hK K
           refine norm_ (a' := ?_) ?_ ?_
           rotate_left
           ·show Act.put _ (some 51) _ = _
            simp only [Act.put, List.setIfInBounds_toArray, List.set_cons_zero, List.set_cons_succ, i64_w, i32_w]
            rfl
           refine one_ (i := 3) (N := some 47) #[true, true, true, true, true, true, true, true, false, false] rfl rfl (one_of HT_.out (by kernel_rfl)) (by decide) (fun K hK => ?_)
           refine Kd.R_append_rows_step (Kd.int .i64) (w0 := w) w.heap.size (by rfl) (.tmp 44) (.tmp 46) 29 3 (.int .i64 0) 8 rfl Try.underlying29 info3 rfl (by decide) (by omega) v506 y505 (l1.drop 1) _ _ _ (fun k_ => some k_ ≠ (v514 : Value).ownBlock) (fun _ => False) rfl rfl ?aO ?aR (fun _ _ h => h) (fun _ h => h.elim) ?aF ?aB ?aS ?aL ?_
           (case aR => first | (rw [← show (l1.drop 1).length = (l1.length - 1) from List.length_drop]; repeat (first | exact (Kd.C_below HR508.out HB.out) | (with_reducible refine Kd.C_alloc ?_ _) | (with_reducible refine Kd.C_drewN ?_ _) | (with_reducible refine Kd.C_drew ?_))) | (repeat (first | exact (Kd.C_below HR508.out HB.out) | (with_reducible refine Kd.C_alloc ?_ _) | (with_reducible refine Kd.C_drewN ?_ _) | (with_reducible refine Kd.C_drew ?_))))
           (case aB => exact pB)
           (case aF => exact (fun k_ hk => Kd.fresh' (Kd.R_lt (rX HO515.out)) k_ hk))
           (case aO => exact (rX (Kd.R_mono HO507.out (fun _ hk => hk.2))))
           (case aS => exact (below_size pB))
           (case aL => have := LMc26.out; have hlx_ := (show (l1.drop 1).length = (l1.length - 1) from List.length_drop); omega)
           intro v510 w38 ho hb hg hat
           rw [← Ny509.out] at ho
           have n0_ := Aside0.mk (blk_grown (g := gb502) (o := .cells #[.int .i64 a0_0, .slice A0_1 l0_1.length c0_1] 24 (0, 0)) (kW BK502) hg (Kd.R_ne HO507.out BK502.out (by decide)))
           have n1_ := Aside0.mk (Kd.R_after (ok := (fun _ => True)) (rX HO515.out) hg hat)
           have n2_ := Aside0.mk (hb)
           have n3_ := Aside0.mk (ho)
           clear BK502
           clear HO515
           clear HB
           clear HO507
           have BK502 := n0_
           have HO515 := n1_
           have HB := n2_
           have HO511 := n3_
           clear n0_ n1_ n2_ n3_
           clear ho hb hg hat
           refine hK.out _ _ (((HB.out.cell (World.block_lt_of_cell? w _ hw512_0)).trans hw512_0)) (fun hHeld => ?_)
           clear hK K
           refine norm_ (a' := ?_) ?_ ?_
           rotate_left
           ·show Act.put _ (some 47) _ = _
            simp only [Act.put, List.setIfInBounds_toArray, List.set_cons_zero, List.set_cons_succ, i64_w, i32_w]
            rfl
           exact norm_ (by simp only [putAll, Act.put, List.setIfInBounds_toArray, List.set_cons_zero, List.set_cons_succ]) (hCont (v506, v510, v514) _ ⟨hHeld, (rX HO511.out), (rX (Kd.R_mono HO515.out (fun _ hk => hk.2))), (kW BK502), pB⟩)
         ·skip
          refine Kd.R_lit_step (Kd.int .i64) _ 3 ?hg (N := 51) ?hd (xs := ([rd l1 0] : List Int)) (inner := [.int .i64 (rd l1 0)]) (ok := fun _ => True) (okp := fun _ => True) ?hr ?hp (fun _ hk => hk) trivial (Below.refl _ _) (Nat.le_refl _) (by simp) ?_; (case hd => rfl); (case hg => rfl); (case hr => first | (go_simp; done) | (go_simp; rfl)); (case hp => exact (Reps.one (show Kd.M (Kd.int .i64) _ _ _ (rd l1 0) [.int .i64 (rd l1 0)] from rfl) (Reps.none _ _)))
          intro v514 w34 ho35 hb hg_ hnew_
          clear hg_ hnew_
          (first | rw [← Ny513.out] at ho35 | (simp only [Int.reduceToNat] at ho35; rw [← Ny513.out] at ho35))
          have n0_ := Aside0.mk (Kd.R_lower ho35 (below_size pB))
          have n1_ := Aside0.mk (kB BK502 hb)
          have n2_ := Aside0.mk (below_step pB hb)
          clear BK502
          clear HB
          have HO515 := n0_
          have BK502 := n1_
          have HB := n2_
          clear n0_ n1_ n2_
          clear hb ho35
          refine hK.out _ _ (((HB.out.cell (World.block_lt_of_cell? w _ hw512_0)).trans hw512_0)) (fun hHeld => ?_)
          clear hK K
          refine norm_ (a' := ?_) ?_ ?_
          rotate_left
          ·show Act.put _ (some 51) _ = _
           simp only [Act.put, List.setIfInBounds_toArray, List.set_cons_zero, List.set_cons_succ, i64_w, i32_w]
           rfl
          refine one_ (i := 0) (N := some 44) #[true, true, true, false, true, true, true, true, false, false] rfl rfl (one_of HT_.out (by kernel_rfl)) (by decide) (fun K hK => ?_)
          refine Kd.R_lit_step (Kd.int .i64) _ 3 ?hg (N := 44) ?hd (xs := ([] : List Int)) (inner := []) (ok := fun _ => True) (okp := fun _ => True) ?hr ?hp (fun _ hk => hk) trivial (Below.refl _ _) (Nat.le_refl _) (by simp) ?_; (case hd => rfl); (case hg => rfl); (case hr => first | (go_simp; done) | (go_simp; rfl)); (case hp => exact (Reps.none _ _))
          intro v506 w36 ho37 hb hg_ hnew_
          clear hg_ hnew_
          (first | rw [← Ny505.out] at ho37 | (simp only [Int.reduceToNat] at ho37; rw [← Ny505.out] at ho37))
          have n0_ := Aside0.mk (Kd.R_elder' (rX HO515.out) (Kd.R_base ho37) hb)
          have n1_ := Aside0.mk (Kd.R_lower (Kd.R_new' ho37 (Kd.R_lt (rX HO515.out))) (below_size pB))
          have n2_ := Aside0.mk (kB BK502 hb)
          have n3_ := Aside0.mk (below_step pB hb)
          clear HO515
          clear BK502
          clear HB
          have HO515 := n0_
          have HO507 := n1_
          have BK502 := n2_
          have HB := n3_
          clear n0_ n1_ n2_ n3_
          clear hb ho37
          refine hK.out _ _ (((HB.out.cell (World.block_lt_of_cell? w _ hw512_0)).trans hw512_0)) (fun hHeld => ?_)
          clear hK K
          refine norm_ (a' := ?_) ?_ ?_
          rotate_left
          ·show Act.put _ (some 44) _ = _
           simp only [Act.put, List.setIfInBounds_toArray, List.set_cons_zero, List.set_cons_succ, i64_w, i32_w]
           rfl
          refine one_ (i := 3) (N := some 47) #[true, true, true, true, true, true, true, true, false, false] rfl rfl (one_of HT_.out (by kernel_rfl)) (by decide) (fun K hK => ?_)
          refine Kd.R_append_rows_step (Kd.int .i64) (w0 := w) w.heap.size (by rfl) (.tmp 44) (.tmp 46) 29 3 (.int .i64 0) 8 rfl Try.underlying29 info3 rfl (by decide) (by omega) v506 y505 (l1.drop 1) _ _ _ (fun k_ => some k_ ≠ (v514 : Value).ownBlock) (fun _ => False) rfl rfl ?aO ?aR (fun _ _ h => h) (fun _ h => h.elim) ?aF ?aB ?aS ?aL ?_
          (case aR => first | (rw [← show (l1.drop 1).length = (l1.length - 1) from List.length_drop]; repeat (first | exact (Kd.C_below HR508.out HB.out) | (with_reducible refine Kd.C_alloc ?_ _) | (with_reducible refine Kd.C_drewN ?_ _) | (with_reducible refine Kd.C_drew ?_))) | (repeat (first | exact (Kd.C_below HR508.out HB.out) | (with_reducible refine Kd.C_alloc ?_ _) | (with_reducible refine Kd.C_drewN ?_ _) | (with_reducible refine Kd.C_drew ?_))))
          (case aB => exact pB)
          (case aF => exact (fun k_ hk => Kd.fresh' (Kd.R_lt (rX HO515.out)) k_ hk))
          (case aO => exact (rX (Kd.R_mono HO507.out (fun _ hk => hk.2))))
          (case aS => exact (below_size pB))
          (case aL => have := LMc26.out; have hlx_ := (show (l1.drop 1).length = (l1.length - 1) from List.length_drop); omega)
          intro v510 w38 ho hb hg hat
          rw [← Ny509.out] at ho
          have n0_ := Aside0.mk (blk_grown (g := gb502) (o := .cells #[.int .i64 a0_0, .slice A0_1 l0_1.length c0_1] 24 (0, 0)) (kW BK502) hg (Kd.R_ne HO507.out BK502.out (by decide)))
          have n1_ := Aside0.mk (Kd.R_after (ok := (fun _ => True)) (rX HO515.out) hg hat)
          have n2_ := Aside0.mk (hb)
          have n3_ := Aside0.mk (ho)
          clear BK502
          clear HO515
          clear HB
          clear HO507
          have BK502 := n0_
          have HO515 := n1_
          have HB := n2_
          have HO511 := n3_
          clear n0_ n1_ n2_ n3_
          clear ho hb hg hat
          refine hK.out _ _ (((HB.out.cell (World.block_lt_of_cell? w _ hw512_0)).trans hw512_0)) (fun hHeld => ?_)
          clear hK K
          refine norm_ (a' := ?_) ?_ ?_
          rotate_left
          ·show Act.put _ (some 47) _ = _
           simp only [Act.put, List.setIfInBounds_toArray, List.set_cons_zero, List.set_cons_succ, i64_w, i32_w]
           rfl
          exact norm_ (by simp only [putAll, Act.put, List.setIfInBounds_toArray, List.set_cons_zero, List.set_cons_succ]) (hCont (v506, v510, v514) _ ⟨hHeld, (rX HO511.out), (rX (Kd.R_mono HO515.out (fun _ hk => hk.2))), (kW BK502), pB⟩)
        rintro ⟨v506, v510, v514⟩ w39 ⟨hS_, h0_, h1_, h2_, h3_⟩
        have n0_ : Aside0 (Kd.R (Kd.int .i64) 3 w39 w.heap.size (fun k_ => some k_ ≠ (v514 : Value).ownBlock) v510 y509) := ⟨h0_⟩
        have n1_ : Aside0 (Kd.R (Kd.int .i64) 3 w39 w.heap.size (fun k_ => some k_ ≠ (v510 : Value).ownBlock) v514 y513) := ⟨h1_⟩
        have n2_ : Aside0 (w39.heap[gb502]? = some (.cells #[.int .i64 a0_0, .slice A0_1 l0_1.length c0_1] 24 (0, 0))) := ⟨h2_⟩
        have n3_ : Aside0 (Below w.heap.size w w39) := ⟨h3_⟩
        clear BK502
        clear HB
        clear h0_ h1_ h2_ h3_
        have HO511 := n0_
        have HO515 := n1_
        have BK502 := n2_
        have HB := n3_
        clear n0_ n1_ n2_ n3_
        have hHeld : w39.cell? ad512 = some (.int .i64 (rd l1 0)) := hS_
        obtain ⟨Ao41, co41, eo41⟩ := Kd.R_slice HO515.out
        (first | subst eo41 | (injection eo41 with f1_ f2_ f3_; have f4_ := f1_.symm; have f5_ := f3_.symm; clear f1_ f2_ f3_; subst f4_; subst f5_))
        refine norm_ (a' := ?_) ?_ ?_
        rotate_left
        ·simp only [putAll, Act.put, List.setIfInBounds_toArray, List.set_cons_zero, List.set_cons_succ]
         rfl
        refine one_ (i := 8) (N := some 52) #[true, true, true, true, true, true, true, true, true, false] rfl rfl (one_of HT_.out (by kernel_rfl)) (by decide) (fun K hK => ?_)
        refine Kd.R_append_rows_step (Kd.int .i64) (w0 := w) w.heap.size (by rfl) (.tmp 47) (.tmp 51) 29 3 (.int .i64 0) 8 rfl Try.underlying29 info3 rfl (by decide) (by omega) v510 y509 y513 _ _ _ (fun k_ => some k_ ≠ (.slice Ao41 y513.length co41 : Value).ownBlock) (fun _ => False) rfl rfl ?aO ?aR (fun _ _ h => h) (fun _ h => h.elim) ?aF ?aB ?aS ?aL ?_
        (case aR => repeat (first | exact (Kd.R_reads' HO515.out).2.2 | (with_reducible refine Kd.C_alloc ?_ _) | (with_reducible refine Kd.C_drewN ?_ _) | (with_reducible refine Kd.C_drew ?_)))
        (case aB => exact pB)
        (case aF => exact (fun k_ hk => Kd.fresh' (Kd.R_lt (rX HO515.out)) k_ hk))
        (case aO => exact (rX HO511.out))
        (case aS => exact (below_size pB))
        (case aL => have := LMc28.out; omega)
        intro v517 w40 ho hb hg hat
        rw [← Ny516.out] at ho
        have n0_ := Aside0.mk (blk_grown (g := gb502) (o := .cells #[.int .i64 a0_0, .slice A0_1 l0_1.length c0_1] 24 (0, 0)) (kW BK502) hg (Kd.R_ne HO511.out BK502.out (by decide)))
        have n1_ := Aside0.mk (Kd.R_after (ok := (fun _ => True)) (rX (Kd.R_mono HO515.out (fun _ hk => ⟨trivial, hk⟩))) hg hat)
        have n2_ := Aside0.mk (hb)
        have n3_ := Aside0.mk (ho)
        clear BK502
        clear HO515
        clear HB
        clear HO511
        have BK502 := n0_
        have HO515 := n1_
        have HB := n2_
        have HO518 := n3_
        clear n0_ n1_ n2_ n3_
        clear ho hb hg hat
        refine hK.out _ _ (((HB.out.cell (World.block_lt_of_cell? w _ hw512_0)).trans hw512_0)) (fun hHeld => ?_)
        clear hK K
        refine norm_ (a' := ?_) ?_ ?_
        rotate_left
        ·show Act.put _ (some 52) _ = _
         simp only [Act.put, List.setIfInBounds_toArray, List.set_cons_zero, List.set_cons_succ, i64_w, i32_w]
         rfl
        refine pure_ (i := 9) (N := some 7) (v := ?_) (a' := ?_) #[true, true, true, true, true, true, true, true, true, true] rfl rfl (any_of HT_.out (by kernel_rfl)) (fun _ _ _ h => h) (Or.inl ⟨by rfl, ?_⟩) ?_ ?_
        rotate_left
        ·intro w'
         go_simp
         with_reducible rfl
        rotate_left
        ·simp only [Act.put, List.setIfInBounds_toArray, List.set_cons_zero, List.set_cons_succ, i64_w, i32_w]
         rfl
        refine done_ (done_of HT_.out (by kernel_rfl)) ?_
        obtain ⟨hcz42_0, hcz42_1, hfz42_0, hfz42_1⟩ := bk2 BK502
        go_upto_region 6 with (first | ((with_reducible refine gate_callee (f := 18) rfl ?_); refine goesL_ (some 56) rfl rfl Try.func18 (by kernel_rfl) rfl #[.agg #[.int .i64 a0_0, .slice A0_1 l0_1.length c0_1], .slice (some ad512) l1.length c1] rfl mA ?_; (with_reducible refine (pipe_Push.calls kj3 a0_0 _ _ l0_1 _ _ l1 t519 t520 t523 t526 _ ?side1 ?side2 ?side3 ?side4 A29.out).mono ?_); (case side1 => repeat (first | exact (Kd.C_below HR0_1.out HB.out) | (with_reducible refine Kd.C_alloc ?_ _) | (with_reducible refine Kd.C_drewN ?_ _) | (with_reducible refine Kd.C_drew ?_))); (case side2 => exact HC0_1.out); (case side3 => repeat (first | exact (Kd.C_below HR1.out HB.out) | (with_reducible refine Kd.C_alloc ?_ _) | (with_reducible refine Kd.C_drewN ?_ _) | (with_reducible refine Kd.C_drew ?_))); (case side4 => exact HC1.out); rintro e w43 ⟨v521, v524, rfl, ho0, ho1, hb⟩; refine ⟨_, rfl, ?_⟩; have HO522 := Aside0.mk (Kd.S_lower (Kd.S_new' (Kd.S_new' ho0 (Kd.R_lt (rX HO515.out))) (Kd.R_lt (rX HO518.out))) (below_size pB)); have HO525 := Aside0.mk (Kd.R_lower (Kd.R_new' (Kd.R_new' ho1 (Kd.R_lt (rX HO515.out))) (Kd.R_lt (rX HO518.out))) (below_size pB)); replace HO515 := Aside0.mk (Kd.R_elder' (rX HO515.out) (Kd.R_base ho1) hb); replace HO518 := Aside0.mk (Kd.R_elder' (rX HO518.out) (Kd.R_base ho1) hb); replace BK502 := Aside0.mk (kB BK502 hb); replace HB := Aside0.mk (below_step pB hb); (try clear hb); (try clear hb2); (try clear hk); (try clear hi); (try clear ho0); (try clear ho1)) | ((with_reducible refine gate_dst (N := 8) rfl ?_); (try (refine gate_guard (by rfl) ?_; dsimp only)); refine box_event ?hg (N := 8) ?hd (cs := #[.int .i64 0, .slice none 0 0]) (t := 24) ?hr ?_; (case hd => rfl); (case hg => rfl); (case hr => first | (go_simp; done) | (go_simp; rfl)); intro gb527 hg w44 hbox hb; have BK527 := Aside0.mk (hbox); have GW527 := Aside0.mk (gW hg : w.heap.size ≤ gb527); have GE527 := Aside0.mk (gW hg : w.heap.size ≤ gb527); have NB502_527 := Aside0.mk (nL hg BK502 : gb502 ≠ gb527); have NB527_502 := Aside0.mk (nG hg BK502 : gb527 ≠ gb502); replace HO515 := Aside0.mk (Kd.R_below (rX HO515.out) hb); replace HO518 := Aside0.mk (Kd.R_below (rX HO518.out) hb); replace HO522 := Aside0.mk (Kd.S_below (by (with_reducible repeat (first | apply Kd.S_alloc | apply Kd.S_drewN | apply Kd.S_drew)); exact HO522.out) hb); replace HO525 := Aside0.mk (Kd.R_below (rX HO525.out) hb); replace BK502 := Aside0.mk (kB BK502 hb); replace HB := Aside0.mk (below_step pB hb); clear hb hbox hg; have hnb45 := NB527_502.out; have hnc45 := NB502_527.out; obtain ⟨hcz46_0, hcz46_1, hfz46_0, hfz46_1⟩ := bk2 BK527; obtain ⟨Ao47, co47, eo47⟩ := Kd.S_slice HO522.out; subst eo47; obtain ⟨hcz48_0, hcz48_1, hfz48_0, hfz48_1⟩ := bk2 BK502; obtain ⟨Ao49, co49, eo49⟩ := Kd.R_slice HO518.out; subst eo49) | ((with_reducible refine gate_callee (f := 18) rfl ?_); refine goesL_ (some 63) rfl rfl Try.func18 (by kernel_rfl) rfl #[.agg #[.int .i64 a0_0, .slice A0_1 l0_1.length c0_1], .slice Ao49 y516.length co49] rfl mA ?_; (with_reducible refine (pipe_Push.calls kj3 a0_0 _ _ l0_1 _ _ y516 t528 t529 t532 t535 _ ?side1 ?side2 ?side3 ?side4 A30.out).mono ?_); (case side1 => exact Kd.C_below HR0_1.out pB); (case side2 => exact HC0_1.out); (case side3 => refine (Kd.R_reads' (e := 3) (base := w.heap.size) (ok := fun k_ => (some k_ ≠ (.slice Ao41 y513.length co41 : Value).ownBlock ∧ some k_ ≠ (v524 : Value).ownBlock)) (n := y516.length) (c := co49) ?_).2.2; exact (rX (Kd.R_mono (Kd.R_far (p := ⟨gb527, 1, none⟩) (Kd.R_far (p := ⟨gb527, 0, none⟩) (Kd.R_types HO518.out BK527.out (by decide)) (fun _ hk => hk.2) (.int .i64 t519)) (fun _ hk => hk.2) (.slice Ao47 t520.length co47)) (fun _ h_ => h_.1)))); (case side4 => exact (Kd.R_reads' HO518.out).2.1); rintro e w50 ⟨v530, v533, rfl, ho0, ho1, hb⟩; refine ⟨_, rfl, ?_⟩; have HO531 := Aside0.mk (Kd.S_lower (Kd.S_new' (Kd.S_new' (Kd.S_new' (Kd.S_new' ho0 (Kd.R_lt (rX (Kd.R_mono (Kd.R_far (p := ⟨gb527, 1, none⟩) (Kd.R_far (p := ⟨gb527, 0, none⟩) (Kd.R_types HO515.out BK527.out (by decide)) (fun _ hk => hk.2) (.int .i64 t519)) (fun _ hk => hk.2) (.slice Ao47 t520.length co47)) (fun _ h_ => h_.1))))) (Kd.R_lt (rX (Kd.R_mono (Kd.R_far (p := ⟨gb527, 1, none⟩) (Kd.R_far (p := ⟨gb527, 0, none⟩) (Kd.R_types HO518.out BK527.out (by decide)) (fun _ hk => hk.2) (.int .i64 t519)) (fun _ hk => hk.2) (.slice Ao47 t520.length co47)) (fun _ h_ => h_.1))))) (Kd.S_lt (by (with_reducible repeat (first | apply Kd.S_alloc | apply Kd.S_drewN | apply Kd.S_drew)); exact (Kd.S_mono (Kd.S_far (p := ⟨gb527, 1, none⟩) (Kd.S_far (p := ⟨gb527, 0, none⟩) (Kd.S_types HO522.out BK527.out (by decide)) (fun _ hk => hk.2) (.int .i64 t519)) (fun _ hk => hk.2) (.slice Ao47 t520.length co47)) (fun _ h_ => h_.1))))) (Kd.R_lt (rX (Kd.R_mono (Kd.R_far (p := ⟨gb527, 1, none⟩) (Kd.R_far (p := ⟨gb527, 0, none⟩) (Kd.R_types HO525.out BK527.out (by decide)) (fun _ hk => hk.2) (.int .i64 t519)) (fun _ hk => hk.2) (.slice Ao47 t520.length co47)) (fun _ h_ => h_.1))))) (below_size pB)); have HO534 := Aside0.mk (Kd.R_lower (Kd.R_new' (Kd.R_new' (Kd.R_new' ho1 (Kd.R_lt (rX (Kd.R_mono (Kd.R_far (p := ⟨gb527, 1, none⟩) (Kd.R_far (p := ⟨gb527, 0, none⟩) (Kd.R_types HO515.out BK527.out (by decide)) (fun _ hk => hk.2) (.int .i64 t519)) (fun _ hk => hk.2) (.slice Ao47 t520.length co47)) (fun _ h_ => h_.1))))) (Kd.R_lt (rX (Kd.R_mono (Kd.R_far (p := ⟨gb527, 1, none⟩) (Kd.R_far (p := ⟨gb527, 0, none⟩) (Kd.R_types HO518.out BK527.out (by decide)) (fun _ hk => hk.2) (.int .i64 t519)) (fun _ hk => hk.2) (.slice Ao47 t520.length co47)) (fun _ h_ => h_.1))))) (Kd.R_lt (rX (Kd.R_mono (Kd.R_far (p := ⟨gb527, 1, none⟩) (Kd.R_far (p := ⟨gb527, 0, none⟩) (Kd.R_types HO525.out BK527.out (by decide)) (fun _ hk => hk.2) (.int .i64 t519)) (fun _ hk => hk.2) (.slice Ao47 t520.length co47)) (fun _ h_ => h_.1))))) (below_size pB)); replace HO515 := Aside0.mk (Kd.R_elder' (rX (Kd.R_mono (Kd.R_far (p := ⟨gb527, 1, none⟩) (Kd.R_far (p := ⟨gb527, 0, none⟩) (Kd.R_types HO515.out BK527.out (by decide)) (fun _ hk => hk.2) (.int .i64 t519)) (fun _ hk => hk.2) (.slice Ao47 t520.length co47)) (fun _ h_ => h_.1))) (Kd.R_base ho1) hb); replace HO518 := Aside0.mk (Kd.R_elder' (rX (Kd.R_mono (Kd.R_far (p := ⟨gb527, 1, none⟩) (Kd.R_far (p := ⟨gb527, 0, none⟩) (Kd.R_types HO518.out BK527.out (by decide)) (fun _ hk => hk.2) (.int .i64 t519)) (fun _ hk => hk.2) (.slice Ao47 t520.length co47)) (fun _ h_ => h_.1))) (Kd.R_base ho1) hb); replace HO522 := Aside0.mk (Kd.S_mono (Kd.S_told (Kd.S_told (Kd.S_old (by (with_reducible repeat (first | apply Kd.S_alloc | apply Kd.S_drewN | apply Kd.S_drew)); exact (Kd.S_mono (Kd.S_far (p := ⟨gb527, 1, none⟩) (Kd.S_far (p := ⟨gb527, 0, none⟩) (Kd.S_types HO522.out BK527.out (by decide)) (fun _ hk => hk.2) (.int .i64 t519)) (fun _ hk => hk.2) (.slice Ao47 t520.length co47)) (fun _ h_ => h_.1))) hb) (Kd.S_base ho0)) (Kd.R_base ho1)) (fun _ h_ => h_.1)); replace HO525 := Aside0.mk (Kd.R_elder' (rX (Kd.R_mono (Kd.R_far (p := ⟨gb527, 1, none⟩) (Kd.R_far (p := ⟨gb527, 0, none⟩) (Kd.R_types HO525.out BK527.out (by decide)) (fun _ hk => hk.2) (.int .i64 t519)) (fun _ hk => hk.2) (.slice Ao47 t520.length co47)) (fun _ h_ => h_.1))) (Kd.R_base ho1) hb); replace BK502 := Aside0.mk (blk_below (g := gb502) (o := .cells #[.int .i64 a0_0, .slice A0_1 l0_1.length c0_1] 24 (0, 0)) (by (with_reducible repeat (first | refine blk_drewN ?_ _ | refine blk_drew ?_ | refine blk_alloc ?_ _)); refine blk_far ?_ NB502_527.out _; (with_reducible repeat (first | refine blk_drewN ?_ _ | refine blk_drew ?_ | refine blk_alloc ?_ _)); refine blk_far ?_ NB502_527.out _; (with_reducible repeat (first | refine blk_drewN ?_ _ | refine blk_drew ?_ | refine blk_alloc ?_ _)); exact BK502.out) hb); replace BK527 := Aside0.mk (blk_below (g := gb527) (o := .cells #[.int .i64 t519, .slice Ao47 t520.length co47] 24 (0, 0)) (by (with_reducible repeat (first | refine blk_drewN ?_ _ | refine blk_drew ?_ | refine blk_alloc ?_ _)); refine blk_put (cs := #[.int .i64 t519, .slice none 0 0]) ?_ 1 _ rfl; (with_reducible repeat (first | refine blk_drewN ?_ _ | refine blk_drew ?_ | refine blk_alloc ?_ _)); refine blk_put (cs := #[.int .i64 0, .slice none 0 0]) ?_ 0 _ rfl; (with_reducible repeat (first | refine blk_drewN ?_ _ | refine blk_drew ?_ | refine blk_alloc ?_ _)); exact BK527.out) hb); replace HB := Aside0.mk (below_step pB hb); (try clear hb); (try clear hb2); (try clear hk); (try clear hi); (try clear ho0); (try clear ho1)) | ((with_reducible refine gate_dst (N := 11) rfl ?_); (try (refine gate_guard (by rfl) ?_; dsimp only)); refine box_event ?hg (N := 11) ?hd (cs := #[.int .i64 0, .slice none 0 0]) (t := 24) ?hr ?_; (case hd => rfl); (case hg => rfl); (case hr => first | (go_simp; done) | (go_simp; rfl)); intro gb536 hg w51 hbox hb; have BK536 := Aside0.mk (hbox); have GW536 := Aside0.mk (gW hg : w.heap.size ≤ gb536); have GE536 := Aside0.mk (gW hg : w.heap.size ≤ gb536); have NB502_536 := Aside0.mk (nL hg BK502 : gb502 ≠ gb536); have NB536_502 := Aside0.mk (nG hg BK502 : gb536 ≠ gb502); have NB527_536 := Aside0.mk (nL hg BK527 : gb527 ≠ gb536); have NB536_527 := Aside0.mk (nG hg BK527 : gb536 ≠ gb527); replace HO515 := Aside0.mk (Kd.R_below (rX HO515.out) hb); replace HO518 := Aside0.mk (Kd.R_below (rX HO518.out) hb); replace HO522 := Aside0.mk (Kd.S_below (by (with_reducible repeat (first | apply Kd.S_alloc | apply Kd.S_drewN | apply Kd.S_drew)); exact HO522.out) hb); replace HO525 := Aside0.mk (Kd.R_below (rX HO525.out) hb); replace HO531 := Aside0.mk (Kd.S_below (by (with_reducible repeat (first | apply Kd.S_alloc | apply Kd.S_drewN | apply Kd.S_drew)); exact HO531.out) hb); replace HO534 := Aside0.mk (Kd.R_below (rX HO534.out) hb); replace BK502 := Aside0.mk (kB BK502 hb); replace BK527 := Aside0.mk (kB BK527 hb); replace HB := Aside0.mk (below_step pB hb); clear hb hbox hg; have hnb52 := NB536_502.out; have hnc52 := NB502_536.out; have hnb53 := NB536_527.out; have hnc53 := NB527_536.out; obtain ⟨hcz54_0, hcz54_1, hfz54_0, hfz54_1⟩ := bk2 BK536; obtain ⟨Ao55, co55, eo55⟩ := Kd.S_slice HO531.out; subst eo55))
        (try simp only [Act.put, List.setIfInBounds_toArray, List.set_cons_zero, List.set_cons_succ])
        go_cut [72] (fun v72 wc => ∃ (kq : Nat) (x72_30 : Bool), v72 = .bool x72_30 ∧ Aside0 (papermilllaw19_PipeKinds.j1 kq l1 l2 t523 t526 t532 t535 x72_30 a0_0 l0_1 t519 t520 t528 t529 = some r) ∧ Aside0 (kq ≤ kj3) ∧ Aside0 (Kd.R (Kd.int .i64) 3 wc w.heap.size (fun k_ => some k_ ≠ (v533 : Value).ownBlock) v524 t523) ∧ Aside0 (Kd.R (Kd.int .i64) 3 wc w.heap.size (fun k_ => some k_ ≠ (v524 : Value).ownBlock) v533 t532) ∧ Aside0 (Kd.S (Kd.slice 3 (Kd.int .i64)) 29 wc w.heap.size (fun k_ => some k_ ≠ (v524 : Value).ownBlock ∧ some k_ ≠ (v533 : Value).ownBlock ∧ some k_ ≠ ((.slice Ao55 t529.length co55) : Value).ownBlock) (.slice Ao47 t520.length co47) t520) ∧ Aside0 (Kd.S (Kd.slice 3 (Kd.int .i64)) 29 wc w.heap.size (fun k_ => some k_ ≠ (v524 : Value).ownBlock ∧ some k_ ≠ (v533 : Value).ownBlock ∧ some k_ ≠ ((.slice Ao47 t520.length co47) : Value).ownBlock) (.slice Ao55 t529.length co55) t529) ∧ Aside0 (wc.heap[gb502]? = some (.cells #[.int .i64 a0_0, (.slice A0_1 l0_1.length c0_1)] 24 (0, 0))) ∧ Aside0 (wc.heap[gb527]? = some (.cells #[.int .i64 t519, (.slice Ao47 t520.length co47)] 24 (0, 0))) ∧ Aside0 (wc.heap[gb536]? = some (.cells #[.int .i64 t528, (.slice Ao55 t529.length co55)] 24 (0, 0))) ∧ Aside0 (Below w.heap.size w wc))
        case first =>
         have H := HC31.out
         clear HC31
         by_cases c56 : t526 = 0
         ·rw [if_pos c56] at H
          have c56b0 : (t526 == 0) = true := beq_iff_eq.mpr c56
          have c56b1 : (t526 != 0) = false := bne_eq_false_iff_eq.mpr c56
          clear c56
          (first | rw [c56b0] | (simp only [i64_w, i32_w]; rw [c56b0]) | skip)
          have H' := Aside0.mk H
          clear H
          go_wp2
          go_meet
          case rel => exact ⟨_, ((t535 != 0)), (by first | rfl | (simp; done) | (simp [*]; done)), H', ⟨by have := HJ3.out; first | omega | exact Nat.le_refl _⟩, ⟨by (with_reducible repeat (first | apply Kd.R_alloc | apply Kd.R_drewN | apply Kd.R_drew)); exact Kd.R_mono (Kd.R_far (p := ⟨gb536, 1, none⟩) (Kd.R_far (p := ⟨gb536, 0, none⟩) (Kd.R_types HO525.out BK536.out (by decide)) (fun _ hk => hk.2) (.int .i64 t528)) (fun _ hk => hk.2) (.slice Ao55 t529.length co55)) (fun _ hk => hk.1.2)⟩, ⟨by (with_reducible repeat (first | apply Kd.R_alloc | apply Kd.R_drewN | apply Kd.R_drew)); exact Kd.R_mono (Kd.R_far (p := ⟨gb536, 1, none⟩) (Kd.R_far (p := ⟨gb536, 0, none⟩) (Kd.R_types HO534.out BK536.out (by decide)) (fun _ hk => hk.2) (.int .i64 t528)) (fun _ hk => hk.2) (.slice Ao55 t529.length co55)) (fun _ hk => hk.1.2)⟩, ⟨by (with_reducible repeat (first | apply Kd.S_alloc | apply Kd.S_drewN | apply Kd.S_drew)); exact Kd.S_mono (Kd.S_far (p := ⟨gb536, 1, none⟩) (Kd.S_far (p := ⟨gb536, 0, none⟩) (Kd.S_types HO522.out BK536.out (by decide)) (fun _ hk => hk.2) (.int .i64 t528)) (fun _ hk => hk.2) (.slice Ao55 t529.length co55)) (fun _ hk => ⟨hk.1.1.1.1.1, ⟨hk.1.2, hk.1.1.2⟩⟩)⟩, ⟨by (with_reducible repeat (first | apply Kd.S_alloc | apply Kd.S_drewN | apply Kd.S_drew)); exact Kd.S_mono (Kd.S_far (p := ⟨gb536, 1, none⟩) (Kd.S_far (p := ⟨gb536, 0, none⟩) (Kd.S_types HO531.out BK536.out (by decide)) (fun _ hk => hk.2) (.int .i64 t528)) (fun _ hk => hk.2) (.slice Ao55 t529.length co55)) (fun _ hk => ⟨hk.1.2, ⟨hk.1.1.1.1.1, hk.1.1.2⟩⟩)⟩, ⟨by (with_reducible repeat (first | refine blk_drewN ?_ _ | refine blk_drew ?_ | refine blk_alloc ?_ _)); refine blk_far ?_ NB502_536.out _; (with_reducible repeat (first | refine blk_drewN ?_ _ | refine blk_drew ?_ | refine blk_alloc ?_ _)); refine blk_far ?_ NB502_536.out _; (with_reducible repeat (first | refine blk_drewN ?_ _ | refine blk_drew ?_ | refine blk_alloc ?_ _)); exact BK502.out⟩, ⟨by (with_reducible repeat (first | refine blk_drewN ?_ _ | refine blk_drew ?_ | refine blk_alloc ?_ _)); refine blk_far ?_ NB527_536.out _; (with_reducible repeat (first | refine blk_drewN ?_ _ | refine blk_drew ?_ | refine blk_alloc ?_ _)); refine blk_far ?_ NB527_536.out _; (with_reducible repeat (first | refine blk_drewN ?_ _ | refine blk_drew ?_ | refine blk_alloc ?_ _)); exact BK527.out⟩, ⟨by (with_reducible repeat (first | refine blk_drewN ?_ _ | refine blk_drew ?_ | refine blk_alloc ?_ _)); refine blk_put (cs := #[.int .i64 t528, .slice none 0 0]) ?_ 1 _ rfl; (with_reducible repeat (first | refine blk_drewN ?_ _ | refine blk_drew ?_ | refine blk_alloc ?_ _)); refine blk_put (cs := #[.int .i64 0, .slice none 0 0]) ?_ 0 _ rfl; (with_reducible repeat (first | refine blk_drewN ?_ _ | refine blk_drew ?_ | refine blk_alloc ?_ _)); exact BK536.out⟩, ⟨pB⟩⟩
         ·rw [if_neg c56] at H
          have c56b0 : (t526 == 0) = false := beq_eq_false_iff_ne.mpr c56
          have c56b1 : (t526 != 0) = true := bne_iff_ne.mpr c56
          (first | rw [c56b0] | (simp only [i64_w, i32_w]; rw [c56b0]) | skip)
          have H' := Aside0.mk H
          clear H
          go_wp2
          go_meet
          case rel => exact ⟨_, (true), (by first | rfl | (simp; done) | (simp [*]; done)), H', ⟨by have := HJ3.out; first | omega | exact Nat.le_refl _⟩, ⟨by (with_reducible repeat (first | apply Kd.R_alloc | apply Kd.R_drewN | apply Kd.R_drew)); exact Kd.R_mono (Kd.R_far (p := ⟨gb536, 1, none⟩) (Kd.R_far (p := ⟨gb536, 0, none⟩) (Kd.R_types HO525.out BK536.out (by decide)) (fun _ hk => hk.2) (.int .i64 t528)) (fun _ hk => hk.2) (.slice Ao55 t529.length co55)) (fun _ hk => hk.1.2)⟩, ⟨by (with_reducible repeat (first | apply Kd.R_alloc | apply Kd.R_drewN | apply Kd.R_drew)); exact Kd.R_mono (Kd.R_far (p := ⟨gb536, 1, none⟩) (Kd.R_far (p := ⟨gb536, 0, none⟩) (Kd.R_types HO534.out BK536.out (by decide)) (fun _ hk => hk.2) (.int .i64 t528)) (fun _ hk => hk.2) (.slice Ao55 t529.length co55)) (fun _ hk => hk.1.2)⟩, ⟨by (with_reducible repeat (first | apply Kd.S_alloc | apply Kd.S_drewN | apply Kd.S_drew)); exact Kd.S_mono (Kd.S_far (p := ⟨gb536, 1, none⟩) (Kd.S_far (p := ⟨gb536, 0, none⟩) (Kd.S_types HO522.out BK536.out (by decide)) (fun _ hk => hk.2) (.int .i64 t528)) (fun _ hk => hk.2) (.slice Ao55 t529.length co55)) (fun _ hk => ⟨hk.1.1.1.1.1, ⟨hk.1.2, hk.1.1.2⟩⟩)⟩, ⟨by (with_reducible repeat (first | apply Kd.S_alloc | apply Kd.S_drewN | apply Kd.S_drew)); exact Kd.S_mono (Kd.S_far (p := ⟨gb536, 1, none⟩) (Kd.S_far (p := ⟨gb536, 0, none⟩) (Kd.S_types HO531.out BK536.out (by decide)) (fun _ hk => hk.2) (.int .i64 t528)) (fun _ hk => hk.2) (.slice Ao55 t529.length co55)) (fun _ hk => ⟨hk.1.2, ⟨hk.1.1.1.1.1, hk.1.1.2⟩⟩)⟩, ⟨by (with_reducible repeat (first | refine blk_drewN ?_ _ | refine blk_drew ?_ | refine blk_alloc ?_ _)); refine blk_far ?_ NB502_536.out _; (with_reducible repeat (first | refine blk_drewN ?_ _ | refine blk_drew ?_ | refine blk_alloc ?_ _)); refine blk_far ?_ NB502_536.out _; (with_reducible repeat (first | refine blk_drewN ?_ _ | refine blk_drew ?_ | refine blk_alloc ?_ _)); exact BK502.out⟩, ⟨by (with_reducible repeat (first | refine blk_drewN ?_ _ | refine blk_drew ?_ | refine blk_alloc ?_ _)); refine blk_far ?_ NB527_536.out _; (with_reducible repeat (first | refine blk_drewN ?_ _ | refine blk_drew ?_ | refine blk_alloc ?_ _)); refine blk_far ?_ NB527_536.out _; (with_reducible repeat (first | refine blk_drewN ?_ _ | refine blk_drew ?_ | refine blk_alloc ?_ _)); exact BK527.out⟩, ⟨by (with_reducible repeat (first | refine blk_drewN ?_ _ | refine blk_drew ?_ | refine blk_alloc ?_ _)); refine blk_put (cs := #[.int .i64 t528, .slice none 0 0]) ?_ 1 _ rfl; (with_reducible repeat (first | refine blk_drewN ?_ _ | refine blk_drew ?_ | refine blk_alloc ?_ _)); refine blk_put (cs := #[.int .i64 0, .slice none 0 0]) ?_ 0 _ rfl; (with_reducible repeat (first | refine blk_drewN ?_ _ | refine blk_drew ?_ | refine blk_alloc ?_ _)); exact BK536.out⟩, ⟨pB⟩⟩
        case rest => as_aux_lemma =>
         clear HC31
         try clear c1
         try clear c2
         try clear p2
         try clear c4
         try clear c5
         try clear p5
         try clear q5
         try clear hx5
         try clear qi5
         try clear c6
         try clear c7
         try clear c10
         try clear c10b0
         try clear c10b1
         try clear c11
         try clear c12
         try clear c13
         try clear c13b0
         try clear c13b1
         try clear c16
         try clear c16b0
         try clear c16b1
         try clear c16b2
         try clear c18
         try clear c22
         try clear c25
         try clear c25b0
         try clear c25b1
         try clear c26
         try clear c27
         try clear c27b0
         try clear c27b1
         try clear c28
         try clear c45
         try clear p51
         try clear q51
         try clear hx51
         try clear qi51
         try clear c52
         try clear c53
         try clear c56
         try clear c56b0
         try clear c56b1
         try clear hcz11_0
         try clear hcz11_1
         try clear hcz14_0
         try clear hcz14_1
         try clear hcz17_0
         try clear hcz17_1
         try clear hcz19_0
         try clear hcz19_1
         try clear hcz21_0
         try clear hcz21_1
         try clear hcz42_0
         try clear hcz42_1
         try clear hcz46_0
         try clear hcz46_1
         try clear hcz48_0
         try clear hcz48_1
         try clear hcz54_0
         try clear hcz54_1
         try clear hcz8_0
         try clear hcz8_1
         try clear hfz11_0
         try clear hfz11_1
         try clear hfz14_0
         try clear hfz14_1
         try clear hfz17_0
         try clear hfz17_1
         try clear hfz19_0
         try clear hfz19_1
         try clear hfz21_0
         try clear hfz21_1
         try clear hfz42_0
         try clear hfz42_1
         try clear hfz46_0
         try clear hfz46_1
         try clear hfz48_0
         try clear hfz48_1
         try clear hfz54_0
         try clear hfz54_1
         try clear hfz8_0
         try clear hfz8_1
         try clear hx512_0
         try clear p2
         try clear p512
         try clear q512
         obtain ⟨kq, x72_30, rfl, HA, HJ30, HO_9, HO_12, HO_528001, HO_537001, BK502, BK527, BK536, HB⟩ := hcut
         cases kq with
         | zero => exact absurd HA.out (by simp [papermilllaw19_PipeKinds.j1])
         | succ kj30 =>
          have H := HA.out
          clear HA
          simp only [papermilllaw19_PipeKinds.j1] at H
          by_cases c57 : x72_30 = true
          ·subst c57
           have H1 : (if t526 = t535 then ((papermilllaw19_awake.f kj30).bind fun t537 => (some t537)) else (none)) = some r := by rw [if_pos rfl] at H; exact H
           clear H
           have H := H1
           clear H1
           by_cases c58 : t526 = t535
           ·rw [if_pos c58] at H
            have c58b0 : (t526 == t535) = true := beq_iff_eq.mpr c58
            have c58b1 : (t526 != t535) = false := bne_eq_false_iff_eq.mpr c58
            clear c58
            replace H := Option.bind_eq_some_iff.mp H
            obtain ⟨t537, A590, H⟩ := H
            replace H : (some t537) = some r := H
            have A59 := Aside0.mk A590
            clear A590
            obtain rfl := Option.some.inj H
            go_wp2_with (first | (go_at_call 12; (with_reducible refine (papermilllaw19_awake.calls kj30  t537 _ A59.out).mono ?_); rintro e w60 ⟨rfl, hb⟩; replace HO_9 := Aside0.mk (Kd.R_below (rX HO_9.out) hb); replace HO_12 := Aside0.mk (Kd.R_below (rX HO_12.out) hb); replace HO_528001 := Aside0.mk (Kd.S_below (by (with_reducible repeat (first | apply Kd.S_alloc | apply Kd.S_drewN | apply Kd.S_drew)); exact HO_528001.out) hb); replace HO_537001 := Aside0.mk (Kd.S_below (by (with_reducible repeat (first | apply Kd.S_alloc | apply Kd.S_drewN | apply Kd.S_drew)); exact HO_537001.out) hb); replace BK502 := Aside0.mk (kB BK502 hb); replace BK527 := Aside0.mk (kB BK527 hb); replace BK536 := Aside0.mk (kB BK536 hb); replace HB := Aside0.mk (below_step pB hb); (try clear hb); (try clear hb2); (try clear hk); (try clear hi)))
            go_ret
            exact ⟨by first | rfl | (simp [errW_none, errW_some] <;> rfl) | (simp [*, errW_none, errW_some] <;> rfl), pB⟩
           ·rw [if_neg c58] at H
            exact absurd H (by simp)
          ·replace c57 := Bool.eq_false_iff.mpr c57
           subst c57
           have H1 : ((pipe_Push.f kj30 t519 t520 l2).bind fun bt538 => ((pipe_Push.f kj30 t528 t529 l2).bind fun bt547 => ((papermillref16_Same.f kj30 t523 t532).bind fun t556 => (if t556 = true then (papermilllaw19_PipeKinds.j2 kj30 l1 l2 bt538.2.2.1 bt538.2.2.2 bt547.2.2.1 (bt538.2.2.2 != bt547.2.2.2) a0_0 l0_1) else (papermilllaw19_PipeKinds.j2 kj30 l1 l2 bt538.2.2.1 bt538.2.2.2 bt547.2.2.1 true a0_0 l0_1))))) = some r := by rw [if_neg (show ¬ (false = true) by decide)] at H; exact H
           clear H
           have H := H1
           clear H1
           replace H := Option.bind_eq_some_iff.mp H
           obtain ⟨⟨t538, t539, t542, t545⟩, A610, H⟩ := H
           replace H : ((pipe_Push.f kj30 t528 t529 l2).bind fun bt547 => ((papermillref16_Same.f kj30 t523 t532).bind fun t556 => (if t556 = true then (papermilllaw19_PipeKinds.j2 kj30 l1 l2 t542 t545 bt547.2.2.1 (t545 != bt547.2.2.2) a0_0 l0_1) else (papermilllaw19_PipeKinds.j2 kj30 l1 l2 t542 t545 bt547.2.2.1 true a0_0 l0_1)))) = some r := H
           have A61 := Aside0.mk A610
           clear A610
           replace H := Option.bind_eq_some_iff.mp H
           obtain ⟨⟨t547, t548, t551, t554⟩, A620, H⟩ := H
           replace H : ((papermillref16_Same.f kj30 t523 t532).bind fun t556 => (if t556 = true then (papermilllaw19_PipeKinds.j2 kj30 l1 l2 t542 t545 t551 (t545 != t554) a0_0 l0_1) else (papermilllaw19_PipeKinds.j2 kj30 l1 l2 t542 t545 t551 true a0_0 l0_1))) = some r := H
           have A62 := Aside0.mk A620
           clear A620
           have HC63 := Aside0.mk H
           clear H
           have hnb64 := NB527_502.out
           have hnc64 := NB502_527.out
           have hnb65 := NB527_536.out
           have hnc65 := NB536_527.out
           obtain ⟨hcz66_0, hcz66_1, hfz66_0, hfz66_1⟩ := bk2 BK527
           go_upto_region 10 with (first | ((with_reducible refine gate_callee (f := 18) rfl ?_); refine goesL_ (some 82) rfl rfl Try.func18 (by kernel_rfl) rfl #[.agg #[.int .i64 t519, .slice Ao47 t520.length co47], .slice A2 l2.length c2] rfl mA ?_; (with_reducible refine (pipe_Push.calls kj30 t519 _ _ t520 _ _ l2 t538 t539 t542 t545 _ ?side1 ?side2 ?side3 ?side4 A61.out).mono ?_); (case side1 => repeat (first | exact (Kd.S_reads' HO_528001.out).2.2 | (with_reducible refine Kd.C_alloc ?_ _) | (with_reducible refine Kd.C_drewN ?_ _) | (with_reducible refine Kd.C_drew ?_))); (case side2 => exact (Kd.S_reads' HO_528001.out).2.1); (case side3 => repeat (first | exact (Kd.C_below HR2.out HB.out) | (with_reducible refine Kd.C_alloc ?_ _) | (with_reducible refine Kd.C_drewN ?_ _) | (with_reducible refine Kd.C_drew ?_))); (case side4 => exact HC2.out); rintro e w67 ⟨v540, v543, rfl, ho0, ho1, hb⟩; refine ⟨_, rfl, ?_⟩; have HO541 := Aside0.mk (Kd.S_lower (Kd.S_new' (Kd.S_new' (Kd.S_new' (Kd.S_new' ho0 (Kd.R_lt (rX HO_9.out))) (Kd.R_lt (rX HO_12.out))) (Kd.S_lt (by (with_reducible repeat (first | apply Kd.S_alloc | apply Kd.S_drewN | apply Kd.S_drew)); exact HO_528001.out))) (Kd.S_lt (by (with_reducible repeat (first | apply Kd.S_alloc | apply Kd.S_drewN | apply Kd.S_drew)); exact HO_537001.out))) (below_size pB)); have HO544 := Aside0.mk (Kd.R_lower (Kd.R_new' (Kd.R_new' ho1 (Kd.R_lt (rX HO_9.out))) (Kd.R_lt (rX HO_12.out))) (below_size pB)); replace HO_9 := Aside0.mk (Kd.R_elder' (rX HO_9.out) (Kd.R_base ho1) hb); replace HO_12 := Aside0.mk (Kd.R_elder' (rX HO_12.out) (Kd.R_base ho1) hb); replace HO_528001 := Aside0.mk (Kd.S_mono (Kd.S_told (Kd.S_told (Kd.S_old (by (with_reducible repeat (first | apply Kd.S_alloc | apply Kd.S_drewN | apply Kd.S_drew)); exact HO_528001.out) hb) (Kd.S_base ho0)) (Kd.R_base ho1)) (fun _ h_ => h_.1)); replace HO_537001 := Aside0.mk (Kd.S_mono (Kd.S_told (Kd.S_told (Kd.S_old (by (with_reducible repeat (first | apply Kd.S_alloc | apply Kd.S_drewN | apply Kd.S_drew)); exact HO_537001.out) hb) (Kd.S_base ho0)) (Kd.R_base ho1)) (fun _ h_ => h_.1)); replace BK502 := Aside0.mk (kB BK502 hb); replace BK527 := Aside0.mk (kB BK527 hb); replace BK536 := Aside0.mk (kB BK536 hb); replace HB := Aside0.mk (below_step pB hb); (try clear hb); (try clear hb2); (try clear hk); (try clear hi); (try clear ho0); (try clear ho1)) | ((with_reducible refine gate_dst (N := 14) rfl ?_); (try (refine gate_guard (by rfl) ?_; dsimp only)); refine box_event ?hg (N := 14) ?hd (cs := #[.int .i64 0, .slice none 0 0]) (t := 24) ?hr ?_; (case hd => rfl); (case hg => rfl); (case hr => first | (go_simp; done) | (go_simp; rfl)); intro gb546 hg w68 hbox hb; have BK546 := Aside0.mk (hbox); have GW546 := Aside0.mk (gW hg : w.heap.size ≤ gb546); have GE546 := Aside0.mk (gW hg : w.heap.size ≤ gb546); have NB502_546 := Aside0.mk (nL hg BK502 : gb502 ≠ gb546); have NB546_502 := Aside0.mk (nG hg BK502 : gb546 ≠ gb502); have NB527_546 := Aside0.mk (nL hg BK527 : gb527 ≠ gb546); have NB546_527 := Aside0.mk (nG hg BK527 : gb546 ≠ gb527); have NB536_546 := Aside0.mk (nL hg BK536 : gb536 ≠ gb546); have NB546_536 := Aside0.mk (nG hg BK536 : gb546 ≠ gb536); replace HO_9 := Aside0.mk (Kd.R_below (rX HO_9.out) hb); replace HO_12 := Aside0.mk (Kd.R_below (rX HO_12.out) hb); replace HO_528001 := Aside0.mk (Kd.S_below (by (with_reducible repeat (first | apply Kd.S_alloc | apply Kd.S_drewN | apply Kd.S_drew)); exact HO_528001.out) hb); replace HO_537001 := Aside0.mk (Kd.S_below (by (with_reducible repeat (first | apply Kd.S_alloc | apply Kd.S_drewN | apply Kd.S_drew)); exact HO_537001.out) hb); replace HO541 := Aside0.mk (Kd.S_below (by (with_reducible repeat (first | apply Kd.S_alloc | apply Kd.S_drewN | apply Kd.S_drew)); exact HO541.out) hb); replace HO544 := Aside0.mk (Kd.R_below (rX HO544.out) hb); replace BK502 := Aside0.mk (kB BK502 hb); replace BK527 := Aside0.mk (kB BK527 hb); replace BK536 := Aside0.mk (kB BK536 hb); replace HB := Aside0.mk (below_step pB hb); clear hb hbox hg; have hnb69 := NB546_502.out; have hnc69 := NB502_546.out; have hnb70 := NB546_527.out; have hnc70 := NB527_546.out; have hnb71 := NB546_536.out; have hnc71 := NB536_546.out; obtain ⟨hcz72_0, hcz72_1, hfz72_0, hfz72_1⟩ := bk2 BK546; obtain ⟨Ao73, co73, eo73⟩ := Kd.S_slice HO541.out; subst eo73; have hnb74 := NB536_502.out; have hnc74 := NB502_536.out; obtain ⟨hcz75_0, hcz75_1, hfz75_0, hfz75_1⟩ := bk2 BK536) | ((with_reducible refine gate_callee (f := 18) rfl ?_); refine goesL_ (some 89) rfl rfl Try.func18 (by kernel_rfl) rfl #[.agg #[.int .i64 t528, .slice Ao55 t529.length co55], .slice A2 l2.length c2] rfl mA ?_; (with_reducible refine (pipe_Push.calls kj30 t528 _ _ t529 _ _ l2 t547 t548 t551 t554 _ ?side1 ?side2 ?side3 ?side4 A62.out).mono ?_); (case side1 => refine (Kd.S_reads' (e := 29) (base := w.heap.size) (ok := fun k_ => (((some k_ ≠ (v524 : Value).ownBlock ∧ (some k_ ≠ (v533 : Value).ownBlock ∧ some k_ ≠ (.slice Ao47 t520.length co47 : Value).ownBlock)) ∧ some k_ ≠ (.slice Ao73 t539.length co73 : Value).ownBlock) ∧ some k_ ≠ (v543 : Value).ownBlock)) (n := t529.length) (c := co55) ?_).2.2; exact (by (with_reducible repeat (first | apply Kd.S_alloc | apply Kd.S_drewN | apply Kd.S_drew)); exact (Kd.S_mono (Kd.S_far (p := ⟨gb546, 1, none⟩) (Kd.S_far (p := ⟨gb546, 0, none⟩) (Kd.S_types HO_537001.out BK546.out (by decide)) (fun _ hk => hk.2) (.int .i64 t538)) (fun _ hk => hk.2) (.slice Ao73 t539.length co73)) (fun _ h_ => h_.1)))); (case side2 => exact (Kd.S_reads' HO_537001.out).2.1); (case side3 => exact Kd.C_below HR2.out pB); (case side4 => exact HC2.out); rintro e w76 ⟨v549, v552, rfl, ho0, ho1, hb⟩; refine ⟨_, rfl, ?_⟩; have HO550 := Aside0.mk (Kd.S_lower (Kd.S_new' (Kd.S_new' (Kd.S_new' (Kd.S_new' (Kd.S_new' (Kd.S_new' ho0 (Kd.R_lt (rX (Kd.R_mono (Kd.R_far (p := ⟨gb546, 1, none⟩) (Kd.R_far (p := ⟨gb546, 0, none⟩) (Kd.R_types HO_9.out BK546.out (by decide)) (fun _ hk => hk.2) (.int .i64 t538)) (fun _ hk => hk.2) (.slice Ao73 t539.length co73)) (fun _ h_ => h_.1))))) (Kd.R_lt (rX (Kd.R_mono (Kd.R_far (p := ⟨gb546, 1, none⟩) (Kd.R_far (p := ⟨gb546, 0, none⟩) (Kd.R_types HO_12.out BK546.out (by decide)) (fun _ hk => hk.2) (.int .i64 t538)) (fun _ hk => hk.2) (.slice Ao73 t539.length co73)) (fun _ h_ => h_.1))))) (Kd.S_lt (by (with_reducible repeat (first | apply Kd.S_alloc | apply Kd.S_drewN | apply Kd.S_drew)); exact (Kd.S_mono (Kd.S_far (p := ⟨gb546, 1, none⟩) (Kd.S_far (p := ⟨gb546, 0, none⟩) (Kd.S_types HO_528001.out BK546.out (by decide)) (fun _ hk => hk.2) (.int .i64 t538)) (fun _ hk => hk.2) (.slice Ao73 t539.length co73)) (fun _ h_ => h_.1))))) (Kd.S_lt (by (with_reducible repeat (first | apply Kd.S_alloc | apply Kd.S_drewN | apply Kd.S_drew)); exact (Kd.S_mono (Kd.S_far (p := ⟨gb546, 1, none⟩) (Kd.S_far (p := ⟨gb546, 0, none⟩) (Kd.S_types HO_537001.out BK546.out (by decide)) (fun _ hk => hk.2) (.int .i64 t538)) (fun _ hk => hk.2) (.slice Ao73 t539.length co73)) (fun _ h_ => h_.1))))) (Kd.S_lt (by (with_reducible repeat (first | apply Kd.S_alloc | apply Kd.S_drewN | apply Kd.S_drew)); exact (Kd.S_mono (Kd.S_far (p := ⟨gb546, 1, none⟩) (Kd.S_far (p := ⟨gb546, 0, none⟩) (Kd.S_types HO541.out BK546.out (by decide)) (fun _ hk => hk.2) (.int .i64 t538)) (fun _ hk => hk.2) (.slice Ao73 t539.length co73)) (fun _ h_ => h_.1))))) (Kd.R_lt (rX (Kd.R_mono (Kd.R_far (p := ⟨gb546, 1, none⟩) (Kd.R_far (p := ⟨gb546, 0, none⟩) (Kd.R_types HO544.out BK546.out (by decide)) (fun _ hk => hk.2) (.int .i64 t538)) (fun _ hk => hk.2) (.slice Ao73 t539.length co73)) (fun _ h_ => h_.1))))) (below_size pB)); have HO553 := Aside0.mk (Kd.R_lower (Kd.R_new' (Kd.R_new' (Kd.R_new' ho1 (Kd.R_lt (rX (Kd.R_mono (Kd.R_far (p := ⟨gb546, 1, none⟩) (Kd.R_far (p := ⟨gb546, 0, none⟩) (Kd.R_types HO_9.out BK546.out (by decide)) (fun _ hk => hk.2) (.int .i64 t538)) (fun _ hk => hk.2) (.slice Ao73 t539.length co73)) (fun _ h_ => h_.1))))) (Kd.R_lt (rX (Kd.R_mono (Kd.R_far (p := ⟨gb546, 1, none⟩) (Kd.R_far (p := ⟨gb546, 0, none⟩) (Kd.R_types HO_12.out BK546.out (by decide)) (fun _ hk => hk.2) (.int .i64 t538)) (fun _ hk => hk.2) (.slice Ao73 t539.length co73)) (fun _ h_ => h_.1))))) (Kd.R_lt (rX (Kd.R_mono (Kd.R_far (p := ⟨gb546, 1, none⟩) (Kd.R_far (p := ⟨gb546, 0, none⟩) (Kd.R_types HO544.out BK546.out (by decide)) (fun _ hk => hk.2) (.int .i64 t538)) (fun _ hk => hk.2) (.slice Ao73 t539.length co73)) (fun _ h_ => h_.1))))) (below_size pB)); replace HO_9 := Aside0.mk (Kd.R_elder' (rX (Kd.R_mono (Kd.R_far (p := ⟨gb546, 1, none⟩) (Kd.R_far (p := ⟨gb546, 0, none⟩) (Kd.R_types HO_9.out BK546.out (by decide)) (fun _ hk => hk.2) (.int .i64 t538)) (fun _ hk => hk.2) (.slice Ao73 t539.length co73)) (fun _ h_ => h_.1))) (Kd.R_base ho1) hb); replace HO_12 := Aside0.mk (Kd.R_elder' (rX (Kd.R_mono (Kd.R_far (p := ⟨gb546, 1, none⟩) (Kd.R_far (p := ⟨gb546, 0, none⟩) (Kd.R_types HO_12.out BK546.out (by decide)) (fun _ hk => hk.2) (.int .i64 t538)) (fun _ hk => hk.2) (.slice Ao73 t539.length co73)) (fun _ h_ => h_.1))) (Kd.R_base ho1) hb); replace HO_528001 := Aside0.mk (Kd.S_mono (Kd.S_told (Kd.S_told (Kd.S_old (by (with_reducible repeat (first | apply Kd.S_alloc | apply Kd.S_drewN | apply Kd.S_drew)); exact (Kd.S_mono (Kd.S_far (p := ⟨gb546, 1, none⟩) (Kd.S_far (p := ⟨gb546, 0, none⟩) (Kd.S_types HO_528001.out BK546.out (by decide)) (fun _ hk => hk.2) (.int .i64 t538)) (fun _ hk => hk.2) (.slice Ao73 t539.length co73)) (fun _ h_ => h_.1))) hb) (Kd.S_base ho0)) (Kd.R_base ho1)) (fun _ h_ => h_.1)); replace HO_537001 := Aside0.mk (Kd.S_mono (Kd.S_told (Kd.S_told (Kd.S_old (by (with_reducible repeat (first | apply Kd.S_alloc | apply Kd.S_drewN | apply Kd.S_drew)); exact (Kd.S_mono (Kd.S_far (p := ⟨gb546, 1, none⟩) (Kd.S_far (p := ⟨gb546, 0, none⟩) (Kd.S_types HO_537001.out BK546.out (by decide)) (fun _ hk => hk.2) (.int .i64 t538)) (fun _ hk => hk.2) (.slice Ao73 t539.length co73)) (fun _ h_ => h_.1))) hb) (Kd.S_base ho0)) (Kd.R_base ho1)) (fun _ h_ => h_.1)); replace HO541 := Aside0.mk (Kd.S_mono (Kd.S_told (Kd.S_told (Kd.S_old (by (with_reducible repeat (first | apply Kd.S_alloc | apply Kd.S_drewN | apply Kd.S_drew)); exact (Kd.S_mono (Kd.S_far (p := ⟨gb546, 1, none⟩) (Kd.S_far (p := ⟨gb546, 0, none⟩) (Kd.S_types HO541.out BK546.out (by decide)) (fun _ hk => hk.2) (.int .i64 t538)) (fun _ hk => hk.2) (.slice Ao73 t539.length co73)) (fun _ h_ => h_.1))) hb) (Kd.S_base ho0)) (Kd.R_base ho1)) (fun _ h_ => h_.1)); replace HO544 := Aside0.mk (Kd.R_elder' (rX (Kd.R_mono (Kd.R_far (p := ⟨gb546, 1, none⟩) (Kd.R_far (p := ⟨gb546, 0, none⟩) (Kd.R_types HO544.out BK546.out (by decide)) (fun _ hk => hk.2) (.int .i64 t538)) (fun _ hk => hk.2) (.slice Ao73 t539.length co73)) (fun _ h_ => h_.1))) (Kd.R_base ho1) hb); replace BK502 := Aside0.mk (blk_below (g := gb502) (o := .cells #[.int .i64 a0_0, .slice A0_1 l0_1.length c0_1] 24 (0, 0)) (by (with_reducible repeat (first | refine blk_drewN ?_ _ | refine blk_drew ?_ | refine blk_alloc ?_ _)); refine blk_far ?_ NB502_546.out _; (with_reducible repeat (first | refine blk_drewN ?_ _ | refine blk_drew ?_ | refine blk_alloc ?_ _)); refine blk_far ?_ NB502_546.out _; (with_reducible repeat (first | refine blk_drewN ?_ _ | refine blk_drew ?_ | refine blk_alloc ?_ _)); exact BK502.out) hb); replace BK527 := Aside0.mk (blk_below (g := gb527) (o := .cells #[.int .i64 t519, .slice Ao47 t520.length co47] 24 (0, 0)) (by (with_reducible repeat (first | refine blk_drewN ?_ _ | refine blk_drew ?_ | refine blk_alloc ?_ _)); refine blk_far ?_ NB527_546.out _; (with_reducible repeat (first | refine blk_drewN ?_ _ | refine blk_drew ?_ | refine blk_alloc ?_ _)); refine blk_far ?_ NB527_546.out _; (with_reducible repeat (first | refine blk_drewN ?_ _ | refine blk_drew ?_ | refine blk_alloc ?_ _)); exact BK527.out) hb); replace BK536 := Aside0.mk (blk_below (g := gb536) (o := .cells #[.int .i64 t528, .slice Ao55 t529.length co55] 24 (0, 0)) (by (with_reducible repeat (first | refine blk_drewN ?_ _ | refine blk_drew ?_ | refine blk_alloc ?_ _)); refine blk_far ?_ NB536_546.out _; (with_reducible repeat (first | refine blk_drewN ?_ _ | refine blk_drew ?_ | refine blk_alloc ?_ _)); refine blk_far ?_ NB536_546.out _; (with_reducible repeat (first | refine blk_drewN ?_ _ | refine blk_drew ?_ | refine blk_alloc ?_ _)); exact BK536.out) hb); replace BK546 := Aside0.mk (blk_below (g := gb546) (o := .cells #[.int .i64 t538, .slice Ao73 t539.length co73] 24 (0, 0)) (by (with_reducible repeat (first | refine blk_drewN ?_ _ | refine blk_drew ?_ | refine blk_alloc ?_ _)); refine blk_put (cs := #[.int .i64 t538, .slice none 0 0]) ?_ 1 _ rfl; (with_reducible repeat (first | refine blk_drewN ?_ _ | refine blk_drew ?_ | refine blk_alloc ?_ _)); refine blk_put (cs := #[.int .i64 0, .slice none 0 0]) ?_ 0 _ rfl; (with_reducible repeat (first | refine blk_drewN ?_ _ | refine blk_drew ?_ | refine blk_alloc ?_ _)); exact BK546.out) hb); replace HB := Aside0.mk (below_step pB hb); (try clear hb); (try clear hb2); (try clear hk); (try clear hi); (try clear ho0); (try clear ho1)) | ((with_reducible refine gate_dst (N := 17) rfl ?_); (try (refine gate_guard (by rfl) ?_; dsimp only)); refine box_event ?hg (N := 17) ?hd (cs := #[.int .i64 0, .slice none 0 0]) (t := 24) ?hr ?_; (case hd => rfl); (case hg => rfl); (case hr => first | (go_simp; done) | (go_simp; rfl)); intro gb555 hg w77 hbox hb; have BK555 := Aside0.mk (hbox); have GW555 := Aside0.mk (gW hg : w.heap.size ≤ gb555); have GE555 := Aside0.mk (gW hg : w.heap.size ≤ gb555); have NB502_555 := Aside0.mk (nL hg BK502 : gb502 ≠ gb555); have NB555_502 := Aside0.mk (nG hg BK502 : gb555 ≠ gb502); have NB527_555 := Aside0.mk (nL hg BK527 : gb527 ≠ gb555); have NB555_527 := Aside0.mk (nG hg BK527 : gb555 ≠ gb527); have NB536_555 := Aside0.mk (nL hg BK536 : gb536 ≠ gb555); have NB555_536 := Aside0.mk (nG hg BK536 : gb555 ≠ gb536); have NB546_555 := Aside0.mk (nL hg BK546 : gb546 ≠ gb555); have NB555_546 := Aside0.mk (nG hg BK546 : gb555 ≠ gb546); replace HO_9 := Aside0.mk (Kd.R_below (rX HO_9.out) hb); replace HO_12 := Aside0.mk (Kd.R_below (rX HO_12.out) hb); replace HO_528001 := Aside0.mk (Kd.S_below (by (with_reducible repeat (first | apply Kd.S_alloc | apply Kd.S_drewN | apply Kd.S_drew)); exact HO_528001.out) hb); replace HO_537001 := Aside0.mk (Kd.S_below (by (with_reducible repeat (first | apply Kd.S_alloc | apply Kd.S_drewN | apply Kd.S_drew)); exact HO_537001.out) hb); replace HO541 := Aside0.mk (Kd.S_below (by (with_reducible repeat (first | apply Kd.S_alloc | apply Kd.S_drewN | apply Kd.S_drew)); exact HO541.out) hb); replace HO544 := Aside0.mk (Kd.R_below (rX HO544.out) hb); replace HO550 := Aside0.mk (Kd.S_below (by (with_reducible repeat (first | apply Kd.S_alloc | apply Kd.S_drewN | apply Kd.S_drew)); exact HO550.out) hb); replace HO553 := Aside0.mk (Kd.R_below (rX HO553.out) hb); replace BK502 := Aside0.mk (kB BK502 hb); replace BK527 := Aside0.mk (kB BK527 hb); replace BK536 := Aside0.mk (kB BK536 hb); replace BK546 := Aside0.mk (kB BK546 hb); replace HB := Aside0.mk (below_step pB hb); clear hb hbox hg; have hnb78 := NB555_502.out; have hnc78 := NB502_555.out; have hnb79 := NB555_527.out; have hnc79 := NB527_555.out; have hnb80 := NB555_536.out; have hnc80 := NB536_555.out; have hnb81 := NB555_546.out; have hnc81 := NB546_555.out; obtain ⟨hcz82_0, hcz82_1, hfz82_0, hfz82_1⟩ := bk2 BK555; obtain ⟨Ao83, co83, eo83⟩ := Kd.S_slice HO550.out; subst eo83))
           (try simp only [Act.put, List.setIfInBounds_toArray, List.set_cons_zero, List.set_cons_succ])
           go_cut [101] (fun v101 wc => ∃ (kq : Nat) (x101_62 : Bool), v101 = .bool x101_62 ∧ Aside0 (papermilllaw19_PipeKinds.j2 kq l1 l2 t542 t545 t551 x101_62 a0_0 l0_1 = some r) ∧ Aside0 (kq ≤ kj30) ∧ Aside0 (Kd.R (Kd.int .i64) 3 wc w.heap.size (fun k_ => some k_ ≠ (v552 : Value).ownBlock) v543 t542) ∧ Aside0 (Kd.R (Kd.int .i64) 3 wc w.heap.size (fun k_ => some k_ ≠ (v543 : Value).ownBlock) v552 t551) ∧ Aside0 (Kd.S (Kd.slice 3 (Kd.int .i64)) 29 wc w.heap.size (fun k_ => some k_ ≠ (v543 : Value).ownBlock ∧ some k_ ≠ (v552 : Value).ownBlock ∧ some k_ ≠ ((.slice Ao55 t529.length co55) : Value).ownBlock ∧ some k_ ≠ ((.slice Ao73 t539.length co73) : Value).ownBlock ∧ some k_ ≠ ((.slice Ao83 t548.length co83) : Value).ownBlock) (.slice Ao47 t520.length co47) t520) ∧ Aside0 (Kd.S (Kd.slice 3 (Kd.int .i64)) 29 wc w.heap.size (fun k_ => some k_ ≠ (v543 : Value).ownBlock ∧ some k_ ≠ (v552 : Value).ownBlock ∧ some k_ ≠ ((.slice Ao47 t520.length co47) : Value).ownBlock ∧ some k_ ≠ ((.slice Ao73 t539.length co73) : Value).ownBlock ∧ some k_ ≠ ((.slice Ao83 t548.length co83) : Value).ownBlock) (.slice Ao55 t529.length co55) t529) ∧ Aside0 (Kd.S (Kd.slice 3 (Kd.int .i64)) 29 wc w.heap.size (fun k_ => some k_ ≠ (v543 : Value).ownBlock ∧ some k_ ≠ (v552 : Value).ownBlock ∧ some k_ ≠ ((.slice Ao47 t520.length co47) : Value).ownBlock ∧ some k_ ≠ ((.slice Ao55 t529.length co55) : Value).ownBlock ∧ some k_ ≠ ((.slice Ao83 t548.length co83) : Value).ownBlock) (.slice Ao73 t539.length co73) t539) ∧ Aside0 (Kd.S (Kd.slice 3 (Kd.int .i64)) 29 wc w.heap.size (fun k_ => some k_ ≠ (v543 : Value).ownBlock ∧ some k_ ≠ (v552 : Value).ownBlock ∧ some k_ ≠ ((.slice Ao47 t520.length co47) : Value).ownBlock ∧ some k_ ≠ ((.slice Ao55 t529.length co55) : Value).ownBlock ∧ some k_ ≠ ((.slice Ao73 t539.length co73) : Value).ownBlock) (.slice Ao83 t548.length co83) t548) ∧ Aside0 (wc.heap[gb502]? = some (.cells #[.int .i64 a0_0, (.slice A0_1 l0_1.length c0_1)] 24 (0, 0))) ∧ Aside0 (wc.heap[gb527]? = some (.cells #[.int .i64 t519, (.slice Ao47 t520.length co47)] 24 (0, 0))) ∧ Aside0 (wc.heap[gb536]? = some (.cells #[.int .i64 t528, (.slice Ao55 t529.length co55)] 24 (0, 0))) ∧ Aside0 (wc.heap[gb546]? = some (.cells #[.int .i64 t538, (.slice Ao73 t539.length co73)] 24 (0, 0))) ∧ Aside0 (wc.heap[gb555]? = some (.cells #[.int .i64 t547, (.slice Ao83 t548.length co83)] 24 (0, 0))) ∧ Aside0 (Below w.heap.size w wc))
           case first =>
            have H := HC63.out
            clear HC63
            replace H := Option.bind_eq_some_iff.mp H
            obtain ⟨t556, A840, H⟩ := H
            replace H : (if t556 = true then (papermilllaw19_PipeKinds.j2 kj30 l1 l2 t542 t545 t551 (t545 != t554) a0_0 l0_1) else (papermilllaw19_PipeKinds.j2 kj30 l1 l2 t542 t545 t551 true a0_0 l0_1)) = some r := H
            have A84 := Aside0.mk A840
            clear A840
            by_cases c85 : t556 = true
            ·subst c85
             have H1 : (papermilllaw19_PipeKinds.j2 kj30 l1 l2 t542 t545 t551 (t545 != t554) a0_0 l0_1) = some r := by rw [if_pos rfl] at H; exact H
             clear H
             have H := H1
             clear H1
             have H' := Aside0.mk H
             clear H
             obtain ⟨Ao86, co86, eo86⟩ := Kd.R_slice HO_9.out
             subst eo86
             obtain ⟨Ao87, co87, eo87⟩ := Kd.R_slice HO_12.out
             subst eo87
             go_wp2_with (first | ((with_reducible refine gate_callee (f := 20) rfl ?_); refine goesL_ (some 95) rfl rfl Try.func20 (by kernel_rfl) rfl #[.slice Ao86 t523.length co86, .slice Ao87 t532.length co87] rfl mA ?_; (with_reducible refine (papermillref16_Same.calls kj30 _ _ t523 _ _ t532 true _ ?side1 ?side2 ?side3 ?side4 A84.out).mono ?_); (case side1 => refine (Kd.R_reads' (e := 3) (base := w.heap.size) (ok := fun k_ => ((some k_ ≠ (.slice Ao87 t532.length co87 : Value).ownBlock ∧ some k_ ≠ (v543 : Value).ownBlock) ∧ some k_ ≠ (v552 : Value).ownBlock)) (n := t523.length) (c := co86) ?_).2.2; exact (rX (Kd.R_mono (Kd.R_far (p := ⟨gb555, 1, none⟩) (Kd.R_far (p := ⟨gb555, 0, none⟩) (Kd.R_types HO_9.out BK555.out (by decide)) (fun _ hk => hk.2) (.int .i64 t547)) (fun _ hk => hk.2) (.slice Ao83 t548.length co83)) (fun _ h_ => h_.1)))); (case side2 => exact (Kd.R_reads' HO_9.out).2.1); (case side3 => refine (Kd.R_reads' (e := 3) (base := w.heap.size) (ok := fun k_ => ((some k_ ≠ (.slice Ao86 t523.length co86 : Value).ownBlock ∧ some k_ ≠ (v543 : Value).ownBlock) ∧ some k_ ≠ (v552 : Value).ownBlock)) (n := t532.length) (c := co87) ?_).2.2; exact (rX (Kd.R_mono (Kd.R_far (p := ⟨gb555, 1, none⟩) (Kd.R_far (p := ⟨gb555, 0, none⟩) (Kd.R_types HO_12.out BK555.out (by decide)) (fun _ hk => hk.2) (.int .i64 t547)) (fun _ hk => hk.2) (.slice Ao83 t548.length co83)) (fun _ h_ => h_.1)))); (case side4 => exact (Kd.R_reads' HO_12.out).2.1); rintro e w' ⟨rfl, ⟨nd, rfl⟩⟩; refine ⟨_, rfl, ?_⟩))
             go_meet
             case rel => exact ⟨_, ((t545 != t554)), (by first | rfl | (simp; done) | (simp [*]; done)), H', ⟨by have := HJ3.out; have := HJ30.out; first | omega | exact Nat.le_refl _⟩, ⟨by (with_reducible repeat (first | apply Kd.R_alloc | apply Kd.R_drewN | apply Kd.R_drew)); exact Kd.R_mono (Kd.R_far (p := ⟨gb555, 1, none⟩) (Kd.R_far (p := ⟨gb555, 0, none⟩) (Kd.R_types HO544.out BK555.out (by decide)) (fun _ hk => hk.2) (.int .i64 t547)) (fun _ hk => hk.2) (.slice Ao83 t548.length co83)) (fun _ hk => hk.1.2)⟩, ⟨by (with_reducible repeat (first | apply Kd.R_alloc | apply Kd.R_drewN | apply Kd.R_drew)); exact Kd.R_mono (Kd.R_far (p := ⟨gb555, 1, none⟩) (Kd.R_far (p := ⟨gb555, 0, none⟩) (Kd.R_types HO553.out BK555.out (by decide)) (fun _ hk => hk.2) (.int .i64 t547)) (fun _ hk => hk.2) (.slice Ao83 t548.length co83)) (fun _ hk => hk.1.2)⟩, ⟨by (with_reducible repeat (first | apply Kd.S_alloc | apply Kd.S_drewN | apply Kd.S_drew)); exact Kd.S_mono (Kd.S_far (p := ⟨gb555, 1, none⟩) (Kd.S_far (p := ⟨gb555, 0, none⟩) (Kd.S_types HO_528001.out BK555.out (by decide)) (fun _ hk => hk.2) (.int .i64 t547)) (fun _ hk => hk.2) (.slice Ao83 t548.length co83)) (fun _ hk => ⟨hk.1.1.1.2, ⟨hk.1.2, ⟨hk.1.1.1.1.1.2.2, ⟨hk.1.1.1.1.2, hk.1.1.2⟩⟩⟩⟩)⟩, ⟨by (with_reducible repeat (first | apply Kd.S_alloc | apply Kd.S_drewN | apply Kd.S_drew)); exact Kd.S_mono (Kd.S_far (p := ⟨gb555, 1, none⟩) (Kd.S_far (p := ⟨gb555, 0, none⟩) (Kd.S_types HO_537001.out BK555.out (by decide)) (fun _ hk => hk.2) (.int .i64 t547)) (fun _ hk => hk.2) (.slice Ao83 t548.length co83)) (fun _ hk => ⟨hk.1.1.1.2, ⟨hk.1.2, ⟨hk.1.1.1.1.1.2.2, ⟨hk.1.1.1.1.2, hk.1.1.2⟩⟩⟩⟩)⟩, ⟨by (with_reducible repeat (first | apply Kd.S_alloc | apply Kd.S_drewN | apply Kd.S_drew)); exact Kd.S_mono (Kd.S_far (p := ⟨gb555, 1, none⟩) (Kd.S_far (p := ⟨gb555, 0, none⟩) (Kd.S_types HO541.out BK555.out (by decide)) (fun _ hk => hk.2) (.int .i64 t547)) (fun _ hk => hk.2) (.slice Ao83 t548.length co83)) (fun _ hk => ⟨hk.1.1.1.1.1.1.1, ⟨hk.1.2, ⟨hk.1.1.1.1.2, ⟨hk.1.1.1.2, hk.1.1.2⟩⟩⟩⟩)⟩, ⟨by (with_reducible repeat (first | apply Kd.S_alloc | apply Kd.S_drewN | apply Kd.S_drew)); exact Kd.S_mono (Kd.S_far (p := ⟨gb555, 1, none⟩) (Kd.S_far (p := ⟨gb555, 0, none⟩) (Kd.S_types HO550.out BK555.out (by decide)) (fun _ hk => hk.2) (.int .i64 t547)) (fun _ hk => hk.2) (.slice Ao83 t548.length co83)) (fun _ hk => ⟨hk.1.2, ⟨hk.1.1.1.1.1.1.1, ⟨hk.1.1.1.1.2, ⟨hk.1.1.1.2, hk.1.1.2⟩⟩⟩⟩)⟩, ⟨by (with_reducible repeat (first | refine blk_drewN ?_ _ | refine blk_drew ?_ | refine blk_alloc ?_ _)); refine blk_far ?_ NB502_555.out _; (with_reducible repeat (first | refine blk_drewN ?_ _ | refine blk_drew ?_ | refine blk_alloc ?_ _)); refine blk_far ?_ NB502_555.out _; (with_reducible repeat (first | refine blk_drewN ?_ _ | refine blk_drew ?_ | refine blk_alloc ?_ _)); exact BK502.out⟩, ⟨by (with_reducible repeat (first | refine blk_drewN ?_ _ | refine blk_drew ?_ | refine blk_alloc ?_ _)); refine blk_far ?_ NB527_555.out _; (with_reducible repeat (first | refine blk_drewN ?_ _ | refine blk_drew ?_ | refine blk_alloc ?_ _)); refine blk_far ?_ NB527_555.out _; (with_reducible repeat (first | refine blk_drewN ?_ _ | refine blk_drew ?_ | refine blk_alloc ?_ _)); exact BK527.out⟩, ⟨by (with_reducible repeat (first | refine blk_drewN ?_ _ | refine blk_drew ?_ | refine blk_alloc ?_ _)); refine blk_far ?_ NB536_555.out _; (with_reducible repeat (first | refine blk_drewN ?_ _ | refine blk_drew ?_ | refine blk_alloc ?_ _)); refine blk_far ?_ NB536_555.out _; (with_reducible repeat (first | refine blk_drewN ?_ _ | refine blk_drew ?_ | refine blk_alloc ?_ _)); exact BK536.out⟩, ⟨by (with_reducible repeat (first | refine blk_drewN ?_ _ | refine blk_drew ?_ | refine blk_alloc ?_ _)); refine blk_far ?_ NB546_555.out _; (with_reducible repeat (first | refine blk_drewN ?_ _ | refine blk_drew ?_ | refine blk_alloc ?_ _)); refine blk_far ?_ NB546_555.out _; (with_reducible repeat (first | refine blk_drewN ?_ _ | refine blk_drew ?_ | refine blk_alloc ?_ _)); exact BK546.out⟩, ⟨by (with_reducible repeat (first | refine blk_drewN ?_ _ | refine blk_drew ?_ | refine blk_alloc ?_ _)); refine blk_put (cs := #[.int .i64 t547, .slice none 0 0]) ?_ 1 _ rfl; (with_reducible repeat (first | refine blk_drewN ?_ _ | refine blk_drew ?_ | refine blk_alloc ?_ _)); refine blk_put (cs := #[.int .i64 0, .slice none 0 0]) ?_ 0 _ rfl; (with_reducible repeat (first | refine blk_drewN ?_ _ | refine blk_drew ?_ | refine blk_alloc ?_ _)); exact BK555.out⟩, ⟨pB⟩⟩
            ·replace c85 := Bool.eq_false_iff.mpr c85
             subst c85
             have H1 : (papermilllaw19_PipeKinds.j2 kj30 l1 l2 t542 t545 t551 true a0_0 l0_1) = some r := by rw [if_neg (show ¬ (false = true) by decide)] at H; exact H
             clear H
             have H := H1
             clear H1
             have H' := Aside0.mk H
             clear H
             obtain ⟨Ao88, co88, eo88⟩ := Kd.R_slice HO_9.out
             subst eo88
             obtain ⟨Ao89, co89, eo89⟩ := Kd.R_slice HO_12.out
             subst eo89
             go_wp2_with (first | ((with_reducible refine gate_callee (f := 20) rfl ?_); refine goesL_ (some 95) rfl rfl Try.func20 (by kernel_rfl) rfl #[.slice Ao88 t523.length co88, .slice Ao89 t532.length co89] rfl mA ?_; (with_reducible refine (papermillref16_Same.calls kj30 _ _ t523 _ _ t532 false _ ?side1 ?side2 ?side3 ?side4 A84.out).mono ?_); (case side1 => refine (Kd.R_reads' (e := 3) (base := w.heap.size) (ok := fun k_ => ((some k_ ≠ (.slice Ao89 t532.length co89 : Value).ownBlock ∧ some k_ ≠ (v543 : Value).ownBlock) ∧ some k_ ≠ (v552 : Value).ownBlock)) (n := t523.length) (c := co88) ?_).2.2; exact (rX (Kd.R_mono (Kd.R_far (p := ⟨gb555, 1, none⟩) (Kd.R_far (p := ⟨gb555, 0, none⟩) (Kd.R_types HO_9.out BK555.out (by decide)) (fun _ hk => hk.2) (.int .i64 t547)) (fun _ hk => hk.2) (.slice Ao83 t548.length co83)) (fun _ h_ => h_.1)))); (case side2 => exact (Kd.R_reads' HO_9.out).2.1); (case side3 => refine (Kd.R_reads' (e := 3) (base := w.heap.size) (ok := fun k_ => ((some k_ ≠ (.slice Ao88 t523.length co88 : Value).ownBlock ∧ some k_ ≠ (v543 : Value).ownBlock) ∧ some k_ ≠ (v552 : Value).ownBlock)) (n := t532.length) (c := co89) ?_).2.2; exact (rX (Kd.R_mono (Kd.R_far (p := ⟨gb555, 1, none⟩) (Kd.R_far (p := ⟨gb555, 0, none⟩) (Kd.R_types HO_12.out BK555.out (by decide)) (fun _ hk => hk.2) (.int .i64 t547)) (fun _ hk => hk.2) (.slice Ao83 t548.length co83)) (fun _ h_ => h_.1)))); (case side4 => exact (Kd.R_reads' HO_12.out).2.1); rintro e w' ⟨rfl, ⟨nd, rfl⟩⟩; refine ⟨_, rfl, ?_⟩))
             go_meet
             case rel => exact ⟨_, (true), (by first | rfl | (simp; done) | (simp [*]; done)), H', ⟨by have := HJ3.out; have := HJ30.out; first | omega | exact Nat.le_refl _⟩, ⟨by (with_reducible repeat (first | apply Kd.R_alloc | apply Kd.R_drewN | apply Kd.R_drew)); exact Kd.R_mono (Kd.R_far (p := ⟨gb555, 1, none⟩) (Kd.R_far (p := ⟨gb555, 0, none⟩) (Kd.R_types HO544.out BK555.out (by decide)) (fun _ hk => hk.2) (.int .i64 t547)) (fun _ hk => hk.2) (.slice Ao83 t548.length co83)) (fun _ hk => hk.1.2)⟩, ⟨by (with_reducible repeat (first | apply Kd.R_alloc | apply Kd.R_drewN | apply Kd.R_drew)); exact Kd.R_mono (Kd.R_far (p := ⟨gb555, 1, none⟩) (Kd.R_far (p := ⟨gb555, 0, none⟩) (Kd.R_types HO553.out BK555.out (by decide)) (fun _ hk => hk.2) (.int .i64 t547)) (fun _ hk => hk.2) (.slice Ao83 t548.length co83)) (fun _ hk => hk.1.2)⟩, ⟨by (with_reducible repeat (first | apply Kd.S_alloc | apply Kd.S_drewN | apply Kd.S_drew)); exact Kd.S_mono (Kd.S_far (p := ⟨gb555, 1, none⟩) (Kd.S_far (p := ⟨gb555, 0, none⟩) (Kd.S_types HO_528001.out BK555.out (by decide)) (fun _ hk => hk.2) (.int .i64 t547)) (fun _ hk => hk.2) (.slice Ao83 t548.length co83)) (fun _ hk => ⟨hk.1.1.1.2, ⟨hk.1.2, ⟨hk.1.1.1.1.1.2.2, ⟨hk.1.1.1.1.2, hk.1.1.2⟩⟩⟩⟩)⟩, ⟨by (with_reducible repeat (first | apply Kd.S_alloc | apply Kd.S_drewN | apply Kd.S_drew)); exact Kd.S_mono (Kd.S_far (p := ⟨gb555, 1, none⟩) (Kd.S_far (p := ⟨gb555, 0, none⟩) (Kd.S_types HO_537001.out BK555.out (by decide)) (fun _ hk => hk.2) (.int .i64 t547)) (fun _ hk => hk.2) (.slice Ao83 t548.length co83)) (fun _ hk => ⟨hk.1.1.1.2, ⟨hk.1.2, ⟨hk.1.1.1.1.1.2.2, ⟨hk.1.1.1.1.2, hk.1.1.2⟩⟩⟩⟩)⟩, ⟨by (with_reducible repeat (first | apply Kd.S_alloc | apply Kd.S_drewN | apply Kd.S_drew)); exact Kd.S_mono (Kd.S_far (p := ⟨gb555, 1, none⟩) (Kd.S_far (p := ⟨gb555, 0, none⟩) (Kd.S_types HO541.out BK555.out (by decide)) (fun _ hk => hk.2) (.int .i64 t547)) (fun _ hk => hk.2) (.slice Ao83 t548.length co83)) (fun _ hk => ⟨hk.1.1.1.1.1.1.1, ⟨hk.1.2, ⟨hk.1.1.1.1.2, ⟨hk.1.1.1.2, hk.1.1.2⟩⟩⟩⟩)⟩, ⟨by (with_reducible repeat (first | apply Kd.S_alloc | apply Kd.S_drewN | apply Kd.S_drew)); exact Kd.S_mono (Kd.S_far (p := ⟨gb555, 1, none⟩) (Kd.S_far (p := ⟨gb555, 0, none⟩) (Kd.S_types HO550.out BK555.out (by decide)) (fun _ hk => hk.2) (.int .i64 t547)) (fun _ hk => hk.2) (.slice Ao83 t548.length co83)) (fun _ hk => ⟨hk.1.2, ⟨hk.1.1.1.1.1.1.1, ⟨hk.1.1.1.1.2, ⟨hk.1.1.1.2, hk.1.1.2⟩⟩⟩⟩)⟩, ⟨by (with_reducible repeat (first | refine blk_drewN ?_ _ | refine blk_drew ?_ | refine blk_alloc ?_ _)); refine blk_far ?_ NB502_555.out _; (with_reducible repeat (first | refine blk_drewN ?_ _ | refine blk_drew ?_ | refine blk_alloc ?_ _)); refine blk_far ?_ NB502_555.out _; (with_reducible repeat (first | refine blk_drewN ?_ _ | refine blk_drew ?_ | refine blk_alloc ?_ _)); exact BK502.out⟩, ⟨by (with_reducible repeat (first | refine blk_drewN ?_ _ | refine blk_drew ?_ | refine blk_alloc ?_ _)); refine blk_far ?_ NB527_555.out _; (with_reducible repeat (first | refine blk_drewN ?_ _ | refine blk_drew ?_ | refine blk_alloc ?_ _)); refine blk_far ?_ NB527_555.out _; (with_reducible repeat (first | refine blk_drewN ?_ _ | refine blk_drew ?_ | refine blk_alloc ?_ _)); exact BK527.out⟩, ⟨by (with_reducible repeat (first | refine blk_drewN ?_ _ | refine blk_drew ?_ | refine blk_alloc ?_ _)); refine blk_far ?_ NB536_555.out _; (with_reducible repeat (first | refine blk_drewN ?_ _ | refine blk_drew ?_ | refine blk_alloc ?_ _)); refine blk_far ?_ NB536_555.out _; (with_reducible repeat (first | refine blk_drewN ?_ _ | refine blk_drew ?_ | refine blk_alloc ?_ _)); exact BK536.out⟩, ⟨by (with_reducible repeat (first | refine blk_drewN ?_ _ | refine blk_drew ?_ | refine blk_alloc ?_ _)); refine blk_far ?_ NB546_555.out _; (with_reducible repeat (first | refine blk_drewN ?_ _ | refine blk_drew ?_ | refine blk_alloc ?_ _)); refine blk_far ?_ NB546_555.out _; (with_reducible repeat (first | refine blk_drewN ?_ _ | refine blk_drew ?_ | refine blk_alloc ?_ _)); exact BK546.out⟩, ⟨by (with_reducible repeat (first | refine blk_drewN ?_ _ | refine blk_drew ?_ | refine blk_alloc ?_ _)); refine blk_put (cs := #[.int .i64 t547, .slice none 0 0]) ?_ 1 _ rfl; (with_reducible repeat (first | refine blk_drewN ?_ _ | refine blk_drew ?_ | refine blk_alloc ?_ _)); refine blk_put (cs := #[.int .i64 0, .slice none 0 0]) ?_ 0 _ rfl; (with_reducible repeat (first | refine blk_drewN ?_ _ | refine blk_drew ?_ | refine blk_alloc ?_ _)); exact BK555.out⟩, ⟨pB⟩⟩
           case rest => as_aux_lemma =>
            clear HC63
            try clear c1
            try clear c2
            try clear p2
            try clear c4
            try clear c5
            try clear p5
            try clear q5
            try clear hx5
            try clear qi5
            try clear c6
            try clear c7
            try clear c8
            try clear c10
            try clear c10b0
            try clear c10b1
            try clear c11
            try clear c12
            try clear c13
            try clear c13b0
            try clear c13b1
            try clear c16
            try clear c16b0
            try clear c16b1
            try clear c16b2
            try clear c18
            try clear c20
            try clear c22
            try clear c25
            try clear c25b0
            try clear c25b1
            try clear c26
            try clear c27
            try clear c27b0
            try clear c27b1
            try clear c28
            try clear c45
            try clear p51
            try clear q51
            try clear hx51
            try clear qi51
            try clear c52
            try clear c53
            try clear c56
            try clear c56b0
            try clear c56b1
            try clear c57
            try clear c58
            try clear c58b0
            try clear c58b1
            try clear c64
            try clear c65
            try clear c69
            try clear c70
            try clear c71
            try clear c74
            try clear c78
            try clear c79
            try clear c80
            try clear c81
            try clear c85
            try clear hcz11_0
            try clear hcz11_1
            try clear hcz14_0
            try clear hcz14_1
            try clear hcz17_0
            try clear hcz17_1
            try clear hcz19_0
            try clear hcz19_1
            try clear hcz21_0
            try clear hcz21_1
            try clear hcz42_0
            try clear hcz42_1
            try clear hcz46_0
            try clear hcz46_1
            try clear hcz48_0
            try clear hcz48_1
            try clear hcz54_0
            try clear hcz54_1
            try clear hcz66_0
            try clear hcz66_1
            try clear hcz72_0
            try clear hcz72_1
            try clear hcz75_0
            try clear hcz75_1
            try clear hcz82_0
            try clear hcz82_1
            try clear hcz8_0
            try clear hcz8_1
            try clear hfz11_0
            try clear hfz11_1
            try clear hfz14_0
            try clear hfz14_1
            try clear hfz17_0
            try clear hfz17_1
            try clear hfz19_0
            try clear hfz19_1
            try clear hfz21_0
            try clear hfz21_1
            try clear hfz42_0
            try clear hfz42_1
            try clear hfz46_0
            try clear hfz46_1
            try clear hfz48_0
            try clear hfz48_1
            try clear hfz54_0
            try clear hfz54_1
            try clear hfz66_0
            try clear hfz66_1
            try clear hfz72_0
            try clear hfz72_1
            try clear hfz75_0
            try clear hfz75_1
            try clear hfz82_0
            try clear hfz82_1
            try clear hfz8_0
            try clear hfz8_1
            try clear hx512_0
            try clear p2
            try clear p5
            try clear p51
            try clear p512
            try clear q5
            try clear q51
            try clear q512
            obtain ⟨kq, x101_62, rfl, HA, HJ62, HO_15, HO_18, HO_528001, HO_537001, HO_547001, HO_556001, BK502, BK527, BK536, BK546, BK555, HB⟩ := hcut
            cases kq with
            | zero => exact absurd HA.out (by simp [papermilllaw19_PipeKinds.j2])
            | succ kj62 =>
             have H := HA.out
             clear HA
             simp only [papermilllaw19_PipeKinds.j2] at H
             by_cases c90 : x101_62 = true
             ·subst c90
              have H1 : (none) = some r := by rw [if_pos rfl] at H; exact H
              clear H
              have H := H1
              clear H1
              exact absurd H (by simp)
             ·replace c90 := Bool.eq_false_iff.mpr c90
              subst c90
              have H1 : (if t545 = 0 then ((papermillref16_Sum.f kj62 l1).bind fun t557 => ((papermillref16_Sum.f kj62 l2).bind fun t558 => (papermilllaw19_PipeKinds.j3 kj62 t542 t551 (decide ((wrap64 (t557 + t558)) > a0_0))))) else (papermilllaw19_PipeKinds.j3 kj62 t542 t551 true)) = some r := by rw [if_neg (show ¬ (false = true) by decide)] at H; exact H
              clear H
              have H := H1
              clear H1
              have HC91 := Aside0.mk H
              clear H
              go_upto_region 12 with (fail)
              go_cut [113] (fun v113 wc => ∃ (kq : Nat) (x113_90 : Bool), v113 = .bool x113_90 ∧ Aside0 (papermilllaw19_PipeKinds.j3 kq t542 t551 x113_90 = some r) ∧ Aside0 (kq ≤ kj62) ∧ Aside0 (Kd.R (Kd.int .i64) 3 wc w.heap.size (fun k_ => some k_ ≠ (v552 : Value).ownBlock) v543 t542) ∧ Aside0 (Kd.R (Kd.int .i64) 3 wc w.heap.size (fun k_ => some k_ ≠ (v543 : Value).ownBlock) v552 t551) ∧ Aside0 (Kd.S (Kd.slice 3 (Kd.int .i64)) 29 wc w.heap.size (fun k_ => some k_ ≠ (v543 : Value).ownBlock ∧ some k_ ≠ (v552 : Value).ownBlock ∧ some k_ ≠ ((.slice Ao55 t529.length co55) : Value).ownBlock ∧ some k_ ≠ ((.slice Ao73 t539.length co73) : Value).ownBlock ∧ some k_ ≠ ((.slice Ao83 t548.length co83) : Value).ownBlock) (.slice Ao47 t520.length co47) t520) ∧ Aside0 (Kd.S (Kd.slice 3 (Kd.int .i64)) 29 wc w.heap.size (fun k_ => some k_ ≠ (v543 : Value).ownBlock ∧ some k_ ≠ (v552 : Value).ownBlock ∧ some k_ ≠ ((.slice Ao47 t520.length co47) : Value).ownBlock ∧ some k_ ≠ ((.slice Ao73 t539.length co73) : Value).ownBlock ∧ some k_ ≠ ((.slice Ao83 t548.length co83) : Value).ownBlock) (.slice Ao55 t529.length co55) t529) ∧ Aside0 (Kd.S (Kd.slice 3 (Kd.int .i64)) 29 wc w.heap.size (fun k_ => some k_ ≠ (v543 : Value).ownBlock ∧ some k_ ≠ (v552 : Value).ownBlock ∧ some k_ ≠ ((.slice Ao47 t520.length co47) : Value).ownBlock ∧ some k_ ≠ ((.slice Ao55 t529.length co55) : Value).ownBlock ∧ some k_ ≠ ((.slice Ao83 t548.length co83) : Value).ownBlock) (.slice Ao73 t539.length co73) t539) ∧ Aside0 (Kd.S (Kd.slice 3 (Kd.int .i64)) 29 wc w.heap.size (fun k_ => some k_ ≠ (v543 : Value).ownBlock ∧ some k_ ≠ (v552 : Value).ownBlock ∧ some k_ ≠ ((.slice Ao47 t520.length co47) : Value).ownBlock ∧ some k_ ≠ ((.slice Ao55 t529.length co55) : Value).ownBlock ∧ some k_ ≠ ((.slice Ao73 t539.length co73) : Value).ownBlock) (.slice Ao83 t548.length co83) t548) ∧ Aside0 (wc.heap[gb502]? = some (.cells #[.int .i64 a0_0, (.slice A0_1 l0_1.length c0_1)] 24 (0, 0))) ∧ Aside0 (wc.heap[gb527]? = some (.cells #[.int .i64 t519, (.slice Ao47 t520.length co47)] 24 (0, 0))) ∧ Aside0 (wc.heap[gb536]? = some (.cells #[.int .i64 t528, (.slice Ao55 t529.length co55)] 24 (0, 0))) ∧ Aside0 (wc.heap[gb546]? = some (.cells #[.int .i64 t538, (.slice Ao73 t539.length co73)] 24 (0, 0))) ∧ Aside0 (wc.heap[gb555]? = some (.cells #[.int .i64 t547, (.slice Ao83 t548.length co83)] 24 (0, 0))) ∧ Aside0 (Below w.heap.size w wc))
              case first =>
               have H := HC91.out
               clear HC91
               by_cases c92 : t545 = 0
               ·rw [if_pos c92] at H
                have c92b0 : (t545 == 0) = true := beq_iff_eq.mpr c92
                have c92b1 : (t545 != 0) = false := bne_eq_false_iff_eq.mpr c92
                clear c92
                (first | rw [c92b0] | (simp only [i64_w, i32_w]; rw [c92b0]) | skip)
                replace H := Option.bind_eq_some_iff.mp H
                obtain ⟨t557, A930, H⟩ := H
                replace H : ((papermillref16_Sum.f kj62 l2).bind fun t558 => (papermilllaw19_PipeKinds.j3 kj62 t542 t551 (decide ((wrap64 (t557 + t558)) > a0_0)))) = some r := H
                have A93 := Aside0.mk A930
                clear A930
                replace H := Option.bind_eq_some_iff.mp H
                obtain ⟨t558, A940, H⟩ := H
                replace H : (papermilllaw19_PipeKinds.j3 kj62 t542 t551 (decide ((wrap64 (t557 + t558)) > a0_0))) = some r := H
                have A94 := Aside0.mk A940
                clear A940
                have H' := Aside0.mk H
                clear H
                try go_wp2
                have n0_ := Aside0.mk (Kd.R_drew HO_15.out)
                have n1_ := Aside0.mk (Kd.R_drew HO_18.out)
                have n2_ := Aside0.mk (Kd.S_drew HO_528001.out)
                have n3_ := Aside0.mk (Kd.S_drew HO_537001.out)
                have n4_ := Aside0.mk (Kd.S_drew HO_547001.out)
                have n5_ := Aside0.mk (Kd.S_drew HO_556001.out)
                have n6_ := Aside0.mk (blk_drew BK502.out)
                have n7_ := Aside0.mk (blk_drew BK527.out)
                have n8_ := Aside0.mk (blk_drew BK536.out)
                have n9_ := Aside0.mk (blk_drew BK546.out)
                have n10_ := Aside0.mk (blk_drew BK555.out)
                have n11_ := Aside0.mk (below_drew1 HB.out)
                clear HO_15
                clear HO_18
                clear HO_528001
                clear HO_537001
                clear HO_547001
                clear HO_556001
                clear BK502
                clear BK527
                clear BK536
                clear BK546
                clear BK555
                clear HB
                have HO_15 := n0_
                have HO_18 := n1_
                have HO_528001 := n2_
                have HO_537001 := n3_
                have HO_547001 := n4_
                have HO_556001 := n5_
                have BK502 := n6_
                have BK527 := n7_
                have BK536 := n8_
                have BK546 := n9_
                have BK555 := n10_
                have HB := n11_
                clear n0_ n1_ n2_ n3_ n4_ n5_ n6_ n7_ n8_ n9_ n10_ n11_
                refine start_ (n := 12) (S := fun w' => w'.cell? ⟨gb502, 0, none⟩ = some (.int .i64 a0_0) ∧ w'.cell? ⟨gb502, 1, none⟩ = some (.slice A0_1 l0_1.length c0_1)) (ds := []) #[false, false, false, false, false, false, false, false, false, false, false, false] (by kernel_rfl) rfl rfl ⟨(blk_cell BK502.out 0).trans rfl, (blk_cell BK502.out 1).trans rfl⟩ (fun hHeld => ?_); refine with_tabW papermilllaw19_PipeKinds.tab12 papermilllaw19_PipeKinds.bits12 (fun HT_ HW_ => ?_)
                generalize wc.drew = w95 at HO_15 HO_18 HO_528001 HO_537001 HO_547001 HO_556001 BK502 BK527 BK536 BK546 BK555 HB hHeld ⊢
                refine pure_ (i := 0) (N := some 102) (v := ?_) (a' := ?_) #[true, false, false, false, false, false, false, false, false, false, false, false] rfl rfl (any_of HT_.out (by kernel_rfl)) (fun _ _ _ h => h) (Or.inl ⟨by rfl, ?_⟩) ?_ ?_
                rotate_left
                ·intro w'
                 go_simp
                 with_reducible rfl
                rotate_left
                ·simp only [Act.put, List.setIfInBounds_toArray, List.set_cons_zero, List.set_cons_succ, i64_w, i32_w]
                 rfl
                refine pure_ (i := 1) (N := some 103) (v := ?_) (a' := ?_) #[true, true, false, false, false, false, false, false, false, false, false, false] rfl rfl (any_of HT_.out (by kernel_rfl)) (fun _ _ _ h => h) (Or.inl ⟨by rfl, ?_⟩) ?_ ?_
                rotate_left
                ·intro w'
                 go_simp
                 with_reducible rfl
                rotate_left
                ·simp only [Act.put, List.setIfInBounds_toArray, List.set_cons_zero, List.set_cons_succ, i64_w, i32_w]
                 rfl
                refine pure_ (i := 2) (N := some 104) (v := ?_) (a' := ?_) #[true, true, true, false, false, false, false, false, false, false, false, false] rfl rfl (any_of HT_.out (by kernel_rfl)) (fun _ _ _ h => h) (Or.inl ⟨by rfl, ?_⟩) ?_ ?_
                rotate_left
                ·intro w'
                 go_simp
                 with_reducible rfl
                rotate_left
                ·simp only [Act.put, List.setIfInBounds_toArray, List.set_cons_zero, List.set_cons_succ, i64_w, i32_w]
                 rfl
                refine pure_ (i := 3) (N := some 105) (v := ?_) (a' := ?_) #[true, true, true, true, false, false, false, false, false, false, false, false] rfl rfl (any_of HT_.out (by kernel_rfl)) (fun _ _ _ h => h) (Or.inl ⟨by rfl, ?_⟩) ?_ ?_
                rotate_left
                ·intro w'
                 go_simp
                 with_reducible rfl
                rotate_left
                ·simp only [Act.put, List.setIfInBounds_toArray, List.set_cons_zero, List.set_cons_succ, i64_w, i32_w]
                 rfl
                refine pure_ (i := 5) (N := some 107) (v := ?_) (a' := ?_) #[true, true, true, true, false, true, false, false, false, false, false, false] rfl rfl (any_of HT_.out (by kernel_rfl)) (fun _ _ _ h => h) (Or.inl ⟨by rfl, ?_⟩) ?_ ?_
                rotate_left
                ·intro w'
                 go_simp
                 with_reducible rfl
                rotate_left
                ·simp only [Act.put, List.setIfInBounds_toArray, List.set_cons_zero, List.set_cons_succ, i64_w, i32_w]
                 rfl
                refine pure_ (i := 8) (N := some 110) (v := ?_) (a' := ?_) #[true, true, true, true, false, true, false, false, true, false, false, false] rfl rfl (any_of HT_.out (by kernel_rfl)) (fun _ _ _ h => h) (Or.inl ⟨by rfl, ?_⟩) ?_ ?_
                rotate_left
                ·intro w'
                 go_simp
                 with_reducible rfl
                rotate_left
                ·simp only [Act.put, List.setIfInBounds_toArray, List.set_cons_zero, List.set_cons_succ, i64_w, i32_w]
                 rfl
                refine take_ (i := 9) (N := some 111) (v := ?_) (a' := ?_) #[true, true, true, true, false, true, false, false, true, true, false, false] rfl rfl (take_ofW HT_.out HW_.out (by kernel_rfl)) (fun _ _ _ h => h) (Or.inl ⟨by rfl, ?_⟩) hHeld ?_ ?_
                rotate_left
                ·rintro w' ⟨s0, s1⟩
                 go_simp
                 with_reducible rfl
                rotate_left
                ·simp only [Act.put, List.setIfInBounds_toArray, List.set_cons_zero, List.set_cons_succ, i64_w, i32_w]
                 rfl
                refine one_ (i := 4) (N := some 106) #[true, true, true, true, true, true, false, false, true, true, false, false] rfl rfl (one_of HT_.out (by kernel_rfl)) (by decide) (fun K hK => ?_)
                refine goes_ Try.func21 (by kernel_rfl) rfl #[.slice (some ad512) l1.length c1] (by rfl) rfl rfl mA ?_
                with_reducible refine (papermillref16_Sum.calls kj62 _ _ l1 t557 _ ?side1 ?side2 A93.out).mono ?_
                (case side1 => repeat (first | exact (Kd.C_below HR1.out HB.out) | (with_reducible refine Kd.C_alloc ?_ _) | (with_reducible refine Kd.C_drewN ?_ _) | (with_reducible refine Kd.C_drew ?_)))
                (case side2 => exact HC1.out)
                rintro e w' ⟨rfl, ⟨nd, rfl⟩⟩
                refine ⟨_, rfl, ?_⟩
                refine hK.out _ _ ⟨(blk_cell BK502.out 0).trans rfl, (blk_cell BK502.out 1).trans rfl⟩ (fun hHeld => ?_)
                clear hK K
                refine norm_ (a' := ?_) ?_ ?_
                rotate_left
                ·show Act.put _ (some 106) _ = _
                 simp only [Act.put, List.setIfInBounds_toArray, List.set_cons_zero, List.set_cons_succ, i64_w, i32_w]
                 rfl
                refine one_ (i := 6) (N := some 108) #[true, true, true, true, true, true, true, false, true, true, false, false] rfl rfl (one_of HT_.out (by kernel_rfl)) (by decide) (fun K hK => ?_)
                refine goes_ Try.func21 (by kernel_rfl) rfl #[.slice A2 l2.length c2] (by rfl) rfl rfl mA ?_
                with_reducible refine (papermillref16_Sum.calls kj62 _ _ l2 t558 _ ?side1 ?side2 A94.out).mono ?_
                (case side1 => repeat (first | exact (Kd.C_below HR2.out pB) | (with_reducible refine Kd.C_alloc ?_ _) | (with_reducible refine Kd.C_drewN ?_ _) | (with_reducible refine Kd.C_drew ?_)))
                (case side2 => exact HC2.out)
                rintro e w' ⟨rfl, ⟨nd, rfl⟩⟩
                refine ⟨_, rfl, ?_⟩
                refine hK.out _ _ ⟨(blk_cell BK502.out 0).trans rfl, (blk_cell BK502.out 1).trans rfl⟩ (fun hHeld => ?_)
                clear hK K
                refine norm_ (a' := ?_) ?_ ?_
                rotate_left
                ·show Act.put _ (some 108) _ = _
                 simp only [Act.put, List.setIfInBounds_toArray, List.set_cons_zero, List.set_cons_succ, i64_w, i32_w]
                 rfl
                refine pure_ (i := 7) (N := some 109) (v := ?_) (a' := ?_) #[true, true, true, true, true, true, true, true, true, true, false, false] rfl rfl (any_of HT_.out (by kernel_rfl)) (fun _ _ _ h => h) (Or.inl ⟨by rfl, ?_⟩) ?_ ?_
                rotate_left
                ·intro w'
                 go_simp
                 with_reducible rfl
                rotate_left
                ·simp only [Act.put, List.setIfInBounds_toArray, List.set_cons_zero, List.set_cons_succ, i64_w, i32_w]
                 rfl
                refine pure_ (i := 10) (N := some 112) (v := ?_) (a' := ?_) #[true, true, true, true, true, true, true, true, true, true, true, false] rfl rfl (any_of HT_.out (by kernel_rfl)) (fun _ _ _ h => h) (Or.inl ⟨by rfl, ?_⟩) ?_ ?_
                rotate_left
                ·intro w'
                 go_simp
                 with_reducible rfl
                rotate_left
                ·simp only [Act.put, List.setIfInBounds_toArray, List.set_cons_zero, List.set_cons_succ, i64_w, i32_w]
                 rfl
                refine pure_ (i := 11) (N := some 113) (v := ?_) (a' := ?_) #[true, true, true, true, true, true, true, true, true, true, true, true] rfl rfl (any_of HT_.out (by kernel_rfl)) (fun _ _ _ h => h) (Or.inl ⟨by rfl, ?_⟩) ?_ ?_
                rotate_left
                ·intro w'
                 go_simp
                 with_reducible rfl
                rotate_left
                ·simp only [Act.put, List.setIfInBounds_toArray, List.set_cons_zero, List.set_cons_succ, i64_w, i32_w]
                 rfl
                refine done_ (done_of HT_.out (by kernel_rfl)) ?_
                try go_wp2
                go_meet
                case rel => exact ⟨_, (decide ((wrap64 (t557 + t558)) > a0_0)), (by first | rfl | (simp; done) | (simp [*]; done)), H', ⟨by have := HJ3.out; have := HJ30.out; have := HJ62.out; first | omega | exact Nat.le_refl _⟩, ⟨by (with_reducible repeat (first | apply Kd.R_alloc | apply Kd.R_drewN | apply Kd.R_drew)); exact HO_15.out⟩, ⟨by (with_reducible repeat (first | apply Kd.R_alloc | apply Kd.R_drewN | apply Kd.R_drew)); exact HO_18.out⟩, ⟨by (with_reducible repeat (first | apply Kd.S_alloc | apply Kd.S_drewN | apply Kd.S_drew)); exact HO_528001.out⟩, ⟨by (with_reducible repeat (first | apply Kd.S_alloc | apply Kd.S_drewN | apply Kd.S_drew)); exact HO_537001.out⟩, ⟨by (with_reducible repeat (first | apply Kd.S_alloc | apply Kd.S_drewN | apply Kd.S_drew)); exact HO_547001.out⟩, ⟨by (with_reducible repeat (first | apply Kd.S_alloc | apply Kd.S_drewN | apply Kd.S_drew)); exact HO_556001.out⟩, ⟨by (with_reducible repeat (first | refine blk_drewN ?_ _ | refine blk_drew ?_ | refine blk_alloc ?_ _)); exact BK502.out⟩, ⟨by (with_reducible repeat (first | refine blk_drewN ?_ _ | refine blk_drew ?_ | refine blk_alloc ?_ _)); exact BK527.out⟩, ⟨by (with_reducible repeat (first | refine blk_drewN ?_ _ | refine blk_drew ?_ | refine blk_alloc ?_ _)); exact BK536.out⟩, ⟨by (with_reducible repeat (first | refine blk_drewN ?_ _ | refine blk_drew ?_ | refine blk_alloc ?_ _)); exact BK546.out⟩, ⟨by (with_reducible repeat (first | refine blk_drewN ?_ _ | refine blk_drew ?_ | refine blk_alloc ?_ _)); exact BK555.out⟩, ⟨pB⟩⟩
               ·rw [if_neg c92] at H
                have c92b0 : (t545 == 0) = false := beq_eq_false_iff_ne.mpr c92
                have c92b1 : (t545 != 0) = true := bne_iff_ne.mpr c92
                (first | rw [c92b0] | (simp only [i64_w, i32_w]; rw [c92b0]) | skip)
                have H' := Aside0.mk H
                clear H
                try go_wp2
                have n0_ := Aside0.mk (Kd.R_drew HO_15.out)
                have n1_ := Aside0.mk (Kd.R_drew HO_18.out)
                have n2_ := Aside0.mk (Kd.S_drew HO_528001.out)
                have n3_ := Aside0.mk (Kd.S_drew HO_537001.out)
                have n4_ := Aside0.mk (Kd.S_drew HO_547001.out)
                have n5_ := Aside0.mk (Kd.S_drew HO_556001.out)
                have n6_ := Aside0.mk (blk_drew BK502.out)
                have n7_ := Aside0.mk (blk_drew BK527.out)
                have n8_ := Aside0.mk (blk_drew BK536.out)
                have n9_ := Aside0.mk (blk_drew BK546.out)
                have n10_ := Aside0.mk (blk_drew BK555.out)
                have n11_ := Aside0.mk (below_drew1 HB.out)
                clear HO_15
                clear HO_18
                clear HO_528001
                clear HO_537001
                clear HO_547001
                clear HO_556001
                clear BK502
                clear BK527
                clear BK536
                clear BK546
                clear BK555
                clear HB
                have HO_15 := n0_
                have HO_18 := n1_
                have HO_528001 := n2_
                have HO_537001 := n3_
                have HO_547001 := n4_
                have HO_556001 := n5_
                have BK502 := n6_
                have BK527 := n7_
                have BK536 := n8_
                have BK546 := n9_
                have BK555 := n10_
                have HB := n11_
                clear n0_ n1_ n2_ n3_ n4_ n5_ n6_ n7_ n8_ n9_ n10_ n11_
                refine start_ (n := 12) (S := fun w' => True) (ds := []) #[false, false, false, false, false, false, false, false, false, false, false, false] (by kernel_rfl) rfl rfl trivial (fun hHeld => ?_); refine with_tabW papermilllaw19_PipeKinds.tab12 papermilllaw19_PipeKinds.bits12 (fun HT_ HW_ => ?_)
                generalize wc.drew = w96 at HO_15 HO_18 HO_528001 HO_537001 HO_547001 HO_556001 BK502 BK527 BK536 BK546 BK555 HB hHeld ⊢
                refine pure_ (i := 0) (N := some 102) (v := ?_) (a' := ?_) #[true, false, false, false, false, false, false, false, false, false, false, false] rfl rfl (any_of HT_.out (by kernel_rfl)) (fun _ _ _ h => h) (Or.inl ⟨by rfl, ?_⟩) ?_ ?_
                rotate_left
                ·intro w'
                 go_simp
                 with_reducible rfl
                rotate_left
                ·simp only [Act.put, List.setIfInBounds_toArray, List.set_cons_zero, List.set_cons_succ, i64_w, i32_w]
                 rfl
                refine pure_ (i := 1) (N := some 103) (v := ?_) (a' := ?_) #[true, true, false, false, false, false, false, false, false, false, false, false] rfl rfl (any_of HT_.out (by kernel_rfl)) (fun _ _ _ h => h) (Or.inl ⟨by rfl, ?_⟩) ?_ ?_
                rotate_left
                ·intro w'
                 go_simp
                 with_reducible rfl
                rotate_left
                ·simp only [Act.put, List.setIfInBounds_toArray, List.set_cons_zero, List.set_cons_succ, i64_w, i32_w]
                 rfl
                refine pure_ (i := 2) (N := some 104) (v := ?_) (a' := ?_) #[true, true, true, false, false, false, false, false, false, false, false, false] rfl rfl (any_of HT_.out (by kernel_rfl)) (fun _ _ _ h => h) (Or.inl ⟨by rfl, ?_⟩) ?_ ?_
                rotate_left
                ·intro w'
                 go_simp
                 with_reducible rfl
                rotate_left
                ·simp only [Act.put, List.setIfInBounds_toArray, List.set_cons_zero, List.set_cons_succ, i64_w, i32_w]
                 rfl
                refine pure_ (i := 3) (N := some 105) (v := undef) (a' := ?_) #[true, true, true, true, false, false, false, false, false, false, false, false] rfl rfl (any_of HT_.out (by kernel_rfl)) (fun _ _ _ h => h) (Or.inr ⟨by rfl, rfl⟩) ?_ ?_
                rotate_left
                ·simp only [Act.put, List.setIfInBounds_toArray, List.set_cons_zero, List.set_cons_succ, i64_w, i32_w]
                 rfl
                refine pure_ (i := 4) (N := some 106) (v := undef) (a' := ?_) #[true, true, true, true, true, false, false, false, false, false, false, false] rfl rfl (any_of HT_.out (by kernel_rfl)) (fun _ _ _ h => h) (Or.inr ⟨by rfl, rfl⟩) ?_ ?_
                rotate_left
                ·simp only [Act.put, List.setIfInBounds_toArray, List.set_cons_zero, List.set_cons_succ, i64_w, i32_w]
                 rfl
                refine pure_ (i := 5) (N := some 107) (v := undef) (a' := ?_) #[true, true, true, true, true, true, false, false, false, false, false, false] rfl rfl (any_of HT_.out (by kernel_rfl)) (fun _ _ _ h => h) (Or.inr ⟨by rfl, rfl⟩) ?_ ?_
                rotate_left
                ·simp only [Act.put, List.setIfInBounds_toArray, List.set_cons_zero, List.set_cons_succ, i64_w, i32_w]
                 rfl
                refine pure_ (i := 6) (N := some 108) (v := undef) (a' := ?_) #[true, true, true, true, true, true, true, false, false, false, false, false] rfl rfl (any_of HT_.out (by kernel_rfl)) (fun _ _ _ h => h) (Or.inr ⟨by rfl, rfl⟩) ?_ ?_
                rotate_left
                ·simp only [Act.put, List.setIfInBounds_toArray, List.set_cons_zero, List.set_cons_succ, i64_w, i32_w]
                 rfl
                refine pure_ (i := 7) (N := some 109) (v := undef) (a' := ?_) #[true, true, true, true, true, true, true, true, false, false, false, false] rfl rfl (any_of HT_.out (by kernel_rfl)) (fun _ _ _ h => h) (Or.inr ⟨by rfl, rfl⟩) ?_ ?_
                rotate_left
                ·simp only [Act.put, List.setIfInBounds_toArray, List.set_cons_zero, List.set_cons_succ, i64_w, i32_w]
                 rfl
                refine pure_ (i := 8) (N := some 110) (v := undef) (a' := ?_) #[true, true, true, true, true, true, true, true, true, false, false, false] rfl rfl (any_of HT_.out (by kernel_rfl)) (fun _ _ _ h => h) (Or.inr ⟨by rfl, rfl⟩) ?_ ?_
                rotate_left
                ·simp only [Act.put, List.setIfInBounds_toArray, List.set_cons_zero, List.set_cons_succ, i64_w, i32_w]
                 rfl
                refine pure_ (i := 9) (N := some 111) (v := undef) (a' := ?_) #[true, true, true, true, true, true, true, true, true, true, false, false] rfl rfl (any_of HT_.out (by kernel_rfl)) (fun _ _ _ h => h) (Or.inr ⟨by rfl, rfl⟩) ?_ ?_
                rotate_left
                ·simp only [Act.put, List.setIfInBounds_toArray, List.set_cons_zero, List.set_cons_succ, i64_w, i32_w]
                 rfl
                refine pure_ (i := 10) (N := some 112) (v := undef) (a' := ?_) #[true, true, true, true, true, true, true, true, true, true, true, false] rfl rfl (any_of HT_.out (by kernel_rfl)) (fun _ _ _ h => h) (Or.inr ⟨by rfl, rfl⟩) ?_ ?_
                rotate_left
                ·simp only [Act.put, List.setIfInBounds_toArray, List.set_cons_zero, List.set_cons_succ, i64_w, i32_w]
                 rfl
                refine pure_ (i := 11) (N := some 113) (v := ?_) (a' := ?_) #[true, true, true, true, true, true, true, true, true, true, true, true] rfl rfl (any_of HT_.out (by kernel_rfl)) (fun _ _ _ h => h) (Or.inl ⟨by rfl, ?_⟩) ?_ ?_
                rotate_left
                ·intro w'
                 go_simp
                 with_reducible rfl
                rotate_left
                ·simp only [Act.put, List.setIfInBounds_toArray, List.set_cons_zero, List.set_cons_succ, i64_w, i32_w]
                 rfl
                refine done_ (done_of HT_.out (by kernel_rfl)) ?_
                try go_wp2
                go_meet
                case rel => exact ⟨_, (true), (by first | rfl | (simp; done) | (simp [*]; done)), H', ⟨by have := HJ3.out; have := HJ30.out; have := HJ62.out; first | omega | exact Nat.le_refl _⟩, ⟨by (with_reducible repeat (first | apply Kd.R_alloc | apply Kd.R_drewN | apply Kd.R_drew)); exact HO_15.out⟩, ⟨by (with_reducible repeat (first | apply Kd.R_alloc | apply Kd.R_drewN | apply Kd.R_drew)); exact HO_18.out⟩, ⟨by (with_reducible repeat (first | apply Kd.S_alloc | apply Kd.S_drewN | apply Kd.S_drew)); exact HO_528001.out⟩, ⟨by (with_reducible repeat (first | apply Kd.S_alloc | apply Kd.S_drewN | apply Kd.S_drew)); exact HO_537001.out⟩, ⟨by (with_reducible repeat (first | apply Kd.S_alloc | apply Kd.S_drewN | apply Kd.S_drew)); exact HO_547001.out⟩, ⟨by (with_reducible repeat (first | apply Kd.S_alloc | apply Kd.S_drewN | apply Kd.S_drew)); exact HO_556001.out⟩, ⟨by (with_reducible repeat (first | refine blk_drewN ?_ _ | refine blk_drew ?_ | refine blk_alloc ?_ _)); exact BK502.out⟩, ⟨by (with_reducible repeat (first | refine blk_drewN ?_ _ | refine blk_drew ?_ | refine blk_alloc ?_ _)); exact BK527.out⟩, ⟨by (with_reducible repeat (first | refine blk_drewN ?_ _ | refine blk_drew ?_ | refine blk_alloc ?_ _)); exact BK536.out⟩, ⟨by (with_reducible repeat (first | refine blk_drewN ?_ _ | refine blk_drew ?_ | refine blk_alloc ?_ _)); exact BK546.out⟩, ⟨by (with_reducible repeat (first | refine blk_drewN ?_ _ | refine blk_drew ?_ | refine blk_alloc ?_ _)); exact BK555.out⟩, ⟨pB⟩⟩
              case rest => as_aux_lemma =>
               clear HC91
               try clear c1
               try clear c2
               try clear p2
               try clear c4
               try clear c5
               try clear p5
               try clear q5
               try clear hx5
               try clear qi5
               try clear c6
               try clear p6
               try clear c7
               try clear c8
               try clear c9
               try clear c10
               try clear c10b0
               try clear c10b1
               try clear c11
               try clear c12
               try clear c13
               try clear c13b0
               try clear c13b1
               try clear c16
               try clear c16b0
               try clear c16b1
               try clear c16b2
               try clear c18
               try clear c20
               try clear c21
               try clear c22
               try clear c25
               try clear c25b0
               try clear c25b1
               try clear c26
               try clear c27
               try clear c27b0
               try clear c27b1
               try clear c28
               try clear c45
               try clear p51
               try clear q51
               try clear hx51
               try clear qi51
               try clear c52
               try clear c53
               try clear c56
               try clear c56b0
               try clear c56b1
               try clear c57
               try clear c58
               try clear c58b0
               try clear c58b1
               try clear c64
               try clear p64
               try clear c65
               try clear c69
               try clear c70
               try clear c71
               try clear c74
               try clear c78
               try clear c79
               try clear c80
               try clear c81
               try clear c85
               try clear c90
               try clear c92
               try clear c92b0
               try clear c92b1
               try clear hcz11_0
               try clear hcz11_1
               try clear hcz14_0
               try clear hcz14_1
               try clear hcz17_0
               try clear hcz17_1
               try clear hcz19_0
               try clear hcz19_1
               try clear hcz21_0
               try clear hcz21_1
               try clear hcz42_0
               try clear hcz42_1
               try clear hcz46_0
               try clear hcz46_1
               try clear hcz48_0
               try clear hcz48_1
               try clear hcz54_0
               try clear hcz54_1
               try clear hcz66_0
               try clear hcz66_1
               try clear hcz72_0
               try clear hcz72_1
               try clear hcz75_0
               try clear hcz75_1
               try clear hcz82_0
               try clear hcz82_1
               try clear hcz8_0
               try clear hcz8_1
               try clear hfz11_0
               try clear hfz11_1
               try clear hfz14_0
               try clear hfz14_1
               try clear hfz17_0
               try clear hfz17_1
               try clear hfz19_0
               try clear hfz19_1
               try clear hfz21_0
               try clear hfz21_1
               try clear hfz42_0
               try clear hfz42_1
               try clear hfz46_0
               try clear hfz46_1
               try clear hfz48_0
               try clear hfz48_1
               try clear hfz54_0
               try clear hfz54_1
               try clear hfz66_0
               try clear hfz66_1
               try clear hfz72_0
               try clear hfz72_1
               try clear hfz75_0
               try clear hfz75_1
               try clear hfz82_0
               try clear hfz82_1
               try clear hfz8_0
               try clear hfz8_1
               try clear hx512_0
               try clear p2
               try clear p5
               try clear p51
               try clear p512
               try clear q5
               try clear q51
               try clear q512
               obtain ⟨kq, x113_90, rfl, HA, HJ90, HO_15, HO_18, HO_528001, HO_537001, HO_547001, HO_556001, BK502, BK527, BK536, BK546, BK555, HB⟩ := hcut
               cases kq with
               | zero => exact absurd HA.out (by simp [papermilllaw19_PipeKinds.j3])
               | succ kj90 =>
                have H := HA.out
                clear HA
                simp only [papermilllaw19_PipeKinds.j3] at H
                by_cases c97 : x113_90 = true
                ·subst c97
                 have H1 : ((papermilllaw19_awake.f kj90).bind fun t559 => (some t559)) = some r := by rw [if_pos rfl] at H; exact H
                 clear H
                 have H := H1
                 clear H1
                 replace H := Option.bind_eq_some_iff.mp H
                 obtain ⟨t559, A980, H⟩ := H
                 replace H : (some t559) = some r := H
                 have A98 := Aside0.mk A980
                 clear A980
                 obtain rfl := Option.some.inj H
                 go_wp2_with (first | ((with_reducible refine gate_callee (f := 12) rfl ?_); refine goesL_ (some 114) rfl rfl Try.func12 (by kernel_rfl) rfl #[] rfl mA ?_; (with_reducible refine (papermilllaw19_awake.calls kj90  t559 _ A98.out).mono ?_); rintro e w99 ⟨rfl, hb⟩; refine ⟨_, rfl, ?_⟩; replace HO_15 := Aside0.mk (Kd.R_below (rX HO_15.out) hb); replace HO_18 := Aside0.mk (Kd.R_below (rX HO_18.out) hb); replace HO_528001 := Aside0.mk (Kd.S_below (by (with_reducible repeat (first | apply Kd.S_alloc | apply Kd.S_drewN | apply Kd.S_drew)); exact HO_528001.out) hb); replace HO_537001 := Aside0.mk (Kd.S_below (by (with_reducible repeat (first | apply Kd.S_alloc | apply Kd.S_drewN | apply Kd.S_drew)); exact HO_537001.out) hb); replace HO_547001 := Aside0.mk (Kd.S_below (by (with_reducible repeat (first | apply Kd.S_alloc | apply Kd.S_drewN | apply Kd.S_drew)); exact HO_547001.out) hb); replace HO_556001 := Aside0.mk (Kd.S_below (by (with_reducible repeat (first | apply Kd.S_alloc | apply Kd.S_drewN | apply Kd.S_drew)); exact HO_556001.out) hb); replace BK502 := Aside0.mk (kB BK502 hb); replace BK527 := Aside0.mk (kB BK527 hb); replace BK536 := Aside0.mk (kB BK536 hb); replace BK546 := Aside0.mk (kB BK546 hb); replace BK555 := Aside0.mk (kB BK555 hb); replace HB := Aside0.mk (below_step pB hb); (try clear hb); (try clear hb2); (try clear hk); (try clear hi)))
                 go_ret
                 exact ⟨by first | rfl | (simp [errW_none, errW_some] <;> rfl) | (simp [*, errW_none, errW_some] <;> rfl), pB⟩
                ·replace c97 := Bool.eq_false_iff.mpr c97
                 subst c97
                 have H1 : ((papermillref16_Same.f kj90 t542 t551).bind fun t560 => (if t560 = true then ((papermilllaw19_awake.f kj90).bind fun t561 => (some t561)) else (none))) = some r := by rw [if_neg (show ¬ (false = true) by decide)] at H; exact H
                 clear H
                 have H := H1
                 clear H1
                 replace H := Option.bind_eq_some_iff.mp H
                 obtain ⟨t560, A1000, H⟩ := H
                 replace H : (if t560 = true then ((papermilllaw19_awake.f kj90).bind fun t561 => (some t561)) else (none)) = some r := H
                 have A100 := Aside0.mk A1000
                 clear A1000
                 by_cases c101 : t560 = true
                 ·subst c101
                  have H1 : ((papermilllaw19_awake.f kj90).bind fun t561 => (some t561)) = some r := by rw [if_pos rfl] at H; exact H
                  clear H
                  have H := H1
                  clear H1
                  replace H := Option.bind_eq_some_iff.mp H
                  obtain ⟨t561, A1020, H⟩ := H
                  replace H : (some t561) = some r := H
                  have A102 := Aside0.mk A1020
                  clear A1020
                  obtain rfl := Option.some.inj H
                  obtain ⟨Ao103, co103, eo103⟩ := Kd.R_slice HO_15.out
                  subst eo103
                  obtain ⟨Ao104, co104, eo104⟩ := Kd.R_slice HO_18.out
                  subst eo104
                  go_wp2_with (first | ((with_reducible refine gate_callee (f := 20) rfl ?_); refine goesL_ (some 117) rfl rfl Try.func20 (by kernel_rfl) rfl #[.slice Ao103 t542.length co103, .slice Ao104 t551.length co104] rfl mA ?_; (with_reducible refine (papermillref16_Same.calls kj90 _ _ t542 _ _ t551 true _ ?side1 ?side2 ?side3 ?side4 A100.out).mono ?_); (case side1 => repeat (first | exact (Kd.R_reads' HO_15.out).2.2 | (with_reducible refine Kd.C_alloc ?_ _) | (with_reducible refine Kd.C_drewN ?_ _) | (with_reducible refine Kd.C_drew ?_))); (case side2 => exact (Kd.R_reads' HO_15.out).2.1); (case side3 => repeat (first | exact (Kd.R_reads' HO_18.out).2.2 | (with_reducible refine Kd.C_alloc ?_ _) | (with_reducible refine Kd.C_drewN ?_ _) | (with_reducible refine Kd.C_drew ?_))); (case side4 => exact (Kd.R_reads' HO_18.out).2.1); rintro e w' ⟨rfl, ⟨nd, rfl⟩⟩; refine ⟨_, rfl, ?_⟩) | (go_at_call 12; (with_reducible refine (papermilllaw19_awake.calls kj90  t561 _ A102.out).mono ?_); rintro e w105 ⟨rfl, hb⟩; replace HO_15 := Aside0.mk (Kd.R_below (rX HO_15.out) hb); replace HO_18 := Aside0.mk (Kd.R_below (rX HO_18.out) hb); replace HO_528001 := Aside0.mk (Kd.S_below (by (with_reducible repeat (first | apply Kd.S_alloc | apply Kd.S_drewN | apply Kd.S_drew)); exact HO_528001.out) hb); replace HO_537001 := Aside0.mk (Kd.S_below (by (with_reducible repeat (first | apply Kd.S_alloc | apply Kd.S_drewN | apply Kd.S_drew)); exact HO_537001.out) hb); replace HO_547001 := Aside0.mk (Kd.S_below (by (with_reducible repeat (first | apply Kd.S_alloc | apply Kd.S_drewN | apply Kd.S_drew)); exact HO_547001.out) hb); replace HO_556001 := Aside0.mk (Kd.S_below (by (with_reducible repeat (first | apply Kd.S_alloc | apply Kd.S_drewN | apply Kd.S_drew)); exact HO_556001.out) hb); replace BK502 := Aside0.mk (kB BK502 hb); replace BK527 := Aside0.mk (kB BK527 hb); replace BK536 := Aside0.mk (kB BK536 hb); replace BK546 := Aside0.mk (kB BK546 hb); replace BK555 := Aside0.mk (kB BK555 hb); replace HB := Aside0.mk (below_step pB hb); (try clear hb); (try clear hb2); (try clear hk); (try clear hi)))
                  go_ret
                  exact ⟨by first | rfl | (simp [errW_none, errW_some] <;> rfl) | (simp [*, errW_none, errW_some] <;> rfl), pB⟩
                 ·replace c101 := Bool.eq_false_iff.mpr c101
                  subst c101
                  have H1 : (none) = some r := by rw [if_neg (show ¬ (false = true) by decide)] at H; exact H
                  clear H
                  have H := H1
                  clear H1
                  exact absurd H (by simp)
       ·rw [if_neg c28] at H
        exact absurd H (by simp)
      ·rw [if_neg c27] at H
       exact absurd H (by simp)
     ·rw [if_neg c26] at H
      exact absurd H (by simp)
    ·rw [if_neg c25] at H
     exact absurd H (by simp)

/-- THE ONE PURE STATEMENT of papermilllaw19_PipeKinds: yours. -/
def papermilllaw19_PipeKinds.Pure : Prop := ∀ (a0_0 : Int) (l0_1 : List (List Int)) (l1 : List Int) (l2 : List Int), (Lit.int .i64 a0_0).wf = true → l0_1.length ≤ maxLen → l0_1.length * 24 ≤ 140737488351232 → (∀ x_ ∈ l0_1, x_.length ≤ maxLen ∧ x_.length * 8 ≤ 140737488351232 ∧ ∀ y_ ∈ x_, (Lit.int .i64 y_).wf = true) → l1.length ≤ maxLen → l1.length * 8 ≤ 140737488351232 → (∀ x_ ∈ l1, (Lit.int .i64 x_).wf = true) → l2.length ≤ maxLen → l2.length * 8 ≤ 140737488351232 → (∀ x_ ∈ l2, (Lit.int .i64 x_).wf = true) → ∃ k, papermilllaw19_PipeKinds.f k a0_0 l0_1 l1 l2 = some true

end Go.Proofs.Ytpnfdhhfdidlmaa.Print
