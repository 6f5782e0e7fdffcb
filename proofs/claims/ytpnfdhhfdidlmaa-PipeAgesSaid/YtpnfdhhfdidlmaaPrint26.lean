-- Written by wip/tools/myprint.py out of the translation. Not trusted: Lean checks it.
import Derived.Test.YtpnfdhhfdidlmaaPrint0
import Derived.Test.YtpnfdhhfdidlmaaPrint1
import Derived.Test.YtpnfdhhfdidlmaaPrint5
import Derived.Test.YtpnfdhhfdidlmaaPrint15
import Derived.Test.YtpnfdhhfdidlmaaPrint16
import Derived.Test.YtpnfdhhfdidlmaaPrint17
namespace Go.Proofs.Ytpnfdhhfdidlmaa.Print
open Go.RowKit Go.Proofs.YtpnfdhhfdidlmaaW.PrintWords Go.Proofs.YtpnfdhhfdidlmaaW.PrintLast Go.Proofs.YtpnfdhhfdidlmaaW.PrintMore
attribute [local go_sem] max2_int min2_int max_two min_two max_three min_three max_four min_four   -- for this text's walks alone
set_option linter.unusedVariables false
set_option linter.unusedSimpArgs false

/-! ### papermilllaw19_PipeAges: function 7 -/
mutual
def papermilllaw19_PipeAges.j0 : Nat → Int → Bool → Int → List (List Int) → Option (Bool)
 | 0, _, _, _, _ => none
 | k + 1, x1, x29, x563000, x563001 => if x29 = true then ((papermilllaw19_awake.f k).bind fun t565 => (some t565)) else (if (x563001.length : Int) = 0 then (none) else ((pipe_Age.f k x563000 x563001 (Int.tmod (wrap64 (x1)) (x563001.length : Int))).bind fun bt566 => ((pipe_Age.f k x563000 x563001 (wrap64 ((x563001.length : Int) - 1))).bind fun bt568 => (if bt566.2 = 0 then (if bt568.2 = 0 then (if bt568.1 = x563000 then (if bt566.1 < 1 then (papermilllaw19_PipeAges.j1 k (Int.tmod (wrap64 (x1)) (x563001.length : Int)) bt566.1 true x563000 x563001) else (if bt566.1 > x563000 then (papermilllaw19_PipeAges.j1 k (Int.tmod (wrap64 (x1)) (x563001.length : Int)) bt566.1 true x563000 x563001) else (papermilllaw19_PipeAges.j1 k (Int.tmod (wrap64 (x1)) (x563001.length : Int)) bt566.1 ((bt566.1 == bt568.1) != ((Int.tmod (wrap64 (x1)) (x563001.length : Int)) == (wrap64 ((x563001.length : Int) - 1)))) x563000 x563001))) else (papermilllaw19_PipeAges.j1 k (Int.tmod (wrap64 (x1)) (x563001.length : Int)) bt566.1 true x563000 x563001)) else (papermilllaw19_PipeAges.j1 k (Int.tmod (wrap64 (x1)) (x563001.length : Int)) bt566.1 true x563000 x563001)) else (papermilllaw19_PipeAges.j1 k (Int.tmod (wrap64 (x1)) (x563001.length : Int)) bt566.1 true x563000 x563001)))))
def papermilllaw19_PipeAges.j1 : Nat → Int → Int → Bool → Int → List (List Int) → Option (Bool)
 | 0, _, _, _, _, _ => none
 | k + 1, x5, x6, x85, x563000, x563001 => if x85 = true then (none) else (if 0 < (x563001.length : Int) then (if 0 ≤ ((rd_L1 x563001 0).length : Int) then (if (((rd_L1 x563001 0).length : Int) : Int).toNat ≤ 35184372088832 then ((some (List.replicate (((rd_L1 x563001 0).length : Int) : Int).toNat 0 : List Int)).bind fun y571 => (if (y571.length : Int) = 0 then (none) else (if 0 < (y571.length : Int) then ((some (y571.set (0 : Int).toNat x6 : List Int)).bind fun y574 => ((pipe_Push.f k x563000 x563001 y574).bind fun bt575 => (if bt575.2.2.2 = 0 then (if (bt575.2.2.1.length : Int) = (y571.length : Int) then (papermilllaw19_PipeAges.j2 k x5 y574 bt575.2.2.1 ((bt575.2.1.length : Int) != (wrap64 ((x563001.length : Int) - x5))) x563000 x563001) else (papermilllaw19_PipeAges.j2 k x5 y574 bt575.2.2.1 true x563000 x563001)) else (papermilllaw19_PipeAges.j2 k x5 y574 bt575.2.2.1 true x563000 x563001)))) else (none)))) else (none)) else (none)) else (none))
def papermilllaw19_PipeAges.j2 : Nat → Int → List Int → List Int → Bool → Int → List (List Int) → Option (Bool)
 | 0, _, _, _, _, _, _ => none
 | k + 1, x5, x10, x12, x124, x563000, x563001 => if x124 = true then (none) else (papermilllaw19_PipeAges.l0 k x5 x10 x12 0 x563000 x563001)
def papermilllaw19_PipeAges.l0 : Nat → Int → List Int → List Int → Int → Int → List (List Int) → Option (Bool)
 | 0, _, _, _, _, _, _ => none
 | k + 1, x5, x10, x12, x14, x563000, x563001 => if x14 < (x10.length : Int) then (papermilllaw19_PipeAges.l1 k x5 x10 x12 x14 0 0 x563000 x563001) else ((papermilllaw19_awake.f k).bind fun t584 => (some t584))
def papermilllaw19_PipeAges.l1 : Nat → Int → List Int → List Int → Int → Int → Int → Int → List (List Int) → Option (Bool)
 | 0, _, _, _, _, _, _, _, _ => none
 | k + 1, x5, x10, x12, x14, x15, x16, x563000, x563001 => if x16 ≤ x5 then (if 0 ≤ x16 then (if x16 < (x563001.length : Int) then (if x14 < ((rd_L1 x563001 x16).length : Int) then (if 0 ≤ x14 then (papermilllaw19_PipeAges.l1 k x5 x10 x12 x14 (wrap64 (x15 + (rd (rd_L1 x563001 x16) x14))) (wrap64 (x16 + 1)) x563000 x563001) else (none)) else (papermilllaw19_PipeAges.l1 k x5 x10 x12 x14 x15 (wrap64 (x16 + 1)) x563000 x563001)) else (none)) else (none)) else (if 0 ≤ x14 then (if x14 < (x12.length : Int) then (if x15 = (rd x12 x14) then (papermilllaw19_PipeAges.l0 k x5 x10 x12 (wrap64 (x14 + 1)) x563000 x563001) else (none)) else (none)) else (none))
end
def papermilllaw19_PipeAges.f (k : Nat) (a0_0 : Int) (l0_1 : List (List Int)) (a1 : Int) : Option (Bool) := (papermilllaw19_great.f k a0_0 l0_1).bind fun t563 => (if t563 = true then (papermilllaw19_PipeAges.j0 k a1 true a0_0 l0_1) else ((pipe_Check.f k a0_0 l0_1).bind fun t564 => (if t564 = 0 then (papermilllaw19_PipeAges.j0 k a1 ((l0_1.length : Int) == 0) a0_0 l0_1) else (papermilllaw19_PipeAges.j0 k a1 true a0_0 l0_1))))
theorem papermilllaw19_PipeAges.mono_l : ∀ k, (∀ y0 y1 y2 y3, LeO (papermilllaw19_PipeAges.j0 k y0 y1 y2 y3) (papermilllaw19_PipeAges.j0 (k + 1) y0 y1 y2 y3)) ∧ (∀ y0 y1 y2 y3 y4, LeO (papermilllaw19_PipeAges.j1 k y0 y1 y2 y3 y4) (papermilllaw19_PipeAges.j1 (k + 1) y0 y1 y2 y3 y4)) ∧ (∀ y0 y1 y2 y3 y4 y5, LeO (papermilllaw19_PipeAges.j2 k y0 y1 y2 y3 y4 y5) (papermilllaw19_PipeAges.j2 (k + 1) y0 y1 y2 y3 y4 y5)) ∧ (∀ y0 y1 y2 y3 y4 y5, LeO (papermilllaw19_PipeAges.l0 k y0 y1 y2 y3 y4 y5) (papermilllaw19_PipeAges.l0 (k + 1) y0 y1 y2 y3 y4 y5)) ∧ (∀ y0 y1 y2 y3 y4 y5 y6 y7, LeO (papermilllaw19_PipeAges.l1 k y0 y1 y2 y3 y4 y5 y6 y7) (papermilllaw19_PipeAges.l1 (k + 1) y0 y1 y2 y3 y4 y5 y6 y7))
 | 0 => ⟨fun _ _ _ _ r h => by simp [papermilllaw19_PipeAges.j0] at h, fun _ _ _ _ _ r h => by simp [papermilllaw19_PipeAges.j1] at h, fun _ _ _ _ _ _ r h => by simp [papermilllaw19_PipeAges.j2] at h, fun _ _ _ _ _ _ r h => by simp [papermilllaw19_PipeAges.l0] at h, fun _ _ _ _ _ _ _ _ r h => by simp [papermilllaw19_PipeAges.l1] at h⟩
 | k + 1 => by
  obtain ⟨ih0, ih1, ih2, ih3, ih4⟩ := papermilllaw19_PipeAges.mono_l k
  refine ⟨?_, ?_, ?_, ?_, ?_⟩
  ·intro y0 y1 y2 y3
   unfold papermilllaw19_PipeAges.j0
   repeat' first
   | (with_reducible exact ih0 _ _ _ _)
   | (with_reducible exact ih1 _ _ _ _ _)
   | (with_reducible exact ih2 _ _ _ _ _ _)
   | (with_reducible exact ih3 _ _ _ _ _ _)
   | (with_reducible exact ih4 _ _ _ _ _ _ _ _)
   | (with_reducible exact papermilllaw19_awake.mono _)
   | (with_reducible exact papermilllaw19_great.mono _ _ _)
   | (with_reducible exact pipe_Age.mono _ _ _ _)
   | (with_reducible exact pipe_Check.mono _ _ _)
   | (with_reducible exact pipe_Push.mono _ _ _ _)
   | (with_reducible exact LeO.refl _)
   | (with_reducible exact LeO.none _)
   | (with_reducible refine LeO.ite ?_ ?_)
   | (with_reducible refine LeO.bind ?_ (fun _ => ?_))
   | exact ih0 _ _ _ _
   | exact ih1 _ _ _ _ _
   | exact ih2 _ _ _ _ _ _
   | exact ih3 _ _ _ _ _ _
   | exact ih4 _ _ _ _ _ _ _ _
   | exact papermilllaw19_awake.mono _
   | exact papermilllaw19_great.mono _ _ _
   | exact pipe_Age.mono _ _ _ _
   | exact pipe_Check.mono _ _ _
   | exact pipe_Push.mono _ _ _ _
   | exact LeO.none _
   | refine LeO.ite ?_ ?_
   | refine LeO.bind ?_ (fun _ => ?_)
  ·intro y0 y1 y2 y3 y4
   unfold papermilllaw19_PipeAges.j1
   repeat' first
   | (with_reducible exact ih0 _ _ _ _)
   | (with_reducible exact ih1 _ _ _ _ _)
   | (with_reducible exact ih2 _ _ _ _ _ _)
   | (with_reducible exact ih3 _ _ _ _ _ _)
   | (with_reducible exact ih4 _ _ _ _ _ _ _ _)
   | (with_reducible exact papermilllaw19_awake.mono _)
   | (with_reducible exact papermilllaw19_great.mono _ _ _)
   | (with_reducible exact pipe_Age.mono _ _ _ _)
   | (with_reducible exact pipe_Check.mono _ _ _)
   | (with_reducible exact pipe_Push.mono _ _ _ _)
   | (with_reducible exact LeO.refl _)
   | (with_reducible exact LeO.none _)
   | (with_reducible refine LeO.ite ?_ ?_)
   | (with_reducible refine LeO.bind ?_ (fun _ => ?_))
   | exact ih0 _ _ _ _
   | exact ih1 _ _ _ _ _
   | exact ih2 _ _ _ _ _ _
   | exact ih3 _ _ _ _ _ _
   | exact ih4 _ _ _ _ _ _ _ _
   | exact papermilllaw19_awake.mono _
   | exact papermilllaw19_great.mono _ _ _
   | exact pipe_Age.mono _ _ _ _
   | exact pipe_Check.mono _ _ _
   | exact pipe_Push.mono _ _ _ _
   | exact LeO.none _
   | refine LeO.ite ?_ ?_
   | refine LeO.bind ?_ (fun _ => ?_)
  ·intro y0 y1 y2 y3 y4 y5
   unfold papermilllaw19_PipeAges.j2
   repeat' first
   | (with_reducible exact ih0 _ _ _ _)
   | (with_reducible exact ih1 _ _ _ _ _)
   | (with_reducible exact ih2 _ _ _ _ _ _)
   | (with_reducible exact ih3 _ _ _ _ _ _)
   | (with_reducible exact ih4 _ _ _ _ _ _ _ _)
   | (with_reducible exact papermilllaw19_awake.mono _)
   | (with_reducible exact papermilllaw19_great.mono _ _ _)
   | (with_reducible exact pipe_Age.mono _ _ _ _)
   | (with_reducible exact pipe_Check.mono _ _ _)
   | (with_reducible exact pipe_Push.mono _ _ _ _)
   | (with_reducible exact LeO.refl _)
   | (with_reducible exact LeO.none _)
   | (with_reducible refine LeO.ite ?_ ?_)
   | (with_reducible refine LeO.bind ?_ (fun _ => ?_))
   | exact ih0 _ _ _ _
   | exact ih1 _ _ _ _ _
   | exact ih2 _ _ _ _ _ _
   | exact ih3 _ _ _ _ _ _
   | exact ih4 _ _ _ _ _ _ _ _
   | exact papermilllaw19_awake.mono _
   | exact papermilllaw19_great.mono _ _ _
   | exact pipe_Age.mono _ _ _ _
   | exact pipe_Check.mono _ _ _
   | exact pipe_Push.mono _ _ _ _
   | exact LeO.none _
   | refine LeO.ite ?_ ?_
   | refine LeO.bind ?_ (fun _ => ?_)
  ·intro y0 y1 y2 y3 y4 y5
   unfold papermilllaw19_PipeAges.l0
   repeat' first
   | (with_reducible exact ih0 _ _ _ _)
   | (with_reducible exact ih1 _ _ _ _ _)
   | (with_reducible exact ih2 _ _ _ _ _ _)
   | (with_reducible exact ih3 _ _ _ _ _ _)
   | (with_reducible exact ih4 _ _ _ _ _ _ _ _)
   | (with_reducible exact papermilllaw19_awake.mono _)
   | (with_reducible exact papermilllaw19_great.mono _ _ _)
   | (with_reducible exact pipe_Age.mono _ _ _ _)
   | (with_reducible exact pipe_Check.mono _ _ _)
   | (with_reducible exact pipe_Push.mono _ _ _ _)
   | (with_reducible exact LeO.refl _)
   | (with_reducible exact LeO.none _)
   | (with_reducible refine LeO.ite ?_ ?_)
   | (with_reducible refine LeO.bind ?_ (fun _ => ?_))
   | exact ih0 _ _ _ _
   | exact ih1 _ _ _ _ _
   | exact ih2 _ _ _ _ _ _
   | exact ih3 _ _ _ _ _ _
   | exact ih4 _ _ _ _ _ _ _ _
   | exact papermilllaw19_awake.mono _
   | exact papermilllaw19_great.mono _ _ _
   | exact pipe_Age.mono _ _ _ _
   | exact pipe_Check.mono _ _ _
   | exact pipe_Push.mono _ _ _ _
   | exact LeO.none _
   | refine LeO.ite ?_ ?_
   | refine LeO.bind ?_ (fun _ => ?_)
  ·intro y0 y1 y2 y3 y4 y5 y6 y7
   unfold papermilllaw19_PipeAges.l1
   repeat' first
   | (with_reducible exact ih0 _ _ _ _)
   | (with_reducible exact ih1 _ _ _ _ _)
   | (with_reducible exact ih2 _ _ _ _ _ _)
   | (with_reducible exact ih3 _ _ _ _ _ _)
   | (with_reducible exact ih4 _ _ _ _ _ _ _ _)
   | (with_reducible exact papermilllaw19_awake.mono _)
   | (with_reducible exact papermilllaw19_great.mono _ _ _)
   | (with_reducible exact pipe_Age.mono _ _ _ _)
   | (with_reducible exact pipe_Check.mono _ _ _)
   | (with_reducible exact pipe_Push.mono _ _ _ _)
   | (with_reducible exact LeO.refl _)
   | (with_reducible exact LeO.none _)
   | (with_reducible refine LeO.ite ?_ ?_)
   | (with_reducible refine LeO.bind ?_ (fun _ => ?_))
   | exact ih0 _ _ _ _
   | exact ih1 _ _ _ _ _
   | exact ih2 _ _ _ _ _ _
   | exact ih3 _ _ _ _ _ _
   | exact ih4 _ _ _ _ _ _ _ _
   | exact papermilllaw19_awake.mono _
   | exact papermilllaw19_great.mono _ _ _
   | exact pipe_Age.mono _ _ _ _
   | exact pipe_Check.mono _ _ _
   | exact pipe_Push.mono _ _ _ _
   | exact LeO.none _
   | refine LeO.ite ?_ ?_
   | refine LeO.bind ?_ (fun _ => ?_)
theorem papermilllaw19_PipeAges.mono : ∀ a0 a1 a2 k, LeO (papermilllaw19_PipeAges.f k a0 a1 a2) (papermilllaw19_PipeAges.f (k + 1) a0 a1 a2) := by
 intro a0 a1 a2 k
 obtain ⟨ih0, ih1, ih2, ih3, ih4⟩ := papermilllaw19_PipeAges.mono_l k
 unfold papermilllaw19_PipeAges.f
 repeat' first
   | (with_reducible exact ih0 _ _ _ _)
   | (with_reducible exact ih1 _ _ _ _ _)
   | (with_reducible exact ih2 _ _ _ _ _ _)
   | (with_reducible exact ih3 _ _ _ _ _ _)
   | (with_reducible exact ih4 _ _ _ _ _ _ _ _)
   | (with_reducible exact papermilllaw19_awake.mono _)
   | (with_reducible exact papermilllaw19_great.mono _ _ _)
   | (with_reducible exact pipe_Age.mono _ _ _ _)
   | (with_reducible exact pipe_Check.mono _ _ _)
   | (with_reducible exact pipe_Push.mono _ _ _ _)
   | (with_reducible exact LeO.refl _)
   | (with_reducible exact LeO.none _)
   | (with_reducible refine LeO.ite ?_ ?_)
   | (with_reducible refine LeO.bind ?_ (fun _ => ?_))
   | exact ih0 _ _ _ _
   | exact ih1 _ _ _ _ _
   | exact ih2 _ _ _ _ _ _
   | exact ih3 _ _ _ _ _ _
   | exact ih4 _ _ _ _ _ _ _ _
   | exact papermilllaw19_awake.mono _
   | exact papermilllaw19_great.mono _ _ _
   | exact pipe_Age.mono _ _ _ _
   | exact pipe_Check.mono _ _ _
   | exact pipe_Push.mono _ _ _ _
   | exact LeO.none _
   | refine LeO.ite ?_ ?_
   | refine LeO.bind ?_ (fun _ => ?_)
set_option maxHeartbeats 8000000 in
set_option maxRecDepth 100000 in
theorem papermilllaw19_PipeAges.calls (k : Nat) (a0_0 : Int) (A0_1 : Option Addr) (c0_1 : Nat) (l0_1 : List (List Int)) (a1 : Int) (r : Bool) (w : World) (hr0_1 : Kd.C (Kd.slice 3 (Kd.int .i64)) w A0_1 l0_1.length l0_1) (hc0_1 : l0_1.length ≤ c0_1) (h : papermilllaw19_PipeAges.f k a0_0 l0_1 a1 = some r) :
  Calls Try.prog 7 #[.agg #[.int .i64 a0_0, .slice A0_1 l0_1.length c0_1], .int .u8 a1] w fun e w' => e = .returned (.bool r) ∧ Below w.heap.size w w' := by
 have hu24 := Try.underlying24
 have HR0_1 := Aside0.mk hr0_1
 have HC0_1 := Aside0.mk hc0_1
 clear hr0_1 hc0_1
 have HB := Aside0.mk (Below.refl w.heap.size w)
 have H : ((papermilllaw19_great.f k a0_0 l0_1).bind fun t563 => (if t563 = true then (papermilllaw19_PipeAges.j0 k a1 true a0_0 l0_1) else ((pipe_Check.f k a0_0 l0_1).bind fun t564 => (if t564 = 0 then (papermilllaw19_PipeAges.j0 k a1 ((l0_1.length : Int) == 0) a0_0 l0_1) else (papermilllaw19_PipeAges.j0 k a1 true a0_0 l0_1))))) = some r := h
 clear h
 have HC3 := Aside0.mk H
 clear H
 go_enter Try.func7, Try.ntmps7
 go_upto_region 1 with (first | ((with_reducible refine gate_dst (N := 2) rfl ?_); (try (refine gate_guard (by rfl) ?_; dsimp only)); refine box_event ?hg (N := 2) ?hd (cs := #[.int .i64 a0_0, .slice A0_1 l0_1.length c0_1]) (t := 24) ?hr ?_; (case hd => rfl); (case hg => rfl); (case hr => first | (go_simp; done) | (go_simp; rfl)); intro gb562 hg w4 hbox hb; have BK562 := Aside0.mk (hbox); have GW562 := Aside0.mk (gW hg : w.heap.size ≤ gb562); have GE562 := Aside0.mk (gW hg : w.heap.size ≤ gb562); replace HB := Aside0.mk (below_step pB hb); clear hb hbox hg))
 (try simp only [Act.put, List.setIfInBounds_toArray, List.set_cons_zero, List.set_cons_succ])
 go_cut [29] (fun v29 wc => ∃ (kq : Nat) (x29_2 : Bool), v29 = .bool x29_2 ∧ Aside0 (papermilllaw19_PipeAges.j0 kq a1 x29_2 a0_0 l0_1 = some r) ∧ Aside0 (kq ≤ k) ∧ Aside0 (wc.heap[gb562]? = some (.cells #[.int .i64 a0_0, (.slice A0_1 l0_1.length c0_1)] 24 (0, 0))) ∧ Aside0 (Below w.heap.size w wc))
 case first =>
  have H := HC3.out
  clear HC3
  replace H := Option.bind_eq_some_iff.mp H
  obtain ⟨t563, A50, H⟩ := H
  replace H : (if t563 = true then (papermilllaw19_PipeAges.j0 k a1 true a0_0 l0_1) else ((pipe_Check.f k a0_0 l0_1).bind fun t564 => (if t564 = 0 then (papermilllaw19_PipeAges.j0 k a1 ((l0_1.length : Int) == 0) a0_0 l0_1) else (papermilllaw19_PipeAges.j0 k a1 true a0_0 l0_1)))) = some r := H
  have A5 := Aside0.mk A50
  clear A50
  by_cases c6 : t563 = true
  ·subst c6
   have H1 : (papermilllaw19_PipeAges.j0 k a1 true a0_0 l0_1) = some r := by rw [if_pos rfl] at H; exact H
   clear H
   have H := H1
   clear H1
   have H' := Aside0.mk H
   clear H
   obtain ⟨hcz7_0, hcz7_1, hfz7_0, hfz7_1⟩ := bk2 BK562
   go_wp2_with (first | ((with_reducible refine gate_callee (f := 11) rfl ?_); refine goesL_ (some 18) rfl rfl Try.func11 (by kernel_rfl) rfl #[.agg #[.int .i64 a0_0, .slice A0_1 l0_1.length c0_1]] rfl mA ?_; (with_reducible refine (papermilllaw19_great.calls k a0_0 _ _ l0_1 true _ ?side1 ?side2 A5.out).mono ?_); (case side1 => repeat (first | exact (Kd.C_below HR0_1.out HB.out) | (with_reducible refine Kd.C_alloc ?_ _) | (with_reducible refine Kd.C_drewN ?_ _) | (with_reducible refine Kd.C_drew ?_))); (case side2 => exact HC0_1.out); rintro e w8 ⟨rfl, hb⟩; refine ⟨_, rfl, ?_⟩; replace BK562 := Aside0.mk (kB BK562 hb); replace HB := Aside0.mk (below_step pB hb); (try clear hb); (try clear hb2); (try clear hk); (try clear hi)))
   go_meet
   case rel => exact ⟨_, (true), (by first | rfl | (simp; done) | (simp [*]; done)), H', ⟨by first | omega | exact Nat.le_refl _⟩, ⟨by (with_reducible repeat (first | refine blk_drewN ?_ _ | refine blk_drew ?_ | refine blk_alloc ?_ _)); exact BK562.out⟩, ⟨pB⟩⟩
  ·replace c6 := Bool.eq_false_iff.mpr c6
   subst c6
   have H1 : ((pipe_Check.f k a0_0 l0_1).bind fun t564 => (if t564 = 0 then (papermilllaw19_PipeAges.j0 k a1 ((l0_1.length : Int) == 0) a0_0 l0_1) else (papermilllaw19_PipeAges.j0 k a1 true a0_0 l0_1))) = some r := by rw [if_neg (show ¬ (false = true) by decide)] at H; exact H
   clear H
   have H := H1
   clear H1
   replace H := Option.bind_eq_some_iff.mp H
   obtain ⟨t564, A90, H⟩ := H
   replace H : (if t564 = 0 then (papermilllaw19_PipeAges.j0 k a1 ((l0_1.length : Int) == 0) a0_0 l0_1) else (papermilllaw19_PipeAges.j0 k a1 true a0_0 l0_1)) = some r := H
   have A9 := Aside0.mk A90
   clear A90
   by_cases c10 : t564 = 0
   ·rw [if_pos c10] at H
    have c10b0 : (t564 == 0) = true := beq_iff_eq.mpr c10
    have c10b1 : (t564 != 0) = false := bne_eq_false_iff_eq.mpr c10
    clear c10
    (first | rw [c10b0] | (simp only [i64_w, i32_w]; rw [c10b0]) | skip)
    have H' := Aside0.mk H
    clear H
    obtain ⟨hcz11_0, hcz11_1, hfz11_0, hfz11_1⟩ := bk2 BK562
    go_wp2_with (first | ((with_reducible refine gate_callee (f := 11) rfl ?_); refine goesL_ (some 18) rfl rfl Try.func11 (by kernel_rfl) rfl #[.agg #[.int .i64 a0_0, .slice A0_1 l0_1.length c0_1]] rfl mA ?_; (with_reducible refine (papermilllaw19_great.calls k a0_0 _ _ l0_1 false _ ?side1 ?side2 A5.out).mono ?_); (case side1 => repeat (first | exact (Kd.C_below HR0_1.out HB.out) | (with_reducible refine Kd.C_alloc ?_ _) | (with_reducible refine Kd.C_drewN ?_ _) | (with_reducible refine Kd.C_drew ?_))); (case side2 => exact HC0_1.out); rintro e w12 ⟨rfl, hb⟩; refine ⟨_, rfl, ?_⟩; replace BK562 := Aside0.mk (kB BK562 hb); replace HB := Aside0.mk (below_step pB hb); (try clear hb); (try clear hb2); (try clear hk); (try clear hi); obtain ⟨hcz13_0, hcz13_1, hfz13_0, hfz13_1⟩ := bk2 BK562) | (go_at_call 13; (with_reducible refine (pipe_Check.calls k a0_0 _ _ l0_1 t564 _ ?side1 ?side2 A9.out).mono ?_); (case side1 => repeat (first | exact (Kd.C_below HR0_1.out HB.out) | (with_reducible refine Kd.C_alloc ?_ _) | (with_reducible refine Kd.C_drewN ?_ _) | (with_reducible refine Kd.C_drew ?_))); (case side2 => exact HC0_1.out); rintro e w14 ⟨rfl, hb⟩; replace BK562 := Aside0.mk (kB BK562 hb); replace HB := Aside0.mk (below_step pB hb); (try clear hb); (try clear hb2); (try clear hk); (try clear hi); obtain ⟨hcz15_0, hcz15_1, hfz15_0, hfz15_1⟩ := bk2 BK562))
    go_meet
    case rel => exact ⟨_, (((l0_1.length : Int) == 0)), (by first | rfl | (simp; done) | (simp [*]; done)), H', ⟨by first | omega | exact Nat.le_refl _⟩, ⟨by (with_reducible repeat (first | refine blk_drewN ?_ _ | refine blk_drew ?_ | refine blk_alloc ?_ _)); exact BK562.out⟩, ⟨pB⟩⟩
   ·rw [if_neg c10] at H
    have c10b0 : (t564 == 0) = false := beq_eq_false_iff_ne.mpr c10
    have c10b1 : (t564 != 0) = true := bne_iff_ne.mpr c10
    (first | rw [c10b0] | (simp only [i64_w, i32_w]; rw [c10b0]) | skip)
    have H' := Aside0.mk H
    clear H
    obtain ⟨hcz16_0, hcz16_1, hfz16_0, hfz16_1⟩ := bk2 BK562
    go_wp2_with (first | ((with_reducible refine gate_callee (f := 11) rfl ?_); refine goesL_ (some 18) rfl rfl Try.func11 (by kernel_rfl) rfl #[.agg #[.int .i64 a0_0, .slice A0_1 l0_1.length c0_1]] rfl mA ?_; (with_reducible refine (papermilllaw19_great.calls k a0_0 _ _ l0_1 false _ ?side1 ?side2 A5.out).mono ?_); (case side1 => repeat (first | exact (Kd.C_below HR0_1.out HB.out) | (with_reducible refine Kd.C_alloc ?_ _) | (with_reducible refine Kd.C_drewN ?_ _) | (with_reducible refine Kd.C_drew ?_))); (case side2 => exact HC0_1.out); rintro e w17 ⟨rfl, hb⟩; refine ⟨_, rfl, ?_⟩; replace BK562 := Aside0.mk (kB BK562 hb); replace HB := Aside0.mk (below_step pB hb); (try clear hb); (try clear hb2); (try clear hk); (try clear hi); obtain ⟨hcz18_0, hcz18_1, hfz18_0, hfz18_1⟩ := bk2 BK562) | (go_at_call 13; (with_reducible refine (pipe_Check.calls k a0_0 _ _ l0_1 t564 _ ?side1 ?side2 A9.out).mono ?_); (case side1 => repeat (first | exact (Kd.C_below HR0_1.out HB.out) | (with_reducible refine Kd.C_alloc ?_ _) | (with_reducible refine Kd.C_drewN ?_ _) | (with_reducible refine Kd.C_drew ?_))); (case side2 => exact HC0_1.out); rintro e w19 ⟨rfl, hb⟩; replace BK562 := Aside0.mk (kB BK562 hb); replace HB := Aside0.mk (below_step pB hb); (try clear hb); (try clear hb2); (try clear hk); (try clear hi)))
    go_meet
    case rel => exact ⟨_, (true), (by first | rfl | (simp; done) | (simp [*]; done)), H', ⟨by first | omega | exact Nat.le_refl _⟩, ⟨by (with_reducible repeat (first | refine blk_drewN ?_ _ | refine blk_drew ?_ | refine blk_alloc ?_ _)); exact BK562.out⟩, ⟨pB⟩⟩
 case rest => as_aux_lemma =>
  clear HC3
  try clear c1
  try clear p2
  try clear c6
  try clear c7
  try clear c10
  try clear c10b0
  try clear c10b1
  try clear c11
  try clear hcz11_0
  try clear hcz11_1
  try clear hcz13_0
  try clear hcz13_1
  try clear hcz15_0
  try clear hcz15_1
  try clear hcz16_0
  try clear hcz16_1
  try clear hcz18_0
  try clear hcz18_1
  try clear hcz7_0
  try clear hcz7_1
  try clear hfz11_0
  try clear hfz11_1
  try clear hfz13_0
  try clear hfz13_1
  try clear hfz15_0
  try clear hfz15_1
  try clear hfz16_0
  try clear hfz16_1
  try clear hfz18_0
  try clear hfz18_1
  try clear hfz7_0
  try clear hfz7_1
  obtain ⟨kq, x29_2, rfl, HA, HJ2, BK562, HB⟩ := hcut
  cases kq with
  | zero => exact absurd HA.out (by simp [papermilllaw19_PipeAges.j0])
  | succ kj2 =>
   have H := HA.out
   clear HA
   simp only [papermilllaw19_PipeAges.j0] at H
   by_cases c20 : x29_2 = true
   ·subst c20
    have H1 : ((papermilllaw19_awake.f kj2).bind fun t565 => (some t565)) = some r := by rw [if_pos rfl] at H; exact H
    clear H
    have H := H1
    clear H1
    replace H := Option.bind_eq_some_iff.mp H
    obtain ⟨t565, A210, H⟩ := H
    replace H : (some t565) = some r := H
    have A21 := Aside0.mk A210
    clear A210
    obtain rfl := Option.some.inj H
    go_wp2_with (first | ((with_reducible refine gate_callee (f := 12) rfl ?_); refine goesL_ (some 30) rfl rfl Try.func12 (by kernel_rfl) rfl #[] rfl mA ?_; (with_reducible refine (papermilllaw19_awake.calls kj2  t565 _ A21.out).mono ?_); rintro e w22 ⟨rfl, hb⟩; refine ⟨_, rfl, ?_⟩; replace BK562 := Aside0.mk (kB BK562 hb); replace HB := Aside0.mk (below_step pB hb); (try clear hb); (try clear hb2); (try clear hk); (try clear hi)))
    go_ret
    exact ⟨by first | rfl | (simp [errW_none, errW_some] <;> rfl) | (simp [*, errW_none, errW_some] <;> rfl), pB⟩
   ·replace c20 := Bool.eq_false_iff.mpr c20
    subst c20
    have H1 : (if (l0_1.length : Int) = 0 then (none) else ((pipe_Age.f kj2 a0_0 l0_1 (Int.tmod (wrap64 (a1)) (l0_1.length : Int))).bind fun bt566 => ((pipe_Age.f kj2 a0_0 l0_1 (wrap64 ((l0_1.length : Int) - 1))).bind fun bt568 => (if bt566.2 = 0 then (if bt568.2 = 0 then (if bt568.1 = a0_0 then (if bt566.1 < 1 then (papermilllaw19_PipeAges.j1 kj2 (Int.tmod (wrap64 (a1)) (l0_1.length : Int)) bt566.1 true a0_0 l0_1) else (if bt566.1 > a0_0 then (papermilllaw19_PipeAges.j1 kj2 (Int.tmod (wrap64 (a1)) (l0_1.length : Int)) bt566.1 true a0_0 l0_1) else (papermilllaw19_PipeAges.j1 kj2 (Int.tmod (wrap64 (a1)) (l0_1.length : Int)) bt566.1 ((bt566.1 == bt568.1) != ((Int.tmod (wrap64 (a1)) (l0_1.length : Int)) == (wrap64 ((l0_1.length : Int) - 1)))) a0_0 l0_1))) else (papermilllaw19_PipeAges.j1 kj2 (Int.tmod (wrap64 (a1)) (l0_1.length : Int)) bt566.1 true a0_0 l0_1)) else (papermilllaw19_PipeAges.j1 kj2 (Int.tmod (wrap64 (a1)) (l0_1.length : Int)) bt566.1 true a0_0 l0_1)) else (papermilllaw19_PipeAges.j1 kj2 (Int.tmod (wrap64 (a1)) (l0_1.length : Int)) bt566.1 true a0_0 l0_1))))) = some r := by rw [if_neg (show ¬ (false = true) by decide)] at H; exact H
    clear H
    have H := H1
    clear H1
    by_cases c23 : (l0_1.length : Int) = 0
    ·rw [if_pos c23] at H
     exact absurd H (by simp)
    ·rw [if_neg c23] at H
     have c23b0 : ((l0_1.length : Int) == 0) = false := beq_eq_false_iff_ne.mpr c23
     have c23b1 : ((l0_1.length : Int) != 0) = true := bne_iff_ne.mpr c23
     have c23b2 : ¬ (l0_1 = []) := fun h_ => c23 (by rw [h_]; rfl)
     replace H := Option.bind_eq_some_iff.mp H
     obtain ⟨⟨t566, t567⟩, A240, H⟩ := H
     replace H : ((pipe_Age.f kj2 a0_0 l0_1 (wrap64 ((l0_1.length : Int) - 1))).bind fun bt568 => (if t567 = 0 then (if bt568.2 = 0 then (if bt568.1 = a0_0 then (if t566 < 1 then (papermilllaw19_PipeAges.j1 kj2 (Int.tmod (wrap64 (a1)) (l0_1.length : Int)) t566 true a0_0 l0_1) else (if t566 > a0_0 then (papermilllaw19_PipeAges.j1 kj2 (Int.tmod (wrap64 (a1)) (l0_1.length : Int)) t566 true a0_0 l0_1) else (papermilllaw19_PipeAges.j1 kj2 (Int.tmod (wrap64 (a1)) (l0_1.length : Int)) t566 ((t566 == bt568.1) != ((Int.tmod (wrap64 (a1)) (l0_1.length : Int)) == (wrap64 ((l0_1.length : Int) - 1)))) a0_0 l0_1))) else (papermilllaw19_PipeAges.j1 kj2 (Int.tmod (wrap64 (a1)) (l0_1.length : Int)) t566 true a0_0 l0_1)) else (papermilllaw19_PipeAges.j1 kj2 (Int.tmod (wrap64 (a1)) (l0_1.length : Int)) t566 true a0_0 l0_1)) else (papermilllaw19_PipeAges.j1 kj2 (Int.tmod (wrap64 (a1)) (l0_1.length : Int)) t566 true a0_0 l0_1))) = some r := H
     have A24 := Aside0.mk A240
     clear A240
     replace H := Option.bind_eq_some_iff.mp H
     obtain ⟨⟨t568, t569⟩, A250, H⟩ := H
     replace H : (if t567 = 0 then (if t569 = 0 then (if t568 = a0_0 then (if t566 < 1 then (papermilllaw19_PipeAges.j1 kj2 (Int.tmod (wrap64 (a1)) (l0_1.length : Int)) t566 true a0_0 l0_1) else (if t566 > a0_0 then (papermilllaw19_PipeAges.j1 kj2 (Int.tmod (wrap64 (a1)) (l0_1.length : Int)) t566 true a0_0 l0_1) else (papermilllaw19_PipeAges.j1 kj2 (Int.tmod (wrap64 (a1)) (l0_1.length : Int)) t566 ((t566 == t568) != ((Int.tmod (wrap64 (a1)) (l0_1.length : Int)) == (wrap64 ((l0_1.length : Int) - 1)))) a0_0 l0_1))) else (papermilllaw19_PipeAges.j1 kj2 (Int.tmod (wrap64 (a1)) (l0_1.length : Int)) t566 true a0_0 l0_1)) else (papermilllaw19_PipeAges.j1 kj2 (Int.tmod (wrap64 (a1)) (l0_1.length : Int)) t566 true a0_0 l0_1)) else (papermilllaw19_PipeAges.j1 kj2 (Int.tmod (wrap64 (a1)) (l0_1.length : Int)) t566 true a0_0 l0_1)) = some r := H
     have A25 := Aside0.mk A250
     clear A250
     have HC26 := Aside0.mk H
     clear H
     obtain ⟨hcz27_0, hcz27_1, hfz27_0, hfz27_1⟩ := bk2 BK562
     go_upto_region 6 with (first | ((with_reducible refine gate_callee (f := 22) rfl ?_); refine goesL_ (some 40) rfl rfl Try.func22 (by kernel_rfl) rfl #[.agg #[.int .i64 a0_0, .slice A0_1 l0_1.length c0_1], .int .i64 (Int.tmod (wrap64 (a1)) (l0_1.length : Int))] rfl mA ?_; (with_reducible refine (pipe_Age.calls kj2 a0_0 _ _ l0_1 (Int.tmod (wrap64 (a1)) (l0_1.length : Int)) t566 t567 _ ?side1 ?side2 A24.out).mono ?_); (case side1 => repeat (first | exact (Kd.C_below HR0_1.out HB.out) | (with_reducible refine Kd.C_alloc ?_ _) | (with_reducible refine Kd.C_drewN ?_ _) | (with_reducible refine Kd.C_drew ?_))); (case side2 => exact HC0_1.out); rintro e w28 ⟨rfl, hb⟩; refine ⟨_, rfl, ?_⟩; replace BK562 := Aside0.mk (kB BK562 hb); replace HB := Aside0.mk (below_step pB hb); (try clear hb); (try clear hb2); (try clear hk); (try clear hi); obtain ⟨hcz29_0, hcz29_1, hfz29_0, hfz29_1⟩ := bk2 BK562) | ((with_reducible refine gate_callee (f := 22) rfl ?_); refine goesL_ (some 49) rfl rfl Try.func22 (by kernel_rfl) rfl #[.agg #[.int .i64 a0_0, .slice A0_1 l0_1.length c0_1], .int .i64 (wrap64 ((l0_1.length : Int) - 1))] rfl mA ?_; (with_reducible refine (pipe_Age.calls kj2 a0_0 _ _ l0_1 (wrap64 ((l0_1.length : Int) - 1)) t568 t569 _ ?side1 ?side2 A25.out).mono ?_); (case side1 => repeat (first | exact (Kd.C_below HR0_1.out HB.out) | (with_reducible refine Kd.C_alloc ?_ _) | (with_reducible refine Kd.C_drewN ?_ _) | (with_reducible refine Kd.C_drew ?_))); (case side2 => exact HC0_1.out); rintro e w30 ⟨rfl, hb⟩; refine ⟨_, rfl, ?_⟩; replace BK562 := Aside0.mk (kB BK562 hb); replace HB := Aside0.mk (below_step pB hb); (try clear hb); (try clear hb2); (try clear hk); (try clear hi)))
     (try simp only [Act.put, List.setIfInBounds_toArray, List.set_cons_zero, List.set_cons_succ])
     go_cut [85] (fun v85 wc => ∃ (kq : Nat) (x85_25 : Bool), v85 = .bool x85_25 ∧ Aside0 (papermilllaw19_PipeAges.j1 kq (Int.tmod (wrap64 (a1)) (l0_1.length : Int)) t566 x85_25 a0_0 l0_1 = some r) ∧ Aside0 (kq ≤ kj2) ∧ Aside0 (wc.heap[gb562]? = some (.cells #[.int .i64 a0_0, (.slice A0_1 l0_1.length c0_1)] 24 (0, 0))) ∧ Aside0 (Below w.heap.size w wc))
     case first =>
      have H := HC26.out
      clear HC26
      by_cases c31 : t567 = 0
      ·rw [if_pos c31] at H
       have c31b0 : (t567 == 0) = true := beq_iff_eq.mpr c31
       have c31b1 : (t567 != 0) = false := bne_eq_false_iff_eq.mpr c31
       clear c31
       (first | rw [c31b0] | (simp only [i64_w, i32_w]; rw [c31b0]) | skip)
       by_cases c32 : t569 = 0
       ·rw [if_pos c32] at H
        have c32b0 : (t569 == 0) = true := beq_iff_eq.mpr c32
        have c32b1 : (t569 != 0) = false := bne_eq_false_iff_eq.mpr c32
        clear c32
        by_cases c33 : t568 = a0_0
        ·rw [if_pos c33] at H
         have c33b0 : (t568 == a0_0) = true := beq_iff_eq.mpr c33
         have c33b1 : (t568 != a0_0) = false := bne_eq_false_iff_eq.mpr c33
         clear c33
         by_cases c34 : t566 < 1
         ·rw [if_pos c34] at H
          have c34b0 : decide (t566 < 1) = true := decide_eq_true c34
          clear c34
          have H' := Aside0.mk H
          clear H
          obtain ⟨hcz35_0, hcz35_1, hfz35_0, hfz35_1⟩ := bk2 BK562
          go_wp2
          go_meet
          case rel => exact ⟨_, (true), (by first | rfl | (simp; done) | (simp [*]; done)), H', ⟨by have := HJ2.out; first | omega | exact Nat.le_refl _⟩, ⟨by (with_reducible repeat (first | refine blk_drewN ?_ _ | refine blk_drew ?_ | refine blk_alloc ?_ _)); exact BK562.out⟩, ⟨pB⟩⟩
         ·rw [if_neg c34] at H
          have c34b0 : decide (t566 < 1) = false := decide_eq_false c34
          clear c34
          by_cases c36 : t566 > a0_0
          ·rw [if_pos c36] at H
           have c36b0 : decide (a0_0 < t566) = true := decide_eq_true c36
           clear c36
           have H' := Aside0.mk H
           clear H
           obtain ⟨hcz37_0, hcz37_1, hfz37_0, hfz37_1⟩ := bk2 BK562
           go_wp2
           go_meet
           case rel => exact ⟨_, (true), (by first | rfl | (simp; done) | (simp [*]; done)), H', ⟨by have := HJ2.out; first | omega | exact Nat.le_refl _⟩, ⟨by (with_reducible repeat (first | refine blk_drewN ?_ _ | refine blk_drew ?_ | refine blk_alloc ?_ _)); exact BK562.out⟩, ⟨pB⟩⟩
          ·rw [if_neg c36] at H
           have c36b0 : decide (a0_0 < t566) = false := decide_eq_false c36
           clear c36
           have H' := Aside0.mk H
           clear H
           obtain ⟨hcz38_0, hcz38_1, hfz38_0, hfz38_1⟩ := bk2 BK562
           go_wp2
           go_meet
           case rel => exact ⟨_, (((t566 == t568) != ((Int.tmod (wrap64 (a1)) (l0_1.length : Int)) == (wrap64 ((l0_1.length : Int) - 1))))), (by first | rfl | (simp; done) | (simp [*]; done)), H', ⟨by have := HJ2.out; first | omega | exact Nat.le_refl _⟩, ⟨by (with_reducible repeat (first | refine blk_drewN ?_ _ | refine blk_drew ?_ | refine blk_alloc ?_ _)); exact BK562.out⟩, ⟨pB⟩⟩
        ·rw [if_neg c33] at H
         have c33b0 : (t568 == a0_0) = false := beq_eq_false_iff_ne.mpr c33
         have c33b1 : (t568 != a0_0) = true := bne_iff_ne.mpr c33
         have H' := Aside0.mk H
         clear H
         obtain ⟨hcz39_0, hcz39_1, hfz39_0, hfz39_1⟩ := bk2 BK562
         go_wp2
         go_meet
         case rel => exact ⟨_, (true), (by first | rfl | (simp; done) | (simp [*]; done)), H', ⟨by have := HJ2.out; first | omega | exact Nat.le_refl _⟩, ⟨by (with_reducible repeat (first | refine blk_drewN ?_ _ | refine blk_drew ?_ | refine blk_alloc ?_ _)); exact BK562.out⟩, ⟨pB⟩⟩
       ·rw [if_neg c32] at H
        have c32b0 : (t569 == 0) = false := beq_eq_false_iff_ne.mpr c32
        have c32b1 : (t569 != 0) = true := bne_iff_ne.mpr c32
        have H' := Aside0.mk H
        clear H
        go_wp2
        go_meet
        case rel => exact ⟨_, (true), (by first | rfl | (simp; done) | (simp [*]; done)), H', ⟨by have := HJ2.out; first | omega | exact Nat.le_refl _⟩, ⟨by (with_reducible repeat (first | refine blk_drewN ?_ _ | refine blk_drew ?_ | refine blk_alloc ?_ _)); exact BK562.out⟩, ⟨pB⟩⟩
      ·rw [if_neg c31] at H
       have c31b0 : (t567 == 0) = false := beq_eq_false_iff_ne.mpr c31
       have c31b1 : (t567 != 0) = true := bne_iff_ne.mpr c31
       (first | rw [c31b0] | (simp only [i64_w, i32_w]; rw [c31b0]) | skip)
       have H' := Aside0.mk H
       clear H
       go_wp2
       go_meet
       case rel => exact ⟨_, (true), (by first | rfl | (simp; done) | (simp [*]; done)), H', ⟨by have := HJ2.out; first | omega | exact Nat.le_refl _⟩, ⟨by (with_reducible repeat (first | refine blk_drewN ?_ _ | refine blk_drew ?_ | refine blk_alloc ?_ _)); exact BK562.out⟩, ⟨pB⟩⟩
     case rest => as_aux_lemma =>
      clear HC26
      try clear c1
      try clear c2
      try clear p2
      try clear c3
      try clear c6
      try clear p6
      try clear c7
      try clear c10
      try clear c10b0
      try clear c10b1
      try clear c11
      try clear c12
      try clear c20
      try clear c22
      try clear c23
      try clear c23b0
      try clear c23b1
      try clear c23b2
      try clear c31
      try clear c31b0
      try clear c31b1
      try clear c32
      try clear c32b0
      try clear c32b1
      try clear c33
      try clear c33b0
      try clear c33b1
      try clear c34
      try clear c34b0
      try clear c36
      try clear c36b0
      try clear hcz11_0
      try clear hcz11_1
      try clear hcz13_0
      try clear hcz13_1
      try clear hcz15_0
      try clear hcz15_1
      try clear hcz16_0
      try clear hcz16_1
      try clear hcz18_0
      try clear hcz18_1
      try clear hcz27_0
      try clear hcz27_1
      try clear hcz29_0
      try clear hcz29_1
      try clear hcz35_0
      try clear hcz35_1
      try clear hcz37_0
      try clear hcz37_1
      try clear hcz38_0
      try clear hcz38_1
      try clear hcz39_0
      try clear hcz39_1
      try clear hcz7_0
      try clear hcz7_1
      try clear hfz11_0
      try clear hfz11_1
      try clear hfz13_0
      try clear hfz13_1
      try clear hfz15_0
      try clear hfz15_1
      try clear hfz16_0
      try clear hfz16_1
      try clear hfz18_0
      try clear hfz18_1
      try clear hfz27_0
      try clear hfz27_1
      try clear hfz29_0
      try clear hfz29_1
      try clear hfz35_0
      try clear hfz35_1
      try clear hfz37_0
      try clear hfz37_1
      try clear hfz38_0
      try clear hfz38_1
      try clear hfz39_0
      try clear hfz39_1
      try clear hfz7_0
      try clear hfz7_1
      try clear p2
      obtain ⟨kq, x85_25, rfl, HA, HJ25, BK562, HB⟩ := hcut
      cases kq with
      | zero => exact absurd HA.out (by simp [papermilllaw19_PipeAges.j1])
      | succ kj25 =>
       have H := HA.out
       clear HA
       simp only [papermilllaw19_PipeAges.j1] at H
       by_cases c40 : x85_25 = true
       ·subst c40
        have H1 : (none) = some r := by rw [if_pos rfl] at H; exact H
        clear H
        have H := H1
        clear H1
        exact absurd H (by simp)
       ·replace c40 := Bool.eq_false_iff.mpr c40
        subst c40
        have H1 : (if 0 < (l0_1.length : Int) then (if 0 ≤ ((rd_L1 l0_1 0).length : Int) then (if (((rd_L1 l0_1 0).length : Int) : Int).toNat ≤ 35184372088832 then ((some (List.replicate (((rd_L1 l0_1 0).length : Int) : Int).toNat 0 : List Int)).bind fun y571 => (if (y571.length : Int) = 0 then (none) else (if 0 < (y571.length : Int) then ((some (y571.set (0 : Int).toNat t566 : List Int)).bind fun y574 => ((pipe_Push.f kj25 a0_0 l0_1 y574).bind fun bt575 => (if bt575.2.2.2 = 0 then (if (bt575.2.2.1.length : Int) = (y571.length : Int) then (papermilllaw19_PipeAges.j2 kj25 (Int.tmod (wrap64 (a1)) (l0_1.length : Int)) y574 bt575.2.2.1 ((bt575.2.1.length : Int) != (wrap64 ((l0_1.length : Int) - (Int.tmod (wrap64 (a1)) (l0_1.length : Int))))) a0_0 l0_1) else (papermilllaw19_PipeAges.j2 kj25 (Int.tmod (wrap64 (a1)) (l0_1.length : Int)) y574 bt575.2.2.1 true a0_0 l0_1)) else (papermilllaw19_PipeAges.j2 kj25 (Int.tmod (wrap64 (a1)) (l0_1.length : Int)) y574 bt575.2.2.1 true a0_0 l0_1)))) else (none)))) else (none)) else (none)) else (none)) = some r := by rw [if_neg (show ¬ (false = true) by decide)] at H; exact H
        clear H
        have H := H1
        clear H1
        by_cases c41 : 0 < (l0_1.length : Int)
        ·rw [if_pos c41] at H
         have c41b0 : decide (0 < (l0_1.length : Int)) = true := decide_eq_true c41
         have c41b1 : decide (0 < l0_1.length) = true := decide_eq_true (by omega)
         clear c41
         by_cases c42 : 0 ≤ ((rd_L1 l0_1 0).length : Int)
         ·rw [if_pos c42] at H
          have c42b0 := eq_true c42
          have c42b1 : decide (0 ≤ ((rd_L1 l0_1 0).length : Int)) = true := decide_eq_true c42
          clear c42
          by_cases c43 : (((rd_L1 l0_1 0).length : Int) : Int).toNat ≤ 35184372088832
          ·rw [if_pos c43] at H
           have c43b0 := eq_true c43
           have c43b1 : decide ((((rd_L1 l0_1 0).length : Int) : Int).toNat ≤ 35184372088832) = true := decide_eq_true c43
           clear c43
           obtain ⟨y571, hy571⟩ : ∃ y_ : List Int, y_ = (List.replicate (((rd_L1 l0_1 0).length : Int) : Int).toNat 0) := ⟨_, rfl⟩
           replace H : (if (y571.length : Int) = 0 then (none) else (if 0 < (y571.length : Int) then ((some (y571.set (0 : Int).toNat t566 : List Int)).bind fun y574 => ((pipe_Push.f kj25 a0_0 l0_1 y574).bind fun bt575 => (if bt575.2.2.2 = 0 then (if (bt575.2.2.1.length : Int) = (y571.length : Int) then (papermilllaw19_PipeAges.j2 kj25 (Int.tmod (wrap64 (a1)) (l0_1.length : Int)) y574 bt575.2.2.1 ((bt575.2.1.length : Int) != (wrap64 ((l0_1.length : Int) - (Int.tmod (wrap64 (a1)) (l0_1.length : Int))))) a0_0 l0_1) else (papermilllaw19_PipeAges.j2 kj25 (Int.tmod (wrap64 (a1)) (l0_1.length : Int)) y574 bt575.2.2.1 true a0_0 l0_1)) else (papermilllaw19_PipeAges.j2 kj25 (Int.tmod (wrap64 (a1)) (l0_1.length : Int)) y574 bt575.2.2.1 true a0_0 l0_1)))) else (none))) = some r := by first | (rw [hy571]; with_reducible exact H) | (have H2_ := (Option.bind_some _ _).symm.trans H; rw [hy571]; with_reducible exact H2_) | (have H2_ := (Option.bind_some _ _).symm.trans H; with_reducible exact H2_) | with_reducible exact H | (rw [hy571]; exact H) | exact H
           have Ny571 := Aside0.mk hy571
           clear hy571
           by_cases c44 : (y571.length : Int) = 0
           ·rw [if_pos c44] at H
            exact absurd H (by simp)
           ·rw [if_neg c44] at H
            have c44b0 : ((y571.length : Int) == 0) = false := beq_eq_false_iff_ne.mpr c44
            have c44b1 : ((y571.length : Int) != 0) = true := bne_iff_ne.mpr c44
            have c44b2 : ¬ (y571 = []) := fun h_ => c44 (by rw [h_]; rfl)
            by_cases c45 : 0 < (y571.length : Int)
            ·rw [if_pos c45] at H
             have c45b0 : decide (0 < (y571.length : Int)) = true := decide_eq_true c45
             have c45b1 : decide (0 < y571.length) = true := decide_eq_true (by omega)
             clear c45
             obtain ⟨y574, hy574⟩ : ∃ y_ : List Int, y_ = (y571.set (0 : Int).toNat t566) := ⟨_, rfl⟩
             replace H : ((pipe_Push.f kj25 a0_0 l0_1 y574).bind fun bt575 => (if bt575.2.2.2 = 0 then (if (bt575.2.2.1.length : Int) = (y571.length : Int) then (papermilllaw19_PipeAges.j2 kj25 (Int.tmod (wrap64 (a1)) (l0_1.length : Int)) y574 bt575.2.2.1 ((bt575.2.1.length : Int) != (wrap64 ((l0_1.length : Int) - (Int.tmod (wrap64 (a1)) (l0_1.length : Int))))) a0_0 l0_1) else (papermilllaw19_PipeAges.j2 kj25 (Int.tmod (wrap64 (a1)) (l0_1.length : Int)) y574 bt575.2.2.1 true a0_0 l0_1)) else (papermilllaw19_PipeAges.j2 kj25 (Int.tmod (wrap64 (a1)) (l0_1.length : Int)) y574 bt575.2.2.1 true a0_0 l0_1))) = some r := by first | (rw [hy574]; with_reducible exact H) | (have H2_ := (Option.bind_some _ _).symm.trans H; rw [hy574]; with_reducible exact H2_) | (have H2_ := (Option.bind_some _ _).symm.trans H; with_reducible exact H2_) | with_reducible exact H | (rw [hy574]; exact H) | exact H
             have Ny574 := Aside0.mk hy574
             clear hy574
             replace H := Option.bind_eq_some_iff.mp H
             obtain ⟨⟨t575, t576, t579, t582⟩, A470, H⟩ := H
             replace H : (if t582 = 0 then (if (t579.length : Int) = (y571.length : Int) then (papermilllaw19_PipeAges.j2 kj25 (Int.tmod (wrap64 (a1)) (l0_1.length : Int)) y574 t579 ((t576.length : Int) != (wrap64 ((l0_1.length : Int) - (Int.tmod (wrap64 (a1)) (l0_1.length : Int))))) a0_0 l0_1) else (papermilllaw19_PipeAges.j2 kj25 (Int.tmod (wrap64 (a1)) (l0_1.length : Int)) y574 t579 true a0_0 l0_1)) else (papermilllaw19_PipeAges.j2 kj25 (Int.tmod (wrap64 (a1)) (l0_1.length : Int)) y574 t579 true a0_0 l0_1)) = some r := H
             have A47 := Aside0.mk A470
             clear A470
             have HC48 := Aside0.mk H
             clear H
             obtain ⟨hcz49_0, hcz49_1, hfz49_0, hfz49_1⟩ := bk2 BK562
             have p570 : 0 ≤ (0 : Int) := (by omega)
             have q570 : 0 < (l0_1.length : Int) := of_decide_eq_true (by first | (with_reducible assumption) | assumption)
             obtain ⟨ad570, A570_0, c570_0, e570, hx570_0, hl570_0, hi570_0⟩ := at_L1 HR0_1.out 0 p570 q570
             cases e570
             have qi570 : (0 < l0_1.length) = True := eq_true (by omega)
             (try rw [show ((0 : Int)).toNat = 0 from rfl] at hx570_0)
             (try rw [Addr.add_zero'] at hx570_0)
             replace hx570_0 := (HB.out.cell (World.block_lt_of_cell? w _ hx570_0)).trans hx570_0
             have HR570_0 := Aside0.mk hi570_0
             have HC570_0 := Aside0.mk hl570_0
             clear hi570_0 hl570_0
             replace p570 := eq_true p570
             replace q570 := eq_true q570
             go_upto_region 13 with (first | ((with_reducible refine gate_dst (N := 91) rfl ?_); (try (refine gate_guard (by rfl) ?_; dsimp only)); refine Kd.R_make (Kd.int .i64) _ 3 rfl (N := 91) rfl 29 _ _ rfl ((rd_L1 l0_1 0).length : Int) rfl rfl Try.underlying29 (.int .i64 0) 8 info3 rfl (by decide) (by omega) 0 (ok := fun _ => True) (okp := fun _ => True) rfl (fun _ hk => hk) trivial (of_decide_eq_true (by first | (with_reducible assumption) | assumption)) (Nat.le_trans (Nat.mul_le_mul_right _ (of_decide_eq_true (by first | (with_reducible assumption) | assumption) : ((rd_L1 l0_1 0).length : Int).toNat ≤ 35184372088832)) (by omega)) (Below.refl _ _) (Nat.le_refl _) ?_; intro v572 w50 ho51 hb hg_ hnew_; clear hg_ hnew_; (first | rw [← Ny571.out] at ho51 | (simp only [Int.reduceToNat] at ho51; rw [← Ny571.out] at ho51)); have HO573 := Aside0.mk (Kd.R_lower ho51 (below_size pB)); replace BK562 := Aside0.mk (kB BK562 hb); replace HB := Aside0.mk (below_step pB hb); clear hb ho51; obtain ⟨Ao52, co52, eo52⟩ := Kd.R_slice HO573.out; subst eo52; have p46 : 0 ≤ (0 : Int) := (by omega); have q46 : (0 : Int) < ((y571.length : Int) : Int) := of_decide_eq_true (by first | (with_reducible assumption) | assumption); have qi46 : (0 < y571.length) = True := eq_true (by omega); obtain ⟨go46, co46, eo46, gb46, gl46, cl46, HG46⟩ := Kd.R_form HO573.out (by omega); (first | cases eo46 | (injection eo46 with ea_ en_ ec_; (first | subst ea_ | (injection ea_ with ea_; subst ea_)); subst ec_; clear en_)); have GB46 := Aside0.mk gb46; have GG46 := Aside0.mk HG46; clear gb46 gl46 HG46; obtain ⟨hx46_0, hf46_0⟩ := Kd.R_celln 0 HO573.out (0 : Int) p46 q46; (try rw [show ((0 : Int)).toNat = 0 from rfl] at hx46_0); (try simp only [Nat.reduceMul, Nat.zero_mul, Nat.zero_add, Nat.reduceAdd] at hx46_0); (try rw [show ((0 : Int)).toNat = 0 from rfl] at hf46_0); (try simp only [Nat.reduceMul, Nat.zero_mul, Nat.zero_add, Nat.reduceAdd] at hf46_0); replace p46 := eq_true p46; replace q46 := eq_true q46; obtain ⟨hy53_, hz53_⟩ := Kd.R_celln 0 HO573.out (0 : Int) (by omega) (of_decide_eq_true (by first | (with_reducible assumption) | assumption)); (try simp only [Int.reduceToNat, Int.toNat_zero, Int.toNat_ofNat, Nat.reduceMul, Nat.zero_mul, Nat.zero_add] at hy53_ hz53_); (try rw [show ((0 : Int)).toNat = 0 from rfl] at hy53_); (try rw [show ((0 : Int)).toNat = 0 from rfl] at hz53_); have HP53 := Kd.R_putg HO573.out (0 : Int) t566) | ((with_reducible refine gate_store (t := 3) (p := 97) rfl ?_); refine store_event (t := 3) (p := 97) (v := ?vo_w54) (w1 := (w50.setCell ⟨go46, (0 : Int).toNat, none⟩ (.int .i64 t566))) ?hg ?ho ?hn ?hr ?_; (case ho => rfl); (case hg => rfl); (case hn => rfl); (case hr => first | (go_simp; done) | (go_simp; rfl)); intro w54 hw; have hg : w50.grownBy w54 (some go46) := (by rw [hw]; exact HP53.2); have hp_ : Kd.R (Kd.int .i64) 3 w54 w.heap.size (fun _ => True) (.slice (some ⟨go46, 0, none⟩) y571.length co52) y574 := (by rw [hw, Ny574.out]; exact HP53.1); clear HP53; replace BK562 := Aside0.mk (blk_grown (g := gb562) (o := .cells #[.int .i64 a0_0, .slice (some ad570) l0_1.length c0_1] 24 (0, 0)) (kW BK562) hg (Kd.R_ne HO573.out BK562.out (by decide))); replace HO573 := Aside0.mk (hp_); replace HB := Aside0.mk ((by rw [hw]; exact below_set (HB.out) GB46.out : Below w.heap.size w w54)); clear hg hw hp_; obtain ⟨hcz55_0, hcz55_1, hfz55_0, hfz55_1⟩ := bk2 BK562) | ((with_reducible refine gate_callee (f := 18) rfl ?_); refine goesL_ (some 101) rfl rfl Try.func18 (by kernel_rfl) rfl #[.agg #[.int .i64 a0_0, .slice (some ad570) l0_1.length c0_1], .slice (some ⟨go46, 0, none⟩) y574.length co52] rfl (by (try simp only [List.map_toArray, List.map_cons, List.map_nil]); first | done | (rw [show y574.length = y571.length from (Kd.R_reads' HO573.out).1.symm] <;> rfl) | rfl | (simp only [List.length_drop, List.length_take]; rfl)) ?_; (with_reducible refine (pipe_Push.calls kj25 a0_0 _ _ l0_1 _ _ y574 t575 t576 t579 t582 _ ?side1 ?side2 ?side3 ?side4 A47.out).mono ?_); (case side1 => repeat (first | exact (Kd.C_below HR0_1.out HB.out) | (with_reducible refine Kd.C_alloc ?_ _) | (with_reducible refine Kd.C_drewN ?_ _) | (with_reducible refine Kd.C_drew ?_))); (case side2 => exact HC0_1.out); (case side3 => repeat (first | exact (Kd.R_reads' HO573.out).2.2 | (with_reducible refine Kd.C_alloc ?_ _) | (with_reducible refine Kd.C_drewN ?_ _) | (with_reducible refine Kd.C_drew ?_))); (case side4 => rw [show y574.length = y571.length from (Kd.R_reads' HO573.out).1.symm]; exact (Kd.R_reads' HO573.out).2.1); rintro e w56 ⟨v577, v580, rfl, ho0, ho1, hb⟩; refine ⟨_, rfl, ?_⟩; have HO578 := Aside0.mk (Kd.S_lower (Kd.S_new' ho0 (Kd.R_lt (rX HO573.out))) (below_size pB)); have HO581 := Aside0.mk (Kd.R_lower (Kd.R_new' ho1 (Kd.R_lt (rX HO573.out))) (below_size pB)); replace HO573 := Aside0.mk (Kd.R_elder' (rX HO573.out) (Kd.R_base ho1) hb); replace BK562 := Aside0.mk (kB BK562 hb); replace HB := Aside0.mk (below_step pB hb); (try clear hb); (try clear hb2); (try clear hk); (try clear hi); (try clear ho0); (try clear ho1)) | ((with_reducible refine gate_dst (N := 11) rfl ?_); (try (refine gate_guard (by rfl) ?_; dsimp only)); refine box_event ?hg (N := 11) ?hd (cs := #[.int .i64 0, .slice none 0 0]) (t := 24) ?hr ?_; (case hd => rfl); (case hg => rfl); (case hr => first | (go_simp; done) | (go_simp; rfl)); intro gb583 hg w57 hbox hb; have BK583 := Aside0.mk (hbox); have GW583 := Aside0.mk (gW hg : w.heap.size ≤ gb583); have GE583 := Aside0.mk (gW hg : w.heap.size ≤ gb583); have NB562_583 := Aside0.mk (nL hg BK562 : gb562 ≠ gb583); have NB583_562 := Aside0.mk (nG hg BK562 : gb583 ≠ gb562); replace HO573 := Aside0.mk (Kd.R_below (rX HO573.out) hb); replace HO578 := Aside0.mk (Kd.S_below (by (with_reducible repeat (first | apply Kd.S_alloc | apply Kd.S_drewN | apply Kd.S_drew)); exact HO578.out) hb); replace HO581 := Aside0.mk (Kd.R_below (rX HO581.out) hb); replace BK562 := Aside0.mk (kB BK562 hb); replace HB := Aside0.mk (below_step pB hb); clear hb hbox hg; have hnb58 := NB583_562.out; have hnc58 := NB562_583.out; obtain ⟨hcz59_0, hcz59_1, hfz59_0, hfz59_1⟩ := bk2 BK583; obtain ⟨Ao60, co60, eo60⟩ := Kd.S_slice HO578.out; subst eo60))
             (try simp only [Act.put, List.setIfInBounds_toArray, List.set_cons_zero, List.set_cons_succ])
             go_cut [124] (fun v124 wc => ∃ (kq : Nat) (x124_47 : Bool), v124 = .bool x124_47 ∧ Aside0 (papermilllaw19_PipeAges.j2 kq (Int.tmod (wrap64 (a1)) (l0_1.length : Int)) y574 t579 x124_47 a0_0 l0_1 = some r) ∧ Aside0 (kq ≤ kj25) ∧ Aside0 (Kd.R (Kd.int .i64) 3 wc w.heap.size (fun k_ => some k_ ≠ (v580 : Value).ownBlock) (.slice (some ⟨go46, 0, none⟩) y571.length co52) y574) ∧ Aside0 (Kd.R (Kd.int .i64) 3 wc w.heap.size (fun k_ => some k_ ≠ ((.slice (some ⟨go46, 0, none⟩) y571.length co52) : Value).ownBlock) v580 t579) ∧ Aside0 (Kd.S (Kd.slice 3 (Kd.int .i64)) 29 wc w.heap.size (fun k_ => some k_ ≠ ((.slice (some ⟨go46, 0, none⟩) y571.length co52) : Value).ownBlock ∧ some k_ ≠ (v580 : Value).ownBlock) (.slice Ao60 t576.length co60) t576) ∧ Aside0 (wc.heap[gb562]? = some (.cells #[.int .i64 a0_0, (.slice (some ad570) l0_1.length c0_1)] 24 (0, 0))) ∧ Aside0 (wc.heap[gb583]? = some (.cells #[.int .i64 t575, (.slice Ao60 t576.length co60)] 24 (0, 0))) ∧ Aside0 (Below w.heap.size w wc))
             case first =>
              have H := HC48.out
              clear HC48
              by_cases c61 : t582 = 0
              ·rw [if_pos c61] at H
               have c61b0 : (t582 == 0) = true := beq_iff_eq.mpr c61
               have c61b1 : (t582 != 0) = false := bne_eq_false_iff_eq.mpr c61
               clear c61
               (first | rw [c61b0] | (simp only [i64_w, i32_w]; rw [c61b0]) | skip)
               by_cases c62 : (t579.length : Int) = (y571.length : Int)
               ·rw [if_pos c62] at H
                have c62b0 : ((t579.length : Int) == (y571.length : Int)) = true := beq_iff_eq.mpr c62
                have c62b1 : ((t579.length : Int) != (y571.length : Int)) = false := bne_eq_false_iff_eq.mpr c62
                have c62b2 : (t579.length == y571.length) = true := by first | simpa using c62 | (simp at c62 ⊢; omega)
                clear c62
                have H' := Aside0.mk H
                clear H
                obtain ⟨Ao63, co63, eo63⟩ := Kd.R_slice HO581.out
                subst eo63
                have hnb64 := NB583_562.out
                have hnc64 := NB562_583.out
                obtain ⟨hcz65_0, hcz65_1, hfz65_0, hfz65_1⟩ := bk2 BK583
                obtain ⟨hcz66_0, hcz66_1, hfz66_0, hfz66_1⟩ := bk2 BK562
                go_wp2
                go_meet
                case rel => exact ⟨_, (((t576.length : Int) != (wrap64 ((l0_1.length : Int) - (Int.tmod (wrap64 (a1)) (l0_1.length : Int)))))), (by first | rfl | (simp; done) | (simp [*]; done)), H', ⟨by have := HJ2.out; have := HJ25.out; first | omega | exact Nat.le_refl _⟩, ⟨by (with_reducible repeat (first | apply Kd.R_alloc | apply Kd.R_drewN | apply Kd.R_drew)); exact Kd.R_mono (Kd.R_far (p := ⟨gb583, 1, none⟩) (Kd.R_far (p := ⟨gb583, 0, none⟩) (Kd.R_types HO573.out BK583.out (by decide)) (fun _ hk => hk.2) (.int .i64 t575)) (fun _ hk => hk.2) (.slice Ao60 t576.length co60)) (fun _ hk => hk.1.2)⟩, ⟨by (with_reducible repeat (first | apply Kd.R_alloc | apply Kd.R_drewN | apply Kd.R_drew)); exact Kd.R_mono (Kd.R_far (p := ⟨gb583, 1, none⟩) (Kd.R_far (p := ⟨gb583, 0, none⟩) (Kd.R_types HO581.out BK583.out (by decide)) (fun _ hk => hk.2) (.int .i64 t575)) (fun _ hk => hk.2) (.slice Ao60 t576.length co60)) (fun _ hk => hk.1.2)⟩, ⟨by (with_reducible repeat (first | apply Kd.S_alloc | apply Kd.S_drewN | apply Kd.S_drew)); exact Kd.S_mono (Kd.S_far (p := ⟨gb583, 1, none⟩) (Kd.S_far (p := ⟨gb583, 0, none⟩) (Kd.S_types HO578.out BK583.out (by decide)) (fun _ hk => hk.2) (.int .i64 t575)) (fun _ hk => hk.2) (.slice Ao60 t576.length co60)) (fun _ hk => ⟨hk.1.2, hk.1.1⟩)⟩, ⟨by (with_reducible repeat (first | refine blk_drewN ?_ _ | refine blk_drew ?_ | refine blk_alloc ?_ _)); refine blk_far ?_ NB562_583.out _; (with_reducible repeat (first | refine blk_drewN ?_ _ | refine blk_drew ?_ | refine blk_alloc ?_ _)); refine blk_far ?_ NB562_583.out _; (with_reducible repeat (first | refine blk_drewN ?_ _ | refine blk_drew ?_ | refine blk_alloc ?_ _)); exact BK562.out⟩, ⟨by (with_reducible repeat (first | refine blk_drewN ?_ _ | refine blk_drew ?_ | refine blk_alloc ?_ _)); refine blk_put (cs := #[.int .i64 t575, .slice none 0 0]) ?_ 1 _ rfl; (with_reducible repeat (first | refine blk_drewN ?_ _ | refine blk_drew ?_ | refine blk_alloc ?_ _)); refine blk_put (cs := #[.int .i64 0, .slice none 0 0]) ?_ 0 _ rfl; (with_reducible repeat (first | refine blk_drewN ?_ _ | refine blk_drew ?_ | refine blk_alloc ?_ _)); exact BK583.out⟩, ⟨pB⟩⟩
               ·rw [if_neg c62] at H
                have c62b0 : ((t579.length : Int) == (y571.length : Int)) = false := beq_eq_false_iff_ne.mpr c62
                have c62b1 : ((t579.length : Int) != (y571.length : Int)) = true := bne_iff_ne.mpr c62
                have c62b2 : (t579.length == y571.length) = false := by first | simpa using c62 | (simp at c62 ⊢; omega)
                have H' := Aside0.mk H
                clear H
                obtain ⟨Ao67, co67, eo67⟩ := Kd.R_slice HO581.out
                subst eo67
                go_wp2
                go_meet
                case rel => exact ⟨_, (true), (by first | rfl | (simp; done) | (simp [*]; done)), H', ⟨by have := HJ2.out; have := HJ25.out; first | omega | exact Nat.le_refl _⟩, ⟨by (with_reducible repeat (first | apply Kd.R_alloc | apply Kd.R_drewN | apply Kd.R_drew)); exact Kd.R_mono (Kd.R_far (p := ⟨gb583, 1, none⟩) (Kd.R_far (p := ⟨gb583, 0, none⟩) (Kd.R_types HO573.out BK583.out (by decide)) (fun _ hk => hk.2) (.int .i64 t575)) (fun _ hk => hk.2) (.slice Ao60 t576.length co60)) (fun _ hk => hk.1.2)⟩, ⟨by (with_reducible repeat (first | apply Kd.R_alloc | apply Kd.R_drewN | apply Kd.R_drew)); exact Kd.R_mono (Kd.R_far (p := ⟨gb583, 1, none⟩) (Kd.R_far (p := ⟨gb583, 0, none⟩) (Kd.R_types HO581.out BK583.out (by decide)) (fun _ hk => hk.2) (.int .i64 t575)) (fun _ hk => hk.2) (.slice Ao60 t576.length co60)) (fun _ hk => hk.1.2)⟩, ⟨by (with_reducible repeat (first | apply Kd.S_alloc | apply Kd.S_drewN | apply Kd.S_drew)); exact Kd.S_mono (Kd.S_far (p := ⟨gb583, 1, none⟩) (Kd.S_far (p := ⟨gb583, 0, none⟩) (Kd.S_types HO578.out BK583.out (by decide)) (fun _ hk => hk.2) (.int .i64 t575)) (fun _ hk => hk.2) (.slice Ao60 t576.length co60)) (fun _ hk => ⟨hk.1.2, hk.1.1⟩)⟩, ⟨by (with_reducible repeat (first | refine blk_drewN ?_ _ | refine blk_drew ?_ | refine blk_alloc ?_ _)); refine blk_far ?_ NB562_583.out _; (with_reducible repeat (first | refine blk_drewN ?_ _ | refine blk_drew ?_ | refine blk_alloc ?_ _)); refine blk_far ?_ NB562_583.out _; (with_reducible repeat (first | refine blk_drewN ?_ _ | refine blk_drew ?_ | refine blk_alloc ?_ _)); exact BK562.out⟩, ⟨by (with_reducible repeat (first | refine blk_drewN ?_ _ | refine blk_drew ?_ | refine blk_alloc ?_ _)); refine blk_put (cs := #[.int .i64 t575, .slice none 0 0]) ?_ 1 _ rfl; (with_reducible repeat (first | refine blk_drewN ?_ _ | refine blk_drew ?_ | refine blk_alloc ?_ _)); refine blk_put (cs := #[.int .i64 0, .slice none 0 0]) ?_ 0 _ rfl; (with_reducible repeat (first | refine blk_drewN ?_ _ | refine blk_drew ?_ | refine blk_alloc ?_ _)); exact BK583.out⟩, ⟨pB⟩⟩
              ·rw [if_neg c61] at H
               have c61b0 : (t582 == 0) = false := beq_eq_false_iff_ne.mpr c61
               have c61b1 : (t582 != 0) = true := bne_iff_ne.mpr c61
               (first | rw [c61b0] | (simp only [i64_w, i32_w]; rw [c61b0]) | skip)
               have H' := Aside0.mk H
               clear H
               go_wp2
               go_meet
               case rel => exact ⟨_, (true), (by first | rfl | (simp; done) | (simp [*]; done)), H', ⟨by have := HJ2.out; have := HJ25.out; first | omega | exact Nat.le_refl _⟩, ⟨by (with_reducible repeat (first | apply Kd.R_alloc | apply Kd.R_drewN | apply Kd.R_drew)); exact Kd.R_mono (Kd.R_far (p := ⟨gb583, 1, none⟩) (Kd.R_far (p := ⟨gb583, 0, none⟩) (Kd.R_types HO573.out BK583.out (by decide)) (fun _ hk => hk.2) (.int .i64 t575)) (fun _ hk => hk.2) (.slice Ao60 t576.length co60)) (fun _ hk => hk.1.2)⟩, ⟨by (with_reducible repeat (first | apply Kd.R_alloc | apply Kd.R_drewN | apply Kd.R_drew)); exact Kd.R_mono (Kd.R_far (p := ⟨gb583, 1, none⟩) (Kd.R_far (p := ⟨gb583, 0, none⟩) (Kd.R_types HO581.out BK583.out (by decide)) (fun _ hk => hk.2) (.int .i64 t575)) (fun _ hk => hk.2) (.slice Ao60 t576.length co60)) (fun _ hk => hk.1.2)⟩, ⟨by (with_reducible repeat (first | apply Kd.S_alloc | apply Kd.S_drewN | apply Kd.S_drew)); exact Kd.S_mono (Kd.S_far (p := ⟨gb583, 1, none⟩) (Kd.S_far (p := ⟨gb583, 0, none⟩) (Kd.S_types HO578.out BK583.out (by decide)) (fun _ hk => hk.2) (.int .i64 t575)) (fun _ hk => hk.2) (.slice Ao60 t576.length co60)) (fun _ hk => ⟨hk.1.2, hk.1.1⟩)⟩, ⟨by (with_reducible repeat (first | refine blk_drewN ?_ _ | refine blk_drew ?_ | refine blk_alloc ?_ _)); refine blk_far ?_ NB562_583.out _; (with_reducible repeat (first | refine blk_drewN ?_ _ | refine blk_drew ?_ | refine blk_alloc ?_ _)); refine blk_far ?_ NB562_583.out _; (with_reducible repeat (first | refine blk_drewN ?_ _ | refine blk_drew ?_ | refine blk_alloc ?_ _)); exact BK562.out⟩, ⟨by (with_reducible repeat (first | refine blk_drewN ?_ _ | refine blk_drew ?_ | refine blk_alloc ?_ _)); refine blk_put (cs := #[.int .i64 t575, .slice none 0 0]) ?_ 1 _ rfl; (with_reducible repeat (first | refine blk_drewN ?_ _ | refine blk_drew ?_ | refine blk_alloc ?_ _)); refine blk_put (cs := #[.int .i64 0, .slice none 0 0]) ?_ 0 _ rfl; (with_reducible repeat (first | refine blk_drewN ?_ _ | refine blk_drew ?_ | refine blk_alloc ?_ _)); exact BK583.out⟩, ⟨pB⟩⟩
             case rest => as_aux_lemma =>
              clear HC48
              try clear c1
              try clear c2
              try clear p2
              try clear c3
              try clear c4
              try clear p4
              try clear q4
              try clear hx4
              try clear qi4
              try clear hf4
              try clear c5
              try clear p5
              try clear q5
              try clear hx5
              try clear qi5
              try clear c6
              try clear p6
              try clear c7
              try clear c10
              try clear c10b0
              try clear c10b1
              try clear c11
              try clear c12
              try clear c18
              try clear c20
              try clear c22
              try clear c23
              try clear c23b0
              try clear c23b1
              try clear c23b2
              try clear c31
              try clear c31b0
              try clear c31b1
              try clear c32
              try clear c32b0
              try clear c32b1
              try clear c33
              try clear c33b0
              try clear c33b1
              try clear c34
              try clear c34b0
              try clear c36
              try clear c36b0
              try clear c40
              try clear c41
              try clear c41b0
              try clear c41b1
              try clear c42
              try clear c42b0
              try clear c42b1
              try clear c43
              try clear c43b0
              try clear c43b1
              try clear c44
              try clear c44b0
              try clear c44b1
              try clear c44b2
              try clear c45
              try clear c45b0
              try clear c45b1
              try clear p46
              try clear q46
              try clear hx46
              try clear qi46
              try clear hf46
              try clear c57
              try clear p57
              try clear q57
              try clear hx57
              try clear qi57
              try clear c58
              try clear c61
              try clear c61b0
              try clear c61b1
              try clear c62
              try clear c62b0
              try clear c62b1
              try clear c62b2
              try clear c64
              try clear p64
              try clear hcz11_0
              try clear hcz11_1
              try clear hcz13_0
              try clear hcz13_1
              try clear hcz15_0
              try clear hcz15_1
              try clear hcz16_0
              try clear hcz16_1
              try clear hcz18_0
              try clear hcz18_1
              try clear hcz27_0
              try clear hcz27_1
              try clear hcz29_0
              try clear hcz29_1
              try clear hcz35_0
              try clear hcz35_1
              try clear hcz37_0
              try clear hcz37_1
              try clear hcz38_0
              try clear hcz38_1
              try clear hcz39_0
              try clear hcz39_1
              try clear hcz49_0
              try clear hcz49_1
              try clear hcz55_0
              try clear hcz55_1
              try clear hcz59_0
              try clear hcz59_1
              try clear hcz65_0
              try clear hcz65_1
              try clear hcz66_0
              try clear hcz66_1
              try clear hcz7_0
              try clear hcz7_1
              try clear hfz11_0
              try clear hfz11_1
              try clear hfz13_0
              try clear hfz13_1
              try clear hfz15_0
              try clear hfz15_1
              try clear hfz16_0
              try clear hfz16_1
              try clear hfz18_0
              try clear hfz18_1
              try clear hfz27_0
              try clear hfz27_1
              try clear hfz29_0
              try clear hfz29_1
              try clear hfz35_0
              try clear hfz35_1
              try clear hfz37_0
              try clear hfz37_1
              try clear hfz38_0
              try clear hfz38_1
              try clear hfz39_0
              try clear hfz39_1
              try clear hfz49_0
              try clear hfz49_1
              try clear hfz55_0
              try clear hfz55_1
              try clear hfz59_0
              try clear hfz59_1
              try clear hfz65_0
              try clear hfz65_1
              try clear hfz66_0
              try clear hfz66_1
              try clear hfz7_0
              try clear hfz7_1
              try clear hx46_0
              try clear hx570_0
              try clear p2
              try clear p46
              try clear p570
              try clear p6
              try clear q46
              try clear q570
              obtain ⟨kq, x124_47, rfl, HA, HJ47, HO_10, HO_12, HO_584001, BK562, BK583, HB⟩ := hcut
              have hl10_47 := (Kd.R_reads' HO_10.out).1
              rw [hl10_47] at HO_10
              (try simp only [hl10_47])
              (try simp only [hl10_47] at BK562)
              (try simp only [hl10_47] at BK583)
              (try simp only [hl10_47] at HO_12)
              (try simp only [hl10_47] at HO_584001)
              cases kq with
              | zero => exact absurd HA.out (by simp [papermilllaw19_PipeAges.j2])
              | succ kj47 =>
               have H := HA.out
               clear HA
               simp only [papermilllaw19_PipeAges.j2] at H
               by_cases c68 : x124_47 = true
               ·subst c68
                have H1 : (none) = some r := by rw [if_pos rfl] at H; exact H
                clear H
                have H := H1
                clear H1
                exact absurd H (by simp)
               ·replace c68 := Bool.eq_false_iff.mpr c68
                subst c68
                have H1 : (papermilllaw19_PipeAges.l0 kj47 (Int.tmod (wrap64 (a1)) (l0_1.length : Int)) y574 t579 0 a0_0 l0_1) = some r := by rw [if_neg (show ¬ (false = true) by decide)] at H; exact H
                clear H
                have H := H1
                clear H1
                have H' := Aside0.mk H
                clear H
                go_wp2
                go_loopg [14] kj47 (fun kq v14 w' => ∃ (x14_4 : Int), v14 = .int .i64 x14_4 ∧ Aside0 (papermilllaw19_PipeAges.l0 kq (Int.tmod (wrap64 (a1)) (l0_1.length : Int)) y574 t579 x14_4 a0_0 l0_1 = some r) ∧ Aside0 (kq ≤ kj47) ∧ Aside0 (Kd.R (Kd.int .i64) 3 w' w.heap.size (fun k_ => some k_ ≠ (v580 : Value).ownBlock) (.slice (some ⟨go46, 0, none⟩) y574.length co52) y574) ∧ Aside0 (Kd.R (Kd.int .i64) 3 w' w.heap.size (fun k_ => some k_ ≠ ((.slice (some ⟨go46, 0, none⟩) y574.length co52) : Value).ownBlock) v580 t579) ∧ Aside0 (Kd.S (Kd.slice 3 (Kd.int .i64)) 29 w' w.heap.size (fun k_ => some k_ ≠ ((.slice (some ⟨go46, 0, none⟩) y574.length co52) : Value).ownBlock ∧ some k_ ≠ (v580 : Value).ownBlock) (.slice Ao60 t576.length co60) t576) ∧ Aside0 (w'.heap[gb562]? = some (.cells #[.int .i64 a0_0, (.slice (some ad570) l0_1.length c0_1)] 24 (0, 0))) ∧ Aside0 (w'.heap[gb583]? = some (.cells #[.int .i64 t575, (.slice Ao60 t576.length co60)] 24 (0, 0))) ∧ Aside0 (Below w.heap.size w w'))
                case atStart => exact ⟨(0), (by first | rfl | (simp; done) | (simp [*]; done)), H', ⟨Nat.le_refl _⟩, ⟨by (try simp only [hl10_47]); (with_reducible repeat (first | apply Kd.R_alloc | apply Kd.R_drewN | apply Kd.R_drew)); exact HO_10.out⟩, ⟨by (try simp only [hl10_47]); (with_reducible repeat (first | apply Kd.R_alloc | apply Kd.R_drewN | apply Kd.R_drew)); exact HO_12.out⟩, ⟨by (try simp only [hl10_47]); (with_reducible repeat (first | apply Kd.S_alloc | apply Kd.S_drewN | apply Kd.S_drew)); exact HO_584001.out⟩, ⟨by (try simp only [hl10_47]); (with_reducible repeat (first | refine blk_drewN ?_ _ | refine blk_drew ?_ | refine blk_alloc ?_ _)); exact BK562.out⟩, ⟨by (try simp only [hl10_47]); (with_reducible repeat (first | refine blk_drewN ?_ _ | refine blk_drew ?_ | refine blk_alloc ?_ _)); exact BK583.out⟩, ⟨pB⟩⟩
                case round =>
                 clear H'
                 try clear c1
                 try clear c2
                 try clear p2
                 try clear c3
                 try clear c4
                 try clear p4
                 try clear q4
                 try clear hx4
                 try clear qi4
                 try clear hf4
                 try clear c5
                 try clear p5
                 try clear q5
                 try clear hx5
                 try clear qi5
                 try clear c6
                 try clear p6
                 try clear c7
                 try clear c10
                 try clear c10b0
                 try clear c10b1
                 try clear c11
                 try clear c12
                 try clear c18
                 try clear c20
                 try clear c22
                 try clear c23
                 try clear c23b0
                 try clear c23b1
                 try clear c23b2
                 try clear c31
                 try clear c31b0
                 try clear c31b1
                 try clear c32
                 try clear c32b0
                 try clear c32b1
                 try clear c33
                 try clear c33b0
                 try clear c33b1
                 try clear c34
                 try clear c34b0
                 try clear c36
                 try clear c36b0
                 try clear c40
                 try clear c41
                 try clear c41b0
                 try clear c41b1
                 try clear c42
                 try clear c42b0
                 try clear c42b1
                 try clear c43
                 try clear c43b0
                 try clear c43b1
                 try clear c44
                 try clear c44b0
                 try clear c44b1
                 try clear c44b2
                 try clear c45
                 try clear c45b0
                 try clear c45b1
                 try clear p46
                 try clear q46
                 try clear hx46
                 try clear qi46
                 try clear hf46
                 try clear c57
                 try clear p57
                 try clear q57
                 try clear hx57
                 try clear qi57
                 try clear c58
                 try clear c61
                 try clear c61b0
                 try clear c61b1
                 try clear c62
                 try clear c62b0
                 try clear c62b1
                 try clear c62b2
                 try clear c64
                 try clear p64
                 try clear c68
                 try clear hcz11_0
                 try clear hcz11_1
                 try clear hcz13_0
                 try clear hcz13_1
                 try clear hcz15_0
                 try clear hcz15_1
                 try clear hcz16_0
                 try clear hcz16_1
                 try clear hcz18_0
                 try clear hcz18_1
                 try clear hcz27_0
                 try clear hcz27_1
                 try clear hcz29_0
                 try clear hcz29_1
                 try clear hcz35_0
                 try clear hcz35_1
                 try clear hcz37_0
                 try clear hcz37_1
                 try clear hcz38_0
                 try clear hcz38_1
                 try clear hcz39_0
                 try clear hcz39_1
                 try clear hcz49_0
                 try clear hcz49_1
                 try clear hcz55_0
                 try clear hcz55_1
                 try clear hcz59_0
                 try clear hcz59_1
                 try clear hcz65_0
                 try clear hcz65_1
                 try clear hcz66_0
                 try clear hcz66_1
                 try clear hcz7_0
                 try clear hcz7_1
                 try clear hfz11_0
                 try clear hfz11_1
                 try clear hfz13_0
                 try clear hfz13_1
                 try clear hfz15_0
                 try clear hfz15_1
                 try clear hfz16_0
                 try clear hfz16_1
                 try clear hfz18_0
                 try clear hfz18_1
                 try clear hfz27_0
                 try clear hfz27_1
                 try clear hfz29_0
                 try clear hfz29_1
                 try clear hfz35_0
                 try clear hfz35_1
                 try clear hfz37_0
                 try clear hfz37_1
                 try clear hfz38_0
                 try clear hfz38_1
                 try clear hfz39_0
                 try clear hfz39_1
                 try clear hfz49_0
                 try clear hfz49_1
                 try clear hfz55_0
                 try clear hfz55_1
                 try clear hfz59_0
                 try clear hfz59_1
                 try clear hfz65_0
                 try clear hfz65_1
                 try clear hfz66_0
                 try clear hfz66_1
                 try clear hfz7_0
                 try clear hfz7_1
                 try clear hx46_0
                 try clear hx570_0
                 try clear p2
                 try clear p4
                 try clear p46
                 try clear p5
                 try clear p57
                 try clear p570
                 try clear p6
                 try clear p64
                 try clear q4
                 try clear q46
                 try clear q5
                 try clear q57
                 try clear q570
                 obtain ⟨x14_4, rfl, HA, HK4, HO_10, HO_12, HO_584001, BK562, BK583, HB⟩ := hrel
                 cases gk with
                 | zero => exact absurd HA.out (by simp [papermilllaw19_PipeAges.l0])
                 | succ k4 =>
                  have H := HA.out
                  clear HA
                  simp only [papermilllaw19_PipeAges.l0] at H
                  by_cases c69 : x14_4 < (y574.length : Int)
                  ·rw [if_pos c69] at H
                   have c69b0 : decide (x14_4 < (y574.length : Int)) = true := decide_eq_true c69
                   clear c69
                   have H' := Aside0.mk H
                   clear H
                   go_wp2
                   go_loopg [15, 16] k4 (fun kq v15 v16 w' => ∃ (x15_5 : Int) (x16_5 : Int), v15 = .int .i64 x15_5 ∧ v16 = .int .i64 x16_5 ∧ Aside0 (papermilllaw19_PipeAges.l1 kq (Int.tmod (wrap64 (a1)) (l0_1.length : Int)) y574 t579 x14_4 x15_5 x16_5 a0_0 l0_1 = some r) ∧ Aside0 (kq ≤ k4) ∧ Aside0 (Kd.R (Kd.int .i64) 3 w' w.heap.size (fun k_ => some k_ ≠ (v580 : Value).ownBlock) (.slice (some ⟨go46, 0, none⟩) y574.length co52) y574) ∧ Aside0 (Kd.R (Kd.int .i64) 3 w' w.heap.size (fun k_ => some k_ ≠ ((.slice (some ⟨go46, 0, none⟩) y574.length co52) : Value).ownBlock) v580 t579) ∧ Aside0 (Kd.S (Kd.slice 3 (Kd.int .i64)) 29 w' w.heap.size (fun k_ => some k_ ≠ ((.slice (some ⟨go46, 0, none⟩) y574.length co52) : Value).ownBlock ∧ some k_ ≠ (v580 : Value).ownBlock) (.slice Ao60 t576.length co60) t576) ∧ Aside0 (w'.heap[gb562]? = some (.cells #[.int .i64 a0_0, (.slice (some ad570) l0_1.length c0_1)] 24 (0, 0))) ∧ Aside0 (w'.heap[gb583]? = some (.cells #[.int .i64 t575, (.slice Ao60 t576.length co60)] 24 (0, 0))) ∧ Aside0 (Below w.heap.size w w'))
                   case atStart => exact ⟨(0), (0), (by first | rfl | (simp; done) | (simp [*]; done)), (by first | rfl | (simp; done) | (simp [*]; done)), H', ⟨Nat.le_refl _⟩, ⟨by (try simp only [hl10_47]); (with_reducible repeat (first | apply Kd.R_alloc | apply Kd.R_drewN | apply Kd.R_drew)); exact HO_10.out⟩, ⟨by (try simp only [hl10_47]); (with_reducible repeat (first | apply Kd.R_alloc | apply Kd.R_drewN | apply Kd.R_drew)); exact HO_12.out⟩, ⟨by (try simp only [hl10_47]); (with_reducible repeat (first | apply Kd.S_alloc | apply Kd.S_drewN | apply Kd.S_drew)); exact HO_584001.out⟩, ⟨by (try simp only [hl10_47]); (with_reducible repeat (first | refine blk_drewN ?_ _ | refine blk_drew ?_ | refine blk_alloc ?_ _)); exact BK562.out⟩, ⟨by (try simp only [hl10_47]); (with_reducible repeat (first | refine blk_drewN ?_ _ | refine blk_drew ?_ | refine blk_alloc ?_ _)); exact BK583.out⟩, ⟨pB⟩⟩
                   case round =>
                    clear H'
                    try clear c1
                    try clear c2
                    try clear p2
                    try clear c3
                    try clear c4
                    try clear p4
                    try clear q4
                    try clear hx4
                    try clear qi4
                    try clear hf4
                    try clear c5
                    try clear p5
                    try clear q5
                    try clear hx5
                    try clear qi5
                    try clear c6
                    try clear p6
                    try clear c7
                    try clear c10
                    try clear c10b0
                    try clear c10b1
                    try clear c11
                    try clear c12
                    try clear c18
                    try clear c20
                    try clear c22
                    try clear c23
                    try clear c23b0
                    try clear c23b1
                    try clear c23b2
                    try clear c31
                    try clear c31b0
                    try clear c31b1
                    try clear c32
                    try clear c32b0
                    try clear c32b1
                    try clear c33
                    try clear c33b0
                    try clear c33b1
                    try clear c34
                    try clear c34b0
                    try clear c36
                    try clear c36b0
                    try clear c40
                    try clear c41
                    try clear c41b0
                    try clear c41b1
                    try clear c42
                    try clear c42b0
                    try clear c42b1
                    try clear c43
                    try clear c43b0
                    try clear c43b1
                    try clear c44
                    try clear c44b0
                    try clear c44b1
                    try clear c44b2
                    try clear c45
                    try clear c45b0
                    try clear c45b1
                    try clear p46
                    try clear q46
                    try clear hx46
                    try clear qi46
                    try clear hf46
                    try clear c57
                    try clear p57
                    try clear q57
                    try clear hx57
                    try clear qi57
                    try clear c58
                    try clear c61
                    try clear c61b0
                    try clear c61b1
                    try clear c62
                    try clear c62b0
                    try clear c62b1
                    try clear c62b2
                    try clear c64
                    try clear p64
                    try clear c68
                    try clear c69
                    try clear c69b0
                    try clear hcz11_0
                    try clear hcz11_1
                    try clear hcz13_0
                    try clear hcz13_1
                    try clear hcz15_0
                    try clear hcz15_1
                    try clear hcz16_0
                    try clear hcz16_1
                    try clear hcz18_0
                    try clear hcz18_1
                    try clear hcz27_0
                    try clear hcz27_1
                    try clear hcz29_0
                    try clear hcz29_1
                    try clear hcz35_0
                    try clear hcz35_1
                    try clear hcz37_0
                    try clear hcz37_1
                    try clear hcz38_0
                    try clear hcz38_1
                    try clear hcz39_0
                    try clear hcz39_1
                    try clear hcz49_0
                    try clear hcz49_1
                    try clear hcz55_0
                    try clear hcz55_1
                    try clear hcz59_0
                    try clear hcz59_1
                    try clear hcz65_0
                    try clear hcz65_1
                    try clear hcz66_0
                    try clear hcz66_1
                    try clear hcz7_0
                    try clear hcz7_1
                    try clear hfz11_0
                    try clear hfz11_1
                    try clear hfz13_0
                    try clear hfz13_1
                    try clear hfz15_0
                    try clear hfz15_1
                    try clear hfz16_0
                    try clear hfz16_1
                    try clear hfz18_0
                    try clear hfz18_1
                    try clear hfz27_0
                    try clear hfz27_1
                    try clear hfz29_0
                    try clear hfz29_1
                    try clear hfz35_0
                    try clear hfz35_1
                    try clear hfz37_0
                    try clear hfz37_1
                    try clear hfz38_0
                    try clear hfz38_1
                    try clear hfz39_0
                    try clear hfz39_1
                    try clear hfz49_0
                    try clear hfz49_1
                    try clear hfz55_0
                    try clear hfz55_1
                    try clear hfz59_0
                    try clear hfz59_1
                    try clear hfz65_0
                    try clear hfz65_1
                    try clear hfz66_0
                    try clear hfz66_1
                    try clear hfz7_0
                    try clear hfz7_1
                    try clear hx46_0
                    try clear hx570_0
                    try clear p2
                    try clear p4
                    try clear p46
                    try clear p5
                    try clear p57
                    try clear p570
                    try clear p6
                    try clear p64
                    try clear q4
                    try clear q46
                    try clear q5
                    try clear q57
                    try clear q570
                    obtain ⟨x15_5, x16_5, rfl, rfl, HA, HK5, HO_10, HO_12, HO_584001, BK562, BK583, HB⟩ := hrel
                    cases gk with
                    | zero => exact absurd HA.out (by simp [papermilllaw19_PipeAges.l1])
                    | succ k5 =>
                     have H := HA.out
                     clear HA
                     simp only [papermilllaw19_PipeAges.l1] at H
                     by_cases c70 : x16_5 ≤ (Int.tmod (wrap64 (a1)) (l0_1.length : Int))
                     ·rw [if_pos c70] at H
                      have c70b0 : decide (x16_5 ≤ (Int.tmod (wrap64 (a1)) (l0_1.length : Int))) = true := decide_eq_true c70
                      have c70b0w : decide (x16_5 ≤ (Int.tmod (IntKind.i64.wrap (a1)) (l0_1.length : Int))) = true := by have h_ := c70b0; first | exact h_ | (simp only [i64_w]; exact h_)
                      clear c70
                      by_cases c71 : 0 ≤ x16_5
                      ·rw [if_pos c71] at H
                       have c71b0 : decide (0 ≤ x16_5) = true := decide_eq_true c71
                       clear c71
                       by_cases c72 : x16_5 < (l0_1.length : Int)
                       ·rw [if_pos c72] at H
                        have c72b0 : decide (x16_5 < (l0_1.length : Int)) = true := decide_eq_true c72
                        clear c72
                        by_cases c73 : x14_4 < ((rd_L1 l0_1 x16_5).length : Int)
                        ·rw [if_pos c73] at H
                         have c73b0 : decide (x14_4 < ((rd_L1 l0_1 x16_5).length : Int)) = true := decide_eq_true c73
                         clear c73
                         by_cases c74 : 0 ≤ x14_4
                         ·rw [if_pos c74] at H
                          have c74b0 : decide (0 ≤ x14_4) = true := decide_eq_true c74
                          clear c74
                          have H' := Aside0.mk H
                          clear H
                          have hnb75 := NB562_583.out
                          have hnc75 := NB583_562.out
                          obtain ⟨hcz76_0, hcz76_1, hfz76_0, hfz76_1⟩ := bk2 BK562
                          have p585 : 0 ≤ (x16_5 : Int) := of_decide_eq_true (by first | (with_reducible assumption) | assumption)
                          have q585 : x16_5 < (l0_1.length : Int) := of_decide_eq_true (by first | (with_reducible assumption) | assumption)
                          obtain ⟨ad585, A585_0, c585_0, e585, hx585_0, hl585_0, hi585_0⟩ := at_L1 HR0_1.out x16_5 p585 q585
                          obtain rfl : ad570 = ad585 := (by injection e585)
                          replace hx585_0 := (HB.out.cell (World.block_lt_of_cell? w _ hx585_0)).trans hx585_0
                          have HR585_0 := Aside0.mk hi585_0
                          have HC585_0 := Aside0.mk hl585_0
                          clear hi585_0 hl585_0
                          replace p585 := eq_true p585
                          replace q585 := eq_true q585
                          have p586 : 0 ≤ (x16_5 : Int) := of_decide_eq_true (by first | (with_reducible assumption) | assumption)
                          have q586 : x16_5 < (l0_1.length : Int) := of_decide_eq_true (by first | (with_reducible assumption) | assumption)
                          obtain ⟨ad586, A586_0, c586_0, e586, hx586_0, hl586_0, hi586_0⟩ := at_L1 HR0_1.out x16_5 p586 q586
                          obtain rfl : ad570 = ad586 := (by injection e586)
                          replace hx586_0 := (HB.out.cell (World.block_lt_of_cell? w _ hx586_0)).trans hx586_0
                          have HR586_0 := Aside0.mk hi586_0
                          have HC586_0 := Aside0.mk hl586_0
                          clear hi586_0 hl586_0
                          replace p586 := eq_true p586
                          replace q586 := eq_true q586
                          have ea_ := Option.some.inj (hx585_0.symm.trans hx586_0)
                          injection ea_ with ea_ en_ ec_
                          subst ea_
                          subst ec_
                          clear en_
                          have p587 : 0 ≤ (x14_4 : Int) := of_decide_eq_true (by first | (with_reducible assumption) | assumption)
                          have q587 : x14_4 < ((rd_L1 l0_1 x16_5).length : Int) := of_decide_eq_true (by first | (with_reducible assumption) | assumption)
                          obtain ⟨ad587, e587, hx587_0⟩ := Kd.at_int HR586_0.out x14_4 p587 q587
                          cases e587
                          replace hx587_0 := (HB.out.cell (World.block_lt_of_cell? w _ hx587_0)).trans hx587_0
                          replace p587 := eq_true p587
                          replace q587 := eq_true q587
                          go_wp2
                          go_roundg k5
                          case measure => have := HJ2.out; have := HJ25.out; have := HJ47.out; have := HK4.out; have := HK5.out; omega
                          case rel => exact ⟨(wrap64 (x15_5 + (rd (rd_L1 l0_1 x16_5) x14_4))), (wrap64 (x16_5 + 1)), (by first | rfl | (simp; done) | (simp [*]; done)), (by first | rfl | (simp; done) | (simp [*]; done)), H', ⟨by have := HJ2.out; have := HJ25.out; have := HJ47.out; have := HK4.out; have := HK5.out; omega⟩, ⟨by (try simp only [hl10_47]); (with_reducible repeat (first | apply Kd.R_alloc | apply Kd.R_drewN | apply Kd.R_drew)); exact HO_10.out⟩, ⟨by (try simp only [hl10_47]); (with_reducible repeat (first | apply Kd.R_alloc | apply Kd.R_drewN | apply Kd.R_drew)); exact HO_12.out⟩, ⟨by (try simp only [hl10_47]); (with_reducible repeat (first | apply Kd.S_alloc | apply Kd.S_drewN | apply Kd.S_drew)); exact HO_584001.out⟩, ⟨by (try simp only [hl10_47]); (with_reducible repeat (first | refine blk_drewN ?_ _ | refine blk_drew ?_ | refine blk_alloc ?_ _)); exact BK562.out⟩, ⟨by (try simp only [hl10_47]); (with_reducible repeat (first | refine blk_drewN ?_ _ | refine blk_drew ?_ | refine blk_alloc ?_ _)); exact BK583.out⟩, ⟨pB⟩⟩
                         ·rw [if_neg c74] at H
                          exact absurd H (by simp)
                        ·rw [if_neg c73] at H
                         have c73b0 : decide (x14_4 < ((rd_L1 l0_1 x16_5).length : Int)) = false := decide_eq_false c73
                         clear c73
                         have H' := Aside0.mk H
                         clear H
                         have hnb77 := NB562_583.out
                         have hnc77 := NB583_562.out
                         obtain ⟨hcz78_0, hcz78_1, hfz78_0, hfz78_1⟩ := bk2 BK562
                         have p585 : 0 ≤ (x16_5 : Int) := of_decide_eq_true (by first | (with_reducible assumption) | assumption)
                         have q585 : x16_5 < (l0_1.length : Int) := of_decide_eq_true (by first | (with_reducible assumption) | assumption)
                         obtain ⟨ad585, A585_0, c585_0, e585, hx585_0, hl585_0, hi585_0⟩ := at_L1 HR0_1.out x16_5 p585 q585
                         obtain rfl : ad570 = ad585 := (by injection e585)
                         replace hx585_0 := (HB.out.cell (World.block_lt_of_cell? w _ hx585_0)).trans hx585_0
                         have HR585_0 := Aside0.mk hi585_0
                         have HC585_0 := Aside0.mk hl585_0
                         clear hi585_0 hl585_0
                         replace p585 := eq_true p585
                         replace q585 := eq_true q585
                         go_wp2
                         go_roundg k5
                         case measure => have := HJ2.out; have := HJ25.out; have := HJ47.out; have := HK4.out; have := HK5.out; omega
                         case rel => exact ⟨(x15_5), (wrap64 (x16_5 + 1)), (by first | rfl | (simp; done) | (simp [*]; done)), (by first | rfl | (simp; done) | (simp [*]; done)), H', ⟨by have := HJ2.out; have := HJ25.out; have := HJ47.out; have := HK4.out; have := HK5.out; omega⟩, ⟨by (try simp only [hl10_47]); (with_reducible repeat (first | apply Kd.R_alloc | apply Kd.R_drewN | apply Kd.R_drew)); exact HO_10.out⟩, ⟨by (try simp only [hl10_47]); (with_reducible repeat (first | apply Kd.R_alloc | apply Kd.R_drewN | apply Kd.R_drew)); exact HO_12.out⟩, ⟨by (try simp only [hl10_47]); (with_reducible repeat (first | apply Kd.S_alloc | apply Kd.S_drewN | apply Kd.S_drew)); exact HO_584001.out⟩, ⟨by (try simp only [hl10_47]); (with_reducible repeat (first | refine blk_drewN ?_ _ | refine blk_drew ?_ | refine blk_alloc ?_ _)); exact BK562.out⟩, ⟨by (try simp only [hl10_47]); (with_reducible repeat (first | refine blk_drewN ?_ _ | refine blk_drew ?_ | refine blk_alloc ?_ _)); exact BK583.out⟩, ⟨pB⟩⟩
                       ·rw [if_neg c72] at H
                        exact absurd H (by simp)
                      ·rw [if_neg c71] at H
                       exact absurd H (by simp)
                     ·rw [if_neg c70] at H
                      have c70b0 : decide (x16_5 ≤ (Int.tmod (wrap64 (a1)) (l0_1.length : Int))) = false := decide_eq_false c70
                      have c70b0w : decide (x16_5 ≤ (Int.tmod (IntKind.i64.wrap (a1)) (l0_1.length : Int))) = false := by have h_ := c70b0; first | exact h_ | (simp only [i64_w]; exact h_)
                      clear c70
                      by_cases c79 : 0 ≤ x14_4
                      ·rw [if_pos c79] at H
                       have c79b0 : decide (0 ≤ x14_4) = true := decide_eq_true c79
                       clear c79
                       by_cases c80 : x14_4 < (t579.length : Int)
                       ·rw [if_pos c80] at H
                        have c80b0 : decide (x14_4 < (t579.length : Int)) = true := decide_eq_true c80
                        clear c80
                        by_cases c81 : x15_5 = (rd t579 x14_4)
                        ·rw [if_pos c81] at H
                         have c81b0 : (x15_5 == (rd t579 x14_4)) = true := beq_iff_eq.mpr c81
                         have c81b1 : (x15_5 != (rd t579 x14_4)) = false := bne_eq_false_iff_eq.mpr c81
                         clear c81
                         have H' := Aside0.mk H
                         clear H
                         obtain ⟨Ao82, co82, eo82⟩ := Kd.R_slice HO_12.out
                         subst eo82
                         have p588 : 0 ≤ (x14_4 : Int) := of_decide_eq_true (by first | (with_reducible assumption) | assumption)
                         have q588 : x14_4 < (t579.length : Int) := of_decide_eq_true (by first | (with_reducible assumption) | assumption)
                         obtain ⟨ad588, e588, hx588_0⟩ := Kd.at_int (Kd.R_reads' HO_12.out).2.2 x14_4 p588 q588
                         cases e588
                         replace p588 := eq_true p588
                         replace q588 := eq_true q588
                         go_wp2
                         go_roundg k5
                         case measure => have := HJ2.out; have := HJ25.out; have := HJ47.out; have := HK4.out; have := HK5.out; omega
                         case rel => exact ⟨(wrap64 (x14_4 + 1)), (by first | rfl | (simp; done) | (simp [*]; done)), H', ⟨by have := HJ2.out; have := HJ25.out; have := HJ47.out; have := HK4.out; have := HK5.out; omega⟩, ⟨by (try simp only [hl10_47]); (with_reducible repeat (first | apply Kd.R_alloc | apply Kd.R_drewN | apply Kd.R_drew)); exact HO_10.out⟩, ⟨by (try simp only [hl10_47]); (with_reducible repeat (first | apply Kd.R_alloc | apply Kd.R_drewN | apply Kd.R_drew)); exact HO_12.out⟩, ⟨by (try simp only [hl10_47]); (with_reducible repeat (first | apply Kd.S_alloc | apply Kd.S_drewN | apply Kd.S_drew)); exact HO_584001.out⟩, ⟨by (try simp only [hl10_47]); (with_reducible repeat (first | refine blk_drewN ?_ _ | refine blk_drew ?_ | refine blk_alloc ?_ _)); exact BK562.out⟩, ⟨by (try simp only [hl10_47]); (with_reducible repeat (first | refine blk_drewN ?_ _ | refine blk_drew ?_ | refine blk_alloc ?_ _)); exact BK583.out⟩, ⟨pB⟩⟩
                        ·rw [if_neg c81] at H
                         exact absurd H (by simp)
                       ·rw [if_neg c80] at H
                        exact absurd H (by simp)
                      ·rw [if_neg c79] at H
                       exact absurd H (by simp)
                  ·rw [if_neg c69] at H
                   have c69b0 : decide (x14_4 < (y574.length : Int)) = false := decide_eq_false c69
                   clear c69
                   replace H := Option.bind_eq_some_iff.mp H
                   obtain ⟨t584, A830, H⟩ := H
                   replace H : (some t584) = some r := H
                   have A83 := Aside0.mk A830
                   clear A830
                   obtain rfl := Option.some.inj H
                   go_wp2_with (first | ((with_reducible refine gate_callee (f := 12) rfl ?_); refine goesL_ (some 160) rfl rfl Try.func12 (by kernel_rfl) rfl #[] rfl mA ?_; (with_reducible refine (papermilllaw19_awake.calls k4  t584 _ A83.out).mono ?_); rintro e w84 ⟨rfl, hb⟩; refine ⟨_, rfl, ?_⟩; replace HO_10 := Aside0.mk (Kd.R_below (rX HO_10.out) hb); replace HO_12 := Aside0.mk (Kd.R_below (rX HO_12.out) hb); replace HO_584001 := Aside0.mk (Kd.S_below (by (with_reducible repeat (first | apply Kd.S_alloc | apply Kd.S_drewN | apply Kd.S_drew)); exact HO_584001.out) hb); replace BK562 := Aside0.mk (kB BK562 hb); replace BK583 := Aside0.mk (kB BK583 hb); replace HB := Aside0.mk (below_step pB hb); (try clear hb); (try clear hb2); (try clear hk); (try clear hi)))
                   go_ret
                   exact ⟨by first | rfl | (simp [errW_none, errW_some] <;> rfl) | (simp [*, errW_none, errW_some] <;> rfl), pB⟩
            ·rw [if_neg c45] at H
             exact absurd H (by simp)
          ·rw [if_neg c43] at H
           exact absurd H (by simp)
         ·rw [if_neg c42] at H
          exact absurd H (by simp)
        ·rw [if_neg c41] at H
         exact absurd H (by simp)

/-- THE ONE PURE STATEMENT of papermilllaw19_PipeAges: yours. -/
def papermilllaw19_PipeAges.Pure : Prop := ∀ (a0_0 : Int) (l0_1 : List (List Int)) (a1 : Int), (Lit.int .i64 a0_0).wf = true → l0_1.length ≤ maxLen → l0_1.length * 24 ≤ 140737488351232 → (∀ x_ ∈ l0_1, x_.length ≤ maxLen ∧ x_.length * 8 ≤ 140737488351232 ∧ ∀ y_ ∈ x_, (Lit.int .i64 y_).wf = true) → (Lit.int .u8 a1).wf = true → ∃ k, papermilllaw19_PipeAges.f k a0_0 l0_1 a1 = some true

end Go.Proofs.Ytpnfdhhfdidlmaa.Print
