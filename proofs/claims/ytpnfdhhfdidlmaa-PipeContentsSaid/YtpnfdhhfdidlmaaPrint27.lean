-- Written by wip/tools/myprint.py out of the translation. Not trusted: Lean checks it.
import Derived.Test.YtpnfdhhfdidlmaaPrint0
import Derived.Test.YtpnfdhhfdidlmaaPrint5
namespace Go.Proofs.Ytpnfdhhfdidlmaa.Print
open Go.RowKit Go.Proofs.YtpnfdhhfdidlmaaW.PrintWords Go.Proofs.YtpnfdhhfdidlmaaW.PrintLast Go.Proofs.YtpnfdhhfdidlmaaW.PrintMore
attribute [local go_sem] max2_int min2_int max_two min_two max_three min_three max_four min_four   -- for this text's walks alone
set_option linter.unusedVariables false
set_option linter.unusedSimpArgs false

/-! ### pipe_Content: function 23 -/
mutual
def pipe_Content.l0 : Nat → List Int → List (List Int) → Int → Int → Option (List Int × Int)
 | 0, _, _, _, _ => none
 | k + 1, x5, x22, x23, x24 => if x24 < x23 then (if 0 ≤ x24 then (if x24 < (x22.length : Int) then (pipe_Content.l1 k x5 x22 x23 x24 (rd_L1 x22 x24) ((rd_L1 x22 x24).length : Int) 0) else (none)) else (none)) else (some (x5, 0))
def pipe_Content.l1 : Nat → List Int → List (List Int) → Int → Int → List Int → Int → Int → Option (List Int × Int)
 | 0, _, _, _, _, _, _, _ => none
 | k + 1, x5, x22, x23, x24, x28, x29, x30 => if x30 < x29 then (if 0 ≤ x30 then (if x30 < (x28.length : Int) then (if x30 < (x5.length : Int) then (pipe_Content.l1 k (x5.set (x30 : Int).toNat (wrap64 ((rd x5 x30) + (rd x28 x30)))) x22 x23 x24 x28 x29 (wrap64 (x30 + 1))) else (none)) else (none)) else (none)) else (pipe_Content.l0 k x5 x22 x23 (wrap64 (x24 + 1)))
end
def pipe_Content.f (k : Nat) (a0_0 : Int) (l0_1 : List (List Int)) : Option (List Int × Int) := (pipe_Check.f k a0_0 l0_1).bind fun t590 => (if t590 = 0 then (if 0 < (l0_1.length : Int) then (if 0 ≤ ((rd_L1 l0_1 0).length : Int) then (if (((rd_L1 l0_1 0).length : Int) : Int).toNat ≤ 35184372088832 then (pipe_Content.l0 k (List.replicate (((rd_L1 l0_1 0).length : Int) : Int).toNat 0) l0_1 (l0_1.length : Int) 0) else (none)) else (none)) else (none)) else (some (([] : List Int), t590)))
theorem pipe_Content.mono_l : ∀ k, (∀ y0 y1 y2 y3, LeO (pipe_Content.l0 k y0 y1 y2 y3) (pipe_Content.l0 (k + 1) y0 y1 y2 y3)) ∧ (∀ y0 y1 y2 y3 y4 y5 y6, LeO (pipe_Content.l1 k y0 y1 y2 y3 y4 y5 y6) (pipe_Content.l1 (k + 1) y0 y1 y2 y3 y4 y5 y6))
 | 0 => ⟨fun _ _ _ _ r h => by simp [pipe_Content.l0] at h, fun _ _ _ _ _ _ _ r h => by simp [pipe_Content.l1] at h⟩
 | k + 1 => by
  obtain ⟨ih0, ih1⟩ := pipe_Content.mono_l k
  refine ⟨?_, ?_⟩
  ·intro y0 y1 y2 y3
   unfold pipe_Content.l0
   repeat' first
   | (with_reducible exact ih0 _ _ _ _)
   | (with_reducible exact ih1 _ _ _ _ _ _ _)
   | (with_reducible exact pipe_Check.mono _ _ _)
   | (with_reducible exact LeO.refl _)
   | (with_reducible exact LeO.none _)
   | (with_reducible refine LeO.ite ?_ ?_)
   | (with_reducible refine LeO.bind ?_ (fun _ => ?_))
   | exact ih0 _ _ _ _
   | exact ih1 _ _ _ _ _ _ _
   | exact pipe_Check.mono _ _ _
   | exact LeO.none _
   | refine LeO.ite ?_ ?_
   | refine LeO.bind ?_ (fun _ => ?_)
  ·intro y0 y1 y2 y3 y4 y5 y6
   unfold pipe_Content.l1
   repeat' first
   | (with_reducible exact ih0 _ _ _ _)
   | (with_reducible exact ih1 _ _ _ _ _ _ _)
   | (with_reducible exact pipe_Check.mono _ _ _)
   | (with_reducible exact LeO.refl _)
   | (with_reducible exact LeO.none _)
   | (with_reducible refine LeO.ite ?_ ?_)
   | (with_reducible refine LeO.bind ?_ (fun _ => ?_))
   | exact ih0 _ _ _ _
   | exact ih1 _ _ _ _ _ _ _
   | exact pipe_Check.mono _ _ _
   | exact LeO.none _
   | refine LeO.ite ?_ ?_
   | refine LeO.bind ?_ (fun _ => ?_)
theorem pipe_Content.mono : ∀ a0 a1 k, LeO (pipe_Content.f k a0 a1) (pipe_Content.f (k + 1) a0 a1) := by
 intro a0 a1 k
 obtain ⟨ih0, ih1⟩ := pipe_Content.mono_l k
 unfold pipe_Content.f
 repeat' first
   | (with_reducible exact ih0 _ _ _ _)
   | (with_reducible exact ih1 _ _ _ _ _ _ _)
   | (with_reducible exact pipe_Check.mono _ _ _)
   | (with_reducible exact LeO.refl _)
   | (with_reducible exact LeO.none _)
   | (with_reducible refine LeO.ite ?_ ?_)
   | (with_reducible refine LeO.bind ?_ (fun _ => ?_))
   | exact ih0 _ _ _ _
   | exact ih1 _ _ _ _ _ _ _
   | exact pipe_Check.mono _ _ _
   | exact LeO.none _
   | refine LeO.ite ?_ ?_
   | refine LeO.bind ?_ (fun _ => ?_)
set_option maxHeartbeats 8000000 in
set_option maxRecDepth 100000 in
theorem pipe_Content.calls (k : Nat) (a0_0 : Int) (A0_1 : Option Addr) (c0_1 : Nat) (l0_1 : List (List Int)) (r1 : List Int) (r2 : Int) (w : World) (hr0_1 : Kd.C (Kd.slice 3 (Kd.int .i64)) w A0_1 l0_1.length l0_1) (hc0_1 : l0_1.length ≤ c0_1) (h : pipe_Content.f k a0_0 l0_1 = some (r1, r2)) :
  Calls Try.prog 23 #[.agg #[.int .i64 a0_0, .slice A0_1 l0_1.length c0_1]] w fun e w' => ∃ v0_ : Value, e = .returned (.tuple #[v0_, .int .i64 r2]) ∧ Kd.R (Kd.int .i64) 3 w' w.heap.size (fun _ => True) v0_ r1 ∧ Below w.heap.size w w' := by
 have hu24 := Try.underlying24
 have HR0_1 := Aside0.mk hr0_1
 have HC0_1 := Aside0.mk hc0_1
 clear hr0_1 hc0_1
 have HB := Aside0.mk (Below.refl w.heap.size w)
 have H : ((pipe_Check.f k a0_0 l0_1).bind fun t590 => (if t590 = 0 then (if 0 < (l0_1.length : Int) then (if 0 ≤ ((rd_L1 l0_1 0).length : Int) then (if (((rd_L1 l0_1 0).length : Int) : Int).toNat ≤ 35184372088832 then (pipe_Content.l0 k (List.replicate (((rd_L1 l0_1 0).length : Int) : Int).toNat 0) l0_1 (l0_1.length : Int) 0) else (none)) else (none)) else (none)) else (some (([] : List Int), t590)))) = some (r1, r2) := h
 clear h
 replace H := Option.bind_eq_some_iff.mp H
 obtain ⟨t590, A20, H⟩ := H
 replace H : (if t590 = 0 then (if 0 < (l0_1.length : Int) then (if 0 ≤ ((rd_L1 l0_1 0).length : Int) then (if (((rd_L1 l0_1 0).length : Int) : Int).toNat ≤ 35184372088832 then (pipe_Content.l0 k (List.replicate (((rd_L1 l0_1 0).length : Int) : Int).toNat 0) l0_1 (l0_1.length : Int) 0) else (none)) else (none)) else (none)) else (some (([] : List Int), t590))) = some (r1, r2) := H
 have A2 := Aside0.mk A20
 clear A20
 by_cases c3 : t590 = 0
 ·rw [if_pos c3] at H
  have c3b0 : (t590 == 0) = true := beq_iff_eq.mpr c3
  have c3b1 : (t590 != 0) = false := bne_eq_false_iff_eq.mpr c3
  clear c3
  by_cases c4 : 0 < (l0_1.length : Int)
  ·rw [if_pos c4] at H
   have c4b0 : decide (0 < (l0_1.length : Int)) = true := decide_eq_true c4
   have c4b1 : decide (0 < l0_1.length) = true := decide_eq_true (by omega)
   clear c4
   by_cases c5 : 0 ≤ ((rd_L1 l0_1 0).length : Int)
   ·rw [if_pos c5] at H
    have c5b0 := eq_true c5
    have c5b1 : decide (0 ≤ ((rd_L1 l0_1 0).length : Int)) = true := decide_eq_true c5
    clear c5
    by_cases c6 : (((rd_L1 l0_1 0).length : Int) : Int).toNat ≤ 35184372088832
    ·rw [if_pos c6] at H
     have c6b0 := eq_true c6
     have c6b1 : decide ((((rd_L1 l0_1 0).length : Int) : Int).toNat ≤ 35184372088832) = true := decide_eq_true c6
     clear c6
     obtain ⟨y592, hy592⟩ : ∃ y_ : List Int, y_ = (List.replicate (((rd_L1 l0_1 0).length : Int) : Int).toNat 0) := ⟨_, rfl⟩
     replace H : (pipe_Content.l0 k y592 l0_1 (l0_1.length : Int) 0) = some (r1, r2) := by first | (rw [hy592]; with_reducible exact H) | (have H2_ := (Option.bind_some _ _).symm.trans H; rw [hy592]; with_reducible exact H2_) | (have H2_ := (Option.bind_some _ _).symm.trans H; with_reducible exact H2_) | with_reducible exact H | (rw [hy592]; exact H) | exact H
     have Ny592 := Aside0.mk hy592
     clear hy592
     have H' := Aside0.mk H
     clear H
     go_enter Try.func23, Try.ntmps23
     go_wp2_with (first | ((with_reducible refine gate_dst (N := 1) rfl ?_); refine box_event ?hg (N := 1) ?hd (cs := #[.int .i64 a0_0, .slice A0_1 l0_1.length c0_1]) (t := 24) ?hr ?_; (case hd => rfl); (case hg => rfl); (case hr => first | (go_simp; done) | (go_simp; rfl)); intro gb589 hg w7 hbox hb; have BK589 := Aside0.mk (hbox); have GW589 := Aside0.mk (gW hg : w.heap.size ≤ gb589); have GE589 := Aside0.mk (gW hg : w.heap.size ≤ gb589); replace HB := Aside0.mk (below_step pB hb); clear hb hbox hg; obtain ⟨hcz8_0, hcz8_1, hfz8_0, hfz8_1⟩ := bk2 BK589) | ((with_reducible refine gate_callee (f := 13) rfl ?_); refine goesL_ (some 11) rfl rfl Try.func13 (by kernel_rfl) rfl #[.agg #[.int .i64 a0_0, .slice A0_1 l0_1.length c0_1]] rfl mA ?_; (with_reducible refine (pipe_Check.calls k a0_0 _ _ l0_1 t590 _ ?side1 ?side2 A2.out).mono ?_); (case side1 => repeat (first | exact (Kd.C_below HR0_1.out HB.out) | (with_reducible refine Kd.C_alloc ?_ _) | (with_reducible refine Kd.C_drewN ?_ _) | (with_reducible refine Kd.C_drew ?_))); (case side2 => exact HC0_1.out); rintro e w9 ⟨rfl, hb⟩; refine ⟨_, rfl, ?_⟩; replace BK589 := Aside0.mk (kB BK589 hb); replace HB := Aside0.mk (below_step pB hb); (try clear hb); (try clear hb2); (try clear hk); (try clear hi); obtain ⟨hcz10_0, hcz10_1, hfz10_0, hfz10_1⟩ := bk2 BK589; have p591 : 0 ≤ (0 : Int) := (by omega); have q591 : 0 < (l0_1.length : Int) := of_decide_eq_true (by first | (with_reducible assumption) | assumption); obtain ⟨ad591, A591_0, c591_0, e591, hx591_0, hl591_0, hi591_0⟩ := at_L1 HR0_1.out 0 p591 q591; cases e591; have qi591 : (0 < l0_1.length) = True := eq_true (by omega); (try rw [show ((0 : Int)).toNat = 0 from rfl] at hx591_0); (try rw [Addr.add_zero'] at hx591_0); replace hx591_0 := (HB.out.cell (World.block_lt_of_cell? w _ hx591_0)).trans hx591_0; have HR591_0 := Aside0.mk hi591_0; have HC591_0 := Aside0.mk hl591_0; clear hi591_0 hl591_0; replace p591 := eq_true p591; replace q591 := eq_true q591) | ((with_reducible refine gate_dst (N := 20) rfl ?_); refine Kd.R_make (Kd.int .i64) _ 3 rfl (N := 20) rfl 29 _ _ rfl ((rd_L1 l0_1 0).length : Int) rfl rfl Try.underlying29 (.int .i64 0) 8 info3 rfl (by decide) (by omega) 0 (ok := fun _ => True) (okp := fun _ => True) rfl (fun _ hk => hk) trivial (of_decide_eq_true (by first | (with_reducible assumption) | assumption)) (Nat.le_trans (Nat.mul_le_mul_right _ (of_decide_eq_true (by first | (with_reducible assumption) | assumption) : ((rd_L1 l0_1 0).length : Int).toNat ≤ 35184372088832)) (by omega)) (Below.refl _ _) (Nat.le_refl _) ?_; intro v593 w11 ho12 hb hg_ hnew_; clear hg_ hnew_; (first | rw [← Ny592.out] at ho12 | (simp only [Int.reduceToNat] at ho12; rw [← Ny592.out] at ho12)); have HO594 := Aside0.mk (Kd.R_lower ho12 (below_size pB)); replace BK589 := Aside0.mk (kB BK589 hb); replace HB := Aside0.mk (below_step pB hb); clear hb ho12; obtain ⟨hcz13_0, hcz13_1, hfz13_0, hfz13_1⟩ := bk2 BK589))
     go_loopg [24] k (fun kq v24 w' => ∃ (x5_1 : List Int) (x24_1 : Int), v24 = .int .i64 x24_1 ∧ Aside0 (pipe_Content.l0 kq x5_1 l0_1 (l0_1.length : Int) x24_1 = some (r1, r2)) ∧ Aside0 (kq ≤ k) ∧ Aside0 (Kd.R (Kd.int .i64) 3 w' w.heap.size (fun _ => True) v593 x5_1) ∧ Aside0 (w'.heap[gb589]? = some (.cells #[.int .i64 a0_0, (.slice (some ad591) l0_1.length c0_1)] 24 (0, 0))) ∧ Aside0 (Below w.heap.size w w'))
     case atStart => exact ⟨(y592), (0), (by first | rfl | (simp; done) | (simp [*]; done)), H', ⟨Nat.le_refl _⟩, ⟨by (with_reducible repeat (first | apply Kd.R_alloc | apply Kd.R_drewN | apply Kd.R_drew)); exact HO594.out⟩, ⟨by (with_reducible repeat (first | refine blk_drewN ?_ _ | refine blk_drew ?_ | refine blk_alloc ?_ _)); exact BK589.out⟩, ⟨pB⟩⟩
     case round =>
      clear H'
      try clear c1
      try clear c2
      try clear p2
      try clear c3
      try clear c3b0
      try clear c3b1
      try clear c4
      try clear c4b0
      try clear c4b1
      try clear c5
      try clear c5b0
      try clear c5b1
      try clear p5
      try clear q5
      try clear hx5
      try clear qi5
      try clear c6
      try clear c6b0
      try clear c6b1
      try clear c13
      try clear hcz10_0
      try clear hcz10_1
      try clear hcz13_0
      try clear hcz13_1
      try clear hcz8_0
      try clear hcz8_1
      try clear hfz10_0
      try clear hfz10_1
      try clear hfz13_0
      try clear hfz13_1
      try clear hfz8_0
      try clear hfz8_1
      try clear hx591_0
      try clear p591
      try clear q591
      obtain ⟨x5_1, x24_1, rfl, HA, HK1, HO_5, BK589, HB⟩ := hrel
      cases gk with
      | zero => exact absurd HA.out (by simp [pipe_Content.l0])
      | succ k1 =>
       have H := HA.out
       clear HA
       simp only [pipe_Content.l0] at H
       by_cases c14 : x24_1 < (l0_1.length : Int)
       ·rw [if_pos c14] at H
        have c14b0 : decide (x24_1 < (l0_1.length : Int)) = true := decide_eq_true c14
        clear c14
        by_cases c15 : 0 ≤ x24_1
        ·rw [if_pos c15] at H
         have c15b0 : decide (0 ≤ x24_1) = true := decide_eq_true c15
         clear c15
         by_cases c16 : x24_1 < (l0_1.length : Int)
         ·rw [if_pos c16] at H
          have c16b0 : decide (x24_1 < (l0_1.length : Int)) = true := decide_eq_true c16
          clear c16
          have H' := Aside0.mk H
          clear H
          have p595 : 0 ≤ (x24_1 : Int) := of_decide_eq_true (by first | (with_reducible assumption) | assumption)
          have q595 : x24_1 < (l0_1.length : Int) := of_decide_eq_true (by first | (with_reducible assumption) | assumption)
          obtain ⟨ad595, A595_0, c595_0, e595, hx595_0, hl595_0, hi595_0⟩ := at_L1 HR0_1.out x24_1 p595 q595
          obtain rfl : ad591 = ad595 := (by injection e595)
          replace hx595_0 := (HB.out.cell (World.block_lt_of_cell? w _ hx595_0)).trans hx595_0
          have HR595_0 := Aside0.mk hi595_0
          have HC595_0 := Aside0.mk hl595_0
          clear hi595_0 hl595_0
          replace p595 := eq_true p595
          replace q595 := eq_true q595
          go_wp2
          go_loopg [30] k1 (fun kq v30 w' => ∃ (x5_2 : List Int) (x30_2 : Int), v30 = .int .i64 x30_2 ∧ Aside0 (pipe_Content.l1 kq x5_2 l0_1 (l0_1.length : Int) x24_1 (rd_L1 l0_1 x24_1) ((rd_L1 l0_1 x24_1).length : Int) x30_2 = some (r1, r2)) ∧ Aside0 (kq ≤ k1) ∧ Aside0 (Kd.R (Kd.int .i64) 3 w' w.heap.size (fun _ => True) v593 x5_2) ∧ Aside0 (w'.heap[gb589]? = some (.cells #[.int .i64 a0_0, (.slice (some ad591) l0_1.length c0_1)] 24 (0, 0))) ∧ Aside0 (Below w.heap.size w w'))
          case atStart => exact ⟨(x5_1), (0), (by first | rfl | (simp; done) | (simp [*]; done)), H', ⟨Nat.le_refl _⟩, ⟨by (with_reducible repeat (first | apply Kd.R_alloc | apply Kd.R_drewN | apply Kd.R_drew)); exact HO_5.out⟩, ⟨by (with_reducible repeat (first | refine blk_drewN ?_ _ | refine blk_drew ?_ | refine blk_alloc ?_ _)); exact BK589.out⟩, ⟨pB⟩⟩
          case round =>
           clear H'
           try clear c1
           try clear c2
           try clear p2
           try clear c3
           try clear c3b0
           try clear c3b1
           try clear c4
           try clear c4b0
           try clear c4b1
           try clear c5
           try clear c5b0
           try clear c5b1
           try clear p5
           try clear q5
           try clear hx5
           try clear qi5
           try clear c6
           try clear c6b0
           try clear c6b1
           try clear c13
           try clear c14
           try clear c14b0
           try clear c15
           try clear c15b0
           try clear c16
           try clear c16b0
           try clear hcz10_0
           try clear hcz10_1
           try clear hcz13_0
           try clear hcz13_1
           try clear hcz8_0
           try clear hcz8_1
           try clear hfz10_0
           try clear hfz10_1
           try clear hfz13_0
           try clear hfz13_1
           try clear hfz8_0
           try clear hfz8_1
           try clear hx591_0
           try clear hx595_0
           try clear p2
           try clear p5
           try clear p591
           try clear p595
           try clear q5
           try clear q591
           try clear q595
           obtain ⟨x5_2, x30_2, rfl, HA, HK2, HO_5, BK589, HB⟩ := hrel
           cases gk with
           | zero => exact absurd HA.out (by simp [pipe_Content.l1])
           | succ k2 =>
            have H := HA.out
            clear HA
            simp only [pipe_Content.l1] at H
            by_cases c17 : x30_2 < ((rd_L1 l0_1 x24_1).length : Int)
            ·rw [if_pos c17] at H
             have c17b0 : decide (x30_2 < ((rd_L1 l0_1 x24_1).length : Int)) = true := decide_eq_true c17
             clear c17
             by_cases c18 : 0 ≤ x30_2
             ·rw [if_pos c18] at H
              have c18b0 : decide (0 ≤ x30_2) = true := decide_eq_true c18
              clear c18
              by_cases c19 : x30_2 < ((rd_L1 l0_1 x24_1).length : Int)
              ·rw [if_pos c19] at H
               have c19b0 : decide (x30_2 < ((rd_L1 l0_1 x24_1).length : Int)) = true := decide_eq_true c19
               clear c19
               by_cases c20 : x30_2 < (x5_2.length : Int)
               ·rw [if_pos c20] at H
                have c20b0 : decide (x30_2 < (x5_2.length : Int)) = true := decide_eq_true c20
                clear c20
                obtain ⟨y598, hy598⟩ : ∃ y_ : List Int, y_ = (x5_2.set (x30_2 : Int).toNat (wrap64 ((rd x5_2 x30_2) + (rd (rd_L1 l0_1 x24_1) x30_2)))) := ⟨_, rfl⟩
                replace H : (pipe_Content.l1 k2 y598 l0_1 (l0_1.length : Int) x24_1 (rd_L1 l0_1 x24_1) ((rd_L1 l0_1 x24_1).length : Int) (wrap64 (x30_2 + 1))) = some (r1, r2) := by first | (rw [hy598]; with_reducible exact H) | (have H2_ := (Option.bind_some _ _).symm.trans H; rw [hy598]; with_reducible exact H2_) | (have H2_ := (Option.bind_some _ _).symm.trans H; with_reducible exact H2_) | with_reducible exact H | (rw [hy598]; exact H) | exact H
                have Ny598 := Aside0.mk hy598
                clear hy598
                have H' := Aside0.mk H
                clear H
                have p596 : 0 ≤ (x30_2 : Int) := of_decide_eq_true (by first | (with_reducible assumption) | assumption)
                have q596 : x30_2 < ((rd_L1 l0_1 x24_1).length : Int) := of_decide_eq_true (by first | (with_reducible assumption) | assumption)
                obtain ⟨ad596, e596, hx596_0⟩ := Kd.at_int HR595_0.out x30_2 p596 q596
                cases e596
                replace hx596_0 := (HB.out.cell (World.block_lt_of_cell? w _ hx596_0)).trans hx596_0
                replace p596 := eq_true p596
                replace q596 := eq_true q596
                obtain ⟨Ao22, co22, eo22⟩ := Kd.R_slice HO_5.out
                subst eo22
                have p597 : 0 ≤ (x30_2 : Int) := of_decide_eq_true (by first | (with_reducible assumption) | assumption)
                have q597 : x30_2 < (x5_2.length : Int) := of_decide_eq_true (by first | (with_reducible assumption) | assumption)
                obtain ⟨ad597, e597, hx597_0⟩ := Kd.at_int (Kd.R_reads' HO_5.out).2.2 x30_2 p597 q597
                cases e597
                replace p597 := eq_true p597
                replace q597 := eq_true q597
                have p21 : 0 ≤ (x30_2 : Int) := of_decide_eq_true (by first | (with_reducible assumption) | assumption)
                have q21 : (x30_2 : Int) < ((x5_2.length : Int) : Int) := of_decide_eq_true (by first | (with_reducible assumption) | assumption)
                obtain ⟨go21, co21, eo21, gb21, gl21, cl21, HG21⟩ := Kd.R_form HO_5.out (by omega)
                (first | cases eo21 | (injection eo21 with ea_ en_ ec_; (first | subst ea_ | (injection ea_ with ea_; subst ea_)); subst ec_; clear en_))
                have GB21 := Aside0.mk gb21
                have GG21 := Aside0.mk HG21
                clear gb21 gl21 HG21
                (first | simp only [add_plain] at hx597_0 | skip)
                obtain ⟨hx21_0, hf21_0⟩ := Kd.R_celln 0 HO_5.out (x30_2 : Int) p21 q21
                replace p21 := eq_true p21
                replace q21 := eq_true q21
                have HP23 := Kd.R_putg HO_5.out (x30_2 : Int) (wrap64 ((rd x5_2 x30_2) + (rd (rd_L1 l0_1 x24_1) x30_2)))
                go_wp2_with (first | ((with_reducible refine gate_store (t := 3) (p := 41) rfl ?_); refine store_event (t := 3) (p := 41) (v := ?vo_w24) (w1 := (wr.setCell ⟨go21, (x30_2 : Int).toNat, none⟩ (.int .i64 (wrap64 ((rd x5_2 x30_2) + (rd (rd_L1 l0_1 x24_1) x30_2)))))) ?hg ?ho ?hn ?hr ?_; (case ho => rfl); (case hg => rfl); (case hn => rfl); (case hr => first | (go_simp; done) | (go_simp; rfl)); intro w24 hw; have hg : wr.grownBy w24 (some go21) := (by rw [hw]; exact HP23.2); have hp_ : Kd.R (Kd.int .i64) 3 w24 w.heap.size (fun _ => True) (.slice (some ⟨go21, 0, none⟩) x5_2.length co22) y598 := (by rw [hw, Ny598.out]; exact HP23.1); clear HP23; replace BK589 := Aside0.mk (blk_grown (g := gb589) (o := .cells #[.int .i64 a0_0, .slice (some ad591) l0_1.length c0_1] 24 (0, 0)) (kW BK589) hg (Kd.R_ne HO_5.out BK589.out (by decide))); replace HO_5 := Aside0.mk (hp_); replace HB := Aside0.mk ((by rw [hw]; exact below_set (HB.out) GB21.out : Below w.heap.size w w24)); clear hg hw hp_))
                go_roundg k2
                case measure => have := HK1.out; have := HK2.out; omega
                case rel => exact ⟨(y598), (wrap64 (x30_2 + 1)), (by first | rfl | (simp; done) | (simp [*]; done)), H', ⟨by have := HK1.out; have := HK2.out; omega⟩, ⟨by (with_reducible repeat (first | apply Kd.R_alloc | apply Kd.R_drewN | apply Kd.R_drew)); exact HO_5.out⟩, ⟨by (with_reducible repeat (first | refine blk_drewN ?_ _ | refine blk_drew ?_ | refine blk_alloc ?_ _)); exact BK589.out⟩, ⟨pB⟩⟩
               ·rw [if_neg c20] at H
                exact absurd H (by simp)
              ·rw [if_neg c19] at H
               exact absurd H (by simp)
             ·rw [if_neg c18] at H
              exact absurd H (by simp)
            ·rw [if_neg c17] at H
             have c17b0 : decide (x30_2 < ((rd_L1 l0_1 x24_1).length : Int)) = false := decide_eq_false c17
             clear c17
             have H' := Aside0.mk H
             clear H
             go_wp2
             go_roundg k2
             case measure => have := HK1.out; have := HK2.out; omega
             case rel => exact ⟨(x5_2), (wrap64 (x24_1 + 1)), (by first | rfl | (simp; done) | (simp [*]; done)), H', ⟨by have := HK1.out; have := HK2.out; omega⟩, ⟨by (with_reducible repeat (first | apply Kd.R_alloc | apply Kd.R_drewN | apply Kd.R_drew)); exact HO_5.out⟩, ⟨by (with_reducible repeat (first | refine blk_drewN ?_ _ | refine blk_drew ?_ | refine blk_alloc ?_ _)); exact BK589.out⟩, ⟨pB⟩⟩
         ·rw [if_neg c16] at H
          exact absurd H (by simp)
        ·rw [if_neg c15] at H
         exact absurd H (by simp)
       ·rw [if_neg c14] at H
        have c14b0 : decide (x24_1 < (l0_1.length : Int)) = false := decide_eq_false c14
        clear c14
        simp only [Option.some.injEq, Prod.mk.injEq] at H
        obtain ⟨rfl, rfl⟩ := H
        go_wp2
        go_ret2
        exact ⟨_, by first | rfl | (simp [errW_none, errW_some] <;> rfl) | (simp [*, errW_none, errW_some] <;> rfl), by (with_reducible repeat (first | apply Kd.R_alloc | apply Kd.R_drewN | apply Kd.R_drew)); exact HO_5.out, pB⟩
    ·rw [if_neg c6] at H
     exact absurd H (by simp)
   ·rw [if_neg c5] at H
    exact absurd H (by simp)
  ·rw [if_neg c4] at H
   exact absurd H (by simp)
 ·rw [if_neg c3] at H
  have c3b0 : (t590 == 0) = false := beq_eq_false_iff_ne.mpr c3
  have c3b1 : (t590 != 0) = true := bne_iff_ne.mpr c3
  simp only [Option.some.injEq, Prod.mk.injEq] at H
  obtain ⟨rfl, rfl⟩ := H
  go_enter Try.func23, Try.ntmps23
  go_wp2_with (first | ((with_reducible refine gate_dst (N := 1) rfl ?_); refine box_event ?hg (N := 1) ?hd (cs := #[.int .i64 a0_0, .slice A0_1 l0_1.length c0_1]) (t := 24) ?hr ?_; (case hd => rfl); (case hg => rfl); (case hr => first | (go_simp; done) | (go_simp; rfl)); intro gb589 hg w25 hbox hb; have BK589 := Aside0.mk (hbox); have GW589 := Aside0.mk (gW hg : w.heap.size ≤ gb589); have GE589 := Aside0.mk (gW hg : w.heap.size ≤ gb589); replace HB := Aside0.mk (below_step pB hb); clear hb hbox hg; obtain ⟨hcz26_0, hcz26_1, hfz26_0, hfz26_1⟩ := bk2 BK589) | ((with_reducible refine gate_callee (f := 13) rfl ?_); refine goesL_ (some 11) rfl rfl Try.func13 (by kernel_rfl) rfl #[.agg #[.int .i64 a0_0, .slice A0_1 l0_1.length c0_1]] rfl mA ?_; (with_reducible refine (pipe_Check.calls k a0_0 _ _ l0_1 t590 _ ?side1 ?side2 A2.out).mono ?_); (case side1 => repeat (first | exact (Kd.C_below HR0_1.out HB.out) | (with_reducible refine Kd.C_alloc ?_ _) | (with_reducible refine Kd.C_drewN ?_ _) | (with_reducible refine Kd.C_drew ?_))); (case side2 => exact HC0_1.out); rintro e w27 ⟨rfl, hb⟩; refine ⟨_, rfl, ?_⟩; replace BK589 := Aside0.mk (kB BK589 hb); replace HB := Aside0.mk (below_step pB hb); (try clear hb); (try clear hb2); (try clear hk); (try clear hi)))
  go_ret2
  exact ⟨_, by first | rfl | (simp [errW_none, errW_some] <;> rfl) | (simp [*, errW_none, errW_some] <;> rfl), by first | exact Kd.R_nil _ _ _ _ _ | exact Kd.N_nil _ _ _ _ _ | exact Kd.V_nil _ _ _ _ _ | exact Kd.Q_nil _ _ _ _ _ | exact Kd.S_nil _ _ _ _ _, pB⟩

end Go.Proofs.Ytpnfdhhfdidlmaa.Print
