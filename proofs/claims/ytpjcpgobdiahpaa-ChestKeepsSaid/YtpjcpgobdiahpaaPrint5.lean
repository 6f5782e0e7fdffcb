-- Written by wip/tools/myprint.py out of the translation. Not trusted: Lean checks it.
import Derived.Test.YtpjcpgobdiahpaaPrint0
import Derived.Test.YtpjcpgobdiahpaaPrint1
import Derived.Test.YtpjcpgobdiahpaaPrint2
import Derived.Test.YtpjcpgobdiahpaaPrint4
namespace Go.Proofs.Ytpjcpgobdiahpaa.Print
open Go.RowKit Go.Proofs.YtpjcpgobdiahpaaW.PrintWords Go.Proofs.YtpjcpgobdiahpaaW.PrintLast Go.Proofs.YtpjcpgobdiahpaaW.PrintMore
attribute [local go_sem] max2_int min2_int max_two min_two max_three min_three max_four min_four   -- for this text's walks alone
set_option linter.unusedVariables false
set_option linter.unusedSimpArgs false

/-! ### chest_Fill: function 17 -/
def chest_Fill.f (k : Nat) (a0_0 : Int) (l0_1 : List Int) (l1 : List Int) : Option (Int × List Int × Int) := (chest_Check.f k a0_0 l0_1).bind fun t133 => (if t133 = 0 then ((fibre_Parts.f k l1 (l0_1.length : Int)).bind fun t134 => (if t134 = 0 then ((chest_level.f k l0_1).bind fun t135 => ((chest_level.f k l1).bind fun t136 => (if (wrap64 (t135 + t136)) > a0_0 then (some (0, ([] : List Int), 8)) else ((chest_changed.f k a0_0 l0_1 l1 1).bind fun bt137 => (some (bt137.1, bt137.2, 0)))))) else (some (0, ([] : List Int), t134)))) else (some (0, ([] : List Int), t133)))
theorem chest_Fill.mono : ∀ a0 a1 a2 k, LeO (chest_Fill.f k a0 a1 a2) (chest_Fill.f (k + 1) a0 a1 a2) := by
 intro a0 a1 a2 k
 unfold chest_Fill.f
 repeat' first
   | (with_reducible exact chest_Check.mono _ _ _)
   | (with_reducible exact chest_changed.mono _ _ _ _ _)
   | (with_reducible exact chest_level.mono _ _)
   | (with_reducible exact fibre_Parts.mono _ _ _)
   | (with_reducible exact LeO.refl _)
   | (with_reducible exact LeO.none _)
   | (with_reducible refine LeO.ite ?_ ?_)
   | (with_reducible refine LeO.bind ?_ (fun _ => ?_))
   | exact chest_Check.mono _ _ _
   | exact chest_changed.mono _ _ _ _ _
   | exact chest_level.mono _ _
   | exact fibre_Parts.mono _ _ _
   | exact LeO.none _
   | refine LeO.ite ?_ ?_
   | refine LeO.bind ?_ (fun _ => ?_)
set_option maxHeartbeats 8000000 in
set_option maxRecDepth 100000 in
theorem chest_Fill.calls (k : Nat) (a0_0 : Int) (A0_1 : Option Addr) (c0_1 : Nat) (l0_1 : List Int) (A1 : Option Addr) (c1 : Nat) (l1 : List Int) (r1 : Int) (r2 : List Int) (r3 : Int) (w : World) (hr0_1 : Kd.C (Kd.int .i64) w A0_1 l0_1.length l0_1) (hc0_1 : l0_1.length ≤ c0_1) (hr1 : Kd.C (Kd.int .i64) w A1 l1.length l1) (hc1 : l1.length ≤ c1) (h : chest_Fill.f k a0_0 l0_1 l1 = some (r1, r2, r3)) :
  Calls Try.prog 17 #[.agg #[.int .i64 a0_0, .slice A0_1 l0_1.length c0_1], .slice A1 l1.length c1] w fun e w' => ∃ v1_ : Value, e = .returned (.tuple #[.agg #[.int .i64 r1, v1_], .int .i64 r3]) ∧ Kd.R (Kd.int .i64) 3 w' w.heap.size (fun _ => True) v1_ r2 ∧ Below w.heap.size w w' := by
 have hu24 := Try.underlying24
 have HR0_1 := Aside0.mk hr0_1
 have HC0_1 := Aside0.mk hc0_1
 clear hr0_1 hc0_1
 have HR1 := Aside0.mk hr1
 have HC1 := Aside0.mk hc1
 clear hr1 hc1
 have HB := Aside0.mk (Below.refl w.heap.size w)
 have H : ((chest_Check.f k a0_0 l0_1).bind fun t133 => (if t133 = 0 then ((fibre_Parts.f k l1 (l0_1.length : Int)).bind fun t134 => (if t134 = 0 then ((chest_level.f k l0_1).bind fun t135 => ((chest_level.f k l1).bind fun t136 => (if (wrap64 (t135 + t136)) > a0_0 then (some (0, ([] : List Int), 8)) else ((chest_changed.f k a0_0 l0_1 l1 1).bind fun bt137 => (some (bt137.1, bt137.2, 0)))))) else (some (0, ([] : List Int), t134)))) else (some (0, ([] : List Int), t133)))) = some (r1, r2, r3) := h
 clear h
 replace H := Option.bind_eq_some_iff.mp H
 obtain ⟨t133, A30, H⟩ := H
 replace H : (if t133 = 0 then ((fibre_Parts.f k l1 (l0_1.length : Int)).bind fun t134 => (if t134 = 0 then ((chest_level.f k l0_1).bind fun t135 => ((chest_level.f k l1).bind fun t136 => (if (wrap64 (t135 + t136)) > a0_0 then (some (0, ([] : List Int), 8)) else ((chest_changed.f k a0_0 l0_1 l1 1).bind fun bt137 => (some (bt137.1, bt137.2, 0)))))) else (some (0, ([] : List Int), t134)))) else (some (0, ([] : List Int), t133))) = some (r1, r2, r3) := H
 have A3 := Aside0.mk A30
 clear A30
 by_cases c4 : t133 = 0
 ·rw [if_pos c4] at H
  have c4b0 : (t133 == 0) = true := beq_iff_eq.mpr c4
  have c4b1 : (t133 != 0) = false := bne_eq_false_iff_eq.mpr c4
  clear c4
  replace H := Option.bind_eq_some_iff.mp H
  obtain ⟨t134, A50, H⟩ := H
  replace H : (if t134 = 0 then ((chest_level.f k l0_1).bind fun t135 => ((chest_level.f k l1).bind fun t136 => (if (wrap64 (t135 + t136)) > a0_0 then (some (0, ([] : List Int), 8)) else ((chest_changed.f k a0_0 l0_1 l1 1).bind fun bt137 => (some (bt137.1, bt137.2, 0)))))) else (some (0, ([] : List Int), t134))) = some (r1, r2, r3) := H
  have A5 := Aside0.mk A50
  clear A50
  by_cases c6 : t134 = 0
  ·rw [if_pos c6] at H
   have c6b0 : (t134 == 0) = true := beq_iff_eq.mpr c6
   have c6b1 : (t134 != 0) = false := bne_eq_false_iff_eq.mpr c6
   clear c6
   replace H := Option.bind_eq_some_iff.mp H
   obtain ⟨t135, A70, H⟩ := H
   replace H : ((chest_level.f k l1).bind fun t136 => (if (wrap64 (t135 + t136)) > a0_0 then (some (0, ([] : List Int), 8)) else ((chest_changed.f k a0_0 l0_1 l1 1).bind fun bt137 => (some (bt137.1, bt137.2, 0))))) = some (r1, r2, r3) := H
   have A7 := Aside0.mk A70
   clear A70
   replace H := Option.bind_eq_some_iff.mp H
   obtain ⟨t136, A80, H⟩ := H
   replace H : (if (wrap64 (t135 + t136)) > a0_0 then (some (0, ([] : List Int), 8)) else ((chest_changed.f k a0_0 l0_1 l1 1).bind fun bt137 => (some (bt137.1, bt137.2, 0)))) = some (r1, r2, r3) := H
   have A8 := Aside0.mk A80
   clear A80
   by_cases c9 : (wrap64 (t135 + t136)) > a0_0
   ·rw [if_pos c9] at H
    have c9b0 : decide (a0_0 < (wrap64 (t135 + t136))) = true := decide_eq_true c9
    have c9b0w : decide (a0_0 < (IntKind.i64.wrap (t135 + t136))) = true := by have h_ := c9b0; first | exact h_ | (simp only [i64_w]; exact h_)
    clear c9
    simp only [Option.some.injEq, Prod.mk.injEq] at H
    obtain ⟨rfl, rfl, rfl⟩ := H
    go_enter Try.func17, Try.ntmps17
    have fl_ : True := trivial
    repeat ((first | clear fl_ | go_quiet (first | ((with_reducible refine gate_dst (N := 2) rfl ?_); refine box_event ?hg (N := 2) ?hd (cs := #[.int .i64 a0_0, .slice A0_1 l0_1.length c0_1]) (t := 24) ?hr ?_; (case hd => rfl); (case hg => rfl); (case hr => first | (go_simp; done) | (go_simp; rfl)); intro gb131 hg w10 hbox hb; have BK131 := Aside0.mk (hbox); have GW131 := Aside0.mk (gW hg : w.heap.size ≤ gb131); have GE131 := Aside0.mk (gW hg : w.heap.size ≤ gb131); replace HB := Aside0.mk (below_step pB hb); clear hb hbox hg) | ((with_reducible refine gate_dst (N := 4) rfl ?_); refine box_event ?hg (N := 4) ?hd (cs := #[.int .i64 0, .slice none 0 0]) (t := 24) ?hr ?_; (case hd => rfl); (case hg => rfl); (case hr => first | (go_simp; done) | (go_simp; rfl)); intro gb132 hg w11 hbox hb; have BK132 := Aside0.mk (hbox); have GW132 := Aside0.mk (gW hg : w.heap.size ≤ gb132); have GE132 := Aside0.mk (gW hg : w.heap.size ≤ gb132); have NB131_132 := Aside0.mk (nL hg BK131 : gb131 ≠ gb132); have NB132_131 := Aside0.mk (nG hg BK131 : gb132 ≠ gb131); replace BK131 := Aside0.mk (kB BK131 hb); replace HB := Aside0.mk (below_step pB hb); clear hb hbox hg; have hnb12 := NB131_132.out; have hnc12 := NB132_131.out; obtain ⟨hcz13_0, hcz13_1, hfz13_0, hfz13_1⟩ := bk2 BK131) | (go_at_call 15; (with_reducible refine (chest_Check.calls k a0_0 _ _ l0_1 t133 _ ?side1 ?side2 A3.out).mono ?_); (case side1 => repeat (first | exact (Kd.C_below HR0_1.out HB.out) | (with_reducible refine Kd.C_alloc ?_ _) | (with_reducible refine Kd.C_drewN ?_ _) | (with_reducible refine Kd.C_drew ?_))); (case side2 => exact HC0_1.out); rintro e w14 ⟨rfl, hb⟩; replace BK131 := Aside0.mk (kB BK131 hb); replace BK132 := Aside0.mk (kB BK132 hb); replace HB := Aside0.mk (below_step pB hb); (try clear hb); (try clear hb2); (try clear hk); (try clear hi); obtain ⟨hcz15_0, hcz15_1, hfz15_0, hfz15_1⟩ := bk2 BK131) | (go_at_call 38; (with_reducible refine (fibre_Parts.calls k _ _ l1 (l0_1.length : Int) t134 _ ?side1 ?side2 A5.out).mono ?_); (case side1 => repeat (first | exact (Kd.C_below HR1.out HB.out) | (with_reducible refine Kd.C_alloc ?_ _) | (with_reducible refine Kd.C_drewN ?_ _) | (with_reducible refine Kd.C_drew ?_))); (case side2 => exact HC1.out); rintro e w16 ⟨rfl, hb⟩; replace BK131 := Aside0.mk (kB BK131 hb); replace BK132 := Aside0.mk (kB BK132 hb); replace HB := Aside0.mk (below_step pB hb); (try clear hb); (try clear hb2); (try clear hk); (try clear hi); obtain ⟨hcz17_0, hcz17_1, hfz17_0, hfz17_1⟩ := bk2 BK131) | (go_at_call 36; (with_reducible refine (chest_level.calls k _ _ l0_1 t135 _ ?side1 ?side2 A7.out).mono ?_); (case side1 => repeat (first | exact (Kd.C_below HR0_1.out HB.out) | (with_reducible refine Kd.C_alloc ?_ _) | (with_reducible refine Kd.C_drewN ?_ _) | (with_reducible refine Kd.C_drew ?_))); (case side2 => exact HC0_1.out); rintro e w' ⟨rfl, ⟨nd, rfl⟩⟩; (try first | exact ⟨rfl, _, World.drewN_drewN _ _ _⟩ | exact ⟨rfl, _, Eq.trans (World.drewN_drewN _ _ _) (congrArg (World.drewN _) (Nat.add_assoc _ _ _))⟩)) | (go_at_call 36; (with_reducible refine (chest_level.calls k _ _ l1 t136 _ ?side1 ?side2 A8.out).mono ?_); (case side1 => repeat (first | exact (Kd.C_below HR1.out pB) | (with_reducible refine Kd.C_alloc ?_ _) | (with_reducible refine Kd.C_drewN ?_ _) | (with_reducible refine Kd.C_drew ?_))); (case side2 => exact HC1.out); rintro e w' ⟨rfl, ⟨nd, rfl⟩⟩; (try first | exact ⟨rfl, _, World.drewN_drewN _ _ _⟩ | exact ⟨rfl, _, Eq.trans (World.drewN_drewN _ _ _) (congrArg (World.drewN _) (Nat.add_assoc _ _ _))⟩); obtain ⟨hcz18_0, hcz18_1, hfz18_0, hfz18_1⟩ := bk2 BK132))); go_wp2_with (first | ((with_reducible refine gate_dst (N := 2) rfl ?_); refine box_event ?hg (N := 2) ?hd (cs := #[.int .i64 a0_0, .slice A0_1 l0_1.length c0_1]) (t := 24) ?hr ?_; (case hd => rfl); (case hg => rfl); (case hr => first | (go_simp; done) | (go_simp; rfl)); intro gb131 hg w10 hbox hb; have BK131 := Aside0.mk (hbox); have GW131 := Aside0.mk (gW hg : w.heap.size ≤ gb131); have GE131 := Aside0.mk (gW hg : w.heap.size ≤ gb131); replace HB := Aside0.mk (below_step pB hb); clear hb hbox hg) | ((with_reducible refine gate_dst (N := 4) rfl ?_); refine box_event ?hg (N := 4) ?hd (cs := #[.int .i64 0, .slice none 0 0]) (t := 24) ?hr ?_; (case hd => rfl); (case hg => rfl); (case hr => first | (go_simp; done) | (go_simp; rfl)); intro gb132 hg w11 hbox hb; have BK132 := Aside0.mk (hbox); have GW132 := Aside0.mk (gW hg : w.heap.size ≤ gb132); have GE132 := Aside0.mk (gW hg : w.heap.size ≤ gb132); have NB131_132 := Aside0.mk (nL hg BK131 : gb131 ≠ gb132); have NB132_131 := Aside0.mk (nG hg BK131 : gb132 ≠ gb131); replace BK131 := Aside0.mk (kB BK131 hb); replace HB := Aside0.mk (below_step pB hb); clear hb hbox hg; have hnb12 := NB131_132.out; have hnc12 := NB132_131.out; obtain ⟨hcz13_0, hcz13_1, hfz13_0, hfz13_1⟩ := bk2 BK131) | (go_at_call 15; (with_reducible refine (chest_Check.calls k a0_0 _ _ l0_1 t133 _ ?side1 ?side2 A3.out).mono ?_); (case side1 => repeat (first | exact (Kd.C_below HR0_1.out HB.out) | (with_reducible refine Kd.C_alloc ?_ _) | (with_reducible refine Kd.C_drewN ?_ _) | (with_reducible refine Kd.C_drew ?_))); (case side2 => exact HC0_1.out); rintro e w14 ⟨rfl, hb⟩; replace BK131 := Aside0.mk (kB BK131 hb); replace BK132 := Aside0.mk (kB BK132 hb); replace HB := Aside0.mk (below_step pB hb); (try clear hb); (try clear hb2); (try clear hk); (try clear hi); obtain ⟨hcz15_0, hcz15_1, hfz15_0, hfz15_1⟩ := bk2 BK131) | (go_at_call 38; (with_reducible refine (fibre_Parts.calls k _ _ l1 (l0_1.length : Int) t134 _ ?side1 ?side2 A5.out).mono ?_); (case side1 => repeat (first | exact (Kd.C_below HR1.out HB.out) | (with_reducible refine Kd.C_alloc ?_ _) | (with_reducible refine Kd.C_drewN ?_ _) | (with_reducible refine Kd.C_drew ?_))); (case side2 => exact HC1.out); rintro e w16 ⟨rfl, hb⟩; replace BK131 := Aside0.mk (kB BK131 hb); replace BK132 := Aside0.mk (kB BK132 hb); replace HB := Aside0.mk (below_step pB hb); (try clear hb); (try clear hb2); (try clear hk); (try clear hi); obtain ⟨hcz17_0, hcz17_1, hfz17_0, hfz17_1⟩ := bk2 BK131) | (go_at_call 36; (with_reducible refine (chest_level.calls k _ _ l0_1 t135 _ ?side1 ?side2 A7.out).mono ?_); (case side1 => repeat (first | exact (Kd.C_below HR0_1.out HB.out) | (with_reducible refine Kd.C_alloc ?_ _) | (with_reducible refine Kd.C_drewN ?_ _) | (with_reducible refine Kd.C_drew ?_))); (case side2 => exact HC0_1.out); rintro e w' ⟨rfl, ⟨nd, rfl⟩⟩; (try first | exact ⟨rfl, _, World.drewN_drewN _ _ _⟩ | exact ⟨rfl, _, Eq.trans (World.drewN_drewN _ _ _) (congrArg (World.drewN _) (Nat.add_assoc _ _ _))⟩)) | (go_at_call 36; (with_reducible refine (chest_level.calls k _ _ l1 t136 _ ?side1 ?side2 A8.out).mono ?_); (case side1 => repeat (first | exact (Kd.C_below HR1.out pB) | (with_reducible refine Kd.C_alloc ?_ _) | (with_reducible refine Kd.C_drewN ?_ _) | (with_reducible refine Kd.C_drew ?_))); (case side2 => exact HC1.out); rintro e w' ⟨rfl, ⟨nd, rfl⟩⟩; (try first | exact ⟨rfl, _, World.drewN_drewN _ _ _⟩ | exact ⟨rfl, _, Eq.trans (World.drewN_drewN _ _ _) (congrArg (World.drewN _) (Nat.add_assoc _ _ _))⟩); obtain ⟨hcz18_0, hcz18_1, hfz18_0, hfz18_1⟩ := bk2 BK132)))
    refine bodyPost_ret (results_ct rfl _ _ gb132 24 #[.int .i64 0, .slice none 0 0] (0, 0) _ rfl (by (with_reducible repeat (first | refine blk_drewN ?_ _ | refine blk_drew ?_ | refine blk_alloc ?_ _)); refine blk_put (cs := #[.int .i64 0, .slice none 0 0]) ?_ 1 _ rfl; (with_reducible repeat (first | refine blk_drewN ?_ _ | refine blk_drew ?_ | refine blk_alloc ?_ _)); refine blk_put (cs := #[.int .i64 0, .slice none 0 0]) ?_ 0 _ rfl; (with_reducible repeat (first | refine blk_drewN ?_ _ | refine blk_drew ?_ | refine blk_alloc ?_ _)); exact BK132.out) Try.underlying24 rfl (by kernel_rfl)) rfl ?_
    exact ⟨_, by first | rfl | (simp [errW_none, errW_some] <;> rfl) | (simp [*, errW_none, errW_some] <;> rfl), by first | exact Kd.R_nil _ _ _ _ _ | exact Kd.N_nil _ _ _ _ _ | exact Kd.V_nil _ _ _ _ _ | exact Kd.Q_nil _ _ _ _ _ | exact Kd.S_nil _ _ _ _ _, pB⟩
   ·rw [if_neg c9] at H
    have c9b0 : decide (a0_0 < (wrap64 (t135 + t136))) = false := decide_eq_false c9
    have c9b0w : decide (a0_0 < (IntKind.i64.wrap (t135 + t136))) = false := by have h_ := c9b0; first | exact h_ | (simp only [i64_w]; exact h_)
    clear c9
    replace H := Option.bind_eq_some_iff.mp H
    obtain ⟨⟨t137, t138⟩, A190, H⟩ := H
    replace H : (some (t137, t138, 0)) = some (r1, r2, r3) := H
    have A19 := Aside0.mk A190
    clear A190
    simp only [Option.some.injEq, Prod.mk.injEq] at H
    obtain ⟨rfl, rfl, rfl⟩ := H
    go_enter Try.func17, Try.ntmps17
    have fl_ : True := trivial
    repeat ((first | clear fl_ | go_quiet (first | ((with_reducible refine gate_dst (N := 2) rfl ?_); refine box_event ?hg (N := 2) ?hd (cs := #[.int .i64 a0_0, .slice A0_1 l0_1.length c0_1]) (t := 24) ?hr ?_; (case hd => rfl); (case hg => rfl); (case hr => first | (go_simp; done) | (go_simp; rfl)); intro gb131 hg w20 hbox hb; have BK131 := Aside0.mk (hbox); have GW131 := Aside0.mk (gW hg : w.heap.size ≤ gb131); have GE131 := Aside0.mk (gW hg : w.heap.size ≤ gb131); replace HB := Aside0.mk (below_step pB hb); clear hb hbox hg) | ((with_reducible refine gate_dst (N := 4) rfl ?_); refine box_event ?hg (N := 4) ?hd (cs := #[.int .i64 0, .slice none 0 0]) (t := 24) ?hr ?_; (case hd => rfl); (case hg => rfl); (case hr => first | (go_simp; done) | (go_simp; rfl)); intro gb132 hg w21 hbox hb; have BK132 := Aside0.mk (hbox); have GW132 := Aside0.mk (gW hg : w.heap.size ≤ gb132); have GE132 := Aside0.mk (gW hg : w.heap.size ≤ gb132); have NB131_132 := Aside0.mk (nL hg BK131 : gb131 ≠ gb132); have NB132_131 := Aside0.mk (nG hg BK131 : gb132 ≠ gb131); replace BK131 := Aside0.mk (kB BK131 hb); replace HB := Aside0.mk (below_step pB hb); clear hb hbox hg; have hnb22 := NB131_132.out; have hnc22 := NB132_131.out; obtain ⟨hcz23_0, hcz23_1, hfz23_0, hfz23_1⟩ := bk2 BK131) | (go_at_call 15; (with_reducible refine (chest_Check.calls k a0_0 _ _ l0_1 t133 _ ?side1 ?side2 A3.out).mono ?_); (case side1 => repeat (first | exact (Kd.C_below HR0_1.out HB.out) | (with_reducible refine Kd.C_alloc ?_ _) | (with_reducible refine Kd.C_drewN ?_ _) | (with_reducible refine Kd.C_drew ?_))); (case side2 => exact HC0_1.out); rintro e w24 ⟨rfl, hb⟩; replace BK131 := Aside0.mk (kB BK131 hb); replace BK132 := Aside0.mk (kB BK132 hb); replace HB := Aside0.mk (below_step pB hb); (try clear hb); (try clear hb2); (try clear hk); (try clear hi); obtain ⟨hcz25_0, hcz25_1, hfz25_0, hfz25_1⟩ := bk2 BK131) | (go_at_call 38; (with_reducible refine (fibre_Parts.calls k _ _ l1 (l0_1.length : Int) t134 _ ?side1 ?side2 A5.out).mono ?_); (case side1 => repeat (first | exact (Kd.C_below HR1.out HB.out) | (with_reducible refine Kd.C_alloc ?_ _) | (with_reducible refine Kd.C_drewN ?_ _) | (with_reducible refine Kd.C_drew ?_))); (case side2 => exact HC1.out); rintro e w26 ⟨rfl, hb⟩; replace BK131 := Aside0.mk (kB BK131 hb); replace BK132 := Aside0.mk (kB BK132 hb); replace HB := Aside0.mk (below_step pB hb); (try clear hb); (try clear hb2); (try clear hk); (try clear hi); obtain ⟨hcz27_0, hcz27_1, hfz27_0, hfz27_1⟩ := bk2 BK131) | (go_at_call 36; (with_reducible refine (chest_level.calls k _ _ l0_1 t135 _ ?side1 ?side2 A7.out).mono ?_); (case side1 => repeat (first | exact (Kd.C_below HR0_1.out HB.out) | (with_reducible refine Kd.C_alloc ?_ _) | (with_reducible refine Kd.C_drewN ?_ _) | (with_reducible refine Kd.C_drew ?_))); (case side2 => exact HC0_1.out); rintro e w' ⟨rfl, ⟨nd, rfl⟩⟩; (try first | exact ⟨rfl, _, World.drewN_drewN _ _ _⟩ | exact ⟨rfl, _, Eq.trans (World.drewN_drewN _ _ _) (congrArg (World.drewN _) (Nat.add_assoc _ _ _))⟩)) | (go_at_call 36; (with_reducible refine (chest_level.calls k _ _ l1 t136 _ ?side1 ?side2 A8.out).mono ?_); (case side1 => repeat (first | exact (Kd.C_below HR1.out pB) | (with_reducible refine Kd.C_alloc ?_ _) | (with_reducible refine Kd.C_drewN ?_ _) | (with_reducible refine Kd.C_drew ?_))); (case side2 => exact HC1.out); rintro e w' ⟨rfl, ⟨nd, rfl⟩⟩; (try first | exact ⟨rfl, _, World.drewN_drewN _ _ _⟩ | exact ⟨rfl, _, Eq.trans (World.drewN_drewN _ _ _) (congrArg (World.drewN _) (Nat.add_assoc _ _ _))⟩)) | (go_at_call 39; (with_reducible refine (chest_changed.calls k a0_0 _ _ l0_1 _ _ l1 1 t137 t138 _ ?side1 ?side2 ?side3 ?side4 A19.out).mono ?_); (case side1 => repeat (first | exact (Kd.C_below HR0_1.out pB) | (with_reducible refine Kd.C_alloc ?_ _) | (with_reducible refine Kd.C_drewN ?_ _) | (with_reducible refine Kd.C_drew ?_))); (case side2 => exact HC0_1.out); (case side3 => repeat (first | exact (Kd.C_below HR1.out pB) | (with_reducible refine Kd.C_alloc ?_ _) | (with_reducible refine Kd.C_drewN ?_ _) | (with_reducible refine Kd.C_drew ?_))); (case side4 => exact HC1.out); rintro e w28 ⟨v139, rfl, ho0, hb⟩; have HO140 := Aside0.mk (Kd.R_lower ho0 (below_size pB)); replace BK131 := Aside0.mk (kB BK131 hb); replace BK132 := Aside0.mk (kB BK132 hb); replace HB := Aside0.mk (below_step pB hb); (try clear hb); (try clear hb2); (try clear hk); (try clear hi); (try clear ho0); obtain ⟨hcz29_0, hcz29_1, hfz29_0, hfz29_1⟩ := bk2 BK132; obtain ⟨Ao30, co30, eo30⟩ := Kd.R_slice HO140.out; subst eo30))); go_wp2_with (first | ((with_reducible refine gate_dst (N := 2) rfl ?_); refine box_event ?hg (N := 2) ?hd (cs := #[.int .i64 a0_0, .slice A0_1 l0_1.length c0_1]) (t := 24) ?hr ?_; (case hd => rfl); (case hg => rfl); (case hr => first | (go_simp; done) | (go_simp; rfl)); intro gb131 hg w20 hbox hb; have BK131 := Aside0.mk (hbox); have GW131 := Aside0.mk (gW hg : w.heap.size ≤ gb131); have GE131 := Aside0.mk (gW hg : w.heap.size ≤ gb131); replace HB := Aside0.mk (below_step pB hb); clear hb hbox hg) | ((with_reducible refine gate_dst (N := 4) rfl ?_); refine box_event ?hg (N := 4) ?hd (cs := #[.int .i64 0, .slice none 0 0]) (t := 24) ?hr ?_; (case hd => rfl); (case hg => rfl); (case hr => first | (go_simp; done) | (go_simp; rfl)); intro gb132 hg w21 hbox hb; have BK132 := Aside0.mk (hbox); have GW132 := Aside0.mk (gW hg : w.heap.size ≤ gb132); have GE132 := Aside0.mk (gW hg : w.heap.size ≤ gb132); have NB131_132 := Aside0.mk (nL hg BK131 : gb131 ≠ gb132); have NB132_131 := Aside0.mk (nG hg BK131 : gb132 ≠ gb131); replace BK131 := Aside0.mk (kB BK131 hb); replace HB := Aside0.mk (below_step pB hb); clear hb hbox hg; have hnb22 := NB131_132.out; have hnc22 := NB132_131.out; obtain ⟨hcz23_0, hcz23_1, hfz23_0, hfz23_1⟩ := bk2 BK131) | (go_at_call 15; (with_reducible refine (chest_Check.calls k a0_0 _ _ l0_1 t133 _ ?side1 ?side2 A3.out).mono ?_); (case side1 => repeat (first | exact (Kd.C_below HR0_1.out HB.out) | (with_reducible refine Kd.C_alloc ?_ _) | (with_reducible refine Kd.C_drewN ?_ _) | (with_reducible refine Kd.C_drew ?_))); (case side2 => exact HC0_1.out); rintro e w24 ⟨rfl, hb⟩; replace BK131 := Aside0.mk (kB BK131 hb); replace BK132 := Aside0.mk (kB BK132 hb); replace HB := Aside0.mk (below_step pB hb); (try clear hb); (try clear hb2); (try clear hk); (try clear hi); obtain ⟨hcz25_0, hcz25_1, hfz25_0, hfz25_1⟩ := bk2 BK131) | (go_at_call 38; (with_reducible refine (fibre_Parts.calls k _ _ l1 (l0_1.length : Int) t134 _ ?side1 ?side2 A5.out).mono ?_); (case side1 => repeat (first | exact (Kd.C_below HR1.out HB.out) | (with_reducible refine Kd.C_alloc ?_ _) | (with_reducible refine Kd.C_drewN ?_ _) | (with_reducible refine Kd.C_drew ?_))); (case side2 => exact HC1.out); rintro e w26 ⟨rfl, hb⟩; replace BK131 := Aside0.mk (kB BK131 hb); replace BK132 := Aside0.mk (kB BK132 hb); replace HB := Aside0.mk (below_step pB hb); (try clear hb); (try clear hb2); (try clear hk); (try clear hi); obtain ⟨hcz27_0, hcz27_1, hfz27_0, hfz27_1⟩ := bk2 BK131) | (go_at_call 36; (with_reducible refine (chest_level.calls k _ _ l0_1 t135 _ ?side1 ?side2 A7.out).mono ?_); (case side1 => repeat (first | exact (Kd.C_below HR0_1.out HB.out) | (with_reducible refine Kd.C_alloc ?_ _) | (with_reducible refine Kd.C_drewN ?_ _) | (with_reducible refine Kd.C_drew ?_))); (case side2 => exact HC0_1.out); rintro e w' ⟨rfl, ⟨nd, rfl⟩⟩; (try first | exact ⟨rfl, _, World.drewN_drewN _ _ _⟩ | exact ⟨rfl, _, Eq.trans (World.drewN_drewN _ _ _) (congrArg (World.drewN _) (Nat.add_assoc _ _ _))⟩)) | (go_at_call 36; (with_reducible refine (chest_level.calls k _ _ l1 t136 _ ?side1 ?side2 A8.out).mono ?_); (case side1 => repeat (first | exact (Kd.C_below HR1.out pB) | (with_reducible refine Kd.C_alloc ?_ _) | (with_reducible refine Kd.C_drewN ?_ _) | (with_reducible refine Kd.C_drew ?_))); (case side2 => exact HC1.out); rintro e w' ⟨rfl, ⟨nd, rfl⟩⟩; (try first | exact ⟨rfl, _, World.drewN_drewN _ _ _⟩ | exact ⟨rfl, _, Eq.trans (World.drewN_drewN _ _ _) (congrArg (World.drewN _) (Nat.add_assoc _ _ _))⟩)) | (go_at_call 39; (with_reducible refine (chest_changed.calls k a0_0 _ _ l0_1 _ _ l1 1 t137 t138 _ ?side1 ?side2 ?side3 ?side4 A19.out).mono ?_); (case side1 => repeat (first | exact (Kd.C_below HR0_1.out pB) | (with_reducible refine Kd.C_alloc ?_ _) | (with_reducible refine Kd.C_drewN ?_ _) | (with_reducible refine Kd.C_drew ?_))); (case side2 => exact HC0_1.out); (case side3 => repeat (first | exact (Kd.C_below HR1.out pB) | (with_reducible refine Kd.C_alloc ?_ _) | (with_reducible refine Kd.C_drewN ?_ _) | (with_reducible refine Kd.C_drew ?_))); (case side4 => exact HC1.out); rintro e w28 ⟨v139, rfl, ho0, hb⟩; have HO140 := Aside0.mk (Kd.R_lower ho0 (below_size pB)); replace BK131 := Aside0.mk (kB BK131 hb); replace BK132 := Aside0.mk (kB BK132 hb); replace HB := Aside0.mk (below_step pB hb); (try clear hb); (try clear hb2); (try clear hk); (try clear hi); (try clear ho0); obtain ⟨hcz29_0, hcz29_1, hfz29_0, hfz29_1⟩ := bk2 BK132; obtain ⟨Ao30, co30, eo30⟩ := Kd.R_slice HO140.out; subst eo30)))
    refine bodyPost_ret (results_ct rfl _ _ gb132 24 #[.int .i64 t137, .slice Ao30 t138.length co30] (0, 0) _ rfl (by (with_reducible repeat (first | refine blk_drewN ?_ _ | refine blk_drew ?_ | refine blk_alloc ?_ _)); refine blk_put (cs := #[.int .i64 t137, .slice none 0 0]) ?_ 1 _ rfl; (with_reducible repeat (first | refine blk_drewN ?_ _ | refine blk_drew ?_ | refine blk_alloc ?_ _)); refine blk_put (cs := #[.int .i64 0, .slice none 0 0]) ?_ 0 _ rfl; (with_reducible repeat (first | refine blk_drewN ?_ _ | refine blk_drew ?_ | refine blk_alloc ?_ _)); exact BK132.out) Try.underlying24 rfl (by kernel_rfl)) rfl ?_
    exact ⟨_, by first | rfl | (simp [errW_none, errW_some] <;> rfl) | (simp [*, errW_none, errW_some] <;> rfl), by (with_reducible repeat (first | apply Kd.R_alloc | apply Kd.R_drewN | apply Kd.R_drew)); exact Kd.R_mono (Kd.R_far (p := ⟨gb132, 1, none⟩) (Kd.R_far (p := ⟨gb132, 0, none⟩) (Kd.R_types HO140.out BK132.out (by decide)) (fun _ hk => hk.2) (.int .i64 t137)) (fun _ hk => hk.2) (.slice Ao30 t138.length co30)) (fun _ hk => trivial), pB⟩
  ·rw [if_neg c6] at H
   have c6b0 : (t134 == 0) = false := beq_eq_false_iff_ne.mpr c6
   have c6b1 : (t134 != 0) = true := bne_iff_ne.mpr c6
   simp only [Option.some.injEq, Prod.mk.injEq] at H
   obtain ⟨rfl, rfl, rfl⟩ := H
   go_enter Try.func17, Try.ntmps17
   have fl_ : True := trivial
   repeat ((first | clear fl_ | go_quiet (first | ((with_reducible refine gate_dst (N := 2) rfl ?_); refine box_event ?hg (N := 2) ?hd (cs := #[.int .i64 a0_0, .slice A0_1 l0_1.length c0_1]) (t := 24) ?hr ?_; (case hd => rfl); (case hg => rfl); (case hr => first | (go_simp; done) | (go_simp; rfl)); intro gb131 hg w31 hbox hb; have BK131 := Aside0.mk (hbox); have GW131 := Aside0.mk (gW hg : w.heap.size ≤ gb131); have GE131 := Aside0.mk (gW hg : w.heap.size ≤ gb131); replace HB := Aside0.mk (below_step pB hb); clear hb hbox hg) | ((with_reducible refine gate_dst (N := 4) rfl ?_); refine box_event ?hg (N := 4) ?hd (cs := #[.int .i64 0, .slice none 0 0]) (t := 24) ?hr ?_; (case hd => rfl); (case hg => rfl); (case hr => first | (go_simp; done) | (go_simp; rfl)); intro gb132 hg w32 hbox hb; have BK132 := Aside0.mk (hbox); have GW132 := Aside0.mk (gW hg : w.heap.size ≤ gb132); have GE132 := Aside0.mk (gW hg : w.heap.size ≤ gb132); have NB131_132 := Aside0.mk (nL hg BK131 : gb131 ≠ gb132); have NB132_131 := Aside0.mk (nG hg BK131 : gb132 ≠ gb131); replace BK131 := Aside0.mk (kB BK131 hb); replace HB := Aside0.mk (below_step pB hb); clear hb hbox hg; have hnb33 := NB131_132.out; have hnc33 := NB132_131.out; obtain ⟨hcz34_0, hcz34_1, hfz34_0, hfz34_1⟩ := bk2 BK131) | (go_at_call 15; (with_reducible refine (chest_Check.calls k a0_0 _ _ l0_1 t133 _ ?side1 ?side2 A3.out).mono ?_); (case side1 => repeat (first | exact (Kd.C_below HR0_1.out HB.out) | (with_reducible refine Kd.C_alloc ?_ _) | (with_reducible refine Kd.C_drewN ?_ _) | (with_reducible refine Kd.C_drew ?_))); (case side2 => exact HC0_1.out); rintro e w35 ⟨rfl, hb⟩; replace BK131 := Aside0.mk (kB BK131 hb); replace BK132 := Aside0.mk (kB BK132 hb); replace HB := Aside0.mk (below_step pB hb); (try clear hb); (try clear hb2); (try clear hk); (try clear hi); obtain ⟨hcz36_0, hcz36_1, hfz36_0, hfz36_1⟩ := bk2 BK131) | (go_at_call 38; (with_reducible refine (fibre_Parts.calls k _ _ l1 (l0_1.length : Int) t134 _ ?side1 ?side2 A5.out).mono ?_); (case side1 => repeat (first | exact (Kd.C_below HR1.out HB.out) | (with_reducible refine Kd.C_alloc ?_ _) | (with_reducible refine Kd.C_drewN ?_ _) | (with_reducible refine Kd.C_drew ?_))); (case side2 => exact HC1.out); rintro e w37 ⟨rfl, hb⟩; replace BK131 := Aside0.mk (kB BK131 hb); replace BK132 := Aside0.mk (kB BK132 hb); replace HB := Aside0.mk (below_step pB hb); (try clear hb); (try clear hb2); (try clear hk); (try clear hi); obtain ⟨hcz38_0, hcz38_1, hfz38_0, hfz38_1⟩ := bk2 BK132))); go_wp2_with (first | ((with_reducible refine gate_dst (N := 2) rfl ?_); refine box_event ?hg (N := 2) ?hd (cs := #[.int .i64 a0_0, .slice A0_1 l0_1.length c0_1]) (t := 24) ?hr ?_; (case hd => rfl); (case hg => rfl); (case hr => first | (go_simp; done) | (go_simp; rfl)); intro gb131 hg w31 hbox hb; have BK131 := Aside0.mk (hbox); have GW131 := Aside0.mk (gW hg : w.heap.size ≤ gb131); have GE131 := Aside0.mk (gW hg : w.heap.size ≤ gb131); replace HB := Aside0.mk (below_step pB hb); clear hb hbox hg) | ((with_reducible refine gate_dst (N := 4) rfl ?_); refine box_event ?hg (N := 4) ?hd (cs := #[.int .i64 0, .slice none 0 0]) (t := 24) ?hr ?_; (case hd => rfl); (case hg => rfl); (case hr => first | (go_simp; done) | (go_simp; rfl)); intro gb132 hg w32 hbox hb; have BK132 := Aside0.mk (hbox); have GW132 := Aside0.mk (gW hg : w.heap.size ≤ gb132); have GE132 := Aside0.mk (gW hg : w.heap.size ≤ gb132); have NB131_132 := Aside0.mk (nL hg BK131 : gb131 ≠ gb132); have NB132_131 := Aside0.mk (nG hg BK131 : gb132 ≠ gb131); replace BK131 := Aside0.mk (kB BK131 hb); replace HB := Aside0.mk (below_step pB hb); clear hb hbox hg; have hnb33 := NB131_132.out; have hnc33 := NB132_131.out; obtain ⟨hcz34_0, hcz34_1, hfz34_0, hfz34_1⟩ := bk2 BK131) | (go_at_call 15; (with_reducible refine (chest_Check.calls k a0_0 _ _ l0_1 t133 _ ?side1 ?side2 A3.out).mono ?_); (case side1 => repeat (first | exact (Kd.C_below HR0_1.out HB.out) | (with_reducible refine Kd.C_alloc ?_ _) | (with_reducible refine Kd.C_drewN ?_ _) | (with_reducible refine Kd.C_drew ?_))); (case side2 => exact HC0_1.out); rintro e w35 ⟨rfl, hb⟩; replace BK131 := Aside0.mk (kB BK131 hb); replace BK132 := Aside0.mk (kB BK132 hb); replace HB := Aside0.mk (below_step pB hb); (try clear hb); (try clear hb2); (try clear hk); (try clear hi); obtain ⟨hcz36_0, hcz36_1, hfz36_0, hfz36_1⟩ := bk2 BK131) | (go_at_call 38; (with_reducible refine (fibre_Parts.calls k _ _ l1 (l0_1.length : Int) t134 _ ?side1 ?side2 A5.out).mono ?_); (case side1 => repeat (first | exact (Kd.C_below HR1.out HB.out) | (with_reducible refine Kd.C_alloc ?_ _) | (with_reducible refine Kd.C_drewN ?_ _) | (with_reducible refine Kd.C_drew ?_))); (case side2 => exact HC1.out); rintro e w37 ⟨rfl, hb⟩; replace BK131 := Aside0.mk (kB BK131 hb); replace BK132 := Aside0.mk (kB BK132 hb); replace HB := Aside0.mk (below_step pB hb); (try clear hb); (try clear hb2); (try clear hk); (try clear hi); obtain ⟨hcz38_0, hcz38_1, hfz38_0, hfz38_1⟩ := bk2 BK132)))
   refine bodyPost_ret (results_ct rfl _ _ gb132 24 #[.int .i64 0, .slice none 0 0] (0, 0) _ rfl (by (with_reducible repeat (first | refine blk_drewN ?_ _ | refine blk_drew ?_ | refine blk_alloc ?_ _)); refine blk_put (cs := #[.int .i64 0, .slice none 0 0]) ?_ 1 _ rfl; (with_reducible repeat (first | refine blk_drewN ?_ _ | refine blk_drew ?_ | refine blk_alloc ?_ _)); refine blk_put (cs := #[.int .i64 0, .slice none 0 0]) ?_ 0 _ rfl; (with_reducible repeat (first | refine blk_drewN ?_ _ | refine blk_drew ?_ | refine blk_alloc ?_ _)); exact BK132.out) Try.underlying24 rfl (by kernel_rfl)) rfl ?_
   exact ⟨_, by first | rfl | (simp [errW_none, errW_some] <;> rfl) | (simp [*, errW_none, errW_some] <;> rfl), by first | exact Kd.R_nil _ _ _ _ _ | exact Kd.N_nil _ _ _ _ _ | exact Kd.V_nil _ _ _ _ _ | exact Kd.Q_nil _ _ _ _ _ | exact Kd.S_nil _ _ _ _ _, pB⟩
 ·rw [if_neg c4] at H
  have c4b0 : (t133 == 0) = false := beq_eq_false_iff_ne.mpr c4
  have c4b1 : (t133 != 0) = true := bne_iff_ne.mpr c4
  simp only [Option.some.injEq, Prod.mk.injEq] at H
  obtain ⟨rfl, rfl, rfl⟩ := H
  go_enter Try.func17, Try.ntmps17
  have fl_ : True := trivial
  repeat ((first | clear fl_ | go_quiet (first | ((with_reducible refine gate_dst (N := 2) rfl ?_); refine box_event ?hg (N := 2) ?hd (cs := #[.int .i64 a0_0, .slice A0_1 l0_1.length c0_1]) (t := 24) ?hr ?_; (case hd => rfl); (case hg => rfl); (case hr => first | (go_simp; done) | (go_simp; rfl)); intro gb131 hg w39 hbox hb; have BK131 := Aside0.mk (hbox); have GW131 := Aside0.mk (gW hg : w.heap.size ≤ gb131); have GE131 := Aside0.mk (gW hg : w.heap.size ≤ gb131); replace HB := Aside0.mk (below_step pB hb); clear hb hbox hg) | ((with_reducible refine gate_dst (N := 4) rfl ?_); refine box_event ?hg (N := 4) ?hd (cs := #[.int .i64 0, .slice none 0 0]) (t := 24) ?hr ?_; (case hd => rfl); (case hg => rfl); (case hr => first | (go_simp; done) | (go_simp; rfl)); intro gb132 hg w40 hbox hb; have BK132 := Aside0.mk (hbox); have GW132 := Aside0.mk (gW hg : w.heap.size ≤ gb132); have GE132 := Aside0.mk (gW hg : w.heap.size ≤ gb132); have NB131_132 := Aside0.mk (nL hg BK131 : gb131 ≠ gb132); have NB132_131 := Aside0.mk (nG hg BK131 : gb132 ≠ gb131); replace BK131 := Aside0.mk (kB BK131 hb); replace HB := Aside0.mk (below_step pB hb); clear hb hbox hg; have hnb41 := NB131_132.out; have hnc41 := NB132_131.out; obtain ⟨hcz42_0, hcz42_1, hfz42_0, hfz42_1⟩ := bk2 BK131) | (go_at_call 15; (with_reducible refine (chest_Check.calls k a0_0 _ _ l0_1 t133 _ ?side1 ?side2 A3.out).mono ?_); (case side1 => repeat (first | exact (Kd.C_below HR0_1.out HB.out) | (with_reducible refine Kd.C_alloc ?_ _) | (with_reducible refine Kd.C_drewN ?_ _) | (with_reducible refine Kd.C_drew ?_))); (case side2 => exact HC0_1.out); rintro e w43 ⟨rfl, hb⟩; replace BK131 := Aside0.mk (kB BK131 hb); replace BK132 := Aside0.mk (kB BK132 hb); replace HB := Aside0.mk (below_step pB hb); (try clear hb); (try clear hb2); (try clear hk); (try clear hi); obtain ⟨hcz44_0, hcz44_1, hfz44_0, hfz44_1⟩ := bk2 BK132))); go_wp2_with (first | ((with_reducible refine gate_dst (N := 2) rfl ?_); refine box_event ?hg (N := 2) ?hd (cs := #[.int .i64 a0_0, .slice A0_1 l0_1.length c0_1]) (t := 24) ?hr ?_; (case hd => rfl); (case hg => rfl); (case hr => first | (go_simp; done) | (go_simp; rfl)); intro gb131 hg w39 hbox hb; have BK131 := Aside0.mk (hbox); have GW131 := Aside0.mk (gW hg : w.heap.size ≤ gb131); have GE131 := Aside0.mk (gW hg : w.heap.size ≤ gb131); replace HB := Aside0.mk (below_step pB hb); clear hb hbox hg) | ((with_reducible refine gate_dst (N := 4) rfl ?_); refine box_event ?hg (N := 4) ?hd (cs := #[.int .i64 0, .slice none 0 0]) (t := 24) ?hr ?_; (case hd => rfl); (case hg => rfl); (case hr => first | (go_simp; done) | (go_simp; rfl)); intro gb132 hg w40 hbox hb; have BK132 := Aside0.mk (hbox); have GW132 := Aside0.mk (gW hg : w.heap.size ≤ gb132); have GE132 := Aside0.mk (gW hg : w.heap.size ≤ gb132); have NB131_132 := Aside0.mk (nL hg BK131 : gb131 ≠ gb132); have NB132_131 := Aside0.mk (nG hg BK131 : gb132 ≠ gb131); replace BK131 := Aside0.mk (kB BK131 hb); replace HB := Aside0.mk (below_step pB hb); clear hb hbox hg; have hnb41 := NB131_132.out; have hnc41 := NB132_131.out; obtain ⟨hcz42_0, hcz42_1, hfz42_0, hfz42_1⟩ := bk2 BK131) | (go_at_call 15; (with_reducible refine (chest_Check.calls k a0_0 _ _ l0_1 t133 _ ?side1 ?side2 A3.out).mono ?_); (case side1 => repeat (first | exact (Kd.C_below HR0_1.out HB.out) | (with_reducible refine Kd.C_alloc ?_ _) | (with_reducible refine Kd.C_drewN ?_ _) | (with_reducible refine Kd.C_drew ?_))); (case side2 => exact HC0_1.out); rintro e w43 ⟨rfl, hb⟩; replace BK131 := Aside0.mk (kB BK131 hb); replace BK132 := Aside0.mk (kB BK132 hb); replace HB := Aside0.mk (below_step pB hb); (try clear hb); (try clear hb2); (try clear hk); (try clear hi); obtain ⟨hcz44_0, hcz44_1, hfz44_0, hfz44_1⟩ := bk2 BK132)))
  refine bodyPost_ret (results_ct rfl _ _ gb132 24 #[.int .i64 0, .slice none 0 0] (0, 0) _ rfl (by (with_reducible repeat (first | refine blk_drewN ?_ _ | refine blk_drew ?_ | refine blk_alloc ?_ _)); refine blk_put (cs := #[.int .i64 0, .slice none 0 0]) ?_ 1 _ rfl; (with_reducible repeat (first | refine blk_drewN ?_ _ | refine blk_drew ?_ | refine blk_alloc ?_ _)); refine blk_put (cs := #[.int .i64 0, .slice none 0 0]) ?_ 0 _ rfl; (with_reducible repeat (first | refine blk_drewN ?_ _ | refine blk_drew ?_ | refine blk_alloc ?_ _)); exact BK132.out) Try.underlying24 rfl (by kernel_rfl)) rfl ?_
  exact ⟨_, by first | rfl | (simp [errW_none, errW_some] <;> rfl) | (simp [*, errW_none, errW_some] <;> rfl), by first | exact Kd.R_nil _ _ _ _ _ | exact Kd.N_nil _ _ _ _ _ | exact Kd.V_nil _ _ _ _ _ | exact Kd.Q_nil _ _ _ _ _ | exact Kd.S_nil _ _ _ _ _, pB⟩

-- NOT PRINTED: function 102 (slices_IndexFunc_int_int)

-- NOT PRINTED: function 86 (slices_ContainsFunc_int_int)

/-! ### share_check_1: function 87 -/
def share_check_1.f (a0 : Int) : Option (Bool) := if a0 < 0 then (some true) else (some (decide (a0 > 1125899906842624)))
set_option maxHeartbeats 8000000 in
set_option maxRecDepth 100000 in
theorem share_check_1.calls (a0 : Int) (r : Bool) (w : World) (h : share_check_1.f a0 = some r) :
  Calls Try.prog 87 #[.int .i64 a0] w fun e w' => e = .returned (.bool r) ∧ Drawn0 w w' := by
 have H : (if a0 < 0 then (some true) else (some (decide (a0 > 1125899906842624)))) = some r := h
 clear h
 by_cases c2 : a0 < 0
 ·rw [if_pos c2] at H
  have c2b0 : decide (a0 < 0) = true := decide_eq_true c2
  clear c2
  obtain rfl := Option.some.inj H
  go_enter Try.func87, Try.ntmps87
  go_wp2
  go_ret
  exact ⟨by first | rfl | (simp; done) | (simp [*]; done), by repeat (first | exact Drawn0.refl _ | apply Drawn0.step)⟩
 ·rw [if_neg c2] at H
  have c2b0 : decide (a0 < 0) = false := decide_eq_false c2
  clear c2
  obtain rfl := Option.some.inj H
  go_enter Try.func87, Try.ntmps87
  go_wp2
  go_ret
  exact ⟨by first | rfl | (simp; done) | (simp [*]; done), by repeat (first | exact Drawn0.refl _ | apply Drawn0.step)⟩

/-! ### num_in: function 103 -/
def num_in.l0 : Nat → List Int → Int → Int → Option (Bool)
 | 0, _, _, _ => none
 | k + 1, x5, x6, x7 => if x7 < x6 then (if 0 ≤ x7 then (if x7 < (x5.length : Int) then (if (rd x5 x7) < (-1125899906842624) then (some false) else (if (rd x5 x7) > 1125899906842624 then (some false) else (num_in.l0 k x5 x6 (wrap64 (x7 + 1))))) else (none)) else (none)) else (some true)
def num_in.f (k : Nat) (l0 : List Int) : Option (Bool) := num_in.l0 k l0 (l0.length : Int) 0
theorem num_in.mono_l : ∀ k, (∀ y0 y1 y2, LeO (num_in.l0 k y0 y1 y2) (num_in.l0 (k + 1) y0 y1 y2))
 | 0 => fun _ _ _ r h => by simp [num_in.l0] at h
 | k + 1 => by
  have ih0 := num_in.mono_l k
  ·intro y0 y1 y2
   unfold num_in.l0
   repeat' first
   | (with_reducible exact ih0 _ _ _)
   | (with_reducible exact LeO.refl _)
   | (with_reducible exact LeO.none _)
   | (with_reducible refine LeO.ite ?_ ?_)
   | (with_reducible refine LeO.bind ?_ (fun _ => ?_))
   | exact ih0 _ _ _
   | exact LeO.none _
   | refine LeO.ite ?_ ?_
   | refine LeO.bind ?_ (fun _ => ?_)
theorem num_in.mono : ∀ a0 k, LeO (num_in.f k a0) (num_in.f (k + 1) a0) := by
 intro a0 k
 have ih0 := num_in.mono_l k
 unfold num_in.f
 repeat' first
   | (with_reducible exact ih0 _ _ _)
   | (with_reducible exact LeO.refl _)
   | (with_reducible exact LeO.none _)
   | (with_reducible refine LeO.ite ?_ ?_)
   | (with_reducible refine LeO.bind ?_ (fun _ => ?_))
   | exact ih0 _ _ _
   | exact LeO.none _
   | refine LeO.ite ?_ ?_
   | refine LeO.bind ?_ (fun _ => ?_)
set_option maxHeartbeats 8000000 in
set_option maxRecDepth 100000 in
theorem num_in.calls (k : Nat) (A0 : Option Addr) (c0 : Nat) (l0 : List Int) (r : Bool) (w : World) (hr0 : Kd.C (Kd.int .i64) w A0 l0.length l0) (hc0 : l0.length ≤ c0) (h : num_in.f k l0 = some r) :
  Calls Try.prog 103 #[.slice A0 l0.length c0] w fun e w' => e = .returned (.bool r) ∧ Drawn0 w w' := by
 have HR0 := Aside0.mk hr0
 have HC0 := Aside0.mk hc0
 clear hr0 hc0
 have H : (num_in.l0 k l0 (l0.length : Int) 0) = some r := h
 clear h
 have H' := Aside0.mk H
 clear H
 go_enter Try.func103, Try.ntmps103
 go_wp2
 go_loopg [7] k (fun kq v7 w' => ∃ (x7_1 : Int), v7 = .int .i64 x7_1 ∧ Aside0 (num_in.l0 kq l0 (l0.length : Int) x7_1 = some r) ∧ Aside0 (kq ≤ k) ∧ Drawn0 w w')
 case atStart => exact ⟨(0), (by first | rfl | (simp; done) | (simp [*]; done)), H', ⟨Nat.le_refl _⟩, by repeat (first | exact Drawn0.refl _ | apply Drawn0.step)⟩
 case round =>
  clear H'
  try clear c1
  obtain ⟨x7_1, rfl, HA, HK1, ⟨m1, rfl⟩⟩ := hrel
  cases gk with
  | zero => exact absurd HA.out (by simp [num_in.l0])
  | succ k1 =>
   have H := HA.out
   clear HA
   simp only [num_in.l0] at H
   by_cases c2 : x7_1 < (l0.length : Int)
   ·rw [if_pos c2] at H
    have c2b0 : decide (x7_1 < (l0.length : Int)) = true := decide_eq_true c2
    clear c2
    by_cases c3 : 0 ≤ x7_1
    ·rw [if_pos c3] at H
     have c3b0 : decide (0 ≤ x7_1) = true := decide_eq_true c3
     clear c3
     by_cases c4 : x7_1 < (l0.length : Int)
     ·rw [if_pos c4] at H
      have c4b0 : decide (x7_1 < (l0.length : Int)) = true := decide_eq_true c4
      clear c4
      by_cases c5 : (rd l0 x7_1) < (-1125899906842624)
      ·rw [if_pos c5] at H
       have c5b0 : decide ((rd l0 x7_1) < (-1125899906842624)) = true := decide_eq_true c5
       clear c5
       obtain rfl := Option.some.inj H
       have p141 : 0 ≤ (x7_1 : Int) := of_decide_eq_true (by first | (with_reducible assumption) | assumption)
       have q141 : x7_1 < (l0.length : Int) := of_decide_eq_true (by first | (with_reducible assumption) | assumption)
       obtain ⟨ad141, e141, hx141_0⟩ := Kd.at_int HR0.out x7_1 p141 q141
       cases e141
       replace p141 := eq_true p141
       replace q141 := eq_true q141
       go_wp2
       go_ret
       exact ⟨by first | rfl | (simp; done) | (simp [*]; done), by repeat (first | exact Drawn0.refl _ | apply Drawn0.step)⟩
      ·rw [if_neg c5] at H
       have c5b0 : decide ((rd l0 x7_1) < (-1125899906842624)) = false := decide_eq_false c5
       clear c5
       by_cases c6 : (rd l0 x7_1) > 1125899906842624
       ·rw [if_pos c6] at H
        have c6b0 : decide (1125899906842624 < (rd l0 x7_1)) = true := decide_eq_true c6
        clear c6
        obtain rfl := Option.some.inj H
        have p141 : 0 ≤ (x7_1 : Int) := of_decide_eq_true (by first | (with_reducible assumption) | assumption)
        have q141 : x7_1 < (l0.length : Int) := of_decide_eq_true (by first | (with_reducible assumption) | assumption)
        obtain ⟨ad141, e141, hx141_0⟩ := Kd.at_int HR0.out x7_1 p141 q141
        cases e141
        replace p141 := eq_true p141
        replace q141 := eq_true q141
        go_wp2
        go_ret
        exact ⟨by first | rfl | (simp; done) | (simp [*]; done), by repeat (first | exact Drawn0.refl _ | apply Drawn0.step)⟩
       ·rw [if_neg c6] at H
        have c6b0 : decide (1125899906842624 < (rd l0 x7_1)) = false := decide_eq_false c6
        clear c6
        have H' := Aside0.mk H
        clear H
        have p141 : 0 ≤ (x7_1 : Int) := of_decide_eq_true (by first | (with_reducible assumption) | assumption)
        have q141 : x7_1 < (l0.length : Int) := of_decide_eq_true (by first | (with_reducible assumption) | assumption)
        obtain ⟨ad141, e141, hx141_0⟩ := Kd.at_int HR0.out x7_1 p141 q141
        cases e141
        replace p141 := eq_true p141
        replace q141 := eq_true q141
        go_wp2
        go_roundg k1
        case measure => have := HK1.out; omega
        case rel => exact ⟨(wrap64 (x7_1 + 1)), (by first | rfl | (simp; done) | (simp [*]; done)), H', ⟨by have := HK1.out; omega⟩, by repeat (first | exact Drawn0.refl _ | apply Drawn0.step)⟩
     ·rw [if_neg c4] at H
      exact absurd H (by simp)
    ·rw [if_neg c3] at H
     exact absurd H (by simp)
   ·rw [if_neg c2] at H
    have c2b0 : decide (x7_1 < (l0.length : Int)) = false := decide_eq_false c2
    clear c2
    obtain rfl := Option.some.inj H
    go_wp2
    go_ret
    exact ⟨by first | rfl | (simp; done) | (simp [*]; done), by repeat (first | exact Drawn0.refl _ | apply Drawn0.step)⟩

/-! ### num_result: function 104 -/
def num_result.f (k : Nat) (a0 : Int) : Option (Int × Int) := (num_in.f k (([a0] : List Int))).bind fun t145 => (if t145 = true then (some (a0, 0)) else (some (0, 2)))
theorem num_result.mono : ∀ a0 k, LeO (num_result.f k a0) (num_result.f (k + 1) a0) := by
 intro a0 k
 unfold num_result.f
 repeat' first
   | (with_reducible exact num_in.mono _ _)
   | (with_reducible exact LeO.refl _)
   | (with_reducible exact LeO.none _)
   | (with_reducible refine LeO.ite ?_ ?_)
   | (with_reducible refine LeO.bind ?_ (fun _ => ?_))
   | exact num_in.mono _ _
   | exact LeO.none _
   | refine LeO.ite ?_ ?_
   | refine LeO.bind ?_ (fun _ => ?_)
set_option maxHeartbeats 8000000 in
set_option maxRecDepth 100000 in
theorem num_result.calls (k : Nat) (a0 : Int) (r1 : Int) (r2 : Int) (w : World) (h : num_result.f k a0 = some (r1, r2)) :
  Calls Try.prog 104 #[.int .i64 a0] w fun e w' => e = .returned (.tuple #[.int .i64 r1, .int .i64 r2]) ∧ Below w.heap.size w w' := by
 have HB := Aside0.mk (Below.refl w.heap.size w)
 have H : ((num_in.f k (([a0] : List Int))).bind fun t145 => (if t145 = true then (some (a0, 0)) else (some (0, 2)))) = some (r1, r2) := h
 clear h
 obtain ⟨y142, hy142⟩ : ∃ y_ : List Int, y_ = (([a0] : List Int)) := ⟨_, rfl⟩
 replace H : ((num_in.f k y142).bind fun t145 => (if t145 = true then (some (a0, 0)) else (some (0, 2)))) = some (r1, r2) := by first | (rw [hy142]; with_reducible exact H) | (have H2_ := (Option.bind_some _ _).symm.trans H; rw [hy142]; with_reducible exact H2_) | (have H2_ := (Option.bind_some _ _).symm.trans H; with_reducible exact H2_) | with_reducible exact H | (rw [hy142]; exact H) | exact H
 have Ny142 := Aside0.mk hy142
 clear hy142
 replace H := Option.bind_eq_some_iff.mp H
 obtain ⟨t145, A20, H⟩ := H
 replace H : (if t145 = true then (some (a0, 0)) else (some (0, 2))) = some (r1, r2) := H
 have A2 := Aside0.mk A20
 clear A20
 by_cases c3 : t145 = true
 ·subst c3
  have H1 : (some (a0, 0)) = some (r1, r2) := by rw [if_pos rfl] at H; exact H
  clear H
  have H := H1
  clear H1
  simp only [Option.some.injEq, Prod.mk.injEq] at H
  obtain ⟨rfl, rfl⟩ := H
  go_enter Try.func104, Try.ntmps104
  go_wp2_with (first | ((with_reducible refine gate_dst (N := 5) rfl ?_); refine Kd.R_lit (Kd.int .i64) _ 3 ?hg (N := 5) ?hd (xs := ([a0] : List Int)) (inner := [.int .i64 a0]) (ok := fun _ => True) (okp := fun _ => True) ?hr ?hp (fun _ hk => hk) trivial (Below.refl _ _) (Nat.le_refl _) (by simp) ?_; (case hd => rfl); (case hg => rfl); (case hr => first | (go_simp; done) | (go_simp; rfl)); (case hp => exact (Reps.one (show Kd.M (Kd.int .i64) _ _ _ a0 [.int .i64 a0] from rfl) (Reps.none _ _))); intro v143 w4 ho5 hb hg_ hnew_; clear hg_ hnew_; (first | rw [← Ny142.out] at ho5 | (simp only [Int.reduceToNat] at ho5; rw [← Ny142.out] at ho5)); have HO144 := Aside0.mk (Kd.R_lower ho5 (below_size pB)); replace HB := Aside0.mk (below_step pB hb); clear hb ho5; obtain ⟨Ao6, co6, eo6⟩ := Kd.R_slice HO144.out; subst eo6) | ((with_reducible refine gate_callee (f := 103) rfl ?_); refine goesL_ (some 6) rfl rfl Try.func103 (by kernel_rfl) rfl #[.slice Ao6 y142.length co6] rfl mA ?_; (with_reducible refine (num_in.calls k _ _ y142 true _ ?side1 ?side2 A2.out).mono ?_); (case side1 => repeat (first | exact (Kd.R_reads' HO144.out).2.2 | (with_reducible refine Kd.C_alloc ?_ _) | (with_reducible refine Kd.C_drewN ?_ _) | (with_reducible refine Kd.C_drew ?_))); (case side2 => exact (Kd.R_reads' HO144.out).2.1); rintro e w' ⟨rfl, ⟨nd, rfl⟩⟩; refine ⟨_, rfl, ?_⟩))
  go_ret2
  exact ⟨by first | rfl | (simp [errW_none, errW_some] <;> rfl) | (simp [*, errW_none, errW_some] <;> rfl), pB⟩
 ·replace c3 := Bool.eq_false_iff.mpr c3
  subst c3
  have H1 : (some (0, 2)) = some (r1, r2) := by rw [if_neg (show ¬ (false = true) by decide)] at H; exact H
  clear H
  have H := H1
  clear H1
  simp only [Option.some.injEq, Prod.mk.injEq] at H
  obtain ⟨rfl, rfl⟩ := H
  go_enter Try.func104, Try.ntmps104
  go_wp2_with (first | ((with_reducible refine gate_dst (N := 5) rfl ?_); refine Kd.R_lit (Kd.int .i64) _ 3 ?hg (N := 5) ?hd (xs := ([a0] : List Int)) (inner := [.int .i64 a0]) (ok := fun _ => True) (okp := fun _ => True) ?hr ?hp (fun _ hk => hk) trivial (Below.refl _ _) (Nat.le_refl _) (by simp) ?_; (case hd => rfl); (case hg => rfl); (case hr => first | (go_simp; done) | (go_simp; rfl)); (case hp => exact (Reps.one (show Kd.M (Kd.int .i64) _ _ _ a0 [.int .i64 a0] from rfl) (Reps.none _ _))); intro v143 w7 ho8 hb hg_ hnew_; clear hg_ hnew_; (first | rw [← Ny142.out] at ho8 | (simp only [Int.reduceToNat] at ho8; rw [← Ny142.out] at ho8)); have HO144 := Aside0.mk (Kd.R_lower ho8 (below_size pB)); replace HB := Aside0.mk (below_step pB hb); clear hb ho8; obtain ⟨Ao9, co9, eo9⟩ := Kd.R_slice HO144.out; subst eo9) | ((with_reducible refine gate_callee (f := 103) rfl ?_); refine goesL_ (some 6) rfl rfl Try.func103 (by kernel_rfl) rfl #[.slice Ao9 y142.length co9] rfl mA ?_; (with_reducible refine (num_in.calls k _ _ y142 false _ ?side1 ?side2 A2.out).mono ?_); (case side1 => repeat (first | exact (Kd.R_reads' HO144.out).2.2 | (with_reducible refine Kd.C_alloc ?_ _) | (with_reducible refine Kd.C_drewN ?_ _) | (with_reducible refine Kd.C_drew ?_))); (case side2 => exact (Kd.R_reads' HO144.out).2.1); rintro e w' ⟨rfl, ⟨nd, rfl⟩⟩; refine ⟨_, rfl, ?_⟩))
  go_ret2
  exact ⟨by first | rfl | (simp [errW_none, errW_some] <;> rfl) | (simp [*, errW_none, errW_some] <;> rfl), pB⟩

end Go.Proofs.Ytpjcpgobdiahpaa.Print
