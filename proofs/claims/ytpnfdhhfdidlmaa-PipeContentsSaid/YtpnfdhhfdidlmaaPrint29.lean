-- Written by wip/tools/myprint.py out of the translation. Not trusted: Lean checks it.
import Derived.Test.YtpnfdhhfdidlmaaPrint0
import Derived.Test.YtpnfdhhfdidlmaaPrint1
import Derived.Test.YtpnfdhhfdidlmaaPrint3
import Derived.Test.YtpnfdhhfdidlmaaPrint16
import Derived.Test.YtpnfdhhfdidlmaaPrint17
import Derived.Test.YtpnfdhhfdidlmaaPrint18
import Derived.Test.YtpnfdhhfdidlmaaPrint19
import Derived.Test.YtpnfdhhfdidlmaaPrint27
import Derived.Test.YtpnfdhhfdidlmaaPrint28
namespace Go.Proofs.Ytpnfdhhfdidlmaa.Print
open Go.RowKit Go.Proofs.YtpnfdhhfdidlmaaW.PrintWords Go.Proofs.YtpnfdhhfdidlmaaW.PrintLast Go.Proofs.YtpnfdhhfdidlmaaW.PrintMore
attribute [local go_sem] max2_int min2_int max_two min_two max_three min_three max_four min_four   -- for this text's walks alone
set_option linter.unusedVariables false
set_option linter.unusedSimpArgs false

/-! ### papermillref19_Age: function 25 -/
def papermillref19_Age.f (k : Nat) (a0_0 : Int) (l0_1 : List (List Int)) (a1 : Int) : Option (Int × Int) := (papermillref19_Check.f k a0_0 l0_1).bind fun t610 => (if t610 = 0 then (if a1 < 0 then (some (0, 7)) else (if a1 ≥ (l0_1.length : Int) then (some (0, 7)) else (if 0 ≤ (wrap64 (a1 + 1)) then (if (wrap64 (a1 + 1)) ≤ (l0_1.length : Int) then ((papermillref19_sum.f k 0 (l0_1.take ((wrap64 (a1 + 1)) : Int).toNat)).bind fun t615 => (some (t615, 0))) else (none)) else (none)))) else (some (0, t610)))
theorem papermillref19_Age.mono : ∀ a0 a1 a2 k, LeO (papermillref19_Age.f k a0 a1 a2) (papermillref19_Age.f (k + 1) a0 a1 a2) := by
 intro a0 a1 a2 k
 unfold papermillref19_Age.f
 repeat' first
   | (with_reducible exact papermillref19_Check.mono _ _ _)
   | (with_reducible exact papermillref19_sum.mono _ _ _)
   | (with_reducible exact LeO.refl _)
   | (with_reducible exact LeO.none _)
   | (with_reducible refine LeO.ite ?_ ?_)
   | (with_reducible refine LeO.bind ?_ (fun _ => ?_))
   | exact papermillref19_Check.mono _ _ _
   | exact papermillref19_sum.mono _ _ _
   | exact LeO.none _
   | refine LeO.ite ?_ ?_
   | refine LeO.bind ?_ (fun _ => ?_)
set_option maxHeartbeats 8000000 in
set_option maxRecDepth 100000 in
theorem papermillref19_Age.calls (k : Nat) (a0_0 : Int) (A0_1 : Option Addr) (c0_1 : Nat) (l0_1 : List (List Int)) (a1 : Int) (r1 : Int) (r2 : Int) (w : World) (hr0_1 : Kd.C (Kd.slice 3 (Kd.int .i64)) w A0_1 l0_1.length l0_1) (hc0_1 : l0_1.length ≤ c0_1) (h : papermillref19_Age.f k a0_0 l0_1 a1 = some (r1, r2)) :
  Calls Try.prog 25 #[.agg #[.int .i64 a0_0, .slice A0_1 l0_1.length c0_1], .int .i64 a1] w fun e w' => e = .returned (.tuple #[.int .i64 r1, .int .i64 r2]) ∧ Below w.heap.size w w' := by
 have hu24 := Try.underlying24
 have HR0_1 := Aside0.mk hr0_1
 have HC0_1 := Aside0.mk hc0_1
 clear hr0_1 hc0_1
 have HB := Aside0.mk (Below.refl w.heap.size w)
 have H : ((papermillref19_Check.f k a0_0 l0_1).bind fun t610 => (if t610 = 0 then (if a1 < 0 then (some (0, 7)) else (if a1 ≥ (l0_1.length : Int) then (some (0, 7)) else (if 0 ≤ (wrap64 (a1 + 1)) then (if (wrap64 (a1 + 1)) ≤ (l0_1.length : Int) then ((papermillref19_sum.f k 0 (l0_1.take ((wrap64 (a1 + 1)) : Int).toNat)).bind fun t615 => (some (t615, 0))) else (none)) else (none)))) else (some (0, t610)))) = some (r1, r2) := h
 clear h
 replace H := Option.bind_eq_some_iff.mp H
 obtain ⟨t610, A30, H⟩ := H
 replace H : (if t610 = 0 then (if a1 < 0 then (some (0, 7)) else (if a1 ≥ (l0_1.length : Int) then (some (0, 7)) else (if 0 ≤ (wrap64 (a1 + 1)) then (if (wrap64 (a1 + 1)) ≤ (l0_1.length : Int) then ((papermillref19_sum.f k 0 (l0_1.take ((wrap64 (a1 + 1)) : Int).toNat)).bind fun t615 => (some (t615, 0))) else (none)) else (none)))) else (some (0, t610))) = some (r1, r2) := H
 have A3 := Aside0.mk A30
 clear A30
 by_cases c4 : t610 = 0
 ·rw [if_pos c4] at H
  have c4b0 : (t610 == 0) = true := beq_iff_eq.mpr c4
  have c4b1 : (t610 != 0) = false := bne_eq_false_iff_eq.mpr c4
  clear c4
  by_cases c5 : a1 < 0
  ·rw [if_pos c5] at H
   have c5b0 : decide (a1 < 0) = true := decide_eq_true c5
   clear c5
   simp only [Option.some.injEq, Prod.mk.injEq] at H
   obtain ⟨rfl, rfl⟩ := H
   go_enter Try.func25, Try.ntmps25
   go_wp2_with (first | ((with_reducible refine gate_dst (N := 2) rfl ?_); (try (refine gate_guard (by rfl) ?_; dsimp only)); refine box_event ?hg (N := 2) ?hd (cs := #[.int .i64 a0_0, .slice A0_1 l0_1.length c0_1]) (t := 24) ?hr ?_; (case hd => rfl); (case hg => rfl); (case hr => first | (go_simp; done) | (go_simp; rfl)); intro gb609 hg w6 hbox hb; have BK609 := Aside0.mk (hbox); have GW609 := Aside0.mk (gW hg : w.heap.size ≤ gb609); have GE609 := Aside0.mk (gW hg : w.heap.size ≤ gb609); replace HB := Aside0.mk (below_step pB hb); clear hb hbox hg; obtain ⟨hcz7_0, hcz7_1, hfz7_0, hfz7_1⟩ := bk2 BK609) | ((with_reducible refine gate_callee (f := 14) rfl ?_); refine goesL_ (some 8) rfl rfl Try.func14 (by kernel_rfl) rfl #[.agg #[.int .i64 a0_0, .slice A0_1 l0_1.length c0_1]] rfl mA ?_; (with_reducible refine (papermillref19_Check.calls k a0_0 _ _ l0_1 t610 _ ?side1 ?side2 A3.out).mono ?_); (case side1 => repeat (first | exact (Kd.C_below HR0_1.out HB.out) | (with_reducible refine Kd.C_alloc ?_ _) | (with_reducible refine Kd.C_drewN ?_ _) | (with_reducible refine Kd.C_drew ?_))); (case side2 => exact HC0_1.out); rintro e w8 ⟨rfl, hb⟩; refine ⟨_, rfl, ?_⟩; replace BK609 := Aside0.mk (kB BK609 hb); replace HB := Aside0.mk (below_step pB hb); (try clear hb); (try clear hb2); (try clear hk); (try clear hi)))
   go_ret2
   exact ⟨by first | rfl | (simp [errW_none, errW_some] <;> rfl) | (simp [*, errW_none, errW_some] <;> rfl), pB⟩
  ·rw [if_neg c5] at H
   have c5b0 : decide (a1 < 0) = false := decide_eq_false c5
   clear c5
   by_cases c9 : a1 ≥ (l0_1.length : Int)
   ·rw [if_pos c9] at H
    have c9b0 : decide ((l0_1.length : Int) ≤ a1) = true := decide_eq_true c9
    clear c9
    simp only [Option.some.injEq, Prod.mk.injEq] at H
    obtain ⟨rfl, rfl⟩ := H
    go_enter Try.func25, Try.ntmps25
    go_wp2_with (first | ((with_reducible refine gate_dst (N := 2) rfl ?_); (try (refine gate_guard (by rfl) ?_; dsimp only)); refine box_event ?hg (N := 2) ?hd (cs := #[.int .i64 a0_0, .slice A0_1 l0_1.length c0_1]) (t := 24) ?hr ?_; (case hd => rfl); (case hg => rfl); (case hr => first | (go_simp; done) | (go_simp; rfl)); intro gb609 hg w10 hbox hb; have BK609 := Aside0.mk (hbox); have GW609 := Aside0.mk (gW hg : w.heap.size ≤ gb609); have GE609 := Aside0.mk (gW hg : w.heap.size ≤ gb609); replace HB := Aside0.mk (below_step pB hb); clear hb hbox hg; obtain ⟨hcz11_0, hcz11_1, hfz11_0, hfz11_1⟩ := bk2 BK609) | ((with_reducible refine gate_callee (f := 14) rfl ?_); refine goesL_ (some 8) rfl rfl Try.func14 (by kernel_rfl) rfl #[.agg #[.int .i64 a0_0, .slice A0_1 l0_1.length c0_1]] rfl mA ?_; (with_reducible refine (papermillref19_Check.calls k a0_0 _ _ l0_1 t610 _ ?side1 ?side2 A3.out).mono ?_); (case side1 => repeat (first | exact (Kd.C_below HR0_1.out HB.out) | (with_reducible refine Kd.C_alloc ?_ _) | (with_reducible refine Kd.C_drewN ?_ _) | (with_reducible refine Kd.C_drew ?_))); (case side2 => exact HC0_1.out); rintro e w12 ⟨rfl, hb⟩; refine ⟨_, rfl, ?_⟩; replace BK609 := Aside0.mk (kB BK609 hb); replace HB := Aside0.mk (below_step pB hb); (try clear hb); (try clear hb2); (try clear hk); (try clear hi); obtain ⟨hcz13_0, hcz13_1, hfz13_0, hfz13_1⟩ := bk2 BK609))
    go_ret2
    exact ⟨by first | rfl | (simp [errW_none, errW_some] <;> rfl) | (simp [*, errW_none, errW_some] <;> rfl), pB⟩
   ·rw [if_neg c9] at H
    have c9b0 : decide ((l0_1.length : Int) ≤ a1) = false := decide_eq_false c9
    clear c9
    obtain ⟨ji14, hji14⟩ : ∃ j_ : Int, (wrap64 (a1 + 1)) = j_ := ⟨_, rfl⟩
    replace H : (if 0 ≤ (ji14) then (if (ji14) ≤ (l0_1.length : Int) then ((papermillref19_sum.f k 0 (l0_1.take ((ji14) : Int).toNat)).bind fun t615 => (some (t615, 0))) else (none)) else (none)) = some (r1, r2) := by first | (rw [hji14] at H; exact H) | (simp only [hji14] at H ⊢; exact H)
    (try rw [hji14] at A3)
    have hji14w : (IntKind.i64.wrap (a1 + 1)) = ji14 := (i64_w _).trans hji14
    by_cases c15 : 0 ≤ (ji14)
    ·rw [if_pos c15] at H
     have c15b0 := eq_true c15
     have c15b1 : decide (0 ≤ (ji14)) = true := decide_eq_true c15
     clear c15
     by_cases c16 : (ji14) ≤ (l0_1.length : Int)
     ·rw [if_pos c16] at H
      have c16b0 := eq_true c16
      have c16b1 : decide ((ji14) ≤ (l0_1.length : Int)) = true := decide_eq_true c16
      clear c16
      obtain ⟨y611, hy611⟩ : ∃ y_ : List (List Int), y_ = (l0_1.take ((ji14) : Int).toNat) := ⟨_, rfl⟩
      replace H : ((papermillref19_sum.f k 0 y611).bind fun t615 => (some (t615, 0))) = some (r1, r2) := by first | (rw [hy611]; with_reducible exact H) | (have H2_ := (Option.bind_some _ _).symm.trans H; rw [hy611]; with_reducible exact H2_) | (have H2_ := (Option.bind_some _ _).symm.trans H; with_reducible exact H2_) | with_reducible exact H | (rw [hy611]; exact H) | exact H
      have Ny611 := Aside0.mk hy611
      clear hy611
      replace H := Option.bind_eq_some_iff.mp H
      obtain ⟨t615, A170, H⟩ := H
      replace H : (some (t615, 0)) = some (r1, r2) := H
      have A17 := Aside0.mk A170
      clear A170
      simp only [Option.some.injEq, Prod.mk.injEq] at H
      obtain ⟨rfl, rfl⟩ := H
      go_enter Try.func25, Try.ntmps25
      go_wp2_with (first | ((with_reducible refine gate_dst (N := 2) rfl ?_); (try (refine gate_guard (by rfl) ?_; dsimp only)); refine box_event ?hg (N := 2) ?hd (cs := #[.int .i64 a0_0, .slice A0_1 l0_1.length c0_1]) (t := 24) ?hr ?_; (case hd => rfl); (case hg => rfl); (case hr => first | (go_simp; done) | (go_simp; rfl)); intro gb609 hg w18 hbox hb; have BK609 := Aside0.mk (hbox); have GW609 := Aside0.mk (gW hg : w.heap.size ≤ gb609); have GE609 := Aside0.mk (gW hg : w.heap.size ≤ gb609); replace HB := Aside0.mk (below_step pB hb); clear hb hbox hg; obtain ⟨hcz19_0, hcz19_1, hfz19_0, hfz19_1⟩ := bk2 BK609) | ((with_reducible refine gate_callee (f := 14) rfl ?_); refine goesL_ (some 8) rfl rfl Try.func14 (by kernel_rfl) rfl #[.agg #[.int .i64 a0_0, .slice A0_1 l0_1.length c0_1]] rfl mA ?_; (with_reducible refine (papermillref19_Check.calls k a0_0 _ _ l0_1 t610 _ ?side1 ?side2 A3.out).mono ?_); (case side1 => repeat (first | exact (Kd.C_below HR0_1.out HB.out) | (with_reducible refine Kd.C_alloc ?_ _) | (with_reducible refine Kd.C_drewN ?_ _) | (with_reducible refine Kd.C_drew ?_))); (case side2 => exact HC0_1.out); rintro e w20 ⟨rfl, hb⟩; refine ⟨_, rfl, ?_⟩; replace BK609 := Aside0.mk (kB BK609 hb); replace HB := Aside0.mk (below_step pB hb); (try clear hb); (try clear hb2); (try clear hk); (try clear hi); obtain ⟨hcz21_0, hcz21_1, hfz21_0, hfz21_1⟩ := bk2 BK609; have q22 : ((ji14) : Int) ≤ ((l0_1.length : Int) : Int) := of_decide_eq_true (by first | (with_reducible assumption) | assumption); obtain ⟨i022, hi022, _, hsz22, _⟩ := info_parts info29; have hroom22 : l0_1.length ≤ c0_1 := HC0_1.out; have hC22 : Kd.C (Kd.slice 3 (Kd.int .i64)) _ A0_1 l0_1.length l0_1 := HR0_1.out; have hcut22 := cut_to (P := Try.prog) 22 29 .i64 Try.underlying22 hi022 A0_1 l0_1.length c0_1 (ji14) (of_decide_eq_true (by first | (with_reducible assumption) | assumption)) q22 hroom22; have hr22 := Kd.C_take (m := ((ji14) : Int).toNat) hC22 (by omega); have hy22 : y611.length = ((ji14) : Int).toNat := (by rw [Ny611.out, List.length_take]; omega); rw [← Ny611.out] at hr22; rw [← hy22] at hcut22; have HR614 := Aside0.mk hr22; have HC614 := Aside0.mk (show y611.length ≤ c0_1 from by omega); clear hr22 hC22 hroom22 hi022 hsz22; have KY22 := Aside0.mk hy22; clear hy22; replace q22 := eq_true q22) | ((with_reducible refine gate_callee (f := 29) rfl ?_); refine goesL_ (some 27) rfl rfl Try.func29 (by kernel_rfl) rfl #[.agg #[.int .i64 0, .slice A0_1 y611.length c0_1]] rfl mA ?_; (with_reducible refine (papermillref19_sum.calls k 0 _ _ y611 t615 _ ?side1 ?side2 A17.out).mono ?_); (case side1 => repeat (first | exact (Kd.C_below HR614.out HB.out) | (with_reducible refine Kd.C_alloc ?_ _) | (with_reducible refine Kd.C_drewN ?_ _) | (with_reducible refine Kd.C_drew ?_))); (case side2 => exact HC614.out); rintro e w23 ⟨rfl, hb⟩; refine ⟨_, rfl, ?_⟩; replace BK609 := Aside0.mk (kB BK609 hb); replace HB := Aside0.mk (below_step pB hb); (try clear hb); (try clear hb2); (try clear hk); (try clear hi)))
      go_ret2
      exact ⟨by first | rfl | (simp [errW_none, errW_some] <;> rfl) | (simp only [← hji14]; first | rfl | (simp [errW_none, errW_some] <;> rfl)) | (simp [*, errW_none, errW_some] <;> rfl), pB⟩
     ·rw [if_neg c16] at H
      exact absurd H (by simp)
    ·rw [if_neg c15] at H
     exact absurd H (by simp)
 ·rw [if_neg c4] at H
  have c4b0 : (t610 == 0) = false := beq_eq_false_iff_ne.mpr c4
  have c4b1 : (t610 != 0) = true := bne_iff_ne.mpr c4
  simp only [Option.some.injEq, Prod.mk.injEq] at H
  obtain ⟨rfl, rfl⟩ := H
  go_enter Try.func25, Try.ntmps25
  go_wp2_with (first | ((with_reducible refine gate_dst (N := 2) rfl ?_); (try (refine gate_guard (by rfl) ?_; dsimp only)); refine box_event ?hg (N := 2) ?hd (cs := #[.int .i64 a0_0, .slice A0_1 l0_1.length c0_1]) (t := 24) ?hr ?_; (case hd => rfl); (case hg => rfl); (case hr => first | (go_simp; done) | (go_simp; rfl)); intro gb609 hg w24 hbox hb; have BK609 := Aside0.mk (hbox); have GW609 := Aside0.mk (gW hg : w.heap.size ≤ gb609); have GE609 := Aside0.mk (gW hg : w.heap.size ≤ gb609); replace HB := Aside0.mk (below_step pB hb); clear hb hbox hg; obtain ⟨hcz25_0, hcz25_1, hfz25_0, hfz25_1⟩ := bk2 BK609) | ((with_reducible refine gate_callee (f := 14) rfl ?_); refine goesL_ (some 8) rfl rfl Try.func14 (by kernel_rfl) rfl #[.agg #[.int .i64 a0_0, .slice A0_1 l0_1.length c0_1]] rfl mA ?_; (with_reducible refine (papermillref19_Check.calls k a0_0 _ _ l0_1 t610 _ ?side1 ?side2 A3.out).mono ?_); (case side1 => repeat (first | exact (Kd.C_below HR0_1.out HB.out) | (with_reducible refine Kd.C_alloc ?_ _) | (with_reducible refine Kd.C_drewN ?_ _) | (with_reducible refine Kd.C_drew ?_))); (case side2 => exact HC0_1.out); rintro e w26 ⟨rfl, hb⟩; refine ⟨_, rfl, ?_⟩; replace BK609 := Aside0.mk (kB BK609 hb); replace HB := Aside0.mk (below_step pB hb); (try clear hb); (try clear hb2); (try clear hk); (try clear hi)))
  go_ret2
  exact ⟨by first | rfl | (simp [errW_none, errW_some] <;> rfl) | (simp [*, errW_none, errW_some] <;> rfl), pB⟩

/-! ### papermilllaw19_PipeContents: function 8 -/
def papermilllaw19_PipeContents.f (k : Nat) (a0_0 : Int) (l0_1 : List (List Int)) (a1 : Int) : Option (Bool) := (papermilllaw19_great.f k a0_0 l0_1).bind fun t617 => (if t617 = true then ((papermilllaw19_awake.f k).bind fun t618 => (some t618)) else ((pipe_Content.f k a0_0 l0_1).bind fun bt619 => ((papermillref19_Content.f k a0_0 l0_1).bind fun bt623 => ((pipe_Age.f k a0_0 l0_1 a1).bind fun bt627 => ((papermillref19_Age.f k a0_0 l0_1 a1).bind fun bt629 => ((papermillref16_Same.f k bt619.1 bt623.1).bind fun t631 => (if t631 = true then (if bt619.2 = bt623.2 then (if bt627.1 = bt629.1 then (if bt627.2 = bt629.2 then ((papermilllaw19_awake.f k).bind fun t632 => (some t632)) else (none)) else (none)) else (none)) else (none))))))))
theorem papermilllaw19_PipeContents.mono : ∀ a0 a1 a2 k, LeO (papermilllaw19_PipeContents.f k a0 a1 a2) (papermilllaw19_PipeContents.f (k + 1) a0 a1 a2) := by
 intro a0 a1 a2 k
 unfold papermilllaw19_PipeContents.f
 repeat' first
   | (with_reducible exact papermilllaw19_awake.mono _)
   | (with_reducible exact papermilllaw19_great.mono _ _ _)
   | (with_reducible exact papermillref16_Same.mono _ _ _)
   | (with_reducible exact papermillref19_Age.mono _ _ _ _)
   | (with_reducible exact papermillref19_Content.mono _ _ _)
   | (with_reducible exact pipe_Age.mono _ _ _ _)
   | (with_reducible exact pipe_Content.mono _ _ _)
   | (with_reducible exact LeO.refl _)
   | (with_reducible exact LeO.none _)
   | (with_reducible refine LeO.ite ?_ ?_)
   | (with_reducible refine LeO.bind ?_ (fun _ => ?_))
   | exact papermilllaw19_awake.mono _
   | exact papermilllaw19_great.mono _ _ _
   | exact papermillref16_Same.mono _ _ _
   | exact papermillref19_Age.mono _ _ _ _
   | exact papermillref19_Content.mono _ _ _
   | exact pipe_Age.mono _ _ _ _
   | exact pipe_Content.mono _ _ _
   | exact LeO.none _
   | refine LeO.ite ?_ ?_
   | refine LeO.bind ?_ (fun _ => ?_)
set_option maxHeartbeats 8000000 in
set_option maxRecDepth 100000 in
theorem papermilllaw19_PipeContents.calls (k : Nat) (a0_0 : Int) (A0_1 : Option Addr) (c0_1 : Nat) (l0_1 : List (List Int)) (a1 : Int) (r : Bool) (w : World) (hr0_1 : Kd.C (Kd.slice 3 (Kd.int .i64)) w A0_1 l0_1.length l0_1) (hc0_1 : l0_1.length ≤ c0_1) (h : papermilllaw19_PipeContents.f k a0_0 l0_1 a1 = some r) :
  Calls Try.prog 8 #[.agg #[.int .i64 a0_0, .slice A0_1 l0_1.length c0_1], .int .i64 a1] w fun e w' => e = .returned (.bool r) ∧ Below w.heap.size w w' := by
 have hu24 := Try.underlying24
 have HR0_1 := Aside0.mk hr0_1
 have HC0_1 := Aside0.mk hc0_1
 clear hr0_1 hc0_1
 have HB := Aside0.mk (Below.refl w.heap.size w)
 have H : ((papermilllaw19_great.f k a0_0 l0_1).bind fun t617 => (if t617 = true then ((papermilllaw19_awake.f k).bind fun t618 => (some t618)) else ((pipe_Content.f k a0_0 l0_1).bind fun bt619 => ((papermillref19_Content.f k a0_0 l0_1).bind fun bt623 => ((pipe_Age.f k a0_0 l0_1 a1).bind fun bt627 => ((papermillref19_Age.f k a0_0 l0_1 a1).bind fun bt629 => ((papermillref16_Same.f k bt619.1 bt623.1).bind fun t631 => (if t631 = true then (if bt619.2 = bt623.2 then (if bt627.1 = bt629.1 then (if bt627.2 = bt629.2 then ((papermilllaw19_awake.f k).bind fun t632 => (some t632)) else (none)) else (none)) else (none)) else (none))))))))) = some r := h
 clear h
 replace H := Option.bind_eq_some_iff.mp H
 obtain ⟨t617, A30, H⟩ := H
 replace H : (if t617 = true then ((papermilllaw19_awake.f k).bind fun t618 => (some t618)) else ((pipe_Content.f k a0_0 l0_1).bind fun bt619 => ((papermillref19_Content.f k a0_0 l0_1).bind fun bt623 => ((pipe_Age.f k a0_0 l0_1 a1).bind fun bt627 => ((papermillref19_Age.f k a0_0 l0_1 a1).bind fun bt629 => ((papermillref16_Same.f k bt619.1 bt623.1).bind fun t631 => (if t631 = true then (if bt619.2 = bt623.2 then (if bt627.1 = bt629.1 then (if bt627.2 = bt629.2 then ((papermilllaw19_awake.f k).bind fun t632 => (some t632)) else (none)) else (none)) else (none)) else (none)))))))) = some r := H
 have A3 := Aside0.mk A30
 clear A30
 by_cases c4 : t617 = true
 ·subst c4
  have H1 : ((papermilllaw19_awake.f k).bind fun t618 => (some t618)) = some r := by rw [if_pos rfl] at H; exact H
  clear H
  have H := H1
  clear H1
  replace H := Option.bind_eq_some_iff.mp H
  obtain ⟨t618, A50, H⟩ := H
  replace H : (some t618) = some r := H
  have A5 := Aside0.mk A50
  clear A50
  obtain rfl := Option.some.inj H
  go_enter Try.func8, Try.ntmps8
  go_wp2_with (first | ((with_reducible refine gate_dst (N := 2) rfl ?_); refine box_event ?hg (N := 2) ?hd (cs := #[.int .i64 a0_0, .slice A0_1 l0_1.length c0_1]) (t := 24) ?hr ?_; (case hd => rfl); (case hg => rfl); (case hr => first | (go_simp; done) | (go_simp; rfl)); intro gb616 hg w6 hbox hb; have BK616 := Aside0.mk (hbox); have GW616 := Aside0.mk (gW hg : w.heap.size ≤ gb616); have GE616 := Aside0.mk (gW hg : w.heap.size ≤ gb616); replace HB := Aside0.mk (below_step pB hb); clear hb hbox hg; obtain ⟨hcz7_0, hcz7_1, hfz7_0, hfz7_1⟩ := bk2 BK616) | ((with_reducible refine gate_callee (f := 11) rfl ?_); refine goesL_ (some 14) rfl rfl Try.func11 (by kernel_rfl) rfl #[.agg #[.int .i64 a0_0, .slice A0_1 l0_1.length c0_1]] rfl mA ?_; (with_reducible refine (papermilllaw19_great.calls k a0_0 _ _ l0_1 true _ ?side1 ?side2 A3.out).mono ?_); (case side1 => repeat (first | exact (Kd.C_below HR0_1.out HB.out) | (with_reducible refine Kd.C_alloc ?_ _) | (with_reducible refine Kd.C_drewN ?_ _) | (with_reducible refine Kd.C_drew ?_))); (case side2 => exact HC0_1.out); rintro e w8 ⟨rfl, hb⟩; refine ⟨_, rfl, ?_⟩; replace BK616 := Aside0.mk (kB BK616 hb); replace HB := Aside0.mk (below_step pB hb); (try clear hb); (try clear hb2); (try clear hk); (try clear hi)) | ((with_reducible refine gate_callee (f := 12) rfl ?_); refine goesL_ (some 15) rfl rfl Try.func12 (by kernel_rfl) rfl #[] rfl mA ?_; (with_reducible refine (papermilllaw19_awake.calls k  t618 _ A5.out).mono ?_); rintro e w9 ⟨rfl, hb⟩; refine ⟨_, rfl, ?_⟩; replace BK616 := Aside0.mk (kB BK616 hb); replace HB := Aside0.mk (below_step pB hb); (try clear hb); (try clear hb2); (try clear hk); (try clear hi)))
  go_ret
  exact ⟨by first | rfl | (simp [errW_none, errW_some] <;> rfl) | (simp [*, errW_none, errW_some] <;> rfl), pB⟩
 ·replace c4 := Bool.eq_false_iff.mpr c4
  subst c4
  have H1 : ((pipe_Content.f k a0_0 l0_1).bind fun bt619 => ((papermillref19_Content.f k a0_0 l0_1).bind fun bt623 => ((pipe_Age.f k a0_0 l0_1 a1).bind fun bt627 => ((papermillref19_Age.f k a0_0 l0_1 a1).bind fun bt629 => ((papermillref16_Same.f k bt619.1 bt623.1).bind fun t631 => (if t631 = true then (if bt619.2 = bt623.2 then (if bt627.1 = bt629.1 then (if bt627.2 = bt629.2 then ((papermilllaw19_awake.f k).bind fun t632 => (some t632)) else (none)) else (none)) else (none)) else (none))))))) = some r := by rw [if_neg (show ¬ (false = true) by decide)] at H; exact H
  clear H
  have H := H1
  clear H1
  replace H := Option.bind_eq_some_iff.mp H
  obtain ⟨⟨t619, t622⟩, A100, H⟩ := H
  replace H : ((papermillref19_Content.f k a0_0 l0_1).bind fun bt623 => ((pipe_Age.f k a0_0 l0_1 a1).bind fun bt627 => ((papermillref19_Age.f k a0_0 l0_1 a1).bind fun bt629 => ((papermillref16_Same.f k t619 bt623.1).bind fun t631 => (if t631 = true then (if t622 = bt623.2 then (if bt627.1 = bt629.1 then (if bt627.2 = bt629.2 then ((papermilllaw19_awake.f k).bind fun t632 => (some t632)) else (none)) else (none)) else (none)) else (none)))))) = some r := H
  have A10 := Aside0.mk A100
  clear A100
  replace H := Option.bind_eq_some_iff.mp H
  obtain ⟨⟨t623, t626⟩, A110, H⟩ := H
  replace H : ((pipe_Age.f k a0_0 l0_1 a1).bind fun bt627 => ((papermillref19_Age.f k a0_0 l0_1 a1).bind fun bt629 => ((papermillref16_Same.f k t619 t623).bind fun t631 => (if t631 = true then (if t622 = t626 then (if bt627.1 = bt629.1 then (if bt627.2 = bt629.2 then ((papermilllaw19_awake.f k).bind fun t632 => (some t632)) else (none)) else (none)) else (none)) else (none))))) = some r := H
  have A11 := Aside0.mk A110
  clear A110
  replace H := Option.bind_eq_some_iff.mp H
  obtain ⟨⟨t627, t628⟩, A120, H⟩ := H
  replace H : ((papermillref19_Age.f k a0_0 l0_1 a1).bind fun bt629 => ((papermillref16_Same.f k t619 t623).bind fun t631 => (if t631 = true then (if t622 = t626 then (if t627 = bt629.1 then (if t628 = bt629.2 then ((papermilllaw19_awake.f k).bind fun t632 => (some t632)) else (none)) else (none)) else (none)) else (none)))) = some r := H
  have A12 := Aside0.mk A120
  clear A120
  replace H := Option.bind_eq_some_iff.mp H
  obtain ⟨⟨t629, t630⟩, A130, H⟩ := H
  replace H : ((papermillref16_Same.f k t619 t623).bind fun t631 => (if t631 = true then (if t622 = t626 then (if t627 = t629 then (if t628 = t630 then ((papermilllaw19_awake.f k).bind fun t632 => (some t632)) else (none)) else (none)) else (none)) else (none))) = some r := H
  have A13 := Aside0.mk A130
  clear A130
  replace H := Option.bind_eq_some_iff.mp H
  obtain ⟨t631, A140, H⟩ := H
  replace H : (if t631 = true then (if t622 = t626 then (if t627 = t629 then (if t628 = t630 then ((papermilllaw19_awake.f k).bind fun t632 => (some t632)) else (none)) else (none)) else (none)) else (none)) = some r := H
  have A14 := Aside0.mk A140
  clear A140
  by_cases c15 : t631 = true
  ·subst c15
   have H1 : (if t622 = t626 then (if t627 = t629 then (if t628 = t630 then ((papermilllaw19_awake.f k).bind fun t632 => (some t632)) else (none)) else (none)) else (none)) = some r := by rw [if_pos rfl] at H; exact H
   clear H
   have H := H1
   clear H1
   by_cases c16 : t622 = t626
   ·rw [if_pos c16] at H
    have c16b0 : (t622 == t626) = true := beq_iff_eq.mpr c16
    have c16b1 : (t622 != t626) = false := bne_eq_false_iff_eq.mpr c16
    clear c16
    by_cases c17 : t627 = t629
    ·rw [if_pos c17] at H
     have c17b0 : (t627 == t629) = true := beq_iff_eq.mpr c17
     have c17b1 : (t627 != t629) = false := bne_eq_false_iff_eq.mpr c17
     clear c17
     by_cases c18 : t628 = t630
     ·rw [if_pos c18] at H
      have c18b0 : (t628 == t630) = true := beq_iff_eq.mpr c18
      have c18b1 : (t628 != t630) = false := bne_eq_false_iff_eq.mpr c18
      clear c18
      replace H := Option.bind_eq_some_iff.mp H
      obtain ⟨t632, A190, H⟩ := H
      replace H : (some t632) = some r := H
      have A19 := Aside0.mk A190
      clear A190
      obtain rfl := Option.some.inj H
      go_enter Try.func8, Try.ntmps8
      go_wp2_with (first | ((with_reducible refine gate_dst (N := 2) rfl ?_); refine box_event ?hg (N := 2) ?hd (cs := #[.int .i64 a0_0, .slice A0_1 l0_1.length c0_1]) (t := 24) ?hr ?_; (case hd => rfl); (case hg => rfl); (case hr => first | (go_simp; done) | (go_simp; rfl)); intro gb616 hg w20 hbox hb; have BK616 := Aside0.mk (hbox); have GW616 := Aside0.mk (gW hg : w.heap.size ≤ gb616); have GE616 := Aside0.mk (gW hg : w.heap.size ≤ gb616); replace HB := Aside0.mk (below_step pB hb); clear hb hbox hg; obtain ⟨hcz21_0, hcz21_1, hfz21_0, hfz21_1⟩ := bk2 BK616) | ((with_reducible refine gate_callee (f := 11) rfl ?_); refine goesL_ (some 14) rfl rfl Try.func11 (by kernel_rfl) rfl #[.agg #[.int .i64 a0_0, .slice A0_1 l0_1.length c0_1]] rfl mA ?_; (with_reducible refine (papermilllaw19_great.calls k a0_0 _ _ l0_1 false _ ?side1 ?side2 A3.out).mono ?_); (case side1 => repeat (first | exact (Kd.C_below HR0_1.out HB.out) | (with_reducible refine Kd.C_alloc ?_ _) | (with_reducible refine Kd.C_drewN ?_ _) | (with_reducible refine Kd.C_drew ?_))); (case side2 => exact HC0_1.out); rintro e w22 ⟨rfl, hb⟩; refine ⟨_, rfl, ?_⟩; replace BK616 := Aside0.mk (kB BK616 hb); replace HB := Aside0.mk (below_step pB hb); (try clear hb); (try clear hb2); (try clear hk); (try clear hi); obtain ⟨hcz23_0, hcz23_1, hfz23_0, hfz23_1⟩ := bk2 BK616) | ((with_reducible refine gate_callee (f := 23) rfl ?_); refine goesL_ (some 18) rfl rfl Try.func23 (by kernel_rfl) rfl #[.agg #[.int .i64 a0_0, .slice A0_1 l0_1.length c0_1]] rfl mA ?_; (with_reducible refine (pipe_Content.calls k a0_0 _ _ l0_1 t619 t622 _ ?side1 ?side2 A10.out).mono ?_); (case side1 => repeat (first | exact (Kd.C_below HR0_1.out HB.out) | (with_reducible refine Kd.C_alloc ?_ _) | (with_reducible refine Kd.C_drewN ?_ _) | (with_reducible refine Kd.C_drew ?_))); (case side2 => exact HC0_1.out); rintro e w24 ⟨v620, rfl, ho0, hb⟩; refine ⟨_, rfl, ?_⟩; have HO621 := Aside0.mk (Kd.R_lower ho0 (below_size pB)); replace BK616 := Aside0.mk (kB BK616 hb); replace HB := Aside0.mk (below_step pB hb); (try clear hb); (try clear hb2); (try clear hk); (try clear hi); (try clear ho0); obtain ⟨hcz25_0, hcz25_1, hfz25_0, hfz25_1⟩ := bk2 BK616) | ((with_reducible refine gate_callee (f := 24) rfl ?_); refine goesL_ (some 23) rfl rfl Try.func24 (by kernel_rfl) rfl #[.agg #[.int .i64 a0_0, .slice A0_1 l0_1.length c0_1]] rfl mA ?_; (with_reducible refine (papermillref19_Content.calls k a0_0 _ _ l0_1 t623 t626 _ ?side1 ?side2 A11.out).mono ?_); (case side1 => repeat (first | exact (Kd.C_below HR0_1.out HB.out) | (with_reducible refine Kd.C_alloc ?_ _) | (with_reducible refine Kd.C_drewN ?_ _) | (with_reducible refine Kd.C_drew ?_))); (case side2 => exact HC0_1.out); rintro e w26 ⟨v624, rfl, ho0, hb⟩; refine ⟨_, rfl, ?_⟩; have HO625 := Aside0.mk (Kd.R_lower (Kd.R_new' ho0 (Kd.R_lt (rX HO621.out))) (below_size pB)); replace HO621 := Aside0.mk (Kd.R_elder' (rX HO621.out) (Kd.R_base ho0) hb); replace BK616 := Aside0.mk (kB BK616 hb); replace HB := Aside0.mk (below_step pB hb); (try clear hb); (try clear hb2); (try clear hk); (try clear hi); (try clear ho0); obtain ⟨hcz27_0, hcz27_1, hfz27_0, hfz27_1⟩ := bk2 BK616) | ((with_reducible refine gate_callee (f := 22) rfl ?_); refine goesL_ (some 29) rfl rfl Try.func22 (by kernel_rfl) rfl #[.agg #[.int .i64 a0_0, .slice A0_1 l0_1.length c0_1], .int .i64 a1] rfl mA ?_; (with_reducible refine (pipe_Age.calls k a0_0 _ _ l0_1 a1 t627 t628 _ ?side1 ?side2 A12.out).mono ?_); (case side1 => repeat (first | exact (Kd.C_below HR0_1.out HB.out) | (with_reducible refine Kd.C_alloc ?_ _) | (with_reducible refine Kd.C_drewN ?_ _) | (with_reducible refine Kd.C_drew ?_))); (case side2 => exact HC0_1.out); rintro e w28 ⟨rfl, hb⟩; refine ⟨_, rfl, ?_⟩; replace HO621 := Aside0.mk (Kd.R_below (rX HO621.out) hb); replace HO625 := Aside0.mk (Kd.R_below (rX HO625.out) hb); replace BK616 := Aside0.mk (kB BK616 hb); replace HB := Aside0.mk (below_step pB hb); (try clear hb); (try clear hb2); (try clear hk); (try clear hi); obtain ⟨hcz29_0, hcz29_1, hfz29_0, hfz29_1⟩ := bk2 BK616) | ((with_reducible refine gate_callee (f := 25) rfl ?_); refine goesL_ (some 35) rfl rfl Try.func25 (by kernel_rfl) rfl #[.agg #[.int .i64 a0_0, .slice A0_1 l0_1.length c0_1], .int .i64 a1] rfl mA ?_; (with_reducible refine (papermillref19_Age.calls k a0_0 _ _ l0_1 a1 t629 t630 _ ?side1 ?side2 A13.out).mono ?_); (case side1 => repeat (first | exact (Kd.C_below HR0_1.out HB.out) | (with_reducible refine Kd.C_alloc ?_ _) | (with_reducible refine Kd.C_drewN ?_ _) | (with_reducible refine Kd.C_drew ?_))); (case side2 => exact HC0_1.out); rintro e w30 ⟨rfl, hb⟩; refine ⟨_, rfl, ?_⟩; replace HO621 := Aside0.mk (Kd.R_below (rX HO621.out) hb); replace HO625 := Aside0.mk (Kd.R_below (rX HO625.out) hb); replace BK616 := Aside0.mk (kB BK616 hb); replace HB := Aside0.mk (below_step pB hb); (try clear hb); (try clear hb2); (try clear hk); (try clear hi); obtain ⟨Ao31, co31, eo31⟩ := Kd.R_slice HO621.out; subst eo31; obtain ⟨Ao32, co32, eo32⟩ := Kd.R_slice HO625.out; subst eo32) | ((with_reducible refine gate_callee (f := 20) rfl ?_); refine goesL_ (some 40) rfl rfl Try.func20 (by kernel_rfl) rfl #[.slice Ao31 t619.length co31, .slice Ao32 t623.length co32] rfl mA ?_; (with_reducible refine (papermillref16_Same.calls k _ _ t619 _ _ t623 true _ ?side1 ?side2 ?side3 ?side4 A14.out).mono ?_); (case side1 => repeat (first | exact (Kd.R_reads' HO621.out).2.2 | (with_reducible refine Kd.C_alloc ?_ _) | (with_reducible refine Kd.C_drewN ?_ _) | (with_reducible refine Kd.C_drew ?_))); (case side2 => exact (Kd.R_reads' HO621.out).2.1); (case side3 => repeat (first | exact (Kd.R_reads' HO625.out).2.2 | (with_reducible refine Kd.C_alloc ?_ _) | (with_reducible refine Kd.C_drewN ?_ _) | (with_reducible refine Kd.C_drew ?_))); (case side4 => exact (Kd.R_reads' HO625.out).2.1); rintro e w' ⟨rfl, ⟨nd, rfl⟩⟩; refine ⟨_, rfl, ?_⟩) | (go_at_call 12; (with_reducible refine (papermilllaw19_awake.calls k  t632 _ A19.out).mono ?_); rintro e w33 ⟨rfl, hb⟩; replace HO621 := Aside0.mk (Kd.R_below (rX HO621.out) hb); replace HO625 := Aside0.mk (Kd.R_below (rX HO625.out) hb); replace BK616 := Aside0.mk (kB BK616 hb); replace HB := Aside0.mk (below_step pB hb); (try clear hb); (try clear hb2); (try clear hk); (try clear hi)))
      go_ret
      exact ⟨by first | rfl | (simp [errW_none, errW_some] <;> rfl) | (simp [*, errW_none, errW_some] <;> rfl), pB⟩
     ·rw [if_neg c18] at H
      exact absurd H (by simp)
    ·rw [if_neg c17] at H
     exact absurd H (by simp)
   ·rw [if_neg c16] at H
    exact absurd H (by simp)
  ·replace c15 := Bool.eq_false_iff.mpr c15
   subst c15
   have H1 : (none) = some r := by rw [if_neg (show ¬ (false = true) by decide)] at H; exact H
   clear H
   have H := H1
   clear H1
   exact absurd H (by simp)

/-- THE ONE PURE STATEMENT of papermilllaw19_PipeContents: yours. -/
def papermilllaw19_PipeContents.Pure : Prop := ∀ (a0_0 : Int) (l0_1 : List (List Int)) (a1 : Int), (Lit.int .i64 a0_0).wf = true → l0_1.length ≤ maxLen → l0_1.length * 24 ≤ 140737488351232 → (∀ x_ ∈ l0_1, x_.length ≤ maxLen ∧ x_.length * 8 ≤ 140737488351232 ∧ ∀ y_ ∈ x_, (Lit.int .i64 y_).wf = true) → (Lit.int .i64 a1).wf = true → ∃ k, papermilllaw19_PipeContents.f k a0_0 l0_1 a1 = some true

-- NOT PRINTED: function 9 (papermilllaw19_PipeFifo)

-- NOT PRINTED: function 10 (papermilllaw19_PipeFlushed)

end Go.Proofs.Ytpnfdhhfdidlmaa.Print
