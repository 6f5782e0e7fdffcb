-- Written by wip/tools/myprint.py out of the translation. Not trusted: Lean checks it.
import Derived.Test.YtloihkecfommbaaPrint0
import Derived.Test.YtloihkecfommbaaPrint11
import Derived.Test.YtloihkecfommbaaPrint15
namespace Go.Proofs.Ytloihkecfommbaa.Print
open Go.RowKit Go.Proofs.YtloihkecfommbaaW.PrintWords Go.Proofs.YtloihkecfommbaaW.PrintLast Go.Proofs.YtloihkecfommbaaW.PrintMore
attribute [local go_sem] max2_int min2_int max_two min_two max_three min_three max_four min_four   -- for this text's walks alone
set_option linter.unusedVariables false
set_option linter.unusedSimpArgs false

/-! ### papermilllaw12_ShareOrder: function 5 -/
mutual
def papermilllaw12_ShareOrder.l0 : Nat → List Int → List Int → Int → Option (Bool)
 | 0, _, _, _ => none
 | k + 1, x1, x5, x7 => if x7 < (x5.length : Int) then (papermilllaw12_ShareOrder.l1 k x1 x5 x7 0) else ((papermilllaw12_awake.f k).bind fun t367 => (some t367))
def papermilllaw12_ShareOrder.l1 : Nat → List Int → List Int → Int → Int → Option (Bool)
 | 0, _, _, _, _ => none
 | k + 1, x1, x5, x7, x8 => if x8 < (x5.length : Int) then (if 0 ≤ x7 then (if x7 < (x1.length : Int) then (if 0 ≤ x8 then (if x8 < (x1.length : Int) then (if (rd x1 x7) > (rd x1 x8) then (if x7 < (x5.length : Int) then (if (rd x5 x7) < (rd x5 x8) then (none) else (if (rd x1 x7) = (rd x1 x8) then (if x7 < x8 then (if (rd x5 x7) > (wrap64 ((rd x5 x8) + 1)) then (none) else (papermilllaw12_ShareOrder.l1 k x1 x5 x7 (wrap64 (x8 + 1)))) else (papermilllaw12_ShareOrder.l1 k x1 x5 x7 (wrap64 (x8 + 1)))) else (papermilllaw12_ShareOrder.l1 k x1 x5 x7 (wrap64 (x8 + 1))))) else (none)) else (if (rd x1 x7) = (rd x1 x8) then (if x7 < x8 then (if x7 < (x5.length : Int) then (if (rd x5 x7) < (rd x5 x8) then (none) else (if (rd x5 x7) > (wrap64 ((rd x5 x8) + 1)) then (none) else (papermilllaw12_ShareOrder.l1 k x1 x5 x7 (wrap64 (x8 + 1))))) else (none)) else (papermilllaw12_ShareOrder.l1 k x1 x5 x7 (wrap64 (x8 + 1)))) else (papermilllaw12_ShareOrder.l1 k x1 x5 x7 (wrap64 (x8 + 1))))) else (none)) else (none)) else (none)) else (none)) else (papermilllaw12_ShareOrder.l0 k x1 x5 (wrap64 (x7 + 1)))
end
def papermilllaw12_ShareOrder.f (k : Nat) (a0 : Int) (l1 : List Int) : Option (Bool) := if (l1.length : Int) > 40 then ((papermilllaw12_awake.f k).bind fun t361 => (some t361)) else ((share_Split.f k a0 l1).bind fun bt362 => (if bt362.2 = 0 then (if (bt362.1.length : Int) = (l1.length : Int) then (papermilllaw12_ShareOrder.l0 k l1 bt362.1 0) else (none)) else ((papermilllaw12_awake.f k).bind fun t366 => (some t366))))
theorem papermilllaw12_ShareOrder.mono_l : ∀ k, (∀ y0 y1 y2, LeO (papermilllaw12_ShareOrder.l0 k y0 y1 y2) (papermilllaw12_ShareOrder.l0 (k + 1) y0 y1 y2)) ∧ (∀ y0 y1 y2 y3, LeO (papermilllaw12_ShareOrder.l1 k y0 y1 y2 y3) (papermilllaw12_ShareOrder.l1 (k + 1) y0 y1 y2 y3))
 | 0 => ⟨fun _ _ _ r h => by simp [papermilllaw12_ShareOrder.l0] at h, fun _ _ _ _ r h => by simp [papermilllaw12_ShareOrder.l1] at h⟩
 | k + 1 => by
  obtain ⟨ih0, ih1⟩ := papermilllaw12_ShareOrder.mono_l k
  refine ⟨?_, ?_⟩
  ·intro y0 y1 y2
   unfold papermilllaw12_ShareOrder.l0
   repeat' first
   | (with_reducible exact ih0 _ _ _)
   | (with_reducible exact ih1 _ _ _ _)
   | (with_reducible exact papermilllaw12_awake.mono _)
   | (with_reducible exact share_Split.mono _ _ _)
   | (with_reducible exact LeO.refl _)
   | (with_reducible exact LeO.none _)
   | (with_reducible refine LeO.ite ?_ ?_)
   | (with_reducible refine LeO.bind ?_ (fun _ => ?_))
   | exact ih0 _ _ _
   | exact ih1 _ _ _ _
   | exact papermilllaw12_awake.mono _
   | exact share_Split.mono _ _ _
   | exact LeO.none _
   | refine LeO.ite ?_ ?_
   | refine LeO.bind ?_ (fun _ => ?_)
  ·intro y0 y1 y2 y3
   unfold papermilllaw12_ShareOrder.l1
   repeat' first
   | (with_reducible exact ih0 _ _ _)
   | (with_reducible exact ih1 _ _ _ _)
   | (with_reducible exact papermilllaw12_awake.mono _)
   | (with_reducible exact share_Split.mono _ _ _)
   | (with_reducible exact LeO.refl _)
   | (with_reducible exact LeO.none _)
   | (with_reducible refine LeO.ite ?_ ?_)
   | (with_reducible refine LeO.bind ?_ (fun _ => ?_))
   | exact ih0 _ _ _
   | exact ih1 _ _ _ _
   | exact papermilllaw12_awake.mono _
   | exact share_Split.mono _ _ _
   | exact LeO.none _
   | refine LeO.ite ?_ ?_
   | refine LeO.bind ?_ (fun _ => ?_)
theorem papermilllaw12_ShareOrder.mono : ∀ a0 a1 k, LeO (papermilllaw12_ShareOrder.f k a0 a1) (papermilllaw12_ShareOrder.f (k + 1) a0 a1) := by
 intro a0 a1 k
 obtain ⟨ih0, ih1⟩ := papermilllaw12_ShareOrder.mono_l k
 unfold papermilllaw12_ShareOrder.f
 repeat' first
   | (with_reducible exact ih0 _ _ _)
   | (with_reducible exact ih1 _ _ _ _)
   | (with_reducible exact papermilllaw12_awake.mono _)
   | (with_reducible exact share_Split.mono _ _ _)
   | (with_reducible exact LeO.refl _)
   | (with_reducible exact LeO.none _)
   | (with_reducible refine LeO.ite ?_ ?_)
   | (with_reducible refine LeO.bind ?_ (fun _ => ?_))
   | exact ih0 _ _ _
   | exact ih1 _ _ _ _
   | exact papermilllaw12_awake.mono _
   | exact share_Split.mono _ _ _
   | exact LeO.none _
   | refine LeO.ite ?_ ?_
   | refine LeO.bind ?_ (fun _ => ?_)
set_option maxHeartbeats 8000000 in
set_option maxRecDepth 100000 in
theorem papermilllaw12_ShareOrder.calls (k : Nat) (a0 : Int) (A1 : Option Addr) (c1 : Nat) (l1 : List Int) (r : Bool) (w : World) (hr1 : Kd.C (Kd.int .i64) w A1 l1.length l1) (hc1 : l1.length ≤ c1) (h : papermilllaw12_ShareOrder.f k a0 l1 = some r) :
  Calls Try.prog 5 #[.int .i64 a0, .slice A1 l1.length c1] w fun e w' => e = .returned (.bool r) ∧ Below w.heap.size w w' := by
 have HR1 := Aside0.mk hr1
 have HC1 := Aside0.mk hc1
 clear hr1 hc1
 have HB := Aside0.mk (Below.refl w.heap.size w)
 have H : (if (l1.length : Int) > 40 then ((papermilllaw12_awake.f k).bind fun t361 => (some t361)) else ((share_Split.f k a0 l1).bind fun bt362 => (if bt362.2 = 0 then (if (bt362.1.length : Int) = (l1.length : Int) then (papermilllaw12_ShareOrder.l0 k l1 bt362.1 0) else (none)) else ((papermilllaw12_awake.f k).bind fun t366 => (some t366))))) = some r := h
 clear h
 by_cases c3 : (l1.length : Int) > 40
 ·rw [if_pos c3] at H
  have c3b0 : decide (40 < (l1.length : Int)) = true := decide_eq_true c3
  have c3b1 : decide (40 < l1.length) = true := decide_eq_true (by omega)
  clear c3
  replace H := Option.bind_eq_some_iff.mp H
  obtain ⟨t361, A40, H⟩ := H
  replace H : (some t361) = some r := H
  have A4 := Aside0.mk A40
  clear A40
  obtain rfl := Option.some.inj H
  go_enter Try.func5, Try.ntmps5
  go_wp2_with (first | (go_at_call 9; (with_reducible refine (papermilllaw12_awake.calls k  t361 _ A4.out).mono ?_); rintro e w5 ⟨rfl, hb⟩; replace HB := Aside0.mk (below_step pB hb); (try clear hb); (try clear hb2); (try clear hk); (try clear hi)))
  repeat (go_quiet (first | (go_at_call 9; (with_reducible refine (papermilllaw12_awake.calls k  t361 _ A4.out).mono ?_); rintro e w5 ⟨rfl, hb⟩; replace HB := Aside0.mk (below_step pB hb); (try clear hb); (try clear hb2); (try clear hk); (try clear hi))); try go_wp2_with (first | (go_at_call 9; (with_reducible refine (papermilllaw12_awake.calls k  t361 _ A4.out).mono ?_); rintro e w5 ⟨rfl, hb⟩; replace HB := Aside0.mk (below_step pB hb); (try clear hb); (try clear hb2); (try clear hk); (try clear hi))))
  go_ret
  exact ⟨by first | rfl | (simp [errW_none, errW_some] <;> rfl) | (simp [*, errW_none, errW_some] <;> rfl), pB⟩
 ·rw [if_neg c3] at H
  have c3b0 : decide (40 < (l1.length : Int)) = false := decide_eq_false c3
  have c3b1 : decide (40 < l1.length) = false := decide_eq_false (by omega)
  clear c3
  replace H := Option.bind_eq_some_iff.mp H
  obtain ⟨⟨t362, t363⟩, A60, H⟩ := H
  replace H : (if t363 = 0 then (if (t362.length : Int) = (l1.length : Int) then (papermilllaw12_ShareOrder.l0 k l1 t362 0) else (none)) else ((papermilllaw12_awake.f k).bind fun t366 => (some t366))) = some r := H
  have A6 := Aside0.mk A60
  clear A60
  by_cases c7 : t363 = 0
  ·rw [if_pos c7] at H
   have c7b0 : (t363 == 0) = true := beq_iff_eq.mpr c7
   have c7b1 : (t363 != 0) = false := bne_eq_false_iff_eq.mpr c7
   clear c7
   by_cases c8 : (t362.length : Int) = (l1.length : Int)
   ·rw [if_pos c8] at H
    have c8b0 : ((t362.length : Int) == (l1.length : Int)) = true := beq_iff_eq.mpr c8
    have c8b1 : ((t362.length : Int) != (l1.length : Int)) = false := bne_eq_false_iff_eq.mpr c8
    have c8b2 : (t362.length == l1.length) = true := by first | simpa using c8 | (simp at c8 ⊢; omega)
    clear c8
    have H' := Aside0.mk H
    clear H
    go_enter Try.func5, Try.ntmps5
    have fl_ : True := trivial
    repeat ((first | clear fl_ | go_quiet (first | (go_at_call 11; (with_reducible refine (share_Split.calls k a0 _ _ l1 t362 t363 _ ?side1 ?side2 A6.out).mono ?_); (case side1 => repeat (first | exact HR1.out | (with_reducible refine Kd.C_alloc ?_ _) | (with_reducible refine Kd.C_drewN ?_ _) | (with_reducible refine Kd.C_drew ?_))); (case side2 => exact HC1.out); rintro e w9 ⟨v364, rfl, ho0, hb⟩; have HO365 := Aside0.mk (Kd.R_lower ho0 (below_size pB)); replace HB := Aside0.mk (below_step pB hb); (try clear hb); (try clear hb2); (try clear hk); (try clear hi); (try clear ho0); obtain ⟨Ao10, co10, eo10⟩ := Kd.R_slice HO365.out; subst eo10))); go_wp2_with (first | (go_at_call 11; (with_reducible refine (share_Split.calls k a0 _ _ l1 t362 t363 _ ?side1 ?side2 A6.out).mono ?_); (case side1 => repeat (first | exact HR1.out | (with_reducible refine Kd.C_alloc ?_ _) | (with_reducible refine Kd.C_drewN ?_ _) | (with_reducible refine Kd.C_drew ?_))); (case side2 => exact HC1.out); rintro e w9 ⟨v364, rfl, ho0, hb⟩; have HO365 := Aside0.mk (Kd.R_lower ho0 (below_size pB)); replace HB := Aside0.mk (below_step pB hb); (try clear hb); (try clear hb2); (try clear hk); (try clear hi); (try clear ho0); obtain ⟨Ao10, co10, eo10⟩ := Kd.R_slice HO365.out; subst eo10)))
    go_loopg [7] k (fun kq v7 w' => ∃ (x7_1 : Int), v7 = .int .i64 x7_1 ∧ Aside0 (papermilllaw12_ShareOrder.l0 kq l1 t362 x7_1 = some r) ∧ Aside0 (kq ≤ k) ∧ Aside0 (Kd.R (Kd.int .i64) 3 w' w.heap.size (fun _ => True) (.slice Ao10 t362.length co10) t362) ∧ Aside0 (Below w.heap.size w w'))
    case atStart => exact ⟨(0), (by first | rfl | (simp; done) | (simp [*]; done)), H', ⟨Nat.le_refl _⟩, ⟨by (with_reducible repeat (first | apply Kd.R_alloc | apply Kd.R_drewN | apply Kd.R_drew)); exact HO365.out⟩, ⟨pB⟩⟩
    case round =>
     clear H'
     try clear c1
     try clear p2
     try clear c3
     try clear c3b0
     try clear c3b1
     try clear c5
     try clear c7
     try clear c7b0
     try clear c7b1
     try clear c8
     try clear c8b0
     try clear c8b1
     try clear c8b2
     obtain ⟨x7_1, rfl, HA, HK1, HO_5, HB⟩ := hrel
     cases gk with
     | zero => exact absurd HA.out (by simp [papermilllaw12_ShareOrder.l0])
     | succ k1 =>
      have H := HA.out
      clear HA
      simp only [papermilllaw12_ShareOrder.l0] at H
      by_cases c11 : x7_1 < (t362.length : Int)
      ·rw [if_pos c11] at H
       have c11b0 : decide (x7_1 < (t362.length : Int)) = true := decide_eq_true c11
       clear c11
       have H' := Aside0.mk H
       clear H
       go_wp2
       repeat (go_quiet (fail); try go_wp2)
       go_loopg [8] k1 (fun kq v8 w' => ∃ (x8_2 : Int), v8 = .int .i64 x8_2 ∧ Aside0 (papermilllaw12_ShareOrder.l1 kq l1 t362 x7_1 x8_2 = some r) ∧ Aside0 (kq ≤ k1) ∧ Aside0 (Kd.R (Kd.int .i64) 3 w' w.heap.size (fun _ => True) (.slice Ao10 t362.length co10) t362) ∧ Aside0 (Below w.heap.size w w'))
       case atStart => exact ⟨(0), (by first | rfl | (simp; done) | (simp [*]; done)), H', ⟨Nat.le_refl _⟩, ⟨by (with_reducible repeat (first | apply Kd.R_alloc | apply Kd.R_drewN | apply Kd.R_drew)); exact HO_5.out⟩, ⟨pB⟩⟩
       case round =>
        clear H'
        try clear c1
        try clear p2
        try clear c3
        try clear c3b0
        try clear c3b1
        try clear c5
        try clear c7
        try clear c7b0
        try clear c7b1
        try clear c8
        try clear c8b0
        try clear c8b1
        try clear c8b2
        try clear c11
        try clear c11b0
        try clear p2
        obtain ⟨x8_2, rfl, HA, HK2, HO_5, HB⟩ := hrel
        cases gk with
        | zero => exact absurd HA.out (by simp [papermilllaw12_ShareOrder.l1])
        | succ k2 =>
         have H := HA.out
         clear HA
         simp only [papermilllaw12_ShareOrder.l1] at H
         by_cases c12 : x8_2 < (t362.length : Int)
         ·rw [if_pos c12] at H
          have c12b0 : decide (x8_2 < (t362.length : Int)) = true := decide_eq_true c12
          clear c12
          by_cases c13 : 0 ≤ x7_1
          ·rw [if_pos c13] at H
           have c13b0 : decide (0 ≤ x7_1) = true := decide_eq_true c13
           clear c13
           by_cases c14 : x7_1 < (l1.length : Int)
           ·rw [if_pos c14] at H
            have c14b0 : decide (x7_1 < (l1.length : Int)) = true := decide_eq_true c14
            clear c14
            by_cases c15 : 0 ≤ x8_2
            ·rw [if_pos c15] at H
             have c15b0 : decide (0 ≤ x8_2) = true := decide_eq_true c15
             clear c15
             by_cases c16 : x8_2 < (l1.length : Int)
             ·rw [if_pos c16] at H
              have c16b0 : decide (x8_2 < (l1.length : Int)) = true := decide_eq_true c16
              clear c16
              by_cases c17 : (rd l1 x7_1) > (rd l1 x8_2)
              ·rw [if_pos c17] at H
               have c17b0 : decide ((rd l1 x8_2) < (rd l1 x7_1)) = true := decide_eq_true c17
               clear c17
               by_cases c18 : x7_1 < (t362.length : Int)
               ·rw [if_pos c18] at H
                have c18b0 : decide (x7_1 < (t362.length : Int)) = true := decide_eq_true c18
                clear c18
                by_cases c19 : (rd t362 x7_1) < (rd t362 x8_2)
                ·rw [if_pos c19] at H
                 exact absurd H (by simp)
                ·rw [if_neg c19] at H
                 have c19b0 : decide ((rd t362 x7_1) < (rd t362 x8_2)) = false := decide_eq_false c19
                 clear c19
                 by_cases c20 : (rd l1 x7_1) = (rd l1 x8_2)
                 ·rw [if_pos c20] at H
                  have c20b0 : ((rd l1 x7_1) == (rd l1 x8_2)) = true := beq_iff_eq.mpr c20
                  have c20b1 : ((rd l1 x7_1) != (rd l1 x8_2)) = false := bne_eq_false_iff_eq.mpr c20
                  clear c20
                  by_cases c21 : x7_1 < x8_2
                  ·rw [if_pos c21] at H
                   have c21b0 : decide (x7_1 < x8_2) = true := decide_eq_true c21
                   clear c21
                   by_cases c22 : (rd t362 x7_1) > (wrap64 ((rd t362 x8_2) + 1))
                   ·rw [if_pos c22] at H
                    exact absurd H (by simp)
                   ·rw [if_neg c22] at H
                    have c22b0 : decide ((wrap64 ((rd t362 x8_2) + 1)) < (rd t362 x7_1)) = false := decide_eq_false c22
                    have c22b0w : decide ((IntKind.i64.wrap ((rd t362 x8_2) + 1)) < (rd t362 x7_1)) = false := by have h_ := c22b0; first | exact h_ | (simp only [i64_w]; exact h_)
                    clear c22
                    have H' := Aside0.mk H
                    clear H
                    have p368 : 0 ≤ (x7_1 : Int) := of_decide_eq_true (by first | (with_reducible assumption) | assumption)
                    have q368 : x7_1 < (l1.length : Int) := of_decide_eq_true (by first | (with_reducible assumption) | assumption)
                    obtain ⟨ad368, e368, hx368_0⟩ := Kd.at_int HR1.out x7_1 p368 q368
                    cases e368
                    replace hx368_0 := (HB.out.cell (World.block_lt_of_cell? w _ hx368_0)).trans hx368_0
                    replace p368 := eq_true p368
                    replace q368 := eq_true q368
                    have p369 : 0 ≤ (x8_2 : Int) := of_decide_eq_true (by first | (with_reducible assumption) | assumption)
                    have q369 : x8_2 < (l1.length : Int) := of_decide_eq_true (by first | (with_reducible assumption) | assumption)
                    obtain ⟨ad369, e369, hx369_0⟩ := Kd.at_int HR1.out x8_2 p369 q369
                    obtain rfl : ad368 = ad369 := (by injection e369)
                    replace hx369_0 := (HB.out.cell (World.block_lt_of_cell? w _ hx369_0)).trans hx369_0
                    replace p369 := eq_true p369
                    replace q369 := eq_true q369
                    have p370 : 0 ≤ (x7_1 : Int) := of_decide_eq_true (by first | (with_reducible assumption) | assumption)
                    have q370 : x7_1 < (t362.length : Int) := of_decide_eq_true (by first | (with_reducible assumption) | assumption)
                    obtain ⟨ad370, e370, hx370_0⟩ := Kd.at_int (Kd.R_reads' HO_5.out).2.2 x7_1 p370 q370
                    cases e370
                    replace p370 := eq_true p370
                    replace q370 := eq_true q370
                    have p371 : 0 ≤ (x8_2 : Int) := of_decide_eq_true (by first | (with_reducible assumption) | assumption)
                    have q371 : x8_2 < (t362.length : Int) := of_decide_eq_true (by first | (with_reducible assumption) | assumption)
                    obtain ⟨ad371, e371, hx371_0⟩ := Kd.at_int (Kd.R_reads' HO_5.out).2.2 x8_2 p371 q371
                    obtain rfl : ad370 = ad371 := (by injection e371)
                    replace p371 := eq_true p371
                    replace q371 := eq_true q371
                    have p372 : 0 ≤ (x7_1 : Int) := of_decide_eq_true (by first | (with_reducible assumption) | assumption)
                    have q372 : x7_1 < (l1.length : Int) := of_decide_eq_true (by first | (with_reducible assumption) | assumption)
                    obtain ⟨ad372, e372, hx372_0⟩ := Kd.at_int HR1.out x7_1 p372 q372
                    obtain rfl : ad368 = ad372 := (by injection e372)
                    replace hx372_0 := (HB.out.cell (World.block_lt_of_cell? w _ hx372_0)).trans hx372_0
                    replace p372 := eq_true p372
                    replace q372 := eq_true q372
                    have p373 : 0 ≤ (x8_2 : Int) := of_decide_eq_true (by first | (with_reducible assumption) | assumption)
                    have q373 : x8_2 < (l1.length : Int) := of_decide_eq_true (by first | (with_reducible assumption) | assumption)
                    obtain ⟨ad373, e373, hx373_0⟩ := Kd.at_int HR1.out x8_2 p373 q373
                    obtain rfl : ad368 = ad373 := (by injection e373)
                    replace hx373_0 := (HB.out.cell (World.block_lt_of_cell? w _ hx373_0)).trans hx373_0
                    replace p373 := eq_true p373
                    replace q373 := eq_true q373
                    have p374 : 0 ≤ (x7_1 : Int) := of_decide_eq_true (by first | (with_reducible assumption) | assumption)
                    have q374 : x7_1 < (t362.length : Int) := of_decide_eq_true (by first | (with_reducible assumption) | assumption)
                    obtain ⟨ad374, e374, hx374_0⟩ := Kd.at_int (Kd.R_reads' HO_5.out).2.2 x7_1 p374 q374
                    obtain rfl : ad370 = ad374 := (by injection e374)
                    replace p374 := eq_true p374
                    replace q374 := eq_true q374
                    have p375 : 0 ≤ (x8_2 : Int) := of_decide_eq_true (by first | (with_reducible assumption) | assumption)
                    have q375 : x8_2 < (t362.length : Int) := of_decide_eq_true (by first | (with_reducible assumption) | assumption)
                    obtain ⟨ad375, e375, hx375_0⟩ := Kd.at_int (Kd.R_reads' HO_5.out).2.2 x8_2 p375 q375
                    obtain rfl : ad370 = ad375 := (by injection e375)
                    replace p375 := eq_true p375
                    replace q375 := eq_true q375
                    have p376 : 0 ≤ (x7_1 : Int) := of_decide_eq_true (by first | (with_reducible assumption) | assumption)
                    have q376 : x7_1 < (t362.length : Int) := of_decide_eq_true (by first | (with_reducible assumption) | assumption)
                    obtain ⟨ad376, e376, hx376_0⟩ := Kd.at_int (Kd.R_reads' HO_5.out).2.2 x7_1 p376 q376
                    obtain rfl : ad370 = ad376 := (by injection e376)
                    replace p376 := eq_true p376
                    replace q376 := eq_true q376
                    have p377 : 0 ≤ (x8_2 : Int) := of_decide_eq_true (by first | (with_reducible assumption) | assumption)
                    have q377 : x8_2 < (t362.length : Int) := of_decide_eq_true (by first | (with_reducible assumption) | assumption)
                    obtain ⟨ad377, e377, hx377_0⟩ := Kd.at_int (Kd.R_reads' HO_5.out).2.2 x8_2 p377 q377
                    obtain rfl : ad370 = ad377 := (by injection e377)
                    replace p377 := eq_true p377
                    replace q377 := eq_true q377
                    go_wp2
                    repeat (go_quiet (fail); try go_wp2)
                    go_roundg k2
                    case measure => have := HK1.out; have := HK2.out; omega
                    case rel => exact ⟨(wrap64 (x8_2 + 1)), (by first | rfl | (simp; done) | (simp [*]; done)), H', ⟨by have := HK1.out; have := HK2.out; omega⟩, ⟨by (with_reducible repeat (first | apply Kd.R_alloc | apply Kd.R_drewN | apply Kd.R_drew)); exact HO_5.out⟩, ⟨pB⟩⟩
                  ·rw [if_neg c21] at H
                   have c21b0 : decide (x7_1 < x8_2) = false := decide_eq_false c21
                   clear c21
                   have H' := Aside0.mk H
                   clear H
                   have p368 : 0 ≤ (x7_1 : Int) := of_decide_eq_true (by first | (with_reducible assumption) | assumption)
                   have q368 : x7_1 < (l1.length : Int) := of_decide_eq_true (by first | (with_reducible assumption) | assumption)
                   obtain ⟨ad368, e368, hx368_0⟩ := Kd.at_int HR1.out x7_1 p368 q368
                   cases e368
                   replace hx368_0 := (HB.out.cell (World.block_lt_of_cell? w _ hx368_0)).trans hx368_0
                   replace p368 := eq_true p368
                   replace q368 := eq_true q368
                   have p369 : 0 ≤ (x8_2 : Int) := of_decide_eq_true (by first | (with_reducible assumption) | assumption)
                   have q369 : x8_2 < (l1.length : Int) := of_decide_eq_true (by first | (with_reducible assumption) | assumption)
                   obtain ⟨ad369, e369, hx369_0⟩ := Kd.at_int HR1.out x8_2 p369 q369
                   obtain rfl : ad368 = ad369 := (by injection e369)
                   replace hx369_0 := (HB.out.cell (World.block_lt_of_cell? w _ hx369_0)).trans hx369_0
                   replace p369 := eq_true p369
                   replace q369 := eq_true q369
                   have p370 : 0 ≤ (x7_1 : Int) := of_decide_eq_true (by first | (with_reducible assumption) | assumption)
                   have q370 : x7_1 < (t362.length : Int) := of_decide_eq_true (by first | (with_reducible assumption) | assumption)
                   obtain ⟨ad370, e370, hx370_0⟩ := Kd.at_int (Kd.R_reads' HO_5.out).2.2 x7_1 p370 q370
                   cases e370
                   replace p370 := eq_true p370
                   replace q370 := eq_true q370
                   have p371 : 0 ≤ (x8_2 : Int) := of_decide_eq_true (by first | (with_reducible assumption) | assumption)
                   have q371 : x8_2 < (t362.length : Int) := of_decide_eq_true (by first | (with_reducible assumption) | assumption)
                   obtain ⟨ad371, e371, hx371_0⟩ := Kd.at_int (Kd.R_reads' HO_5.out).2.2 x8_2 p371 q371
                   obtain rfl : ad370 = ad371 := (by injection e371)
                   replace p371 := eq_true p371
                   replace q371 := eq_true q371
                   have p372 : 0 ≤ (x7_1 : Int) := of_decide_eq_true (by first | (with_reducible assumption) | assumption)
                   have q372 : x7_1 < (l1.length : Int) := of_decide_eq_true (by first | (with_reducible assumption) | assumption)
                   obtain ⟨ad372, e372, hx372_0⟩ := Kd.at_int HR1.out x7_1 p372 q372
                   obtain rfl : ad368 = ad372 := (by injection e372)
                   replace hx372_0 := (HB.out.cell (World.block_lt_of_cell? w _ hx372_0)).trans hx372_0
                   replace p372 := eq_true p372
                   replace q372 := eq_true q372
                   have p373 : 0 ≤ (x8_2 : Int) := of_decide_eq_true (by first | (with_reducible assumption) | assumption)
                   have q373 : x8_2 < (l1.length : Int) := of_decide_eq_true (by first | (with_reducible assumption) | assumption)
                   obtain ⟨ad373, e373, hx373_0⟩ := Kd.at_int HR1.out x8_2 p373 q373
                   obtain rfl : ad368 = ad373 := (by injection e373)
                   replace hx373_0 := (HB.out.cell (World.block_lt_of_cell? w _ hx373_0)).trans hx373_0
                   replace p373 := eq_true p373
                   replace q373 := eq_true q373
                   go_wp2
                   repeat (go_quiet (fail); try go_wp2)
                   go_roundg k2
                   case measure => have := HK1.out; have := HK2.out; omega
                   case rel => exact ⟨(wrap64 (x8_2 + 1)), (by first | rfl | (simp; done) | (simp [*]; done)), H', ⟨by have := HK1.out; have := HK2.out; omega⟩, ⟨by (with_reducible repeat (first | apply Kd.R_alloc | apply Kd.R_drewN | apply Kd.R_drew)); exact HO_5.out⟩, ⟨pB⟩⟩
                 ·rw [if_neg c20] at H
                  have c20b0 : ((rd l1 x7_1) == (rd l1 x8_2)) = false := beq_eq_false_iff_ne.mpr c20
                  have c20b1 : ((rd l1 x7_1) != (rd l1 x8_2)) = true := bne_iff_ne.mpr c20
                  have H' := Aside0.mk H
                  clear H
                  have p368 : 0 ≤ (x7_1 : Int) := of_decide_eq_true (by first | (with_reducible assumption) | assumption)
                  have q368 : x7_1 < (l1.length : Int) := of_decide_eq_true (by first | (with_reducible assumption) | assumption)
                  obtain ⟨ad368, e368, hx368_0⟩ := Kd.at_int HR1.out x7_1 p368 q368
                  cases e368
                  replace hx368_0 := (HB.out.cell (World.block_lt_of_cell? w _ hx368_0)).trans hx368_0
                  replace p368 := eq_true p368
                  replace q368 := eq_true q368
                  have p369 : 0 ≤ (x8_2 : Int) := of_decide_eq_true (by first | (with_reducible assumption) | assumption)
                  have q369 : x8_2 < (l1.length : Int) := of_decide_eq_true (by first | (with_reducible assumption) | assumption)
                  obtain ⟨ad369, e369, hx369_0⟩ := Kd.at_int HR1.out x8_2 p369 q369
                  obtain rfl : ad368 = ad369 := (by injection e369)
                  replace hx369_0 := (HB.out.cell (World.block_lt_of_cell? w _ hx369_0)).trans hx369_0
                  replace p369 := eq_true p369
                  replace q369 := eq_true q369
                  have p370 : 0 ≤ (x7_1 : Int) := of_decide_eq_true (by first | (with_reducible assumption) | assumption)
                  have q370 : x7_1 < (t362.length : Int) := of_decide_eq_true (by first | (with_reducible assumption) | assumption)
                  obtain ⟨ad370, e370, hx370_0⟩ := Kd.at_int (Kd.R_reads' HO_5.out).2.2 x7_1 p370 q370
                  cases e370
                  replace p370 := eq_true p370
                  replace q370 := eq_true q370
                  have p371 : 0 ≤ (x8_2 : Int) := of_decide_eq_true (by first | (with_reducible assumption) | assumption)
                  have q371 : x8_2 < (t362.length : Int) := of_decide_eq_true (by first | (with_reducible assumption) | assumption)
                  obtain ⟨ad371, e371, hx371_0⟩ := Kd.at_int (Kd.R_reads' HO_5.out).2.2 x8_2 p371 q371
                  obtain rfl : ad370 = ad371 := (by injection e371)
                  replace p371 := eq_true p371
                  replace q371 := eq_true q371
                  have p372 : 0 ≤ (x7_1 : Int) := of_decide_eq_true (by first | (with_reducible assumption) | assumption)
                  have q372 : x7_1 < (l1.length : Int) := of_decide_eq_true (by first | (with_reducible assumption) | assumption)
                  obtain ⟨ad372, e372, hx372_0⟩ := Kd.at_int HR1.out x7_1 p372 q372
                  obtain rfl : ad368 = ad372 := (by injection e372)
                  replace hx372_0 := (HB.out.cell (World.block_lt_of_cell? w _ hx372_0)).trans hx372_0
                  replace p372 := eq_true p372
                  replace q372 := eq_true q372
                  have p373 : 0 ≤ (x8_2 : Int) := of_decide_eq_true (by first | (with_reducible assumption) | assumption)
                  have q373 : x8_2 < (l1.length : Int) := of_decide_eq_true (by first | (with_reducible assumption) | assumption)
                  obtain ⟨ad373, e373, hx373_0⟩ := Kd.at_int HR1.out x8_2 p373 q373
                  obtain rfl : ad368 = ad373 := (by injection e373)
                  replace hx373_0 := (HB.out.cell (World.block_lt_of_cell? w _ hx373_0)).trans hx373_0
                  replace p373 := eq_true p373
                  replace q373 := eq_true q373
                  go_wp2
                  repeat (go_quiet (fail); try go_wp2)
                  go_roundg k2
                  case measure => have := HK1.out; have := HK2.out; omega
                  case rel => exact ⟨(wrap64 (x8_2 + 1)), (by first | rfl | (simp; done) | (simp [*]; done)), H', ⟨by have := HK1.out; have := HK2.out; omega⟩, ⟨by (with_reducible repeat (first | apply Kd.R_alloc | apply Kd.R_drewN | apply Kd.R_drew)); exact HO_5.out⟩, ⟨pB⟩⟩
               ·rw [if_neg c18] at H
                exact absurd H (by simp)
              ·rw [if_neg c17] at H
               have c17b0 : decide ((rd l1 x8_2) < (rd l1 x7_1)) = false := decide_eq_false c17
               clear c17
               by_cases c23 : (rd l1 x7_1) = (rd l1 x8_2)
               ·rw [if_pos c23] at H
                have c23b0 : ((rd l1 x7_1) == (rd l1 x8_2)) = true := beq_iff_eq.mpr c23
                have c23b1 : ((rd l1 x7_1) != (rd l1 x8_2)) = false := bne_eq_false_iff_eq.mpr c23
                clear c23
                by_cases c24 : x7_1 < x8_2
                ·rw [if_pos c24] at H
                 have c24b0 : decide (x7_1 < x8_2) = true := decide_eq_true c24
                 clear c24
                 by_cases c25 : x7_1 < (t362.length : Int)
                 ·rw [if_pos c25] at H
                  have c25b0 : decide (x7_1 < (t362.length : Int)) = true := decide_eq_true c25
                  clear c25
                  by_cases c26 : (rd t362 x7_1) < (rd t362 x8_2)
                  ·rw [if_pos c26] at H
                   exact absurd H (by simp)
                  ·rw [if_neg c26] at H
                   have c26b0 : decide ((rd t362 x7_1) < (rd t362 x8_2)) = false := decide_eq_false c26
                   clear c26
                   by_cases c27 : (rd t362 x7_1) > (wrap64 ((rd t362 x8_2) + 1))
                   ·rw [if_pos c27] at H
                    exact absurd H (by simp)
                   ·rw [if_neg c27] at H
                    have c27b0 : decide ((wrap64 ((rd t362 x8_2) + 1)) < (rd t362 x7_1)) = false := decide_eq_false c27
                    have c27b0w : decide ((IntKind.i64.wrap ((rd t362 x8_2) + 1)) < (rd t362 x7_1)) = false := by have h_ := c27b0; first | exact h_ | (simp only [i64_w]; exact h_)
                    clear c27
                    have H' := Aside0.mk H
                    clear H
                    have p368 : 0 ≤ (x7_1 : Int) := of_decide_eq_true (by first | (with_reducible assumption) | assumption)
                    have q368 : x7_1 < (l1.length : Int) := of_decide_eq_true (by first | (with_reducible assumption) | assumption)
                    obtain ⟨ad368, e368, hx368_0⟩ := Kd.at_int HR1.out x7_1 p368 q368
                    cases e368
                    replace hx368_0 := (HB.out.cell (World.block_lt_of_cell? w _ hx368_0)).trans hx368_0
                    replace p368 := eq_true p368
                    replace q368 := eq_true q368
                    have p369 : 0 ≤ (x8_2 : Int) := of_decide_eq_true (by first | (with_reducible assumption) | assumption)
                    have q369 : x8_2 < (l1.length : Int) := of_decide_eq_true (by first | (with_reducible assumption) | assumption)
                    obtain ⟨ad369, e369, hx369_0⟩ := Kd.at_int HR1.out x8_2 p369 q369
                    obtain rfl : ad368 = ad369 := (by injection e369)
                    replace hx369_0 := (HB.out.cell (World.block_lt_of_cell? w _ hx369_0)).trans hx369_0
                    replace p369 := eq_true p369
                    replace q369 := eq_true q369
                    have p378 : 0 ≤ (x7_1 : Int) := of_decide_eq_true (by first | (with_reducible assumption) | assumption)
                    have q378 : x7_1 < (l1.length : Int) := of_decide_eq_true (by first | (with_reducible assumption) | assumption)
                    obtain ⟨ad378, e378, hx378_0⟩ := Kd.at_int HR1.out x7_1 p378 q378
                    obtain rfl : ad368 = ad378 := (by injection e378)
                    replace hx378_0 := (HB.out.cell (World.block_lt_of_cell? w _ hx378_0)).trans hx378_0
                    replace p378 := eq_true p378
                    replace q378 := eq_true q378
                    have p379 : 0 ≤ (x8_2 : Int) := of_decide_eq_true (by first | (with_reducible assumption) | assumption)
                    have q379 : x8_2 < (l1.length : Int) := of_decide_eq_true (by first | (with_reducible assumption) | assumption)
                    obtain ⟨ad379, e379, hx379_0⟩ := Kd.at_int HR1.out x8_2 p379 q379
                    obtain rfl : ad368 = ad379 := (by injection e379)
                    replace hx379_0 := (HB.out.cell (World.block_lt_of_cell? w _ hx379_0)).trans hx379_0
                    replace p379 := eq_true p379
                    replace q379 := eq_true q379
                    have p380 : 0 ≤ (x7_1 : Int) := of_decide_eq_true (by first | (with_reducible assumption) | assumption)
                    have q380 : x7_1 < (t362.length : Int) := of_decide_eq_true (by first | (with_reducible assumption) | assumption)
                    obtain ⟨ad380, e380, hx380_0⟩ := Kd.at_int (Kd.R_reads' HO_5.out).2.2 x7_1 p380 q380
                    cases e380
                    replace p380 := eq_true p380
                    replace q380 := eq_true q380
                    have p381 : 0 ≤ (x8_2 : Int) := of_decide_eq_true (by first | (with_reducible assumption) | assumption)
                    have q381 : x8_2 < (t362.length : Int) := of_decide_eq_true (by first | (with_reducible assumption) | assumption)
                    obtain ⟨ad381, e381, hx381_0⟩ := Kd.at_int (Kd.R_reads' HO_5.out).2.2 x8_2 p381 q381
                    obtain rfl : ad380 = ad381 := (by injection e381)
                    replace p381 := eq_true p381
                    replace q381 := eq_true q381
                    have p382 : 0 ≤ (x7_1 : Int) := of_decide_eq_true (by first | (with_reducible assumption) | assumption)
                    have q382 : x7_1 < (t362.length : Int) := of_decide_eq_true (by first | (with_reducible assumption) | assumption)
                    obtain ⟨ad382, e382, hx382_0⟩ := Kd.at_int (Kd.R_reads' HO_5.out).2.2 x7_1 p382 q382
                    obtain rfl : ad380 = ad382 := (by injection e382)
                    replace p382 := eq_true p382
                    replace q382 := eq_true q382
                    have p383 : 0 ≤ (x8_2 : Int) := of_decide_eq_true (by first | (with_reducible assumption) | assumption)
                    have q383 : x8_2 < (t362.length : Int) := of_decide_eq_true (by first | (with_reducible assumption) | assumption)
                    obtain ⟨ad383, e383, hx383_0⟩ := Kd.at_int (Kd.R_reads' HO_5.out).2.2 x8_2 p383 q383
                    obtain rfl : ad380 = ad383 := (by injection e383)
                    replace p383 := eq_true p383
                    replace q383 := eq_true q383
                    go_wp2
                    repeat (go_quiet (fail); try go_wp2)
                    go_roundg k2
                    case measure => have := HK1.out; have := HK2.out; omega
                    case rel => exact ⟨(wrap64 (x8_2 + 1)), (by first | rfl | (simp; done) | (simp [*]; done)), H', ⟨by have := HK1.out; have := HK2.out; omega⟩, ⟨by (with_reducible repeat (first | apply Kd.R_alloc | apply Kd.R_drewN | apply Kd.R_drew)); exact HO_5.out⟩, ⟨pB⟩⟩
                 ·rw [if_neg c25] at H
                  exact absurd H (by simp)
                ·rw [if_neg c24] at H
                 have c24b0 : decide (x7_1 < x8_2) = false := decide_eq_false c24
                 clear c24
                 have H' := Aside0.mk H
                 clear H
                 have p368 : 0 ≤ (x7_1 : Int) := of_decide_eq_true (by first | (with_reducible assumption) | assumption)
                 have q368 : x7_1 < (l1.length : Int) := of_decide_eq_true (by first | (with_reducible assumption) | assumption)
                 obtain ⟨ad368, e368, hx368_0⟩ := Kd.at_int HR1.out x7_1 p368 q368
                 cases e368
                 replace hx368_0 := (HB.out.cell (World.block_lt_of_cell? w _ hx368_0)).trans hx368_0
                 replace p368 := eq_true p368
                 replace q368 := eq_true q368
                 have p369 : 0 ≤ (x8_2 : Int) := of_decide_eq_true (by first | (with_reducible assumption) | assumption)
                 have q369 : x8_2 < (l1.length : Int) := of_decide_eq_true (by first | (with_reducible assumption) | assumption)
                 obtain ⟨ad369, e369, hx369_0⟩ := Kd.at_int HR1.out x8_2 p369 q369
                 obtain rfl : ad368 = ad369 := (by injection e369)
                 replace hx369_0 := (HB.out.cell (World.block_lt_of_cell? w _ hx369_0)).trans hx369_0
                 replace p369 := eq_true p369
                 replace q369 := eq_true q369
                 have p378 : 0 ≤ (x7_1 : Int) := of_decide_eq_true (by first | (with_reducible assumption) | assumption)
                 have q378 : x7_1 < (l1.length : Int) := of_decide_eq_true (by first | (with_reducible assumption) | assumption)
                 obtain ⟨ad378, e378, hx378_0⟩ := Kd.at_int HR1.out x7_1 p378 q378
                 obtain rfl : ad368 = ad378 := (by injection e378)
                 replace hx378_0 := (HB.out.cell (World.block_lt_of_cell? w _ hx378_0)).trans hx378_0
                 replace p378 := eq_true p378
                 replace q378 := eq_true q378
                 have p379 : 0 ≤ (x8_2 : Int) := of_decide_eq_true (by first | (with_reducible assumption) | assumption)
                 have q379 : x8_2 < (l1.length : Int) := of_decide_eq_true (by first | (with_reducible assumption) | assumption)
                 obtain ⟨ad379, e379, hx379_0⟩ := Kd.at_int HR1.out x8_2 p379 q379
                 obtain rfl : ad368 = ad379 := (by injection e379)
                 replace hx379_0 := (HB.out.cell (World.block_lt_of_cell? w _ hx379_0)).trans hx379_0
                 replace p379 := eq_true p379
                 replace q379 := eq_true q379
                 go_wp2
                 repeat (go_quiet (fail); try go_wp2)
                 go_roundg k2
                 case measure => have := HK1.out; have := HK2.out; omega
                 case rel => exact ⟨(wrap64 (x8_2 + 1)), (by first | rfl | (simp; done) | (simp [*]; done)), H', ⟨by have := HK1.out; have := HK2.out; omega⟩, ⟨by (with_reducible repeat (first | apply Kd.R_alloc | apply Kd.R_drewN | apply Kd.R_drew)); exact HO_5.out⟩, ⟨pB⟩⟩
               ·rw [if_neg c23] at H
                have c23b0 : ((rd l1 x7_1) == (rd l1 x8_2)) = false := beq_eq_false_iff_ne.mpr c23
                have c23b1 : ((rd l1 x7_1) != (rd l1 x8_2)) = true := bne_iff_ne.mpr c23
                have H' := Aside0.mk H
                clear H
                have p368 : 0 ≤ (x7_1 : Int) := of_decide_eq_true (by first | (with_reducible assumption) | assumption)
                have q368 : x7_1 < (l1.length : Int) := of_decide_eq_true (by first | (with_reducible assumption) | assumption)
                obtain ⟨ad368, e368, hx368_0⟩ := Kd.at_int HR1.out x7_1 p368 q368
                cases e368
                replace hx368_0 := (HB.out.cell (World.block_lt_of_cell? w _ hx368_0)).trans hx368_0
                replace p368 := eq_true p368
                replace q368 := eq_true q368
                have p369 : 0 ≤ (x8_2 : Int) := of_decide_eq_true (by first | (with_reducible assumption) | assumption)
                have q369 : x8_2 < (l1.length : Int) := of_decide_eq_true (by first | (with_reducible assumption) | assumption)
                obtain ⟨ad369, e369, hx369_0⟩ := Kd.at_int HR1.out x8_2 p369 q369
                obtain rfl : ad368 = ad369 := (by injection e369)
                replace hx369_0 := (HB.out.cell (World.block_lt_of_cell? w _ hx369_0)).trans hx369_0
                replace p369 := eq_true p369
                replace q369 := eq_true q369
                have p378 : 0 ≤ (x7_1 : Int) := of_decide_eq_true (by first | (with_reducible assumption) | assumption)
                have q378 : x7_1 < (l1.length : Int) := of_decide_eq_true (by first | (with_reducible assumption) | assumption)
                obtain ⟨ad378, e378, hx378_0⟩ := Kd.at_int HR1.out x7_1 p378 q378
                obtain rfl : ad368 = ad378 := (by injection e378)
                replace hx378_0 := (HB.out.cell (World.block_lt_of_cell? w _ hx378_0)).trans hx378_0
                replace p378 := eq_true p378
                replace q378 := eq_true q378
                have p379 : 0 ≤ (x8_2 : Int) := of_decide_eq_true (by first | (with_reducible assumption) | assumption)
                have q379 : x8_2 < (l1.length : Int) := of_decide_eq_true (by first | (with_reducible assumption) | assumption)
                obtain ⟨ad379, e379, hx379_0⟩ := Kd.at_int HR1.out x8_2 p379 q379
                obtain rfl : ad368 = ad379 := (by injection e379)
                replace hx379_0 := (HB.out.cell (World.block_lt_of_cell? w _ hx379_0)).trans hx379_0
                replace p379 := eq_true p379
                replace q379 := eq_true q379
                go_wp2
                repeat (go_quiet (fail); try go_wp2)
                go_roundg k2
                case measure => have := HK1.out; have := HK2.out; omega
                case rel => exact ⟨(wrap64 (x8_2 + 1)), (by first | rfl | (simp; done) | (simp [*]; done)), H', ⟨by have := HK1.out; have := HK2.out; omega⟩, ⟨by (with_reducible repeat (first | apply Kd.R_alloc | apply Kd.R_drewN | apply Kd.R_drew)); exact HO_5.out⟩, ⟨pB⟩⟩
             ·rw [if_neg c16] at H
              exact absurd H (by simp)
            ·rw [if_neg c15] at H
             exact absurd H (by simp)
           ·rw [if_neg c14] at H
            exact absurd H (by simp)
          ·rw [if_neg c13] at H
           exact absurd H (by simp)
         ·rw [if_neg c12] at H
          have c12b0 : decide (x8_2 < (t362.length : Int)) = false := decide_eq_false c12
          clear c12
          have H' := Aside0.mk H
          clear H
          go_wp2
          repeat (go_quiet (fail); try go_wp2)
          go_roundg k2
          case measure => have := HK1.out; have := HK2.out; omega
          case rel => exact ⟨(wrap64 (x7_1 + 1)), (by first | rfl | (simp; done) | (simp [*]; done)), H', ⟨by have := HK1.out; have := HK2.out; omega⟩, ⟨by (with_reducible repeat (first | apply Kd.R_alloc | apply Kd.R_drewN | apply Kd.R_drew)); exact HO_5.out⟩, ⟨pB⟩⟩
      ·rw [if_neg c11] at H
       have c11b0 : decide (x7_1 < (t362.length : Int)) = false := decide_eq_false c11
       clear c11
       replace H := Option.bind_eq_some_iff.mp H
       obtain ⟨t367, A280, H⟩ := H
       replace H : (some t367) = some r := H
       have A28 := Aside0.mk A280
       clear A280
       obtain rfl := Option.some.inj H
       go_wp2_with (first | (go_at_call 9; (with_reducible refine (papermilllaw12_awake.calls k1  t367 _ A28.out).mono ?_); rintro e w29 ⟨rfl, hb⟩; replace HO_5 := Aside0.mk (Kd.R_below (rX HO_5.out) hb); replace HB := Aside0.mk (below_step pB hb); (try clear hb); (try clear hb2); (try clear hk); (try clear hi)))
       repeat (go_quiet (first | (go_at_call 9; (with_reducible refine (papermilllaw12_awake.calls k1  t367 _ A28.out).mono ?_); rintro e w29 ⟨rfl, hb⟩; replace HO_5 := Aside0.mk (Kd.R_below (rX HO_5.out) hb); replace HB := Aside0.mk (below_step pB hb); (try clear hb); (try clear hb2); (try clear hk); (try clear hi))); try go_wp2_with (first | (go_at_call 9; (with_reducible refine (papermilllaw12_awake.calls k1  t367 _ A28.out).mono ?_); rintro e w29 ⟨rfl, hb⟩; replace HO_5 := Aside0.mk (Kd.R_below (rX HO_5.out) hb); replace HB := Aside0.mk (below_step pB hb); (try clear hb); (try clear hb2); (try clear hk); (try clear hi))))
       go_ret
       exact ⟨by first | rfl | (simp [errW_none, errW_some] <;> rfl) | (simp [*, errW_none, errW_some] <;> rfl), pB⟩
   ·rw [if_neg c8] at H
    exact absurd H (by simp)
  ·rw [if_neg c7] at H
   have c7b0 : (t363 == 0) = false := beq_eq_false_iff_ne.mpr c7
   have c7b1 : (t363 != 0) = true := bne_iff_ne.mpr c7
   replace H := Option.bind_eq_some_iff.mp H
   obtain ⟨t366, A300, H⟩ := H
   replace H : (some t366) = some r := H
   have A30 := Aside0.mk A300
   clear A300
   obtain rfl := Option.some.inj H
   go_enter Try.func5, Try.ntmps5
   have fl_ : True := trivial
   repeat ((first | clear fl_ | go_quiet (first | (go_at_call 11; (with_reducible refine (share_Split.calls k a0 _ _ l1 t362 t363 _ ?side1 ?side2 A6.out).mono ?_); (case side1 => repeat (first | exact HR1.out | (with_reducible refine Kd.C_alloc ?_ _) | (with_reducible refine Kd.C_drewN ?_ _) | (with_reducible refine Kd.C_drew ?_))); (case side2 => exact HC1.out); rintro e w31 ⟨v364, rfl, ho0, hb⟩; have HO365 := Aside0.mk (Kd.R_lower ho0 (below_size pB)); replace HB := Aside0.mk (below_step pB hb); (try clear hb); (try clear hb2); (try clear hk); (try clear hi); (try clear ho0)) | (go_at_call 9; (with_reducible refine (papermilllaw12_awake.calls k  t366 _ A30.out).mono ?_); rintro e w32 ⟨rfl, hb⟩; replace HO365 := Aside0.mk (Kd.R_below (rX HO365.out) hb); replace HB := Aside0.mk (below_step pB hb); (try clear hb); (try clear hb2); (try clear hk); (try clear hi)))); go_wp2_with (first | (go_at_call 11; (with_reducible refine (share_Split.calls k a0 _ _ l1 t362 t363 _ ?side1 ?side2 A6.out).mono ?_); (case side1 => repeat (first | exact HR1.out | (with_reducible refine Kd.C_alloc ?_ _) | (with_reducible refine Kd.C_drewN ?_ _) | (with_reducible refine Kd.C_drew ?_))); (case side2 => exact HC1.out); rintro e w31 ⟨v364, rfl, ho0, hb⟩; have HO365 := Aside0.mk (Kd.R_lower ho0 (below_size pB)); replace HB := Aside0.mk (below_step pB hb); (try clear hb); (try clear hb2); (try clear hk); (try clear hi); (try clear ho0)) | (go_at_call 9; (with_reducible refine (papermilllaw12_awake.calls k  t366 _ A30.out).mono ?_); rintro e w32 ⟨rfl, hb⟩; replace HO365 := Aside0.mk (Kd.R_below (rX HO365.out) hb); replace HB := Aside0.mk (below_step pB hb); (try clear hb); (try clear hb2); (try clear hk); (try clear hi))))
   go_ret
   exact ⟨by first | rfl | (simp [errW_none, errW_some] <;> rfl) | (simp [*, errW_none, errW_some] <;> rfl), pB⟩

/-- THE ONE PURE STATEMENT of papermilllaw12_ShareOrder: yours. -/
def papermilllaw12_ShareOrder.Pure : Prop := ∀ (a0 : Int) (l1 : List Int), (Lit.int .i64 a0).wf = true → l1.length ≤ maxLen → l1.length * 8 ≤ 140737488351232 → (∀ x ∈ l1, (Lit.int .i64 x).wf = true) → ∃ k, papermilllaw12_ShareOrder.f k a0 l1 = some true
theorem papermilllaw12_ShareOrder.walk (P : papermilllaw12_ShareOrder.Pure) (a0 : Int) (a1 : Option Addr) (len1 cap1 : Nat) (z1 : List Int) (w : World) (w0 : (Lit.int .i64 a0).wf = true) (w1 : (a1 = none ∧ len1 = 0 ∧ cap1 = 0 ∧ z1 = []) ∨ ∃ x, a1 = some x ∧ len1 ≤ cap1 ∧ cap1 ≤ maxLen ∧ z1.length = cap1 ∧ (∀ i, i < z1.length → w.cell? (x.add i) = some (.int .i64 (z1.getD i 0))) ∧ ∀ n ∈ z1, (Lit.int .i64 n).wf = true) (y1 : len1 * 8 ≤ 140737488351232) :
  Calls Try.prog 5 #[.int .i64 a0, .slice a1 len1 cap1] w fun e w' => e = .returned (.bool true) ∧ Below w.heap.size w w' := by
 obtain ⟨l1, rfl, hr1, hm1, hw1, hc1⟩ := ReadsInt.ofRowC w1
 obtain ⟨k, h⟩ := P a0 l1 w0 hm1 y1 hw1
 refine (papermilllaw12_ShareOrder.calls k a0 _ _ l1 true w (Kd.C_of_reads (d := (0 : Int)) (h1 := fun _ => rfl) hr1) hc1 h).mono ?_
 rintro e w' ⟨rfl, hd⟩
 exact ⟨rfl, hd⟩

end Go.Proofs.Ytloihkecfommbaa.Print
