-- Written by wip/tools/myprint.py out of the translation. Not trusted: Lean checks it.
import Derived.Test.YtloihkecfommbaaPrint0
import Derived.Test.YtloihkecfommbaaPrint11
import Derived.Test.YtloihkecfommbaaPrint12
import Derived.Test.YtloihkecfommbaaPrint15
namespace Go.Proofs.Ytloihkecfommbaa.Print
open Go.RowKit Go.Proofs.YtloihkecfommbaaW.PrintWords Go.Proofs.YtloihkecfommbaaW.PrintLast Go.Proofs.YtloihkecfommbaaW.PrintMore
attribute [local go_sem] max2_int min2_int max_two min_two max_three min_three max_four min_four   -- for this text's walks alone
set_option linter.unusedVariables false
set_option linter.unusedSimpArgs false

/-! ### papermilllaw12_ShareScale: function 6 -/
mutual
def papermilllaw12_ShareScale.j0 : Nat → Int → List Int → Int → Bool → Option (Bool)
 | 0, _, _, _, _ => none
 | k + 1, x0, x1, x2, x28 => if x28 = true then ((papermilllaw12_awake.f k).bind fun t384 => (some t384)) else (papermilllaw12_ShareScale.l0 k x0 x1 x2 ([] : List Int) 0 0)
def papermilllaw12_ShareScale.l0 : Nat → Int → List Int → Int → List Int → Int → Int → Option (Bool)
 | 0, _, _, _, _, _, _ => none
 | k + 1, x0, x1, x2, x7, x8, x9 => if x9 < (x1.length : Int) then (if 0 ≤ x9 then (if (rd x1 x9) < 0 then ((papermilllaw12_awake.f k).bind fun t386 => (some t386)) else (if (rd x1 x9) > 28147497671 then ((papermilllaw12_awake.f k).bind fun t388 => (some t388)) else (if x7.length < 17592186044416 then (papermilllaw12_ShareScale.l0 k x0 x1 x2 (x7 ++ [wrap64 ((rd x1 x9) * x2)]) (wrap64 (x8 + (wrap64 ((rd x1 x9) * x2)))) (wrap64 (x9 + 1))) else (none)))) else (none)) else ((share_Split.f k x0 x1).bind fun bt394 => ((share_Split.f k x0 x7).bind fun bt398 => ((share_Bounds.f k x0 x1).bind fun bt402 => ((share_Bounds.f k x0 x7).bind fun bt406 => ((papermillref12_Same.f k bt394.1 bt398.1).bind fun t410 => (if t410 = true then (if bt394.2 = bt398.2 then ((papermillref12_Same.f k bt402.1 bt406.1).bind fun t411 => (if t411 = true then (if bt402.2 = bt406.2 then (if x8 ≤ 1125899906842624 then ((papermilllaw12_awake.f k).bind fun t412 => (some t412)) else (none)) else (none)) else (none))) else (none)) else (none)))))))
end
def papermilllaw12_ShareScale.f (k : Nat) (a0 : Int) (l1 : List Int) (a2 : Int) : Option (Bool) := if (l1.length : Int) > 40 then (papermilllaw12_ShareScale.j0 k a0 l1 a2 true) else (if a2 < 1 then (papermilllaw12_ShareScale.j0 k a0 l1 a2 true) else (papermilllaw12_ShareScale.j0 k a0 l1 a2 (decide (a2 > 1000))))
theorem papermilllaw12_ShareScale.mono_l : ∀ k, (∀ y0 y1 y2 y3, LeO (papermilllaw12_ShareScale.j0 k y0 y1 y2 y3) (papermilllaw12_ShareScale.j0 (k + 1) y0 y1 y2 y3)) ∧ (∀ y0 y1 y2 y3 y4 y5, LeO (papermilllaw12_ShareScale.l0 k y0 y1 y2 y3 y4 y5) (papermilllaw12_ShareScale.l0 (k + 1) y0 y1 y2 y3 y4 y5))
 | 0 => ⟨fun _ _ _ _ r h => by simp [papermilllaw12_ShareScale.j0] at h, fun _ _ _ _ _ _ r h => by simp [papermilllaw12_ShareScale.l0] at h⟩
 | k + 1 => by
  obtain ⟨ih0, ih1⟩ := papermilllaw12_ShareScale.mono_l k
  refine ⟨?_, ?_⟩
  ·intro y0 y1 y2 y3
   unfold papermilllaw12_ShareScale.j0
   repeat' first
   | (with_reducible exact ih0 _ _ _ _)
   | (with_reducible exact ih1 _ _ _ _ _ _)
   | (with_reducible exact papermilllaw12_awake.mono _)
   | (with_reducible exact papermillref12_Same.mono _ _ _)
   | (with_reducible exact share_Bounds.mono _ _ _)
   | (with_reducible exact share_Split.mono _ _ _)
   | (with_reducible exact LeO.refl _)
   | (with_reducible exact LeO.none _)
   | (with_reducible refine LeO.ite ?_ ?_)
   | (with_reducible refine LeO.bind ?_ (fun _ => ?_))
   | exact ih0 _ _ _ _
   | exact ih1 _ _ _ _ _ _
   | exact papermilllaw12_awake.mono _
   | exact papermillref12_Same.mono _ _ _
   | exact share_Bounds.mono _ _ _
   | exact share_Split.mono _ _ _
   | exact LeO.none _
   | refine LeO.ite ?_ ?_
   | refine LeO.bind ?_ (fun _ => ?_)
  ·intro y0 y1 y2 y3 y4 y5
   unfold papermilllaw12_ShareScale.l0
   repeat' first
   | (with_reducible exact ih0 _ _ _ _)
   | (with_reducible exact ih1 _ _ _ _ _ _)
   | (with_reducible exact papermilllaw12_awake.mono _)
   | (with_reducible exact papermillref12_Same.mono _ _ _)
   | (with_reducible exact share_Bounds.mono _ _ _)
   | (with_reducible exact share_Split.mono _ _ _)
   | (with_reducible exact LeO.refl _)
   | (with_reducible exact LeO.none _)
   | (with_reducible refine LeO.ite ?_ ?_)
   | (with_reducible refine LeO.bind ?_ (fun _ => ?_))
   | exact ih0 _ _ _ _
   | exact ih1 _ _ _ _ _ _
   | exact papermilllaw12_awake.mono _
   | exact papermillref12_Same.mono _ _ _
   | exact share_Bounds.mono _ _ _
   | exact share_Split.mono _ _ _
   | exact LeO.none _
   | refine LeO.ite ?_ ?_
   | refine LeO.bind ?_ (fun _ => ?_)
theorem papermilllaw12_ShareScale.mono : ∀ a0 a1 a2 k, LeO (papermilllaw12_ShareScale.f k a0 a1 a2) (papermilllaw12_ShareScale.f (k + 1) a0 a1 a2) := by
 intro a0 a1 a2 k
 obtain ⟨ih0, ih1⟩ := papermilllaw12_ShareScale.mono_l k
 unfold papermilllaw12_ShareScale.f
 repeat' first
   | (with_reducible exact ih0 _ _ _ _)
   | (with_reducible exact ih1 _ _ _ _ _ _)
   | (with_reducible exact papermilllaw12_awake.mono _)
   | (with_reducible exact papermillref12_Same.mono _ _ _)
   | (with_reducible exact share_Bounds.mono _ _ _)
   | (with_reducible exact share_Split.mono _ _ _)
   | (with_reducible exact LeO.refl _)
   | (with_reducible exact LeO.none _)
   | (with_reducible refine LeO.ite ?_ ?_)
   | (with_reducible refine LeO.bind ?_ (fun _ => ?_))
   | exact ih0 _ _ _ _
   | exact ih1 _ _ _ _ _ _
   | exact papermilllaw12_awake.mono _
   | exact papermillref12_Same.mono _ _ _
   | exact share_Bounds.mono _ _ _
   | exact share_Split.mono _ _ _
   | exact LeO.none _
   | refine LeO.ite ?_ ?_
   | refine LeO.bind ?_ (fun _ => ?_)
set_option maxHeartbeats 8000000 in
set_option maxRecDepth 100000 in
theorem papermilllaw12_ShareScale.calls (k : Nat) (a0 : Int) (A1 : Option Addr) (c1 : Nat) (l1 : List Int) (a2 : Int) (r : Bool) (w : World) (hr1 : Kd.C (Kd.int .i64) w A1 l1.length l1) (hc1 : l1.length ≤ c1) (h : papermilllaw12_ShareScale.f k a0 l1 a2 = some r) :
  Calls Try.prog 6 #[.int .i64 a0, .slice A1 l1.length c1, .int .i64 a2] w fun e w' => e = .returned (.bool r) ∧ Below w.heap.size w w' := by
 have HR1 := Aside0.mk hr1
 have HC1 := Aside0.mk hc1
 clear hr1 hc1
 have HB := Aside0.mk (Below.refl w.heap.size w)
 have H : (if (l1.length : Int) > 40 then (papermilllaw12_ShareScale.j0 k a0 l1 a2 true) else (if a2 < 1 then (papermilllaw12_ShareScale.j0 k a0 l1 a2 true) else (papermilllaw12_ShareScale.j0 k a0 l1 a2 (decide (a2 > 1000))))) = some r := h
 clear h
 have HC4 := Aside0.mk H
 clear H
 go_enter Try.func6, Try.ntmps6
 go_upto_region 1 with (fail)
 go_cut [28] (fun v28 wc => ∃ (kq : Nat) (x28_3 : Bool), v28 = .bool x28_3 ∧ Aside0 (papermilllaw12_ShareScale.j0 kq a0 l1 a2 x28_3 = some r) ∧ Aside0 (kq ≤ k) ∧ Aside0 (Below w.heap.size w wc))
 case first =>
  have H := HC4.out
  clear HC4
  by_cases c5 : (l1.length : Int) > 40
  ·rw [if_pos c5] at H
   have c5b0 : decide (40 < (l1.length : Int)) = true := decide_eq_true c5
   have c5b1 : decide (40 < l1.length) = true := decide_eq_true (by omega)
   clear c5
   (first | rw [c5b0] | (simp only [i64_w, i32_w]; rw [c5b0]) | skip)
   have H' := Aside0.mk H
   clear H
   go_wp2
   go_meet
   case rel => exact ⟨_, (true), (by first | rfl | (simp; done) | (simp [*]; done)), H', ⟨by first | omega | exact Nat.le_refl _⟩, ⟨pB⟩⟩
  ·rw [if_neg c5] at H
   have c5b0 : decide (40 < (l1.length : Int)) = false := decide_eq_false c5
   have c5b1 : decide (40 < l1.length) = false := decide_eq_false (by omega)
   clear c5
   (first | rw [c5b0] | (simp only [i64_w, i32_w]; rw [c5b0]) | skip)
   by_cases c6 : a2 < 1
   ·rw [if_pos c6] at H
    have c6b0 : decide (a2 < 1) = true := decide_eq_true c6
    clear c6
    have H' := Aside0.mk H
    clear H
    go_wp2
    go_meet
    case rel => exact ⟨_, (true), (by first | rfl | (simp; done) | (simp [*]; done)), H', ⟨by first | omega | exact Nat.le_refl _⟩, ⟨pB⟩⟩
   ·rw [if_neg c6] at H
    have c6b0 : decide (a2 < 1) = false := decide_eq_false c6
    clear c6
    have H' := Aside0.mk H
    clear H
    go_wp2
    go_meet
    case rel => exact ⟨_, (decide (a2 > 1000)), (by first | rfl | (simp; done) | (simp [*]; done)), H', ⟨by first | omega | exact Nat.le_refl _⟩, ⟨pB⟩⟩
 case rest =>
  clear HC4
  try clear c1
  try clear p2
  try clear c5
  try clear c5b0
  try clear c5b1
  try clear c6
  try clear c6b0
  obtain ⟨kq, x28_3, rfl, HA, HJ3, HB⟩ := hcut
  cases kq with
  | zero => exact absurd HA.out (by simp [papermilllaw12_ShareScale.j0])
  | succ kj3 =>
   have H := HA.out
   clear HA
   simp only [papermilllaw12_ShareScale.j0] at H
   by_cases c7 : x28_3 = true
   ·subst c7
    have H1 : ((papermilllaw12_awake.f kj3).bind fun t384 => (some t384)) = some r := by rw [if_pos rfl] at H; exact H
    clear H
    have H := H1
    clear H1
    replace H := Option.bind_eq_some_iff.mp H
    obtain ⟨t384, A80, H⟩ := H
    replace H : (some t384) = some r := H
    have A8 := Aside0.mk A80
    clear A80
    obtain rfl := Option.some.inj H
    go_wp2_with (first | ((with_reducible refine gate_callee (f := 9) rfl ?_); refine goesL_ (some 29) rfl rfl Try.func9 (by kernel_rfl) rfl #[] rfl mA ?_; (with_reducible refine (papermilllaw12_awake.calls kj3  t384 _ A8.out).mono ?_); rintro e w9 ⟨rfl, hb⟩; refine ⟨_, rfl, ?_⟩; replace HB := Aside0.mk (below_step pB hb); (try clear hb); (try clear hb2); (try clear hk); (try clear hi)))
    go_ret
    exact ⟨by first | rfl | (simp [errW_none, errW_some] <;> rfl) | (simp [*, errW_none, errW_some] <;> rfl), pB⟩
   ·replace c7 := Bool.eq_false_iff.mpr c7
    subst c7
    have H1 : (papermilllaw12_ShareScale.l0 kj3 a0 l1 a2 ([] : List Int) 0 0) = some r := by rw [if_neg (show ¬ (false = true) by decide)] at H; exact H
    clear H
    have H := H1
    clear H1
    have H' := Aside0.mk H
    clear H
    go_wp2
    go_loopg [7, 8, 9] kj3 (fun kq v7 v8 v9 w' => ∃ (x7_2 : List Int) (x8_2 : Int) (x9_2 : Int), v8 = .int .i64 x8_2 ∧ v9 = .int .i64 x9_2 ∧ Aside0 (papermilllaw12_ShareScale.l0 kq a0 l1 a2 x7_2 x8_2 x9_2 = some r) ∧ Aside0 (kq ≤ kj3) ∧ Aside0 (Kd.R (Kd.int .i64) 3 w' w.heap.size (fun _ => True) v7 x7_2) ∧ Aside0 (Below w.heap.size w w'))
    case atStart => exact ⟨(([] : List Int)), (0), (0), (by first | rfl | (simp; done) | (simp [*]; done)), (by first | rfl | (simp; done) | (simp [*]; done)), H', ⟨Nat.le_refl _⟩, ⟨by first | exact Kd.R_nil _ _ _ _ _ | exact Kd.N_nil _ _ _ _ _ | exact Kd.V_nil _ _ _ _ _ | exact Kd.Q_nil _ _ _ _ _ | exact Kd.S_nil _ _ _ _ _⟩, ⟨pB⟩⟩
    case round =>
     clear H'
     try clear c1
     try clear p2
     try clear c5
     try clear c5b0
     try clear c5b1
     try clear c6
     try clear c6b0
     try clear c7
     try clear c9
     try clear p2
     obtain ⟨x7_2, x8_2, x9_2, rfl, rfl, HA, HK2, HO_7, HB⟩ := hrel
     cases gk with
     | zero => exact absurd HA.out (by simp [papermilllaw12_ShareScale.l0])
     | succ k2 =>
      have H := HA.out
      clear HA
      simp only [papermilllaw12_ShareScale.l0] at H
      by_cases c10 : x9_2 < (l1.length : Int)
      ·rw [if_pos c10] at H
       have c10b0 : decide (x9_2 < (l1.length : Int)) = true := decide_eq_true c10
       clear c10
       by_cases c11 : 0 ≤ x9_2
       ·rw [if_pos c11] at H
        have c11b0 : decide (0 ≤ x9_2) = true := decide_eq_true c11
        clear c11
        by_cases c12 : (rd l1 x9_2) < 0
        ·rw [if_pos c12] at H
         have c12b0 : decide ((rd l1 x9_2) < 0) = true := decide_eq_true c12
         clear c12
         replace H := Option.bind_eq_some_iff.mp H
         obtain ⟨t386, A130, H⟩ := H
         replace H : (some t386) = some r := H
         have A13 := Aside0.mk A130
         clear A130
         obtain rfl := Option.some.inj H
         have p385 : 0 ≤ (x9_2 : Int) := of_decide_eq_true (by first | (with_reducible assumption) | assumption)
         have q385 : x9_2 < (l1.length : Int) := of_decide_eq_true (by first | (with_reducible assumption) | assumption)
         obtain ⟨ad385, e385, hx385_0⟩ := Kd.at_int HR1.out x9_2 p385 q385
         cases e385
         replace hx385_0 := (HB.out.cell (World.block_lt_of_cell? w _ hx385_0)).trans hx385_0
         replace p385 := eq_true p385
         replace q385 := eq_true q385
         go_wp2_with (first | ((with_reducible refine gate_callee (f := 9) rfl ?_); refine goesL_ (some 48) rfl rfl Try.func9 (by kernel_rfl) rfl #[] rfl mA ?_; (with_reducible refine (papermilllaw12_awake.calls k2  t386 _ A13.out).mono ?_); rintro e w14 ⟨rfl, hb⟩; refine ⟨_, rfl, ?_⟩; replace HO_7 := Aside0.mk (Kd.R_below (rX HO_7.out) hb); replace HB := Aside0.mk (below_step pB hb); (try clear hb); (try clear hb2); (try clear hk); (try clear hi)))
         go_ret
         exact ⟨by first | rfl | (simp [errW_none, errW_some] <;> rfl) | (simp [*, errW_none, errW_some] <;> rfl), pB⟩
        ·rw [if_neg c12] at H
         have c12b0 : decide ((rd l1 x9_2) < 0) = false := decide_eq_false c12
         clear c12
         by_cases c15 : (rd l1 x9_2) > 28147497671
         ·rw [if_pos c15] at H
          have c15b0 : decide (28147497671 < (rd l1 x9_2)) = true := decide_eq_true c15
          clear c15
          replace H := Option.bind_eq_some_iff.mp H
          obtain ⟨t388, A160, H⟩ := H
          replace H : (some t388) = some r := H
          have A16 := Aside0.mk A160
          clear A160
          obtain rfl := Option.some.inj H
          have p385 : 0 ≤ (x9_2 : Int) := of_decide_eq_true (by first | (with_reducible assumption) | assumption)
          have q385 : x9_2 < (l1.length : Int) := of_decide_eq_true (by first | (with_reducible assumption) | assumption)
          obtain ⟨ad385, e385, hx385_0⟩ := Kd.at_int HR1.out x9_2 p385 q385
          cases e385
          replace hx385_0 := (HB.out.cell (World.block_lt_of_cell? w _ hx385_0)).trans hx385_0
          replace p385 := eq_true p385
          replace q385 := eq_true q385
          have p387 : 0 ≤ (x9_2 : Int) := of_decide_eq_true (by first | (with_reducible assumption) | assumption)
          have q387 : x9_2 < (l1.length : Int) := of_decide_eq_true (by first | (with_reducible assumption) | assumption)
          obtain ⟨ad387, e387, hx387_0⟩ := Kd.at_int HR1.out x9_2 p387 q387
          obtain rfl : ad385 = ad387 := (by injection e387)
          replace hx387_0 := (HB.out.cell (World.block_lt_of_cell? w _ hx387_0)).trans hx387_0
          replace p387 := eq_true p387
          replace q387 := eq_true q387
          go_wp2_with (first | ((with_reducible refine gate_callee (f := 9) rfl ?_); refine goesL_ (some 48) rfl rfl Try.func9 (by kernel_rfl) rfl #[] rfl mA ?_; (with_reducible refine (papermilllaw12_awake.calls k2  t388 _ A16.out).mono ?_); rintro e w17 ⟨rfl, hb⟩; refine ⟨_, rfl, ?_⟩; replace HO_7 := Aside0.mk (Kd.R_below (rX HO_7.out) hb); replace HB := Aside0.mk (below_step pB hb); (try clear hb); (try clear hb2); (try clear hk); (try clear hi)))
          go_ret
          exact ⟨by first | rfl | (simp [errW_none, errW_some] <;> rfl) | (simp [*, errW_none, errW_some] <;> rfl), pB⟩
         ·rw [if_neg c15] at H
          have c15b0 : decide (28147497671 < (rd l1 x9_2)) = false := decide_eq_false c15
          clear c15
          by_cases c18 : x7_2.length < 17592186044416
          ·rw [if_pos c18] at H
           have LMc18 := Aside0.mk c18
           clear c18
           obtain ⟨y391, hy391⟩ : ∃ y_ : List Int, y_ = (x7_2 ++ [wrap64 ((rd l1 x9_2) * a2)]) := ⟨_, rfl⟩
           replace H : (papermilllaw12_ShareScale.l0 k2 a0 l1 a2 y391 (wrap64 (x8_2 + (wrap64 ((rd l1 x9_2) * a2)))) (wrap64 (x9_2 + 1))) = some r := by first | (rw [hy391]; with_reducible exact H) | (have H2_ := (Option.bind_some _ _).symm.trans H; rw [hy391]; with_reducible exact H2_) | (have H2_ := (Option.bind_some _ _).symm.trans H; with_reducible exact H2_) | with_reducible exact H | (rw [hy391]; exact H) | exact H
           have Ny391 := Aside0.mk hy391
           clear hy391
           have H' := Aside0.mk H
           clear H
           have p385 : 0 ≤ (x9_2 : Int) := of_decide_eq_true (by first | (with_reducible assumption) | assumption)
           have q385 : x9_2 < (l1.length : Int) := of_decide_eq_true (by first | (with_reducible assumption) | assumption)
           obtain ⟨ad385, e385, hx385_0⟩ := Kd.at_int HR1.out x9_2 p385 q385
           cases e385
           replace hx385_0 := (HB.out.cell (World.block_lt_of_cell? w _ hx385_0)).trans hx385_0
           replace p385 := eq_true p385
           replace q385 := eq_true q385
           have p387 : 0 ≤ (x9_2 : Int) := of_decide_eq_true (by first | (with_reducible assumption) | assumption)
           have q387 : x9_2 < (l1.length : Int) := of_decide_eq_true (by first | (with_reducible assumption) | assumption)
           obtain ⟨ad387, e387, hx387_0⟩ := Kd.at_int HR1.out x9_2 p387 q387
           obtain rfl : ad385 = ad387 := (by injection e387)
           replace hx387_0 := (HB.out.cell (World.block_lt_of_cell? w _ hx387_0)).trans hx387_0
           replace p387 := eq_true p387
           replace q387 := eq_true q387
           have p389 : 0 ≤ (x9_2 : Int) := of_decide_eq_true (by first | (with_reducible assumption) | assumption)
           have q389 : x9_2 < (l1.length : Int) := of_decide_eq_true (by first | (with_reducible assumption) | assumption)
           obtain ⟨ad389, e389, hx389_0⟩ := Kd.at_int HR1.out x9_2 p389 q389
           obtain rfl : ad385 = ad389 := (by injection e389)
           replace hx389_0 := (HB.out.cell (World.block_lt_of_cell? w _ hx389_0)).trans hx389_0
           replace p389 := eq_true p389
           replace q389 := eq_true q389
           have p390 : 0 ≤ (x9_2 : Int) := of_decide_eq_true (by first | (with_reducible assumption) | assumption)
           have q390 : x9_2 < (l1.length : Int) := of_decide_eq_true (by first | (with_reducible assumption) | assumption)
           obtain ⟨ad390, e390, hx390_0⟩ := Kd.at_int HR1.out x9_2 p390 q390
           obtain rfl : ad385 = ad390 := (by injection e390)
           replace hx390_0 := (HB.out.cell (World.block_lt_of_cell? w _ hx390_0)).trans hx390_0
           replace p390 := eq_true p390
           replace q390 := eq_true q390
           go_wp2_with (first | ((with_reducible refine gate_builtin (b := .append) (xs := #[.tmp 57, .tmp 64]) rfl ?_); at_builtin; refine Kd.R_append (Kd.int .i64) (w0 := w) w.heap.size rfl (.tmp 57) (.tmp 64) 22 3 (.int .i64 0) 8 rfl Try.underlying22 info3 rfl (by decide) (by omega) u7 x7_2 (wrap64 ((rd l1 x9_2) * a2)) [.int .i64 (wrap64 ((rd l1 x9_2) * a2))] (fun _ => True) (fun _ => False) rfl rfl ?aP (fun _ hk => hk.elim) ?aF ?aO ?aB ?aS ?aL ?_; (case aP => exact rfl); (case aB => exact pB); (case aF => exact (fun _ _ => trivial)); (case aO => exact (rX HO_7.out)); (case aS => exact (below_size pB)); (case aL => have := LMc18.out; omega); intro v392 w19 ho hb hg hat; rw [← Ny391.out] at ho; have HO393 := Aside0.mk (ho); replace HB := Aside0.mk (hb); clear HO_7; clear ho hb hg hat))
           go_roundg k2
           case measure => have := HJ3.out; have := HK2.out; omega
           case rel => exact ⟨(y391), (wrap64 (x8_2 + (wrap64 ((rd l1 x9_2) * a2)))), (wrap64 (x9_2 + 1)), (by first | rfl | (simp; done) | (simp [*]; done)), (by first | rfl | (simp; done) | (simp [*]; done)), H', ⟨by have := HJ3.out; have := HK2.out; omega⟩, ⟨by (with_reducible repeat (first | apply Kd.R_alloc | apply Kd.R_drewN | apply Kd.R_drew)); exact HO393.out⟩, ⟨pB⟩⟩
          ·rw [if_neg c18] at H
           exact absurd H (by simp)
       ·rw [if_neg c11] at H
        exact absurd H (by simp)
      ·rw [if_neg c10] at H
       have c10b0 : decide (x9_2 < (l1.length : Int)) = false := decide_eq_false c10
       clear c10
       replace H := Option.bind_eq_some_iff.mp H
       obtain ⟨⟨t394, t395⟩, A200, H⟩ := H
       replace H : ((share_Split.f k2 a0 x7_2).bind fun bt398 => ((share_Bounds.f k2 a0 l1).bind fun bt402 => ((share_Bounds.f k2 a0 x7_2).bind fun bt406 => ((papermillref12_Same.f k2 t394 bt398.1).bind fun t410 => (if t410 = true then (if t395 = bt398.2 then ((papermillref12_Same.f k2 bt402.1 bt406.1).bind fun t411 => (if t411 = true then (if bt402.2 = bt406.2 then (if x8_2 ≤ 1125899906842624 then ((papermilllaw12_awake.f k2).bind fun t412 => (some t412)) else (none)) else (none)) else (none))) else (none)) else (none)))))) = some r := H
       have A20 := Aside0.mk A200
       clear A200
       replace H := Option.bind_eq_some_iff.mp H
       obtain ⟨⟨t398, t399⟩, A210, H⟩ := H
       replace H : ((share_Bounds.f k2 a0 l1).bind fun bt402 => ((share_Bounds.f k2 a0 x7_2).bind fun bt406 => ((papermillref12_Same.f k2 t394 t398).bind fun t410 => (if t410 = true then (if t395 = t399 then ((papermillref12_Same.f k2 bt402.1 bt406.1).bind fun t411 => (if t411 = true then (if bt402.2 = bt406.2 then (if x8_2 ≤ 1125899906842624 then ((papermilllaw12_awake.f k2).bind fun t412 => (some t412)) else (none)) else (none)) else (none))) else (none)) else (none))))) = some r := H
       have A21 := Aside0.mk A210
       clear A210
       replace H := Option.bind_eq_some_iff.mp H
       obtain ⟨⟨t402, t403⟩, A220, H⟩ := H
       replace H : ((share_Bounds.f k2 a0 x7_2).bind fun bt406 => ((papermillref12_Same.f k2 t394 t398).bind fun t410 => (if t410 = true then (if t395 = t399 then ((papermillref12_Same.f k2 t402 bt406.1).bind fun t411 => (if t411 = true then (if t403 = bt406.2 then (if x8_2 ≤ 1125899906842624 then ((papermilllaw12_awake.f k2).bind fun t412 => (some t412)) else (none)) else (none)) else (none))) else (none)) else (none)))) = some r := H
       have A22 := Aside0.mk A220
       clear A220
       replace H := Option.bind_eq_some_iff.mp H
       obtain ⟨⟨t406, t407⟩, A230, H⟩ := H
       replace H : ((papermillref12_Same.f k2 t394 t398).bind fun t410 => (if t410 = true then (if t395 = t399 then ((papermillref12_Same.f k2 t402 t406).bind fun t411 => (if t411 = true then (if t403 = t407 then (if x8_2 ≤ 1125899906842624 then ((papermilllaw12_awake.f k2).bind fun t412 => (some t412)) else (none)) else (none)) else (none))) else (none)) else (none))) = some r := H
       have A23 := Aside0.mk A230
       clear A230
       replace H := Option.bind_eq_some_iff.mp H
       obtain ⟨t410, A240, H⟩ := H
       replace H : (if t410 = true then (if t395 = t399 then ((papermillref12_Same.f k2 t402 t406).bind fun t411 => (if t411 = true then (if t403 = t407 then (if x8_2 ≤ 1125899906842624 then ((papermilllaw12_awake.f k2).bind fun t412 => (some t412)) else (none)) else (none)) else (none))) else (none)) else (none)) = some r := H
       have A24 := Aside0.mk A240
       clear A240
       by_cases c25 : t410 = true
       ·subst c25
        have H1 : (if t395 = t399 then ((papermillref12_Same.f k2 t402 t406).bind fun t411 => (if t411 = true then (if t403 = t407 then (if x8_2 ≤ 1125899906842624 then ((papermilllaw12_awake.f k2).bind fun t412 => (some t412)) else (none)) else (none)) else (none))) else (none)) = some r := by rw [if_pos rfl] at H; exact H
        clear H
        have H := H1
        clear H1
        by_cases c26 : t395 = t399
        ·rw [if_pos c26] at H
         have c26b0 : (t395 == t399) = true := beq_iff_eq.mpr c26
         have c26b1 : (t395 != t399) = false := bne_eq_false_iff_eq.mpr c26
         clear c26
         replace H := Option.bind_eq_some_iff.mp H
         obtain ⟨t411, A270, H⟩ := H
         replace H : (if t411 = true then (if t403 = t407 then (if x8_2 ≤ 1125899906842624 then ((papermilllaw12_awake.f k2).bind fun t412 => (some t412)) else (none)) else (none)) else (none)) = some r := H
         have A27 := Aside0.mk A270
         clear A270
         by_cases c28 : t411 = true
         ·subst c28
          have H1 : (if t403 = t407 then (if x8_2 ≤ 1125899906842624 then ((papermilllaw12_awake.f k2).bind fun t412 => (some t412)) else (none)) else (none)) = some r := by rw [if_pos rfl] at H; exact H
          clear H
          have H := H1
          clear H1
          by_cases c29 : t403 = t407
          ·rw [if_pos c29] at H
           have c29b0 : (t403 == t407) = true := beq_iff_eq.mpr c29
           have c29b1 : (t403 != t407) = false := bne_eq_false_iff_eq.mpr c29
           clear c29
           by_cases c30 : x8_2 ≤ 1125899906842624
           ·rw [if_pos c30] at H
            have c30b0 : decide (x8_2 ≤ 1125899906842624) = true := decide_eq_true c30
            clear c30
            replace H := Option.bind_eq_some_iff.mp H
            obtain ⟨t412, A310, H⟩ := H
            replace H : (some t412) = some r := H
            have A31 := Aside0.mk A310
            clear A310
            obtain rfl := Option.some.inj H
            go_wp2_with (first | ((with_reducible refine gate_callee (f := 11) rfl ?_); refine goesL_ (some 69) rfl rfl Try.func11 (by kernel_rfl) rfl #[.int .i64 a0, .slice A1 l1.length c1] rfl mA ?_; (with_reducible refine (share_Split.calls k2 a0 _ _ l1 t394 t395 _ ?side1 ?side2 A20.out).mono ?_); (case side1 => repeat (first | exact (Kd.C_below HR1.out HB.out) | (with_reducible refine Kd.C_alloc ?_ _) | (with_reducible refine Kd.C_drewN ?_ _) | (with_reducible refine Kd.C_drew ?_))); (case side2 => exact HC1.out); rintro e w32 ⟨v396, rfl, ho0, hb⟩; refine ⟨_, rfl, ?_⟩; have HO397 := Aside0.mk (Kd.R_lower (Kd.R_new' ho0 (Kd.R_lt (rX HO_7.out))) (below_size pB)); replace HO_7 := Aside0.mk (Kd.R_elder' (rX HO_7.out) (Kd.R_base ho0) hb); replace HB := Aside0.mk (below_step pB hb); (try clear hb); (try clear hb2); (try clear hk); (try clear hi); (try clear ho0); obtain ⟨Ao33, co33, eo33⟩ := Kd.R_slice HO_7.out; subst eo33) | ((with_reducible refine gate_callee (f := 11) rfl ?_); refine goesL_ (some 75) rfl rfl Try.func11 (by kernel_rfl) rfl #[.int .i64 a0, .slice Ao33 x7_2.length co33] rfl mA ?_; (with_reducible refine (share_Split.calls k2 a0 _ _ x7_2 t398 t399 _ ?side1 ?side2 A21.out).mono ?_); (case side1 => repeat (first | exact (Kd.R_reads' HO_7.out).2.2 | (with_reducible refine Kd.C_alloc ?_ _) | (with_reducible refine Kd.C_drewN ?_ _) | (with_reducible refine Kd.C_drew ?_))); (case side2 => exact (Kd.R_reads' HO_7.out).2.1); rintro e w34 ⟨v400, rfl, ho0, hb⟩; refine ⟨_, rfl, ?_⟩; have HO401 := Aside0.mk (Kd.R_lower (Kd.R_new' (Kd.R_new' ho0 (Kd.R_lt (rX HO_7.out))) (Kd.R_lt (rX HO397.out))) (below_size pB)); replace HO_7 := Aside0.mk (Kd.R_elder' (rX HO_7.out) (Kd.R_base ho0) hb); replace HO397 := Aside0.mk (Kd.R_elder' (rX HO397.out) (Kd.R_base ho0) hb); replace HB := Aside0.mk (below_step pB hb); (try clear hb); (try clear hb2); (try clear hk); (try clear hi); (try clear ho0)) | ((with_reducible refine gate_callee (f := 13) rfl ?_); refine goesL_ (some 81) rfl rfl Try.func13 (by kernel_rfl) rfl #[.int .i64 a0, .slice A1 l1.length c1] rfl mA ?_; (with_reducible refine (share_Bounds.calls k2 a0 _ _ l1 t402 t403 _ ?side1 ?side2 A22.out).mono ?_); (case side1 => repeat (first | exact (Kd.C_below HR1.out HB.out) | (with_reducible refine Kd.C_alloc ?_ _) | (with_reducible refine Kd.C_drewN ?_ _) | (with_reducible refine Kd.C_drew ?_))); (case side2 => exact HC1.out); rintro e w35 ⟨v404, rfl, ho0, hb⟩; refine ⟨_, rfl, ?_⟩; have HO405 := Aside0.mk (Kd.R_lower (Kd.R_new' (Kd.R_new' (Kd.R_new' ho0 (Kd.R_lt (rX HO_7.out))) (Kd.R_lt (rX HO397.out))) (Kd.R_lt (rX HO401.out))) (below_size pB)); replace HO_7 := Aside0.mk (Kd.R_elder' (rX HO_7.out) (Kd.R_base ho0) hb); replace HO397 := Aside0.mk (Kd.R_elder' (rX HO397.out) (Kd.R_base ho0) hb); replace HO401 := Aside0.mk (Kd.R_elder' (rX HO401.out) (Kd.R_base ho0) hb); replace HB := Aside0.mk (below_step pB hb); (try clear hb); (try clear hb2); (try clear hk); (try clear hi); (try clear ho0)) | ((with_reducible refine gate_callee (f := 13) rfl ?_); refine goesL_ (some 87) rfl rfl Try.func13 (by kernel_rfl) rfl #[.int .i64 a0, .slice Ao33 x7_2.length co33] rfl mA ?_; (with_reducible refine (share_Bounds.calls k2 a0 _ _ x7_2 t406 t407 _ ?side1 ?side2 A23.out).mono ?_); (case side1 => repeat (first | exact (Kd.R_reads' HO_7.out).2.2 | (with_reducible refine Kd.C_alloc ?_ _) | (with_reducible refine Kd.C_drewN ?_ _) | (with_reducible refine Kd.C_drew ?_))); (case side2 => exact (Kd.R_reads' HO_7.out).2.1); rintro e w36 ⟨v408, rfl, ho0, hb⟩; refine ⟨_, rfl, ?_⟩; have HO409 := Aside0.mk (Kd.R_lower (Kd.R_new' (Kd.R_new' (Kd.R_new' (Kd.R_new' ho0 (Kd.R_lt (rX HO_7.out))) (Kd.R_lt (rX HO397.out))) (Kd.R_lt (rX HO401.out))) (Kd.R_lt (rX HO405.out))) (below_size pB)); replace HO_7 := Aside0.mk (Kd.R_elder' (rX HO_7.out) (Kd.R_base ho0) hb); replace HO397 := Aside0.mk (Kd.R_elder' (rX HO397.out) (Kd.R_base ho0) hb); replace HO401 := Aside0.mk (Kd.R_elder' (rX HO401.out) (Kd.R_base ho0) hb); replace HO405 := Aside0.mk (Kd.R_elder' (rX HO405.out) (Kd.R_base ho0) hb); replace HB := Aside0.mk (below_step pB hb); (try clear hb); (try clear hb2); (try clear hk); (try clear hi); (try clear ho0); obtain ⟨Ao37, co37, eo37⟩ := Kd.R_slice HO397.out; subst eo37; obtain ⟨Ao38, co38, eo38⟩ := Kd.R_slice HO401.out; subst eo38) | ((with_reducible refine gate_callee (f := 15) rfl ?_); refine goesL_ (some 92) rfl rfl Try.func15 (by kernel_rfl) rfl #[.slice Ao37 t394.length co37, .slice Ao38 t398.length co38] rfl mA ?_; (with_reducible refine (papermillref12_Same.calls k2 _ _ t394 _ _ t398 true _ ?side1 ?side2 ?side3 ?side4 A24.out).mono ?_); (case side1 => repeat (first | exact (Kd.R_reads' HO397.out).2.2 | (with_reducible refine Kd.C_alloc ?_ _) | (with_reducible refine Kd.C_drewN ?_ _) | (with_reducible refine Kd.C_drew ?_))); (case side2 => exact (Kd.R_reads' HO397.out).2.1); (case side3 => repeat (first | exact (Kd.R_reads' HO401.out).2.2 | (with_reducible refine Kd.C_alloc ?_ _) | (with_reducible refine Kd.C_drewN ?_ _) | (with_reducible refine Kd.C_drew ?_))); (case side4 => exact (Kd.R_reads' HO401.out).2.1); rintro e w' ⟨rfl, ⟨nd, rfl⟩⟩; refine ⟨_, rfl, ?_⟩; obtain ⟨Ao39, co39, eo39⟩ := Kd.R_slice HO405.out; subst eo39; obtain ⟨Ao40, co40, eo40⟩ := Kd.R_slice HO409.out; subst eo40) | (go_at_call 15; (with_reducible refine (papermillref12_Same.calls k2 _ _ t402 _ _ t406 true _ ?side1 ?side2 ?side3 ?side4 A27.out).mono ?_); (case side1 => repeat (first | exact (Kd.R_reads' HO405.out).2.2 | (with_reducible refine Kd.C_alloc ?_ _) | (with_reducible refine Kd.C_drewN ?_ _) | (with_reducible refine Kd.C_drew ?_))); (case side2 => exact (Kd.R_reads' HO405.out).2.1); (case side3 => repeat (first | exact (Kd.R_reads' HO409.out).2.2 | (with_reducible refine Kd.C_alloc ?_ _) | (with_reducible refine Kd.C_drewN ?_ _) | (with_reducible refine Kd.C_drew ?_))); (case side4 => exact (Kd.R_reads' HO409.out).2.1); rintro e w' ⟨rfl, ⟨nd, rfl⟩⟩) | (go_at_call 9; (with_reducible refine (papermilllaw12_awake.calls k2  t412 _ A31.out).mono ?_); rintro e w41 ⟨rfl, hb⟩; replace HO_7 := Aside0.mk (Kd.R_below (rX HO_7.out) hb); replace HO397 := Aside0.mk (Kd.R_below (rX HO397.out) hb); replace HO401 := Aside0.mk (Kd.R_below (rX HO401.out) hb); replace HO405 := Aside0.mk (Kd.R_below (rX HO405.out) hb); replace HO409 := Aside0.mk (Kd.R_below (rX HO409.out) hb); replace HB := Aside0.mk (below_step pB hb); (try clear hb); (try clear hb2); (try clear hk); (try clear hi)))
            go_ret
            exact ⟨by first | rfl | (simp [errW_none, errW_some] <;> rfl) | (simp [*, errW_none, errW_some] <;> rfl), pB⟩
           ·rw [if_neg c30] at H
            exact absurd H (by simp)
          ·rw [if_neg c29] at H
           exact absurd H (by simp)
         ·replace c28 := Bool.eq_false_iff.mpr c28
          subst c28
          have H1 : (none) = some r := by rw [if_neg (show ¬ (false = true) by decide)] at H; exact H
          clear H
          have H := H1
          clear H1
          exact absurd H (by simp)
        ·rw [if_neg c26] at H
         exact absurd H (by simp)
       ·replace c25 := Bool.eq_false_iff.mpr c25
        subst c25
        have H1 : (none) = some r := by rw [if_neg (show ¬ (false = true) by decide)] at H; exact H
        clear H
        have H := H1
        clear H1
        exact absurd H (by simp)

/-- THE ONE PURE STATEMENT of papermilllaw12_ShareScale: yours. -/
def papermilllaw12_ShareScale.Pure : Prop := ∀ (a0 : Int) (l1 : List Int) (a2 : Int), (Lit.int .i64 a0).wf = true → l1.length ≤ maxLen → l1.length * 8 ≤ 140737488351232 → (∀ x ∈ l1, (Lit.int .i64 x).wf = true) → (Lit.int .i64 a2).wf = true → ∃ k, papermilllaw12_ShareScale.f k a0 l1 a2 = some true
theorem papermilllaw12_ShareScale.walk (P : papermilllaw12_ShareScale.Pure) (a0 : Int) (a1 : Option Addr) (len1 cap1 : Nat) (z1 : List Int) (a2 : Int) (w : World) (w0 : (Lit.int .i64 a0).wf = true) (w1 : (a1 = none ∧ len1 = 0 ∧ cap1 = 0 ∧ z1 = []) ∨ ∃ x, a1 = some x ∧ len1 ≤ cap1 ∧ cap1 ≤ maxLen ∧ z1.length = cap1 ∧ (∀ i, i < z1.length → w.cell? (x.add i) = some (.int .i64 (z1.getD i 0))) ∧ ∀ n ∈ z1, (Lit.int .i64 n).wf = true) (y1 : len1 * 8 ≤ 140737488351232) (w2 : (Lit.int .i64 a2).wf = true) :
  Calls Try.prog 6 #[.int .i64 a0, .slice a1 len1 cap1, .int .i64 a2] w fun e w' => e = .returned (.bool true) ∧ Below w.heap.size w w' := by
 obtain ⟨l1, rfl, hr1, hm1, hw1, hc1⟩ := ReadsInt.ofRowC w1
 obtain ⟨k, h⟩ := P a0 l1 a2 w0 hm1 y1 hw1 w2
 refine (papermilllaw12_ShareScale.calls k a0 _ _ l1 a2 true w (Kd.C_of_reads (d := (0 : Int)) (h1 := fun _ => rfl) hr1) hc1 h).mono ?_
 rintro e w' ⟨rfl, hd⟩
 exact ⟨rfl, hd⟩

end Go.Proofs.Ytloihkecfommbaa.Print
