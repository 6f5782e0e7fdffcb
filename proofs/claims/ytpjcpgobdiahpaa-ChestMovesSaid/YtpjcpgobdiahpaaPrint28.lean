-- Written by wip/tools/myprint.py out of the translation. Not trusted: Lean checks it.
import Derived.Test.YtpjcpgobdiahpaaPrint0
import Derived.Test.YtpjcpgobdiahpaaPrint5
import Derived.Test.YtpjcpgobdiahpaaPrint14
import Derived.Test.YtpjcpgobdiahpaaPrint15
import Derived.Test.YtpjcpgobdiahpaaPrint16
import Derived.Test.YtpjcpgobdiahpaaPrint23
import Derived.Test.YtpjcpgobdiahpaaPrint27
namespace Go.Proofs.Ytpjcpgobdiahpaa.Print
open Go.RowKit Go.Proofs.YtpjcpgobdiahpaaW.PrintWords Go.Proofs.YtpjcpgobdiahpaaW.PrintLast Go.Proofs.YtpjcpgobdiahpaaW.PrintMore
attribute [local go_sem] max2_int min2_int max_two min_two max_three min_three max_four min_four   -- for this text's walks alone
set_option linter.unusedVariables false
set_option linter.unusedSimpArgs false

/-! ### papermilllaw18_ChestMoves: function 4 -/
def papermilllaw18_ChestMoves.j0 : Nat → List Int → Int → Bool → Int → List Int → Option (Bool)
 | 0, _, _, _, _, _ => none
 | k + 1, x1, x2, x25, x411000, x411001 => if x25 = true then ((papermilllaw18_awake.f k).bind fun t411 => (some t411)) else ((chest_Fill.f k x411000 x411001 x1).bind fun bt412 => ((papermillref18_Fill.f k x411000 x411001 x1).bind fun bt418 => ((chest_Draw.f k x411000 x411001 x2).bind fun bt424 => ((papermillref18_Draw.f k x411000 x411001 x2).bind fun bt433 => ((papermillref18_Same.f k bt412.1 bt412.2.1 bt418.1 bt418.2.1).bind fun t442 => (if t442 = true then (if bt412.2.2 = bt418.2.2 then ((papermillref18_Same.f k bt424.1 bt424.2.1 bt433.1 bt433.2.1).bind fun t443 => (if t443 = true then ((papermillref12_Same.f k bt424.2.2.1 bt433.2.2.1).bind fun t444 => (if t444 = true then (if bt424.2.2.2 = bt433.2.2.2 then ((papermilllaw18_awake.f k).bind fun t445 => (some t445)) else (none)) else (none))) else (none))) else (none)) else (none)))))))
def papermilllaw18_ChestMoves.f (k : Nat) (a0_0 : Int) (l0_1 : List Int) (l1 : List Int) (a2 : Int) : Option (Bool) := if (l0_1.length : Int) > 20 then (papermilllaw18_ChestMoves.j0 k l1 a2 true a0_0 l0_1) else (papermilllaw18_ChestMoves.j0 k l1 a2 (decide ((l1.length : Int) > 20)) a0_0 l0_1)
theorem papermilllaw18_ChestMoves.mono_l : ∀ k, (∀ y0 y1 y2 y3 y4, LeO (papermilllaw18_ChestMoves.j0 k y0 y1 y2 y3 y4) (papermilllaw18_ChestMoves.j0 (k + 1) y0 y1 y2 y3 y4))
 | 0 => fun _ _ _ _ _ r h => by simp [papermilllaw18_ChestMoves.j0] at h
 | k + 1 => by
  have ih0 := papermilllaw18_ChestMoves.mono_l k
  ·intro y0 y1 y2 y3 y4
   unfold papermilllaw18_ChestMoves.j0
   repeat' first
   | (with_reducible exact ih0 _ _ _ _ _)
   | (with_reducible exact chest_Draw.mono _ _ _ _)
   | (with_reducible exact chest_Fill.mono _ _ _ _)
   | (with_reducible exact papermilllaw18_awake.mono _)
   | (with_reducible exact papermillref12_Same.mono _ _ _)
   | (with_reducible exact papermillref18_Draw.mono _ _ _ _)
   | (with_reducible exact papermillref18_Fill.mono _ _ _ _)
   | (with_reducible exact papermillref18_Same.mono _ _ _ _ _)
   | (with_reducible exact LeO.refl _)
   | (with_reducible exact LeO.none _)
   | (with_reducible refine LeO.ite ?_ ?_)
   | (with_reducible refine LeO.bind ?_ (fun _ => ?_))
   | exact ih0 _ _ _ _ _
   | exact chest_Draw.mono _ _ _ _
   | exact chest_Fill.mono _ _ _ _
   | exact papermilllaw18_awake.mono _
   | exact papermillref12_Same.mono _ _ _
   | exact papermillref18_Draw.mono _ _ _ _
   | exact papermillref18_Fill.mono _ _ _ _
   | exact papermillref18_Same.mono _ _ _ _ _
   | exact LeO.none _
   | refine LeO.ite ?_ ?_
   | refine LeO.bind ?_ (fun _ => ?_)
theorem papermilllaw18_ChestMoves.mono : ∀ a0 a1 a2 a3 k, LeO (papermilllaw18_ChestMoves.f k a0 a1 a2 a3) (papermilllaw18_ChestMoves.f (k + 1) a0 a1 a2 a3) := by
 intro a0 a1 a2 a3 k
 have ih0 := papermilllaw18_ChestMoves.mono_l k
 unfold papermilllaw18_ChestMoves.f
 repeat' first
   | (with_reducible exact ih0 _ _ _ _ _)
   | (with_reducible exact chest_Draw.mono _ _ _ _)
   | (with_reducible exact chest_Fill.mono _ _ _ _)
   | (with_reducible exact papermilllaw18_awake.mono _)
   | (with_reducible exact papermillref12_Same.mono _ _ _)
   | (with_reducible exact papermillref18_Draw.mono _ _ _ _)
   | (with_reducible exact papermillref18_Fill.mono _ _ _ _)
   | (with_reducible exact papermillref18_Same.mono _ _ _ _ _)
   | (with_reducible exact LeO.refl _)
   | (with_reducible exact LeO.none _)
   | (with_reducible refine LeO.ite ?_ ?_)
   | (with_reducible refine LeO.bind ?_ (fun _ => ?_))
   | exact ih0 _ _ _ _ _
   | exact chest_Draw.mono _ _ _ _
   | exact chest_Fill.mono _ _ _ _
   | exact papermilllaw18_awake.mono _
   | exact papermillref12_Same.mono _ _ _
   | exact papermillref18_Draw.mono _ _ _ _
   | exact papermillref18_Fill.mono _ _ _ _
   | exact papermillref18_Same.mono _ _ _ _ _
   | exact LeO.none _
   | refine LeO.ite ?_ ?_
   | refine LeO.bind ?_ (fun _ => ?_)
set_option maxHeartbeats 8000000 in
set_option maxRecDepth 100000 in
theorem papermilllaw18_ChestMoves.calls (k : Nat) (a0_0 : Int) (A0_1 : Option Addr) (c0_1 : Nat) (l0_1 : List Int) (A1 : Option Addr) (c1 : Nat) (l1 : List Int) (a2 : Int) (r : Bool) (w : World) (hr0_1 : Kd.C (Kd.int .i64) w A0_1 l0_1.length l0_1) (hc0_1 : l0_1.length ≤ c0_1) (hr1 : Kd.C (Kd.int .i64) w A1 l1.length l1) (hc1 : l1.length ≤ c1) (h : papermilllaw18_ChestMoves.f k a0_0 l0_1 l1 a2 = some r) :
  Calls Try.prog 4 #[.agg #[.int .i64 a0_0, .slice A0_1 l0_1.length c0_1], .slice A1 l1.length c1, .int .i64 a2] w fun e w' => e = .returned (.bool r) ∧ Below w.heap.size w w' := by
 have hu24 := Try.underlying24
 have HR0_1 := Aside0.mk hr0_1
 have HC0_1 := Aside0.mk hc0_1
 clear hr0_1 hc0_1
 have HR1 := Aside0.mk hr1
 have HC1 := Aside0.mk hc1
 clear hr1 hc1
 have HB := Aside0.mk (Below.refl w.heap.size w)
 have H : (if (l0_1.length : Int) > 20 then (papermilllaw18_ChestMoves.j0 k l1 a2 true a0_0 l0_1) else (papermilllaw18_ChestMoves.j0 k l1 a2 (decide ((l1.length : Int) > 20)) a0_0 l0_1)) = some r := h
 clear h
 have HC4 := Aside0.mk H
 clear H
 go_enter Try.func4, Try.ntmps4
 go_upto_region 1 with (first | ((with_reducible refine gate_dst (N := 3) rfl ?_); (try (refine gate_guard (by rfl) ?_; dsimp only)); refine box_event ?hg (N := 3) ?hd (cs := #[.int .i64 a0_0, .slice A0_1 l0_1.length c0_1]) (t := 24) ?hr ?_; (case hd => rfl); (case hg => rfl); (case hr => first | (go_simp; done) | (go_simp; rfl)); intro gb410 hg w5 hbox hb; have BK410 := Aside0.mk (hbox); have GW410 := Aside0.mk (gW hg : w.heap.size ≤ gb410); have GE410 := Aside0.mk (gW hg : w.heap.size ≤ gb410); replace HB := Aside0.mk (below_step pB hb); clear hb hbox hg))
 (try simp only [Act.put, List.setIfInBounds_toArray, List.set_cons_zero, List.set_cons_succ])
 go_cut [25] (fun v25 wc => ∃ (kq : Nat) (x25_3 : Bool), v25 = .bool x25_3 ∧ Aside0 (papermilllaw18_ChestMoves.j0 kq l1 a2 x25_3 a0_0 l0_1 = some r) ∧ Aside0 (kq ≤ k) ∧ Aside0 (wc.heap[gb410]? = some (.cells #[.int .i64 a0_0, (.slice A0_1 l0_1.length c0_1)] 24 (0, 0))) ∧ Aside0 (Below w.heap.size w wc))
 case first =>
  have H := HC4.out
  clear HC4
  by_cases c6 : (l0_1.length : Int) > 20
  ·rw [if_pos c6] at H
   have c6b0 : decide (20 < (l0_1.length : Int)) = true := decide_eq_true c6
   have c6b1 : decide (20 < l0_1.length) = true := decide_eq_true (by omega)
   clear c6
   (first | rw [c6b0] | (simp only [i64_w, i32_w]; rw [c6b0]) | skip)
   have H' := Aside0.mk H
   clear H
   obtain ⟨hcz7_0, hcz7_1, hfz7_0, hfz7_1⟩ := bk2 BK410
   go_wp2
   go_meet
   case rel => exact ⟨_, (true), (by first | rfl | (simp; done) | (simp [*]; done)), H', ⟨by first | omega | exact Nat.le_refl _⟩, ⟨by (with_reducible repeat (first | refine blk_drewN ?_ _ | refine blk_drew ?_ | refine blk_alloc ?_ _)); exact BK410.out⟩, ⟨pB⟩⟩
  ·rw [if_neg c6] at H
   have c6b0 : decide (20 < (l0_1.length : Int)) = false := decide_eq_false c6
   have c6b1 : decide (20 < l0_1.length) = false := decide_eq_false (by omega)
   clear c6
   (first | rw [c6b0] | (simp only [i64_w, i32_w]; rw [c6b0]) | skip)
   have H' := Aside0.mk H
   clear H
   obtain ⟨hcz8_0, hcz8_1, hfz8_0, hfz8_1⟩ := bk2 BK410
   go_wp2
   go_meet
   case rel => exact ⟨_, (decide ((l1.length : Int) > 20)), (by first | rfl | (simp; done) | (simp [*]; done)), H', ⟨by first | omega | exact Nat.le_refl _⟩, ⟨by (with_reducible repeat (first | refine blk_drewN ?_ _ | refine blk_drew ?_ | refine blk_alloc ?_ _)); exact BK410.out⟩, ⟨pB⟩⟩
 case rest =>
  clear HC4
  try clear c1
  try clear p2
  try clear c4
  try clear c6
  try clear c6b0
  try clear c6b1
  try clear hcz7_0
  try clear hcz7_1
  try clear hcz8_0
  try clear hcz8_1
  try clear hfz7_0
  try clear hfz7_1
  try clear hfz8_0
  try clear hfz8_1
  obtain ⟨kq, x25_3, rfl, HA, HJ3, BK410, HB⟩ := hcut
  cases kq with
  | zero => exact absurd HA.out (by simp [papermilllaw18_ChestMoves.j0])
  | succ kj3 =>
   have H := HA.out
   clear HA
   simp only [papermilllaw18_ChestMoves.j0] at H
   by_cases c9 : x25_3 = true
   ·subst c9
    have H1 : ((papermilllaw18_awake.f kj3).bind fun t411 => (some t411)) = some r := by rw [if_pos rfl] at H; exact H
    clear H
    have H := H1
    clear H1
    replace H := Option.bind_eq_some_iff.mp H
    obtain ⟨t411, A100, H⟩ := H
    replace H : (some t411) = some r := H
    have A10 := Aside0.mk A100
    clear A100
    obtain rfl := Option.some.inj H
    go_wp2_with (first | ((with_reducible refine gate_callee (f := 10) rfl ?_); refine goesL_ (some 26) rfl rfl Try.func10 (by kernel_rfl) rfl #[] rfl mA ?_; (with_reducible refine (papermilllaw18_awake.calls kj3  t411 _ A10.out).mono ?_); rintro e w11 ⟨rfl, hb⟩; refine ⟨_, rfl, ?_⟩; replace BK410 := Aside0.mk (kB BK410 hb); replace HB := Aside0.mk (below_step pB hb); (try clear hb); (try clear hb2); (try clear hk); (try clear hi)))
    go_ret
    exact ⟨by first | rfl | (simp [errW_none, errW_some] <;> rfl) | (simp [*, errW_none, errW_some] <;> rfl), pB⟩
   ·replace c9 := Bool.eq_false_iff.mpr c9
    subst c9
    have H1 : ((chest_Fill.f kj3 a0_0 l0_1 l1).bind fun bt412 => ((papermillref18_Fill.f kj3 a0_0 l0_1 l1).bind fun bt418 => ((chest_Draw.f kj3 a0_0 l0_1 a2).bind fun bt424 => ((papermillref18_Draw.f kj3 a0_0 l0_1 a2).bind fun bt433 => ((papermillref18_Same.f kj3 bt412.1 bt412.2.1 bt418.1 bt418.2.1).bind fun t442 => (if t442 = true then (if bt412.2.2 = bt418.2.2 then ((papermillref18_Same.f kj3 bt424.1 bt424.2.1 bt433.1 bt433.2.1).bind fun t443 => (if t443 = true then ((papermillref12_Same.f kj3 bt424.2.2.1 bt433.2.2.1).bind fun t444 => (if t444 = true then (if bt424.2.2.2 = bt433.2.2.2 then ((papermilllaw18_awake.f kj3).bind fun t445 => (some t445)) else (none)) else (none))) else (none))) else (none)) else (none))))))) = some r := by rw [if_neg (show ¬ (false = true) by decide)] at H; exact H
    clear H
    have H := H1
    clear H1
    replace H := Option.bind_eq_some_iff.mp H
    obtain ⟨⟨t412, t413, t416⟩, A120, H⟩ := H
    replace H : ((papermillref18_Fill.f kj3 a0_0 l0_1 l1).bind fun bt418 => ((chest_Draw.f kj3 a0_0 l0_1 a2).bind fun bt424 => ((papermillref18_Draw.f kj3 a0_0 l0_1 a2).bind fun bt433 => ((papermillref18_Same.f kj3 t412 t413 bt418.1 bt418.2.1).bind fun t442 => (if t442 = true then (if t416 = bt418.2.2 then ((papermillref18_Same.f kj3 bt424.1 bt424.2.1 bt433.1 bt433.2.1).bind fun t443 => (if t443 = true then ((papermillref12_Same.f kj3 bt424.2.2.1 bt433.2.2.1).bind fun t444 => (if t444 = true then (if bt424.2.2.2 = bt433.2.2.2 then ((papermilllaw18_awake.f kj3).bind fun t445 => (some t445)) else (none)) else (none))) else (none))) else (none)) else (none)))))) = some r := H
    have A12 := Aside0.mk A120
    clear A120
    replace H := Option.bind_eq_some_iff.mp H
    obtain ⟨⟨t418, t419, t422⟩, A130, H⟩ := H
    replace H : ((chest_Draw.f kj3 a0_0 l0_1 a2).bind fun bt424 => ((papermillref18_Draw.f kj3 a0_0 l0_1 a2).bind fun bt433 => ((papermillref18_Same.f kj3 t412 t413 t418 t419).bind fun t442 => (if t442 = true then (if t416 = t422 then ((papermillref18_Same.f kj3 bt424.1 bt424.2.1 bt433.1 bt433.2.1).bind fun t443 => (if t443 = true then ((papermillref12_Same.f kj3 bt424.2.2.1 bt433.2.2.1).bind fun t444 => (if t444 = true then (if bt424.2.2.2 = bt433.2.2.2 then ((papermilllaw18_awake.f kj3).bind fun t445 => (some t445)) else (none)) else (none))) else (none))) else (none)) else (none))))) = some r := H
    have A13 := Aside0.mk A130
    clear A130
    replace H := Option.bind_eq_some_iff.mp H
    obtain ⟨⟨t424, t425, t428, t431⟩, A140, H⟩ := H
    replace H : ((papermillref18_Draw.f kj3 a0_0 l0_1 a2).bind fun bt433 => ((papermillref18_Same.f kj3 t412 t413 t418 t419).bind fun t442 => (if t442 = true then (if t416 = t422 then ((papermillref18_Same.f kj3 t424 t425 bt433.1 bt433.2.1).bind fun t443 => (if t443 = true then ((papermillref12_Same.f kj3 t428 bt433.2.2.1).bind fun t444 => (if t444 = true then (if t431 = bt433.2.2.2 then ((papermilllaw18_awake.f kj3).bind fun t445 => (some t445)) else (none)) else (none))) else (none))) else (none)) else (none)))) = some r := H
    have A14 := Aside0.mk A140
    clear A140
    replace H := Option.bind_eq_some_iff.mp H
    obtain ⟨⟨t433, t434, t437, t440⟩, A150, H⟩ := H
    replace H : ((papermillref18_Same.f kj3 t412 t413 t418 t419).bind fun t442 => (if t442 = true then (if t416 = t422 then ((papermillref18_Same.f kj3 t424 t425 t433 t434).bind fun t443 => (if t443 = true then ((papermillref12_Same.f kj3 t428 t437).bind fun t444 => (if t444 = true then (if t431 = t440 then ((papermilllaw18_awake.f kj3).bind fun t445 => (some t445)) else (none)) else (none))) else (none))) else (none)) else (none))) = some r := H
    have A15 := Aside0.mk A150
    clear A150
    replace H := Option.bind_eq_some_iff.mp H
    obtain ⟨t442, A160, H⟩ := H
    replace H : (if t442 = true then (if t416 = t422 then ((papermillref18_Same.f kj3 t424 t425 t433 t434).bind fun t443 => (if t443 = true then ((papermillref12_Same.f kj3 t428 t437).bind fun t444 => (if t444 = true then (if t431 = t440 then ((papermilllaw18_awake.f kj3).bind fun t445 => (some t445)) else (none)) else (none))) else (none))) else (none)) else (none)) = some r := H
    have A16 := Aside0.mk A160
    clear A160
    by_cases c17 : t442 = true
    ·subst c17
     have H1 : (if t416 = t422 then ((papermillref18_Same.f kj3 t424 t425 t433 t434).bind fun t443 => (if t443 = true then ((papermillref12_Same.f kj3 t428 t437).bind fun t444 => (if t444 = true then (if t431 = t440 then ((papermilllaw18_awake.f kj3).bind fun t445 => (some t445)) else (none)) else (none))) else (none))) else (none)) = some r := by rw [if_pos rfl] at H; exact H
     clear H
     have H := H1
     clear H1
     by_cases c18 : t416 = t422
     ·rw [if_pos c18] at H
      have c18b0 : (t416 == t422) = true := beq_iff_eq.mpr c18
      have c18b1 : (t416 != t422) = false := bne_eq_false_iff_eq.mpr c18
      clear c18
      replace H := Option.bind_eq_some_iff.mp H
      obtain ⟨t443, A190, H⟩ := H
      replace H : (if t443 = true then ((papermillref12_Same.f kj3 t428 t437).bind fun t444 => (if t444 = true then (if t431 = t440 then ((papermilllaw18_awake.f kj3).bind fun t445 => (some t445)) else (none)) else (none))) else (none)) = some r := H
      have A19 := Aside0.mk A190
      clear A190
      by_cases c20 : t443 = true
      ·subst c20
       have H1 : ((papermillref12_Same.f kj3 t428 t437).bind fun t444 => (if t444 = true then (if t431 = t440 then ((papermilllaw18_awake.f kj3).bind fun t445 => (some t445)) else (none)) else (none))) = some r := by rw [if_pos rfl] at H; exact H
       clear H
       have H := H1
       clear H1
       replace H := Option.bind_eq_some_iff.mp H
       obtain ⟨t444, A210, H⟩ := H
       replace H : (if t444 = true then (if t431 = t440 then ((papermilllaw18_awake.f kj3).bind fun t445 => (some t445)) else (none)) else (none)) = some r := H
       have A21 := Aside0.mk A210
       clear A210
       by_cases c22 : t444 = true
       ·subst c22
        have H1 : (if t431 = t440 then ((papermilllaw18_awake.f kj3).bind fun t445 => (some t445)) else (none)) = some r := by rw [if_pos rfl] at H; exact H
        clear H
        have H := H1
        clear H1
        by_cases c23 : t431 = t440
        ·rw [if_pos c23] at H
         have c23b0 : (t431 == t440) = true := beq_iff_eq.mpr c23
         have c23b1 : (t431 != t440) = false := bne_eq_false_iff_eq.mpr c23
         clear c23
         replace H := Option.bind_eq_some_iff.mp H
         obtain ⟨t445, A240, H⟩ := H
         replace H : (some t445) = some r := H
         have A24 := Aside0.mk A240
         clear A240
         obtain rfl := Option.some.inj H
         obtain ⟨hcz25_0, hcz25_1, hfz25_0, hfz25_1⟩ := bk2 BK410
         go_wp2_with (first | ((with_reducible refine gate_callee (f := 17) rfl ?_); refine goesL_ (some 30) rfl rfl Try.func17 (by kernel_rfl) rfl #[.agg #[.int .i64 a0_0, .slice A0_1 l0_1.length c0_1], .slice A1 l1.length c1] rfl mA ?_; (with_reducible refine (chest_Fill.calls kj3 a0_0 _ _ l0_1 _ _ l1 t412 t413 t416 _ ?side1 ?side2 ?side3 ?side4 A12.out).mono ?_); (case side1 => repeat (first | exact (Kd.C_below HR0_1.out HB.out) | (with_reducible refine Kd.C_alloc ?_ _) | (with_reducible refine Kd.C_drewN ?_ _) | (with_reducible refine Kd.C_drew ?_))); (case side2 => exact HC0_1.out); (case side3 => repeat (first | exact (Kd.C_below HR1.out HB.out) | (with_reducible refine Kd.C_alloc ?_ _) | (with_reducible refine Kd.C_drewN ?_ _) | (with_reducible refine Kd.C_drew ?_))); (case side4 => exact HC1.out); rintro e w26 ⟨v414, rfl, ho0, hb⟩; refine ⟨_, rfl, ?_⟩; have HO415 := Aside0.mk (Kd.R_lower ho0 (below_size pB)); replace BK410 := Aside0.mk (kB BK410 hb); replace HB := Aside0.mk (below_step pB hb); (try clear hb); (try clear hb2); (try clear hk); (try clear hi); (try clear ho0)) | ((with_reducible refine gate_dst (N := 7) rfl ?_); (try (refine gate_guard (by rfl) ?_; dsimp only)); refine box_event ?hg (N := 7) ?hd (cs := #[.int .i64 0, .slice none 0 0]) (t := 24) ?hr ?_; (case hd => rfl); (case hg => rfl); (case hr => first | (go_simp; done) | (go_simp; rfl)); intro gb417 hg w27 hbox hb; have BK417 := Aside0.mk (hbox); have GW417 := Aside0.mk (gW hg : w.heap.size ≤ gb417); have GE417 := Aside0.mk (gW hg : w.heap.size ≤ gb417); have NB410_417 := Aside0.mk (nL hg BK410 : gb410 ≠ gb417); have NB417_410 := Aside0.mk (nG hg BK410 : gb417 ≠ gb410); replace HO415 := Aside0.mk (Kd.R_below (rX HO415.out) hb); replace BK410 := Aside0.mk (kB BK410 hb); replace HB := Aside0.mk (below_step pB hb); clear hb hbox hg; have hnb28 := NB417_410.out; have hnc28 := NB410_417.out; obtain ⟨hcz29_0, hcz29_1, hfz29_0, hfz29_1⟩ := bk2 BK417; obtain ⟨Ao30, co30, eo30⟩ := Kd.R_slice HO415.out; subst eo30; obtain ⟨hcz31_0, hcz31_1, hfz31_0, hfz31_1⟩ := bk2 BK410) | ((with_reducible refine gate_callee (f := 18) rfl ?_); refine goesL_ (some 36) rfl rfl Try.func18 (by kernel_rfl) rfl #[.agg #[.int .i64 a0_0, .slice A0_1 l0_1.length c0_1], .slice A1 l1.length c1] rfl mA ?_; (with_reducible refine (papermillref18_Fill.calls kj3 a0_0 _ _ l0_1 _ _ l1 t418 t419 t422 _ ?side1 ?side2 ?side3 ?side4 A13.out).mono ?_); (case side1 => exact Kd.C_below HR0_1.out pB); (case side2 => exact HC0_1.out); (case side3 => exact Kd.C_below HR1.out pB); (case side4 => exact HC1.out); rintro e w32 ⟨v420, rfl, ho0, hb⟩; refine ⟨_, rfl, ?_⟩; have HO421 := Aside0.mk (Kd.R_lower (Kd.R_new' ho0 (Kd.R_lt (rX (Kd.R_mono (Kd.R_far (p := ⟨gb417, 1, none⟩) (Kd.R_far (p := ⟨gb417, 0, none⟩) (Kd.R_types HO415.out BK417.out (by decide)) (fun _ hk => hk.2) (.int .i64 t412)) (fun _ hk => hk.2) (.slice Ao30 t413.length co30)) (fun _ h_ => h_.1))))) (below_size pB)); replace HO415 := Aside0.mk (Kd.R_elder' (rX (Kd.R_mono (Kd.R_far (p := ⟨gb417, 1, none⟩) (Kd.R_far (p := ⟨gb417, 0, none⟩) (Kd.R_types HO415.out BK417.out (by decide)) (fun _ hk => hk.2) (.int .i64 t412)) (fun _ hk => hk.2) (.slice Ao30 t413.length co30)) (fun _ h_ => h_.1))) (Kd.R_base ho0) hb); replace BK410 := Aside0.mk (blk_below (g := gb410) (o := .cells #[.int .i64 a0_0, .slice A0_1 l0_1.length c0_1] 24 (0, 0)) (by (with_reducible repeat (first | refine blk_drewN ?_ _ | refine blk_drew ?_ | refine blk_alloc ?_ _)); refine blk_far ?_ NB410_417.out _; (with_reducible repeat (first | refine blk_drewN ?_ _ | refine blk_drew ?_ | refine blk_alloc ?_ _)); refine blk_far ?_ NB410_417.out _; (with_reducible repeat (first | refine blk_drewN ?_ _ | refine blk_drew ?_ | refine blk_alloc ?_ _)); exact BK410.out) hb); replace BK417 := Aside0.mk (blk_below (g := gb417) (o := .cells #[.int .i64 t412, .slice Ao30 t413.length co30] 24 (0, 0)) (by (with_reducible repeat (first | refine blk_drewN ?_ _ | refine blk_drew ?_ | refine blk_alloc ?_ _)); refine blk_put (cs := #[.int .i64 t412, .slice none 0 0]) ?_ 1 _ rfl; (with_reducible repeat (first | refine blk_drewN ?_ _ | refine blk_drew ?_ | refine blk_alloc ?_ _)); refine blk_put (cs := #[.int .i64 0, .slice none 0 0]) ?_ 0 _ rfl; (with_reducible repeat (first | refine blk_drewN ?_ _ | refine blk_drew ?_ | refine blk_alloc ?_ _)); exact BK417.out) hb); replace HB := Aside0.mk (below_step pB hb); (try clear hb); (try clear hb2); (try clear hk); (try clear hi); (try clear ho0)) | ((with_reducible refine gate_dst (N := 9) rfl ?_); (try (refine gate_guard (by rfl) ?_; dsimp only)); refine box_event ?hg (N := 9) ?hd (cs := #[.int .i64 0, .slice none 0 0]) (t := 24) ?hr ?_; (case hd => rfl); (case hg => rfl); (case hr => first | (go_simp; done) | (go_simp; rfl)); intro gb423 hg w33 hbox hb; have BK423 := Aside0.mk (hbox); have GW423 := Aside0.mk (gW hg : w.heap.size ≤ gb423); have GE423 := Aside0.mk (gW hg : w.heap.size ≤ gb423); have NB410_423 := Aside0.mk (nL hg BK410 : gb410 ≠ gb423); have NB423_410 := Aside0.mk (nG hg BK410 : gb423 ≠ gb410); have NB417_423 := Aside0.mk (nL hg BK417 : gb417 ≠ gb423); have NB423_417 := Aside0.mk (nG hg BK417 : gb423 ≠ gb417); replace HO415 := Aside0.mk (Kd.R_below (rX HO415.out) hb); replace HO421 := Aside0.mk (Kd.R_below (rX HO421.out) hb); replace BK410 := Aside0.mk (kB BK410 hb); replace BK417 := Aside0.mk (kB BK417 hb); replace HB := Aside0.mk (below_step pB hb); clear hb hbox hg; have hnb34 := NB423_410.out; have hnc34 := NB410_423.out; have hnb35 := NB423_417.out; have hnc35 := NB417_423.out; obtain ⟨hcz36_0, hcz36_1, hfz36_0, hfz36_1⟩ := bk2 BK423; obtain ⟨Ao37, co37, eo37⟩ := Kd.R_slice HO421.out; subst eo37; obtain ⟨hcz38_0, hcz38_1, hfz38_0, hfz38_1⟩ := bk2 BK410) | ((with_reducible refine gate_callee (f := 19) rfl ?_); refine goesL_ (some 42) rfl rfl Try.func19 (by kernel_rfl) rfl #[.agg #[.int .i64 a0_0, .slice A0_1 l0_1.length c0_1], .int .i64 a2] rfl mA ?_; (with_reducible refine (chest_Draw.calls kj3 a0_0 _ _ l0_1 a2 t424 t425 t428 t431 _ ?side1 ?side2 A14.out).mono ?_); (case side1 => exact Kd.C_below HR0_1.out pB); (case side2 => exact HC0_1.out); rintro e w39 ⟨v426, v429, rfl, ho0, ho1, hb⟩; refine ⟨_, rfl, ?_⟩; have HO427 := Aside0.mk (Kd.R_lower (Kd.R_new' (Kd.R_new' ho0 (Kd.R_lt (rX (Kd.R_mono (Kd.R_far (p := ⟨gb423, 1, none⟩) (Kd.R_far (p := ⟨gb423, 0, none⟩) (Kd.R_types HO415.out BK423.out (by decide)) (fun _ hk => hk.2) (.int .i64 t418)) (fun _ hk => hk.2) (.slice Ao37 t419.length co37)) (fun _ h_ => h_.1))))) (Kd.R_lt (rX (Kd.R_mono (Kd.R_far (p := ⟨gb423, 1, none⟩) (Kd.R_far (p := ⟨gb423, 0, none⟩) (Kd.R_types HO421.out BK423.out (by decide)) (fun _ hk => hk.2) (.int .i64 t418)) (fun _ hk => hk.2) (.slice Ao37 t419.length co37)) (fun _ h_ => h_.1))))) (below_size pB)); have HO430 := Aside0.mk (Kd.R_lower (Kd.R_new' (Kd.R_new' ho1 (Kd.R_lt (rX (Kd.R_mono (Kd.R_far (p := ⟨gb423, 1, none⟩) (Kd.R_far (p := ⟨gb423, 0, none⟩) (Kd.R_types HO415.out BK423.out (by decide)) (fun _ hk => hk.2) (.int .i64 t418)) (fun _ hk => hk.2) (.slice Ao37 t419.length co37)) (fun _ h_ => h_.1))))) (Kd.R_lt (rX (Kd.R_mono (Kd.R_far (p := ⟨gb423, 1, none⟩) (Kd.R_far (p := ⟨gb423, 0, none⟩) (Kd.R_types HO421.out BK423.out (by decide)) (fun _ hk => hk.2) (.int .i64 t418)) (fun _ hk => hk.2) (.slice Ao37 t419.length co37)) (fun _ h_ => h_.1))))) (below_size pB)); replace HO415 := Aside0.mk (Kd.R_mono (Kd.R_told (Kd.R_told (Kd.R_old (rX (Kd.R_mono (Kd.R_far (p := ⟨gb423, 1, none⟩) (Kd.R_far (p := ⟨gb423, 0, none⟩) (Kd.R_types HO415.out BK423.out (by decide)) (fun _ hk => hk.2) (.int .i64 t418)) (fun _ hk => hk.2) (.slice Ao37 t419.length co37)) (fun _ h_ => h_.1))) hb) (Kd.R_base ho0)) (Kd.R_base ho1)) (fun _ h_ => h_.1)); replace HO421 := Aside0.mk (Kd.R_mono (Kd.R_told (Kd.R_told (Kd.R_old (rX (Kd.R_mono (Kd.R_far (p := ⟨gb423, 1, none⟩) (Kd.R_far (p := ⟨gb423, 0, none⟩) (Kd.R_types HO421.out BK423.out (by decide)) (fun _ hk => hk.2) (.int .i64 t418)) (fun _ hk => hk.2) (.slice Ao37 t419.length co37)) (fun _ h_ => h_.1))) hb) (Kd.R_base ho0)) (Kd.R_base ho1)) (fun _ h_ => h_.1)); replace BK410 := Aside0.mk (blk_below (g := gb410) (o := .cells #[.int .i64 a0_0, .slice A0_1 l0_1.length c0_1] 24 (0, 0)) (by (with_reducible repeat (first | refine blk_drewN ?_ _ | refine blk_drew ?_ | refine blk_alloc ?_ _)); refine blk_far ?_ NB410_423.out _; (with_reducible repeat (first | refine blk_drewN ?_ _ | refine blk_drew ?_ | refine blk_alloc ?_ _)); refine blk_far ?_ NB410_423.out _; (with_reducible repeat (first | refine blk_drewN ?_ _ | refine blk_drew ?_ | refine blk_alloc ?_ _)); exact BK410.out) hb); replace BK417 := Aside0.mk (blk_below (g := gb417) (o := .cells #[.int .i64 t412, .slice Ao30 t413.length co30] 24 (0, 0)) (by (with_reducible repeat (first | refine blk_drewN ?_ _ | refine blk_drew ?_ | refine blk_alloc ?_ _)); refine blk_far ?_ NB417_423.out _; (with_reducible repeat (first | refine blk_drewN ?_ _ | refine blk_drew ?_ | refine blk_alloc ?_ _)); refine blk_far ?_ NB417_423.out _; (with_reducible repeat (first | refine blk_drewN ?_ _ | refine blk_drew ?_ | refine blk_alloc ?_ _)); exact BK417.out) hb); replace BK423 := Aside0.mk (blk_below (g := gb423) (o := .cells #[.int .i64 t418, .slice Ao37 t419.length co37] 24 (0, 0)) (by (with_reducible repeat (first | refine blk_drewN ?_ _ | refine blk_drew ?_ | refine blk_alloc ?_ _)); refine blk_put (cs := #[.int .i64 t418, .slice none 0 0]) ?_ 1 _ rfl; (with_reducible repeat (first | refine blk_drewN ?_ _ | refine blk_drew ?_ | refine blk_alloc ?_ _)); refine blk_put (cs := #[.int .i64 0, .slice none 0 0]) ?_ 0 _ rfl; (with_reducible repeat (first | refine blk_drewN ?_ _ | refine blk_drew ?_ | refine blk_alloc ?_ _)); exact BK423.out) hb); replace HB := Aside0.mk (below_step pB hb); (try clear hb); (try clear hb2); (try clear hk); (try clear hi); (try clear ho0); (try clear ho1)) | ((with_reducible refine gate_dst (N := 11) rfl ?_); (try (refine gate_guard (by rfl) ?_; dsimp only)); refine box_event ?hg (N := 11) ?hd (cs := #[.int .i64 0, .slice none 0 0]) (t := 24) ?hr ?_; (case hd => rfl); (case hg => rfl); (case hr => first | (go_simp; done) | (go_simp; rfl)); intro gb432 hg w40 hbox hb; have BK432 := Aside0.mk (hbox); have GW432 := Aside0.mk (gW hg : w.heap.size ≤ gb432); have GE432 := Aside0.mk (gW hg : w.heap.size ≤ gb432); have NB410_432 := Aside0.mk (nL hg BK410 : gb410 ≠ gb432); have NB432_410 := Aside0.mk (nG hg BK410 : gb432 ≠ gb410); have NB417_432 := Aside0.mk (nL hg BK417 : gb417 ≠ gb432); have NB432_417 := Aside0.mk (nG hg BK417 : gb432 ≠ gb417); have NB423_432 := Aside0.mk (nL hg BK423 : gb423 ≠ gb432); have NB432_423 := Aside0.mk (nG hg BK423 : gb432 ≠ gb423); replace HO415 := Aside0.mk (Kd.R_below (rX HO415.out) hb); replace HO421 := Aside0.mk (Kd.R_below (rX HO421.out) hb); replace HO427 := Aside0.mk (Kd.R_below (rX HO427.out) hb); replace HO430 := Aside0.mk (Kd.R_below (rX HO430.out) hb); replace BK410 := Aside0.mk (kB BK410 hb); replace BK417 := Aside0.mk (kB BK417 hb); replace BK423 := Aside0.mk (kB BK423 hb); replace HB := Aside0.mk (below_step pB hb); clear hb hbox hg; have hnb41 := NB432_410.out; have hnc41 := NB410_432.out; have hnb42 := NB432_417.out; have hnc42 := NB417_432.out; have hnb43 := NB432_423.out; have hnc43 := NB423_432.out; obtain ⟨hcz44_0, hcz44_1, hfz44_0, hfz44_1⟩ := bk2 BK432; obtain ⟨Ao45, co45, eo45⟩ := Kd.R_slice HO427.out; subst eo45; obtain ⟨hcz46_0, hcz46_1, hfz46_0, hfz46_1⟩ := bk2 BK410) | ((with_reducible refine gate_callee (f := 20) rfl ?_); refine goesL_ (some 49) rfl rfl Try.func20 (by kernel_rfl) rfl #[.agg #[.int .i64 a0_0, .slice A0_1 l0_1.length c0_1], .int .i64 a2] rfl mA ?_; (with_reducible refine (papermillref18_Draw.calls kj3 a0_0 _ _ l0_1 a2 t433 t434 t437 t440 _ ?side1 ?side2 A15.out).mono ?_); (case side1 => exact Kd.C_below HR0_1.out pB); (case side2 => exact HC0_1.out); rintro e w47 ⟨v435, v438, rfl, ho0, ho1, hb⟩; refine ⟨_, rfl, ?_⟩; have HO436 := Aside0.mk (Kd.R_lower (Kd.R_new' (Kd.R_new' (Kd.R_new' (Kd.R_new' ho0 (Kd.R_lt (rX (Kd.R_mono (Kd.R_far (p := ⟨gb432, 1, none⟩) (Kd.R_far (p := ⟨gb432, 0, none⟩) (Kd.R_types HO415.out BK432.out (by decide)) (fun _ hk => hk.2) (.int .i64 t424)) (fun _ hk => hk.2) (.slice Ao45 t425.length co45)) (fun _ h_ => h_.1))))) (Kd.R_lt (rX (Kd.R_mono (Kd.R_far (p := ⟨gb432, 1, none⟩) (Kd.R_far (p := ⟨gb432, 0, none⟩) (Kd.R_types HO421.out BK432.out (by decide)) (fun _ hk => hk.2) (.int .i64 t424)) (fun _ hk => hk.2) (.slice Ao45 t425.length co45)) (fun _ h_ => h_.1))))) (Kd.R_lt (rX (Kd.R_mono (Kd.R_far (p := ⟨gb432, 1, none⟩) (Kd.R_far (p := ⟨gb432, 0, none⟩) (Kd.R_types HO427.out BK432.out (by decide)) (fun _ hk => hk.2) (.int .i64 t424)) (fun _ hk => hk.2) (.slice Ao45 t425.length co45)) (fun _ h_ => h_.1))))) (Kd.R_lt (rX (Kd.R_mono (Kd.R_far (p := ⟨gb432, 1, none⟩) (Kd.R_far (p := ⟨gb432, 0, none⟩) (Kd.R_types HO430.out BK432.out (by decide)) (fun _ hk => hk.2) (.int .i64 t424)) (fun _ hk => hk.2) (.slice Ao45 t425.length co45)) (fun _ h_ => h_.1))))) (below_size pB)); have HO439 := Aside0.mk (Kd.R_lower (Kd.R_new' (Kd.R_new' (Kd.R_new' (Kd.R_new' ho1 (Kd.R_lt (rX (Kd.R_mono (Kd.R_far (p := ⟨gb432, 1, none⟩) (Kd.R_far (p := ⟨gb432, 0, none⟩) (Kd.R_types HO415.out BK432.out (by decide)) (fun _ hk => hk.2) (.int .i64 t424)) (fun _ hk => hk.2) (.slice Ao45 t425.length co45)) (fun _ h_ => h_.1))))) (Kd.R_lt (rX (Kd.R_mono (Kd.R_far (p := ⟨gb432, 1, none⟩) (Kd.R_far (p := ⟨gb432, 0, none⟩) (Kd.R_types HO421.out BK432.out (by decide)) (fun _ hk => hk.2) (.int .i64 t424)) (fun _ hk => hk.2) (.slice Ao45 t425.length co45)) (fun _ h_ => h_.1))))) (Kd.R_lt (rX (Kd.R_mono (Kd.R_far (p := ⟨gb432, 1, none⟩) (Kd.R_far (p := ⟨gb432, 0, none⟩) (Kd.R_types HO427.out BK432.out (by decide)) (fun _ hk => hk.2) (.int .i64 t424)) (fun _ hk => hk.2) (.slice Ao45 t425.length co45)) (fun _ h_ => h_.1))))) (Kd.R_lt (rX (Kd.R_mono (Kd.R_far (p := ⟨gb432, 1, none⟩) (Kd.R_far (p := ⟨gb432, 0, none⟩) (Kd.R_types HO430.out BK432.out (by decide)) (fun _ hk => hk.2) (.int .i64 t424)) (fun _ hk => hk.2) (.slice Ao45 t425.length co45)) (fun _ h_ => h_.1))))) (below_size pB)); replace HO415 := Aside0.mk (Kd.R_mono (Kd.R_told (Kd.R_told (Kd.R_old (rX (Kd.R_mono (Kd.R_far (p := ⟨gb432, 1, none⟩) (Kd.R_far (p := ⟨gb432, 0, none⟩) (Kd.R_types HO415.out BK432.out (by decide)) (fun _ hk => hk.2) (.int .i64 t424)) (fun _ hk => hk.2) (.slice Ao45 t425.length co45)) (fun _ h_ => h_.1))) hb) (Kd.R_base ho0)) (Kd.R_base ho1)) (fun _ h_ => h_.1)); replace HO421 := Aside0.mk (Kd.R_mono (Kd.R_told (Kd.R_told (Kd.R_old (rX (Kd.R_mono (Kd.R_far (p := ⟨gb432, 1, none⟩) (Kd.R_far (p := ⟨gb432, 0, none⟩) (Kd.R_types HO421.out BK432.out (by decide)) (fun _ hk => hk.2) (.int .i64 t424)) (fun _ hk => hk.2) (.slice Ao45 t425.length co45)) (fun _ h_ => h_.1))) hb) (Kd.R_base ho0)) (Kd.R_base ho1)) (fun _ h_ => h_.1)); replace HO427 := Aside0.mk (Kd.R_mono (Kd.R_told (Kd.R_told (Kd.R_old (rX (Kd.R_mono (Kd.R_far (p := ⟨gb432, 1, none⟩) (Kd.R_far (p := ⟨gb432, 0, none⟩) (Kd.R_types HO427.out BK432.out (by decide)) (fun _ hk => hk.2) (.int .i64 t424)) (fun _ hk => hk.2) (.slice Ao45 t425.length co45)) (fun _ h_ => h_.1))) hb) (Kd.R_base ho0)) (Kd.R_base ho1)) (fun _ h_ => h_.1)); replace HO430 := Aside0.mk (Kd.R_mono (Kd.R_told (Kd.R_told (Kd.R_old (rX (Kd.R_mono (Kd.R_far (p := ⟨gb432, 1, none⟩) (Kd.R_far (p := ⟨gb432, 0, none⟩) (Kd.R_types HO430.out BK432.out (by decide)) (fun _ hk => hk.2) (.int .i64 t424)) (fun _ hk => hk.2) (.slice Ao45 t425.length co45)) (fun _ h_ => h_.1))) hb) (Kd.R_base ho0)) (Kd.R_base ho1)) (fun _ h_ => h_.1)); replace BK410 := Aside0.mk (blk_below (g := gb410) (o := .cells #[.int .i64 a0_0, .slice A0_1 l0_1.length c0_1] 24 (0, 0)) (by (with_reducible repeat (first | refine blk_drewN ?_ _ | refine blk_drew ?_ | refine blk_alloc ?_ _)); refine blk_far ?_ NB410_432.out _; (with_reducible repeat (first | refine blk_drewN ?_ _ | refine blk_drew ?_ | refine blk_alloc ?_ _)); refine blk_far ?_ NB410_432.out _; (with_reducible repeat (first | refine blk_drewN ?_ _ | refine blk_drew ?_ | refine blk_alloc ?_ _)); exact BK410.out) hb); replace BK417 := Aside0.mk (blk_below (g := gb417) (o := .cells #[.int .i64 t412, .slice Ao30 t413.length co30] 24 (0, 0)) (by (with_reducible repeat (first | refine blk_drewN ?_ _ | refine blk_drew ?_ | refine blk_alloc ?_ _)); refine blk_far ?_ NB417_432.out _; (with_reducible repeat (first | refine blk_drewN ?_ _ | refine blk_drew ?_ | refine blk_alloc ?_ _)); refine blk_far ?_ NB417_432.out _; (with_reducible repeat (first | refine blk_drewN ?_ _ | refine blk_drew ?_ | refine blk_alloc ?_ _)); exact BK417.out) hb); replace BK423 := Aside0.mk (blk_below (g := gb423) (o := .cells #[.int .i64 t418, .slice Ao37 t419.length co37] 24 (0, 0)) (by (with_reducible repeat (first | refine blk_drewN ?_ _ | refine blk_drew ?_ | refine blk_alloc ?_ _)); refine blk_far ?_ NB423_432.out _; (with_reducible repeat (first | refine blk_drewN ?_ _ | refine blk_drew ?_ | refine blk_alloc ?_ _)); refine blk_far ?_ NB423_432.out _; (with_reducible repeat (first | refine blk_drewN ?_ _ | refine blk_drew ?_ | refine blk_alloc ?_ _)); exact BK423.out) hb); replace BK432 := Aside0.mk (blk_below (g := gb432) (o := .cells #[.int .i64 t424, .slice Ao45 t425.length co45] 24 (0, 0)) (by (with_reducible repeat (first | refine blk_drewN ?_ _ | refine blk_drew ?_ | refine blk_alloc ?_ _)); refine blk_put (cs := #[.int .i64 t424, .slice none 0 0]) ?_ 1 _ rfl; (with_reducible repeat (first | refine blk_drewN ?_ _ | refine blk_drew ?_ | refine blk_alloc ?_ _)); refine blk_put (cs := #[.int .i64 0, .slice none 0 0]) ?_ 0 _ rfl; (with_reducible repeat (first | refine blk_drewN ?_ _ | refine blk_drew ?_ | refine blk_alloc ?_ _)); exact BK432.out) hb); replace HB := Aside0.mk (below_step pB hb); (try clear hb); (try clear hb2); (try clear hk); (try clear hi); (try clear ho0); (try clear ho1)) | ((with_reducible refine gate_dst (N := 14) rfl ?_); (try (refine gate_guard (by rfl) ?_; dsimp only)); refine box_event ?hg (N := 14) ?hd (cs := #[.int .i64 0, .slice none 0 0]) (t := 24) ?hr ?_; (case hd => rfl); (case hg => rfl); (case hr => first | (go_simp; done) | (go_simp; rfl)); intro gb441 hg w48 hbox hb; have BK441 := Aside0.mk (hbox); have GW441 := Aside0.mk (gW hg : w.heap.size ≤ gb441); have GE441 := Aside0.mk (gW hg : w.heap.size ≤ gb441); have NB410_441 := Aside0.mk (nL hg BK410 : gb410 ≠ gb441); have NB441_410 := Aside0.mk (nG hg BK410 : gb441 ≠ gb410); have NB417_441 := Aside0.mk (nL hg BK417 : gb417 ≠ gb441); have NB441_417 := Aside0.mk (nG hg BK417 : gb441 ≠ gb417); have NB423_441 := Aside0.mk (nL hg BK423 : gb423 ≠ gb441); have NB441_423 := Aside0.mk (nG hg BK423 : gb441 ≠ gb423); have NB432_441 := Aside0.mk (nL hg BK432 : gb432 ≠ gb441); have NB441_432 := Aside0.mk (nG hg BK432 : gb441 ≠ gb432); replace HO415 := Aside0.mk (Kd.R_below (rX HO415.out) hb); replace HO421 := Aside0.mk (Kd.R_below (rX HO421.out) hb); replace HO427 := Aside0.mk (Kd.R_below (rX HO427.out) hb); replace HO430 := Aside0.mk (Kd.R_below (rX HO430.out) hb); replace HO436 := Aside0.mk (Kd.R_below (rX HO436.out) hb); replace HO439 := Aside0.mk (Kd.R_below (rX HO439.out) hb); replace BK410 := Aside0.mk (kB BK410 hb); replace BK417 := Aside0.mk (kB BK417 hb); replace BK423 := Aside0.mk (kB BK423 hb); replace BK432 := Aside0.mk (kB BK432 hb); replace HB := Aside0.mk (below_step pB hb); clear hb hbox hg; have hnb49 := NB441_410.out; have hnc49 := NB410_441.out; have hnb50 := NB441_417.out; have hnc50 := NB417_441.out; have hnb51 := NB441_423.out; have hnc51 := NB423_441.out; have hnb52 := NB441_432.out; have hnc52 := NB432_441.out; obtain ⟨hcz53_0, hcz53_1, hfz53_0, hfz53_1⟩ := bk2 BK441; obtain ⟨Ao54, co54, eo54⟩ := Kd.R_slice HO436.out; subst eo54; obtain ⟨hcz55_0, hcz55_1, hfz55_0, hfz55_1⟩ := bk2 BK417; obtain ⟨hcz56_0, hcz56_1, hfz56_0, hfz56_1⟩ := bk2 BK423) | ((with_reducible refine gate_callee (f := 21) rfl ?_); refine goesL_ (some 55) rfl rfl Try.func21 (by kernel_rfl) rfl #[.agg #[.int .i64 t412, .slice Ao30 t413.length co30], .agg #[.int .i64 t418, .slice Ao37 t419.length co37]] rfl mA ?_; (with_reducible refine (papermillref18_Same.calls kj3 t412 _ _ t413 t418 _ _ t419 true _ ?side1 ?side2 ?side3 ?side4 A16.out).mono ?_); (case side1 => refine (Kd.R_reads' (e := 3) (base := w.heap.size) (ok := fun k_ => (((((True ∧ some k_ ≠ (.slice Ao37 t419.length co37 : Value).ownBlock) ∧ some k_ ≠ (.slice Ao45 t425.length co45 : Value).ownBlock) ∧ some k_ ≠ (v429 : Value).ownBlock) ∧ some k_ ≠ (.slice Ao54 t434.length co54 : Value).ownBlock) ∧ some k_ ≠ (v438 : Value).ownBlock)) (n := t413.length) (c := co30) ?_).2.2; exact (rX (Kd.R_mono (Kd.R_far (p := ⟨gb441, 1, none⟩) (Kd.R_far (p := ⟨gb441, 0, none⟩) (Kd.R_types HO415.out BK441.out (by decide)) (fun _ hk => hk.2) (.int .i64 t433)) (fun _ hk => hk.2) (.slice Ao54 t434.length co54)) (fun _ h_ => h_.1)))); (case side2 => exact (Kd.R_reads' HO415.out).2.1); (case side3 => refine (Kd.R_reads' (e := 3) (base := w.heap.size) (ok := fun k_ => (((((True ∧ some k_ ≠ (.slice Ao30 t413.length co30 : Value).ownBlock) ∧ some k_ ≠ (.slice Ao45 t425.length co45 : Value).ownBlock) ∧ some k_ ≠ (v429 : Value).ownBlock) ∧ some k_ ≠ (.slice Ao54 t434.length co54 : Value).ownBlock) ∧ some k_ ≠ (v438 : Value).ownBlock)) (n := t419.length) (c := co37) ?_).2.2; exact (rX (Kd.R_mono (Kd.R_far (p := ⟨gb441, 1, none⟩) (Kd.R_far (p := ⟨gb441, 0, none⟩) (Kd.R_types HO421.out BK441.out (by decide)) (fun _ hk => hk.2) (.int .i64 t433)) (fun _ hk => hk.2) (.slice Ao54 t434.length co54)) (fun _ h_ => h_.1)))); (case side4 => exact (Kd.R_reads' HO421.out).2.1); rintro e w57 ⟨rfl, hb⟩; refine ⟨_, rfl, ?_⟩; replace HO415 := Aside0.mk (Kd.R_below (rX (Kd.R_mono (Kd.R_far (p := ⟨gb441, 1, none⟩) (Kd.R_far (p := ⟨gb441, 0, none⟩) (Kd.R_types HO415.out BK441.out (by decide)) (fun _ hk => hk.2) (.int .i64 t433)) (fun _ hk => hk.2) (.slice Ao54 t434.length co54)) (fun _ h_ => h_.1))) hb); replace HO421 := Aside0.mk (Kd.R_below (rX (Kd.R_mono (Kd.R_far (p := ⟨gb441, 1, none⟩) (Kd.R_far (p := ⟨gb441, 0, none⟩) (Kd.R_types HO421.out BK441.out (by decide)) (fun _ hk => hk.2) (.int .i64 t433)) (fun _ hk => hk.2) (.slice Ao54 t434.length co54)) (fun _ h_ => h_.1))) hb); replace HO427 := Aside0.mk (Kd.R_below (rX (Kd.R_mono (Kd.R_far (p := ⟨gb441, 1, none⟩) (Kd.R_far (p := ⟨gb441, 0, none⟩) (Kd.R_types HO427.out BK441.out (by decide)) (fun _ hk => hk.2) (.int .i64 t433)) (fun _ hk => hk.2) (.slice Ao54 t434.length co54)) (fun _ h_ => h_.1))) hb); replace HO430 := Aside0.mk (Kd.R_below (rX (Kd.R_mono (Kd.R_far (p := ⟨gb441, 1, none⟩) (Kd.R_far (p := ⟨gb441, 0, none⟩) (Kd.R_types HO430.out BK441.out (by decide)) (fun _ hk => hk.2) (.int .i64 t433)) (fun _ hk => hk.2) (.slice Ao54 t434.length co54)) (fun _ h_ => h_.1))) hb); replace HO436 := Aside0.mk (Kd.R_below (rX (Kd.R_mono (Kd.R_far (p := ⟨gb441, 1, none⟩) (Kd.R_far (p := ⟨gb441, 0, none⟩) (Kd.R_types HO436.out BK441.out (by decide)) (fun _ hk => hk.2) (.int .i64 t433)) (fun _ hk => hk.2) (.slice Ao54 t434.length co54)) (fun _ h_ => h_.1))) hb); replace HO439 := Aside0.mk (Kd.R_below (rX (Kd.R_mono (Kd.R_far (p := ⟨gb441, 1, none⟩) (Kd.R_far (p := ⟨gb441, 0, none⟩) (Kd.R_types HO439.out BK441.out (by decide)) (fun _ hk => hk.2) (.int .i64 t433)) (fun _ hk => hk.2) (.slice Ao54 t434.length co54)) (fun _ h_ => h_.1))) hb); replace BK410 := Aside0.mk (blk_below (g := gb410) (o := .cells #[.int .i64 a0_0, .slice A0_1 l0_1.length c0_1] 24 (0, 0)) (by (with_reducible repeat (first | refine blk_drewN ?_ _ | refine blk_drew ?_ | refine blk_alloc ?_ _)); refine blk_far ?_ NB410_441.out _; (with_reducible repeat (first | refine blk_drewN ?_ _ | refine blk_drew ?_ | refine blk_alloc ?_ _)); refine blk_far ?_ NB410_441.out _; (with_reducible repeat (first | refine blk_drewN ?_ _ | refine blk_drew ?_ | refine blk_alloc ?_ _)); exact BK410.out) hb); replace BK417 := Aside0.mk (blk_below (g := gb417) (o := .cells #[.int .i64 t412, .slice Ao30 t413.length co30] 24 (0, 0)) (by (with_reducible repeat (first | refine blk_drewN ?_ _ | refine blk_drew ?_ | refine blk_alloc ?_ _)); refine blk_far ?_ NB417_441.out _; (with_reducible repeat (first | refine blk_drewN ?_ _ | refine blk_drew ?_ | refine blk_alloc ?_ _)); refine blk_far ?_ NB417_441.out _; (with_reducible repeat (first | refine blk_drewN ?_ _ | refine blk_drew ?_ | refine blk_alloc ?_ _)); exact BK417.out) hb); replace BK423 := Aside0.mk (blk_below (g := gb423) (o := .cells #[.int .i64 t418, .slice Ao37 t419.length co37] 24 (0, 0)) (by (with_reducible repeat (first | refine blk_drewN ?_ _ | refine blk_drew ?_ | refine blk_alloc ?_ _)); refine blk_far ?_ NB423_441.out _; (with_reducible repeat (first | refine blk_drewN ?_ _ | refine blk_drew ?_ | refine blk_alloc ?_ _)); refine blk_far ?_ NB423_441.out _; (with_reducible repeat (first | refine blk_drewN ?_ _ | refine blk_drew ?_ | refine blk_alloc ?_ _)); exact BK423.out) hb); replace BK432 := Aside0.mk (blk_below (g := gb432) (o := .cells #[.int .i64 t424, .slice Ao45 t425.length co45] 24 (0, 0)) (by (with_reducible repeat (first | refine blk_drewN ?_ _ | refine blk_drew ?_ | refine blk_alloc ?_ _)); refine blk_far ?_ NB432_441.out _; (with_reducible repeat (first | refine blk_drewN ?_ _ | refine blk_drew ?_ | refine blk_alloc ?_ _)); refine blk_far ?_ NB432_441.out _; (with_reducible repeat (first | refine blk_drewN ?_ _ | refine blk_drew ?_ | refine blk_alloc ?_ _)); exact BK432.out) hb); replace BK441 := Aside0.mk (blk_below (g := gb441) (o := .cells #[.int .i64 t433, .slice Ao54 t434.length co54] 24 (0, 0)) (by (with_reducible repeat (first | refine blk_drewN ?_ _ | refine blk_drew ?_ | refine blk_alloc ?_ _)); refine blk_put (cs := #[.int .i64 t433, .slice none 0 0]) ?_ 1 _ rfl; (with_reducible repeat (first | refine blk_drewN ?_ _ | refine blk_drew ?_ | refine blk_alloc ?_ _)); refine blk_put (cs := #[.int .i64 0, .slice none 0 0]) ?_ 0 _ rfl; (with_reducible repeat (first | refine blk_drewN ?_ _ | refine blk_drew ?_ | refine blk_alloc ?_ _)); exact BK441.out) hb); replace HB := Aside0.mk (below_step pB hb); (try clear hb); (try clear hb2); (try clear hk); (try clear hi); obtain ⟨hcz58_0, hcz58_1, hfz58_0, hfz58_1⟩ := bk2 BK432; obtain ⟨hcz59_0, hcz59_1, hfz59_0, hfz59_1⟩ := bk2 BK441) | (go_at_call 21; (with_reducible refine (papermillref18_Same.calls kj3 t424 _ _ t425 t433 _ _ t434 true _ ?side1 ?side2 ?side3 ?side4 A19.out).mono ?_); (case side1 => repeat (first | exact (Kd.R_reads' HO427.out).2.2 | (with_reducible refine Kd.C_alloc ?_ _) | (with_reducible refine Kd.C_drewN ?_ _) | (with_reducible refine Kd.C_drew ?_))); (case side2 => exact (Kd.R_reads' HO427.out).2.1); (case side3 => repeat (first | exact (Kd.R_reads' HO436.out).2.2 | (with_reducible refine Kd.C_alloc ?_ _) | (with_reducible refine Kd.C_drewN ?_ _) | (with_reducible refine Kd.C_drew ?_))); (case side4 => exact (Kd.R_reads' HO436.out).2.1); rintro e w60 ⟨rfl, hb⟩; replace HO415 := Aside0.mk (Kd.R_below (rX HO415.out) hb); replace HO421 := Aside0.mk (Kd.R_below (rX HO421.out) hb); replace HO427 := Aside0.mk (Kd.R_below (rX HO427.out) hb); replace HO430 := Aside0.mk (Kd.R_below (rX HO430.out) hb); replace HO436 := Aside0.mk (Kd.R_below (rX HO436.out) hb); replace HO439 := Aside0.mk (Kd.R_below (rX HO439.out) hb); replace BK410 := Aside0.mk (kB BK410 hb); replace BK417 := Aside0.mk (kB BK417 hb); replace BK423 := Aside0.mk (kB BK423 hb); replace BK432 := Aside0.mk (kB BK432 hb); replace BK441 := Aside0.mk (kB BK441 hb); replace HB := Aside0.mk (below_step pB hb); (try clear hb); (try clear hb2); (try clear hk); (try clear hi); obtain ⟨Ao61, co61, eo61⟩ := Kd.R_slice HO430.out; subst eo61; obtain ⟨Ao62, co62, eo62⟩ := Kd.R_slice HO439.out; subst eo62) | (go_at_call 22; (with_reducible refine (papermillref12_Same.calls kj3 _ _ t428 _ _ t437 true _ ?side1 ?side2 ?side3 ?side4 A21.out).mono ?_); (case side1 => repeat (first | exact (Kd.R_reads' HO430.out).2.2 | (with_reducible refine Kd.C_alloc ?_ _) | (with_reducible refine Kd.C_drewN ?_ _) | (with_reducible refine Kd.C_drew ?_))); (case side2 => exact (Kd.R_reads' HO430.out).2.1); (case side3 => repeat (first | exact (Kd.R_reads' HO439.out).2.2 | (with_reducible refine Kd.C_alloc ?_ _) | (with_reducible refine Kd.C_drewN ?_ _) | (with_reducible refine Kd.C_drew ?_))); (case side4 => exact (Kd.R_reads' HO439.out).2.1); rintro e w' ⟨rfl, ⟨nd, rfl⟩⟩) | (go_at_call 10; (with_reducible refine (papermilllaw18_awake.calls kj3  t445 _ A24.out).mono ?_); rintro e w63 ⟨rfl, hb⟩; replace HO415 := Aside0.mk (Kd.R_below (rX HO415.out) hb); replace HO421 := Aside0.mk (Kd.R_below (rX HO421.out) hb); replace HO427 := Aside0.mk (Kd.R_below (rX HO427.out) hb); replace HO430 := Aside0.mk (Kd.R_below (rX HO430.out) hb); replace HO436 := Aside0.mk (Kd.R_below (rX HO436.out) hb); replace HO439 := Aside0.mk (Kd.R_below (rX HO439.out) hb); replace BK410 := Aside0.mk (kB BK410 hb); replace BK417 := Aside0.mk (kB BK417 hb); replace BK423 := Aside0.mk (kB BK423 hb); replace BK432 := Aside0.mk (kB BK432 hb); replace BK441 := Aside0.mk (kB BK441 hb); replace HB := Aside0.mk (below_step pB hb); (try clear hb); (try clear hb2); (try clear hk); (try clear hi)))
         go_ret
         exact ⟨by first | rfl | (simp [errW_none, errW_some] <;> rfl) | (simp [*, errW_none, errW_some] <;> rfl), pB⟩
        ·rw [if_neg c23] at H
         exact absurd H (by simp)
       ·replace c22 := Bool.eq_false_iff.mpr c22
        subst c22
        have H1 : (none) = some r := by rw [if_neg (show ¬ (false = true) by decide)] at H; exact H
        clear H
        have H := H1
        clear H1
        exact absurd H (by simp)
      ·replace c20 := Bool.eq_false_iff.mpr c20
       subst c20
       have H1 : (none) = some r := by rw [if_neg (show ¬ (false = true) by decide)] at H; exact H
       clear H
       have H := H1
       clear H1
       exact absurd H (by simp)
     ·rw [if_neg c18] at H
      exact absurd H (by simp)
    ·replace c17 := Bool.eq_false_iff.mpr c17
     subst c17
     have H1 : (none) = some r := by rw [if_neg (show ¬ (false = true) by decide)] at H; exact H
     clear H
     have H := H1
     clear H1
     exact absurd H (by simp)

/-- THE ONE PURE STATEMENT of papermilllaw18_ChestMoves: yours. -/
def papermilllaw18_ChestMoves.Pure : Prop := ∀ (a0_0 : Int) (l0_1 : List Int) (l1 : List Int) (a2 : Int), (Lit.int .i64 a0_0).wf = true → l0_1.length ≤ maxLen → l0_1.length * 8 ≤ 140737488351232 → (∀ x_ ∈ l0_1, (Lit.int .i64 x_).wf = true) → l1.length ≤ maxLen → l1.length * 8 ≤ 140737488351232 → (∀ x_ ∈ l1, (Lit.int .i64 x_).wf = true) → (Lit.int .i64 a2).wf = true → ∃ k, papermilllaw18_ChestMoves.f k a0_0 l0_1 l1 a2 = some true

end Go.Proofs.Ytpjcpgobdiahpaa.Print
