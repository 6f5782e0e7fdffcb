-- Written by wip/tools/myprint.py out of the translation. Not trusted: Lean checks it.
import Derived.Test.YtpjcpgobdiahpaaPrint0
import Derived.Test.YtpjcpgobdiahpaaPrint17
import Derived.Test.YtpjcpgobdiahpaaPrint18
import Derived.Test.YtpjcpgobdiahpaaPrint22
import Derived.Test.YtpjcpgobdiahpaaPrint27
namespace Go.Proofs.Ytpjcpgobdiahpaa.Print
open Go.RowKit Go.Proofs.YtpjcpgobdiahpaaW.PrintWords Go.Proofs.YtpjcpgobdiahpaaW.PrintLast Go.Proofs.YtpjcpgobdiahpaaW.PrintMore
attribute [local go_sem] max2_int min2_int max_two min_two max_three min_three max_four min_four   -- for this text's walks alone
set_option linter.unusedVariables false
set_option linter.unusedSimpArgs false

/-! ### papermillref18_Pour: function 26 -/
def papermillref18_Pour.f (k : Nat) (a0_0 : Int) (l0_1 : List Int) (a1_0 : Int) (l1_1 : List Int) (a2 : Int) : Option (Int × List Int × Int × List Int × Int) := (papermillref18_Check.f k a0_0 l0_1).bind fun t475 => (if t475 = 0 then ((papermillref18_Check.f k a1_0 l1_1).bind fun t476 => (if t476 = 0 then (if (l0_1.length : Int) = (l1_1.length : Int) then ((papermillref18_Draw.f k a0_0 l0_1 a2).bind fun bt477 => (if bt477.2.2.2 = 0 then ((papermillref18_sum.f k l1_1).bind fun t486 => (if (wrap64 (t486 + a2)) > a1_0 then (some (0, ([] : List Int), 0, ([] : List Int), 8)) else ((papermillref18_plus.f k a1_0 l1_1 bt477.2.2.1).bind fun bt487 => (some (bt477.1, bt477.2.1, bt487.1, bt487.2, 0))))) else (some (0, ([] : List Int), 0, ([] : List Int), bt477.2.2.2)))) else (some (0, ([] : List Int), 0, ([] : List Int), 17))) else (some (0, ([] : List Int), 0, ([] : List Int), t476)))) else (some (0, ([] : List Int), 0, ([] : List Int), t475)))
theorem papermillref18_Pour.mono : ∀ a0 a1 a2 a3 a4 k, LeO (papermillref18_Pour.f k a0 a1 a2 a3 a4) (papermillref18_Pour.f (k + 1) a0 a1 a2 a3 a4) := by
 intro a0 a1 a2 a3 a4 k
 unfold papermillref18_Pour.f
 repeat' first
   | (with_reducible exact papermillref18_Check.mono _ _ _)
   | (with_reducible exact papermillref18_Draw.mono _ _ _ _)
   | (with_reducible exact papermillref18_plus.mono _ _ _ _)
   | (with_reducible exact papermillref18_sum.mono _ _)
   | (with_reducible exact LeO.refl _)
   | (with_reducible exact LeO.none _)
   | (with_reducible refine LeO.ite ?_ ?_)
   | (with_reducible refine LeO.bind ?_ (fun _ => ?_))
   | exact papermillref18_Check.mono _ _ _
   | exact papermillref18_Draw.mono _ _ _ _
   | exact papermillref18_plus.mono _ _ _ _
   | exact papermillref18_sum.mono _ _
   | exact LeO.none _
   | refine LeO.ite ?_ ?_
   | refine LeO.bind ?_ (fun _ => ?_)
def papermillref18_Pour.T12 : Bool × List (List Nat × List Nat) := (true, [([], []), ([0], [0]), ([1], [1]), ([], []), ([2, 3], [2, 3]), ([], []), ([5], [5]), ([4, 6], [4, 6])])
def papermillref18_Pour.B12 : List Nat := [0, 1, 3, 0, 15, 0, 32, 127]
theorem papermillref18_Pour.tab12 : rtab .any (opsOf Try.f26 12) = papermillref18_Pour.T12 := by kernel_rfl
theorem papermillref18_Pour.bits12 : waitsOk papermillref18_Pour.T12.2 papermillref18_Pour.B12 = true := by kernel_rfl
set_option maxHeartbeats 8000000 in
set_option maxRecDepth 100000 in
theorem papermillref18_Pour.calls (k : Nat) (a0_0 : Int) (A0_1 : Option Addr) (c0_1 : Nat) (l0_1 : List Int) (a1_0 : Int) (A1_1 : Option Addr) (c1_1 : Nat) (l1_1 : List Int) (a2 : Int) (r1 : Int) (r2 : List Int) (r3 : Int) (r4 : List Int) (r5 : Int) (w : World) (hr0_1 : Kd.C (Kd.int .i64) w A0_1 l0_1.length l0_1) (hc0_1 : l0_1.length ≤ c0_1) (hr1_1 : Kd.C (Kd.int .i64) w A1_1 l1_1.length l1_1) (hc1_1 : l1_1.length ≤ c1_1) (h : papermillref18_Pour.f k a0_0 l0_1 a1_0 l1_1 a2 = some (r1, r2, r3, r4, r5)) :
  Calls Try.prog 26 #[.agg #[.int .i64 a0_0, .slice A0_1 l0_1.length c0_1], .agg #[.int .i64 a1_0, .slice A1_1 l1_1.length c1_1], .int .i64 a2] w fun e w' => ∃ v1_ v3_ : Value, e = .returned (.tuple #[.agg #[.int .i64 r1, v1_], .agg #[.int .i64 r3, v3_], .int .i64 r5]) ∧ Kd.R (Kd.int .i64) 3 w' w.heap.size (fun k_ => some k_ ≠ (v3_ : Value).ownBlock) v1_ r2 ∧ Kd.R (Kd.int .i64) 3 w' w.heap.size (fun k_ => some k_ ≠ (v1_ : Value).ownBlock) v3_ r4 ∧ Below w.heap.size w w' := by
 have hu24 := Try.underlying24
 have HR0_1 := Aside0.mk hr0_1
 have HC0_1 := Aside0.mk hc0_1
 clear hr0_1 hc0_1
 have HR1_1 := Aside0.mk hr1_1
 have HC1_1 := Aside0.mk hc1_1
 clear hr1_1 hc1_1
 have HB := Aside0.mk (Below.refl w.heap.size w)
 have H : ((papermillref18_Check.f k a0_0 l0_1).bind fun t475 => (if t475 = 0 then ((papermillref18_Check.f k a1_0 l1_1).bind fun t476 => (if t476 = 0 then (if (l0_1.length : Int) = (l1_1.length : Int) then ((papermillref18_Draw.f k a0_0 l0_1 a2).bind fun bt477 => (if bt477.2.2.2 = 0 then ((papermillref18_sum.f k l1_1).bind fun t486 => (if (wrap64 (t486 + a2)) > a1_0 then (some (0, ([] : List Int), 0, ([] : List Int), 8)) else ((papermillref18_plus.f k a1_0 l1_1 bt477.2.2.1).bind fun bt487 => (some (bt477.1, bt477.2.1, bt487.1, bt487.2, 0))))) else (some (0, ([] : List Int), 0, ([] : List Int), bt477.2.2.2)))) else (some (0, ([] : List Int), 0, ([] : List Int), 17))) else (some (0, ([] : List Int), 0, ([] : List Int), t476)))) else (some (0, ([] : List Int), 0, ([] : List Int), t475)))) = some (r1, r2, r3, r4, r5) := h
 clear h
 replace H := Option.bind_eq_some_iff.mp H
 obtain ⟨t475, A40, H⟩ := H
 replace H : (if t475 = 0 then ((papermillref18_Check.f k a1_0 l1_1).bind fun t476 => (if t476 = 0 then (if (l0_1.length : Int) = (l1_1.length : Int) then ((papermillref18_Draw.f k a0_0 l0_1 a2).bind fun bt477 => (if bt477.2.2.2 = 0 then ((papermillref18_sum.f k l1_1).bind fun t486 => (if (wrap64 (t486 + a2)) > a1_0 then (some (0, ([] : List Int), 0, ([] : List Int), 8)) else ((papermillref18_plus.f k a1_0 l1_1 bt477.2.2.1).bind fun bt487 => (some (bt477.1, bt477.2.1, bt487.1, bt487.2, 0))))) else (some (0, ([] : List Int), 0, ([] : List Int), bt477.2.2.2)))) else (some (0, ([] : List Int), 0, ([] : List Int), 17))) else (some (0, ([] : List Int), 0, ([] : List Int), t476)))) else (some (0, ([] : List Int), 0, ([] : List Int), t475))) = some (r1, r2, r3, r4, r5) := H
 have A4 := Aside0.mk A40
 clear A40
 by_cases c5 : t475 = 0
 ·rw [if_pos c5] at H
  have c5b0 : (t475 == 0) = true := beq_iff_eq.mpr c5
  have c5b1 : (t475 != 0) = false := bne_eq_false_iff_eq.mpr c5
  clear c5
  replace H := Option.bind_eq_some_iff.mp H
  obtain ⟨t476, A60, H⟩ := H
  replace H : (if t476 = 0 then (if (l0_1.length : Int) = (l1_1.length : Int) then ((papermillref18_Draw.f k a0_0 l0_1 a2).bind fun bt477 => (if bt477.2.2.2 = 0 then ((papermillref18_sum.f k l1_1).bind fun t486 => (if (wrap64 (t486 + a2)) > a1_0 then (some (0, ([] : List Int), 0, ([] : List Int), 8)) else ((papermillref18_plus.f k a1_0 l1_1 bt477.2.2.1).bind fun bt487 => (some (bt477.1, bt477.2.1, bt487.1, bt487.2, 0))))) else (some (0, ([] : List Int), 0, ([] : List Int), bt477.2.2.2)))) else (some (0, ([] : List Int), 0, ([] : List Int), 17))) else (some (0, ([] : List Int), 0, ([] : List Int), t476))) = some (r1, r2, r3, r4, r5) := H
  have A6 := Aside0.mk A60
  clear A60
  by_cases c7 : t476 = 0
  ·rw [if_pos c7] at H
   have c7b0 : (t476 == 0) = true := beq_iff_eq.mpr c7
   have c7b1 : (t476 != 0) = false := bne_eq_false_iff_eq.mpr c7
   clear c7
   by_cases c8 : (l0_1.length : Int) = (l1_1.length : Int)
   ·rw [if_pos c8] at H
    have c8b0 : ((l0_1.length : Int) == (l1_1.length : Int)) = true := beq_iff_eq.mpr c8
    have c8b1 : ((l0_1.length : Int) != (l1_1.length : Int)) = false := bne_eq_false_iff_eq.mpr c8
    have c8b2 : (l0_1.length == l1_1.length) = true := by first | simpa using c8 | (simp at c8 ⊢; omega)
    clear c8
    replace H := Option.bind_eq_some_iff.mp H
    obtain ⟨⟨t477, t478, t481, t484⟩, A90, H⟩ := H
    replace H : (if t484 = 0 then ((papermillref18_sum.f k l1_1).bind fun t486 => (if (wrap64 (t486 + a2)) > a1_0 then (some (0, ([] : List Int), 0, ([] : List Int), 8)) else ((papermillref18_plus.f k a1_0 l1_1 t481).bind fun bt487 => (some (t477, t478, bt487.1, bt487.2, 0))))) else (some (0, ([] : List Int), 0, ([] : List Int), t484))) = some (r1, r2, r3, r4, r5) := H
    have A9 := Aside0.mk A90
    clear A90
    by_cases c10 : t484 = 0
    ·rw [if_pos c10] at H
     have c10b0 : (t484 == 0) = true := beq_iff_eq.mpr c10
     have c10b1 : (t484 != 0) = false := bne_eq_false_iff_eq.mpr c10
     clear c10
     replace H := Option.bind_eq_some_iff.mp H
     obtain ⟨t486, A110, H⟩ := H
     replace H : (if (wrap64 (t486 + a2)) > a1_0 then (some (0, ([] : List Int), 0, ([] : List Int), 8)) else ((papermillref18_plus.f k a1_0 l1_1 t481).bind fun bt487 => (some (t477, t478, bt487.1, bt487.2, 0)))) = some (r1, r2, r3, r4, r5) := H
     have A11 := Aside0.mk A110
     clear A110
     by_cases c12 : (wrap64 (t486 + a2)) > a1_0
     ·rw [if_pos c12] at H
      have c12b0 : decide (a1_0 < (wrap64 (t486 + a2))) = true := decide_eq_true c12
      have c12b0w : decide (a1_0 < (IntKind.i64.wrap (t486 + a2))) = true := by have h_ := c12b0; first | exact h_ | (simp only [i64_w]; exact h_)
      clear c12
      simp only [Option.some.injEq, Prod.mk.injEq] at H
      obtain ⟨rfl, rfl, rfl, rfl, rfl⟩ := H
      go_enter Try.func26, Try.ntmps26
      try go_wp2_with (first | ((with_reducible refine gate_dst (N := 3) rfl ?_); refine box_event ?hg (N := 3) ?hd (cs := #[.int .i64 a0_0, .slice A0_1 l0_1.length c0_1]) (t := 24) ?hr ?_; (case hd => rfl); (case hg => rfl); (case hr => first | (go_simp; done) | (go_simp; rfl)); intro gb471 hg w13 hbox hb; have BK471 := Aside0.mk (hbox); have GW471 := Aside0.mk (gW hg : w.heap.size ≤ gb471); have GE471 := Aside0.mk (gW hg : w.heap.size ≤ gb471); replace HB := Aside0.mk (below_step pB hb); clear hb hbox hg) | ((with_reducible refine gate_dst (N := 4) rfl ?_); refine box_event ?hg (N := 4) ?hd (cs := #[.int .i64 a1_0, .slice A1_1 l1_1.length c1_1]) (t := 24) ?hr ?_; (case hd => rfl); (case hg => rfl); (case hr => first | (go_simp; done) | (go_simp; rfl)); intro gb472 hg w14 hbox hb; have BK472 := Aside0.mk (hbox); have GW472 := Aside0.mk (gW hg : w.heap.size ≤ gb472); have GE472 := Aside0.mk (gW hg : w.heap.size ≤ gb472); have NB471_472 := Aside0.mk (nL hg BK471 : gb471 ≠ gb472); have NB472_471 := Aside0.mk (nG hg BK471 : gb472 ≠ gb471); replace BK471 := Aside0.mk (kB BK471 hb); replace HB := Aside0.mk (below_step pB hb); clear hb hbox hg) | ((with_reducible refine gate_dst (N := 6) rfl ?_); refine box_event ?hg (N := 6) ?hd (cs := #[.int .i64 0, .slice none 0 0]) (t := 24) ?hr ?_; (case hd => rfl); (case hg => rfl); (case hr => first | (go_simp; done) | (go_simp; rfl)); intro gb473 hg w15 hbox hb; have BK473 := Aside0.mk (hbox); have GW473 := Aside0.mk (gW hg : w.heap.size ≤ gb473); have GE473 := Aside0.mk (gW hg : w.heap.size ≤ gb473); have NB471_473 := Aside0.mk (nL hg BK471 : gb471 ≠ gb473); have NB473_471 := Aside0.mk (nG hg BK471 : gb473 ≠ gb471); have NB472_473 := Aside0.mk (nL hg BK472 : gb472 ≠ gb473); have NB473_472 := Aside0.mk (nG hg BK472 : gb473 ≠ gb472); replace BK471 := Aside0.mk (kB BK471 hb); replace BK472 := Aside0.mk (kB BK472 hb); replace HB := Aside0.mk (below_step pB hb); clear hb hbox hg) | ((with_reducible refine gate_dst (N := 7) rfl ?_); refine box_event ?hg (N := 7) ?hd (cs := #[.int .i64 0, .slice none 0 0]) (t := 24) ?hr ?_; (case hd => rfl); (case hg => rfl); (case hr => first | (go_simp; done) | (go_simp; rfl)); intro gb474 hg w16 hbox hb; have BK474 := Aside0.mk (hbox); have GW474 := Aside0.mk (gW hg : w.heap.size ≤ gb474); have GE474 := Aside0.mk (gW hg : w.heap.size ≤ gb474); have NB471_474 := Aside0.mk (nL hg BK471 : gb471 ≠ gb474); have NB474_471 := Aside0.mk (nG hg BK471 : gb474 ≠ gb471); have NB472_474 := Aside0.mk (nL hg BK472 : gb472 ≠ gb474); have NB474_472 := Aside0.mk (nG hg BK472 : gb474 ≠ gb472); have NB473_474 := Aside0.mk (nL hg BK473 : gb473 ≠ gb474); have NB474_473 := Aside0.mk (nG hg BK473 : gb474 ≠ gb473); replace BK471 := Aside0.mk (kB BK471 hb); replace BK472 := Aside0.mk (kB BK472 hb); replace BK473 := Aside0.mk (kB BK473 hb); replace HB := Aside0.mk (below_step pB hb); clear hb hbox hg; have hnb17 := NB471_472.out; have hnc17 := NB472_471.out; have hnb18 := NB471_473.out; have hnc18 := NB473_471.out; have hnb19 := NB471_474.out; have hnc19 := NB474_471.out; obtain ⟨hcz20_0, hcz20_1, hfz20_0, hfz20_1⟩ := bk2 BK471) | ((with_reducible refine gate_callee (f := 16) rfl ?_); refine goesL_ (some 15) rfl rfl Try.func16 (by kernel_rfl) rfl #[.agg #[.int .i64 a0_0, .slice A0_1 l0_1.length c0_1]] rfl mA ?_; (with_reducible refine (papermillref18_Check.calls k a0_0 _ _ l0_1 t475 _ ?side1 ?side2 A4.out).mono ?_); (case side1 => repeat (first | exact (Kd.C_below HR0_1.out HB.out) | (with_reducible refine Kd.C_alloc ?_ _) | (with_reducible refine Kd.C_drewN ?_ _) | (with_reducible refine Kd.C_drew ?_))); (case side2 => exact HC0_1.out); rintro e w21 ⟨rfl, hb⟩; refine ⟨_, rfl, ?_⟩; replace BK471 := Aside0.mk (kB BK471 hb); replace BK472 := Aside0.mk (kB BK472 hb); replace BK473 := Aside0.mk (kB BK473 hb); replace BK474 := Aside0.mk (kB BK474 hb); replace HB := Aside0.mk (below_step pB hb); (try clear hb); (try clear hb2); (try clear hk); (try clear hi); have hnb22 := NB472_473.out; have hnc22 := NB473_472.out; have hnb23 := NB472_474.out; have hnc23 := NB474_472.out; obtain ⟨hcz24_0, hcz24_1, hfz24_0, hfz24_1⟩ := bk2 BK472) | ((with_reducible refine gate_callee (f := 16) rfl ?_); refine goesL_ (some 22) rfl rfl Try.func16 (by kernel_rfl) rfl #[.agg #[.int .i64 a1_0, .slice A1_1 l1_1.length c1_1]] rfl mA ?_; (with_reducible refine (papermillref18_Check.calls k a1_0 _ _ l1_1 t476 _ ?side1 ?side2 A6.out).mono ?_); (case side1 => repeat (first | exact (Kd.C_below HR1_1.out HB.out) | (with_reducible refine Kd.C_alloc ?_ _) | (with_reducible refine Kd.C_drewN ?_ _) | (with_reducible refine Kd.C_drew ?_))); (case side2 => exact HC1_1.out); rintro e w25 ⟨rfl, hb⟩; refine ⟨_, rfl, ?_⟩; replace BK471 := Aside0.mk (kB BK471 hb); replace BK472 := Aside0.mk (kB BK472 hb); replace BK473 := Aside0.mk (kB BK473 hb); replace BK474 := Aside0.mk (kB BK474 hb); replace HB := Aside0.mk (below_step pB hb); (try clear hb); (try clear hb2); (try clear hk); (try clear hi); obtain ⟨hcz26_0, hcz26_1, hfz26_0, hfz26_1⟩ := bk2 BK471; obtain ⟨hcz27_0, hcz27_1, hfz27_0, hfz27_1⟩ := bk2 BK472) | ((with_reducible refine gate_callee (f := 20) rfl ?_); refine goesL_ (some 40) rfl rfl Try.func20 (by kernel_rfl) rfl #[.agg #[.int .i64 a0_0, .slice A0_1 l0_1.length c0_1], .int .i64 a2] rfl mA ?_; (with_reducible refine (papermillref18_Draw.calls k a0_0 _ _ l0_1 a2 t477 t478 t481 t484 _ ?side1 ?side2 A9.out).mono ?_); (case side1 => repeat (first | exact (Kd.C_below HR0_1.out HB.out) | (with_reducible refine Kd.C_alloc ?_ _) | (with_reducible refine Kd.C_drewN ?_ _) | (with_reducible refine Kd.C_drew ?_))); (case side2 => exact HC0_1.out); rintro e w28 ⟨v479, v482, rfl, ho0, ho1, hb⟩; refine ⟨_, rfl, ?_⟩; have HO480 := Aside0.mk (Kd.R_lower ho0 (below_size pB)); have HO483 := Aside0.mk (Kd.R_lower ho1 (below_size pB)); replace BK471 := Aside0.mk (kB BK471 hb); replace BK472 := Aside0.mk (kB BK472 hb); replace BK473 := Aside0.mk (kB BK473 hb); replace BK474 := Aside0.mk (kB BK474 hb); replace HB := Aside0.mk (below_step pB hb); (try clear hb); (try clear hb2); (try clear hk); (try clear hi); (try clear ho0); (try clear ho1)) | ((with_reducible refine gate_dst (N := 11) rfl ?_); refine box_event ?hg (N := 11) ?hd (cs := #[.int .i64 0, .slice none 0 0]) (t := 24) ?hr ?_; (case hd => rfl); (case hg => rfl); (case hr => first | (go_simp; done) | (go_simp; rfl)); intro gb485 hg w29 hbox hb; have BK485 := Aside0.mk (hbox); have GW485 := Aside0.mk (gW hg : w.heap.size ≤ gb485); have GE485 := Aside0.mk (gW hg : w.heap.size ≤ gb485); have NB471_485 := Aside0.mk (nL hg BK471 : gb471 ≠ gb485); have NB485_471 := Aside0.mk (nG hg BK471 : gb485 ≠ gb471); have NB472_485 := Aside0.mk (nL hg BK472 : gb472 ≠ gb485); have NB485_472 := Aside0.mk (nG hg BK472 : gb485 ≠ gb472); have NB473_485 := Aside0.mk (nL hg BK473 : gb473 ≠ gb485); have NB485_473 := Aside0.mk (nG hg BK473 : gb485 ≠ gb473); have NB474_485 := Aside0.mk (nL hg BK474 : gb474 ≠ gb485); have NB485_474 := Aside0.mk (nG hg BK474 : gb485 ≠ gb474); replace HO480 := Aside0.mk (Kd.R_below (rX HO480.out) hb); replace HO483 := Aside0.mk (Kd.R_below (rX HO483.out) hb); replace BK471 := Aside0.mk (kB BK471 hb); replace BK472 := Aside0.mk (kB BK472 hb); replace BK473 := Aside0.mk (kB BK473 hb); replace BK474 := Aside0.mk (kB BK474 hb); replace HB := Aside0.mk (below_step pB hb); clear hb hbox hg; have hnb30 := NB485_471.out; have hnc30 := NB471_485.out; have hnb31 := NB485_472.out; have hnc31 := NB472_485.out; have hnb32 := NB485_473.out; have hnc32 := NB473_485.out; have hnb33 := NB485_474.out; have hnc33 := NB474_485.out; obtain ⟨hcz34_0, hcz34_1, hfz34_0, hfz34_1⟩ := bk2 BK485; obtain ⟨Ao35, co35, eo35⟩ := Kd.R_slice HO480.out; subst eo35))
      have n0_ : Aside0 (Kd.R (Kd.int .i64) 3 ((w29.setCell ⟨gb485, 0, none⟩ (.int .i64 t477)).setCell ⟨gb485, 1, none⟩ (.slice Ao35 t478.length co35)) w.heap.size (fun k_ => some k_ ≠ (v482 : Value).ownBlock) (.slice Ao35 t478.length co35) t478) := ⟨by (with_reducible repeat (first | apply Kd.R_alloc | apply Kd.R_drewN | apply Kd.R_drew)); exact Kd.R_mono (Kd.R_far (p := ⟨gb485, 1, none⟩) (Kd.R_far (p := ⟨gb485, 0, none⟩) (Kd.R_types HO480.out BK485.out (by decide)) (fun _ hk => hk.2) (.int .i64 t477)) (fun _ hk => hk.2) (.slice Ao35 t478.length co35)) (fun _ hk => hk.1)⟩
      have n1_ : Aside0 (Kd.R (Kd.int .i64) 3 ((w29.setCell ⟨gb485, 0, none⟩ (.int .i64 t477)).setCell ⟨gb485, 1, none⟩ (.slice Ao35 t478.length co35)) w.heap.size (fun k_ => some k_ ≠ (.slice Ao35 t478.length co35 : Value).ownBlock) v482 t481) := ⟨by (with_reducible repeat (first | apply Kd.R_alloc | apply Kd.R_drewN | apply Kd.R_drew)); exact Kd.R_mono (Kd.R_far (p := ⟨gb485, 1, none⟩) (Kd.R_far (p := ⟨gb485, 0, none⟩) (Kd.R_types HO483.out BK485.out (by decide)) (fun _ hk => hk.2) (.int .i64 t477)) (fun _ hk => hk.2) (.slice Ao35 t478.length co35)) (fun _ hk => hk.1)⟩
      have n2_ : Aside0 (((w29.setCell ⟨gb485, 0, none⟩ (.int .i64 t477)).setCell ⟨gb485, 1, none⟩ (.slice Ao35 t478.length co35)).heap[gb471]? = some (.cells #[.int .i64 a0_0, .slice A0_1 l0_1.length c0_1] 24 (0, 0))) := ⟨by (with_reducible repeat (first | refine blk_drewN ?_ _ | refine blk_drew ?_ | refine blk_alloc ?_ _)); refine blk_far ?_ NB471_485.out _; (with_reducible repeat (first | refine blk_drewN ?_ _ | refine blk_drew ?_ | refine blk_alloc ?_ _)); refine blk_far ?_ NB471_485.out _; (with_reducible repeat (first | refine blk_drewN ?_ _ | refine blk_drew ?_ | refine blk_alloc ?_ _)); exact BK471.out⟩
      have n3_ : Aside0 (((w29.setCell ⟨gb485, 0, none⟩ (.int .i64 t477)).setCell ⟨gb485, 1, none⟩ (.slice Ao35 t478.length co35)).heap[gb472]? = some (.cells #[.int .i64 a1_0, .slice A1_1 l1_1.length c1_1] 24 (0, 0))) := ⟨by (with_reducible repeat (first | refine blk_drewN ?_ _ | refine blk_drew ?_ | refine blk_alloc ?_ _)); refine blk_far ?_ NB472_485.out _; (with_reducible repeat (first | refine blk_drewN ?_ _ | refine blk_drew ?_ | refine blk_alloc ?_ _)); refine blk_far ?_ NB472_485.out _; (with_reducible repeat (first | refine blk_drewN ?_ _ | refine blk_drew ?_ | refine blk_alloc ?_ _)); exact BK472.out⟩
      have n4_ : Aside0 (((w29.setCell ⟨gb485, 0, none⟩ (.int .i64 t477)).setCell ⟨gb485, 1, none⟩ (.slice Ao35 t478.length co35)).heap[gb473]? = some (.cells #[.int .i64 0, .slice none 0 0] 24 (0, 0))) := ⟨by (with_reducible repeat (first | refine blk_drewN ?_ _ | refine blk_drew ?_ | refine blk_alloc ?_ _)); refine blk_far ?_ NB473_485.out _; (with_reducible repeat (first | refine blk_drewN ?_ _ | refine blk_drew ?_ | refine blk_alloc ?_ _)); refine blk_far ?_ NB473_485.out _; (with_reducible repeat (first | refine blk_drewN ?_ _ | refine blk_drew ?_ | refine blk_alloc ?_ _)); exact BK473.out⟩
      have n5_ : Aside0 (((w29.setCell ⟨gb485, 0, none⟩ (.int .i64 t477)).setCell ⟨gb485, 1, none⟩ (.slice Ao35 t478.length co35)).heap[gb474]? = some (.cells #[.int .i64 0, .slice none 0 0] 24 (0, 0))) := ⟨by (with_reducible repeat (first | refine blk_drewN ?_ _ | refine blk_drew ?_ | refine blk_alloc ?_ _)); refine blk_far ?_ NB474_485.out _; (with_reducible repeat (first | refine blk_drewN ?_ _ | refine blk_drew ?_ | refine blk_alloc ?_ _)); refine blk_far ?_ NB474_485.out _; (with_reducible repeat (first | refine blk_drewN ?_ _ | refine blk_drew ?_ | refine blk_alloc ?_ _)); exact BK474.out⟩
      have n6_ : Aside0 (((w29.setCell ⟨gb485, 0, none⟩ (.int .i64 t477)).setCell ⟨gb485, 1, none⟩ (.slice Ao35 t478.length co35)).heap[gb485]? = some (.cells #[.int .i64 t477, .slice Ao35 t478.length co35] 24 (0, 0))) := ⟨by (with_reducible repeat (first | refine blk_drewN ?_ _ | refine blk_drew ?_ | refine blk_alloc ?_ _)); refine blk_put (cs := #[.int .i64 t477, .slice none 0 0]) ?_ 1 _ rfl; (with_reducible repeat (first | refine blk_drewN ?_ _ | refine blk_drew ?_ | refine blk_alloc ?_ _)); refine blk_put (cs := #[.int .i64 0, .slice none 0 0]) ?_ 0 _ rfl; (with_reducible repeat (first | refine blk_drewN ?_ _ | refine blk_drew ?_ | refine blk_alloc ?_ _)); exact BK485.out⟩
      have n7_ : Aside0 (Below w.heap.size w ((w29.setCell ⟨gb485, 0, none⟩ (.int .i64 t477)).setCell ⟨gb485, 1, none⟩ (.slice Ao35 t478.length co35))) := ⟨pB⟩
      (try clear HO480)
      (try clear HO483)
      (try clear BK471)
      (try clear BK472)
      (try clear BK473)
      (try clear BK474)
      (try clear BK485)
      (try clear HB)
      generalize ((w29.setCell ⟨gb485, 0, none⟩ (.int .i64 t477)).setCell ⟨gb485, 1, none⟩ (.slice Ao35 t478.length co35)) = w36 at n0_ n1_ n2_ n3_ n4_ n5_ n6_ n7_ ⊢
      have HO480 := n0_
      have HO483 := n1_
      have BK471 := n2_
      have BK472 := n3_
      have BK473 := n4_
      have BK474 := n5_
      have BK485 := n6_
      have HB := n7_
      clear n0_ n1_ n2_ n3_ n4_ n5_ n6_ n7_
      have n0_ := Aside0.mk (Kd.R_drew HO480.out)
      have n1_ := Aside0.mk (Kd.R_drew HO483.out)
      have n2_ := Aside0.mk (blk_drew BK471.out)
      have n3_ := Aside0.mk (blk_drew BK472.out)
      have n4_ := Aside0.mk (blk_drew BK473.out)
      have n5_ := Aside0.mk (blk_drew BK474.out)
      have n6_ := Aside0.mk (blk_drew BK485.out)
      have n7_ := Aside0.mk (below_drew1 HB.out)
      clear HO480
      clear HO483
      clear BK471
      clear BK472
      clear BK473
      clear BK474
      clear BK485
      clear HB
      have HO480 := n0_
      have HO483 := n1_
      have BK471 := n2_
      have BK472 := n3_
      have BK473 := n4_
      have BK474 := n5_
      have BK485 := n6_
      have HB := n7_
      clear n0_ n1_ n2_ n3_ n4_ n5_ n6_ n7_
      refine start_ (n := 8) (S := fun w' => w'.cell? ⟨gb472, 0, none⟩ = some (.int .i64 a1_0) ∧ w'.cell? ⟨gb472, 1, none⟩ = some (.slice A1_1 l1_1.length c1_1)) (ds := []) #[false, false, false, false, false, false, false, false] (by kernel_rfl) rfl rfl ⟨(blk_cell BK472.out 0).trans rfl, (blk_cell BK472.out 1).trans rfl⟩ (fun hHeld => ?_); refine with_tabW papermillref18_Pour.tab12 papermillref18_Pour.bits12 (fun HT_ HW_ => ?_)
      generalize w36.drew = w37 at HO480 HO483 BK471 BK472 BK473 BK474 BK485 HB hHeld ⊢
      refine pure_ (i := 0) (N := some 49) (v := ?_) (a' := ?_) #[true, false, false, false, false, false, false, false] rfl rfl (any_of HT_.out (by kernel_rfl)) (fun _ _ _ h => h) (Or.inl ⟨by rfl, ?_⟩) ?_ ?_
      rotate_left
      ·intro w'
       go_simp
       with_reducible rfl
      rotate_left
      ·simp only [Act.put, List.setIfInBounds_toArray, List.set_cons_zero, List.set_cons_succ, i64_w, i32_w]
       rfl
      refine pure_ (i := 3) (N := some 52) (v := ?_) (a' := ?_) #[true, false, false, true, false, false, false, false] rfl rfl (any_of HT_.out (by kernel_rfl)) (fun _ _ _ h => h) (Or.inl ⟨by rfl, ?_⟩) ?_ ?_
      rotate_left
      ·intro w'
       go_simp
       with_reducible rfl
      rotate_left
      ·simp only [Act.put, List.setIfInBounds_toArray, List.set_cons_zero, List.set_cons_succ, i64_w, i32_w]
       rfl
      refine pure_ (i := 5) (N := some 54) (v := ?_) (a' := ?_) #[true, false, false, true, false, true, false, false] rfl rfl (any_of HT_.out (by kernel_rfl)) (fun _ _ _ h => h) (Or.inl ⟨by rfl, ?_⟩) ?_ ?_
      rotate_left
      ·intro w'
       go_simp
       with_reducible rfl
      rotate_left
      ·simp only [Act.put, List.setIfInBounds_toArray, List.set_cons_zero, List.set_cons_succ, i64_w, i32_w]
       rfl
      refine take_ (i := 1) (N := some 50) (v := ?_) (a' := ?_) #[true, true, false, true, false, true, false, false] rfl rfl (take_ofW HT_.out HW_.out (by kernel_rfl)) (fun _ _ _ h => h) (Or.inl ⟨by rfl, ?_⟩) hHeld ?_ ?_
      rotate_left
      ·rintro w' ⟨s0, s1⟩
       go_simp
       with_reducible rfl
      rotate_left
      ·simp only [Act.put, List.setIfInBounds_toArray, List.set_cons_zero, List.set_cons_succ, i64_w, i32_w]
       rfl
      refine take_ (i := 6) (N := some 55) (v := ?_) (a' := ?_) #[true, true, false, true, false, true, true, false] rfl rfl (take_ofW HT_.out HW_.out (by kernel_rfl)) (fun _ _ _ h => h) (Or.inl ⟨by rfl, ?_⟩) hHeld ?_ ?_
      rotate_left
      ·rintro w' ⟨s0, s1⟩
       go_simp
       with_reducible rfl
      rotate_left
      ·simp only [Act.put, List.setIfInBounds_toArray, List.set_cons_zero, List.set_cons_succ, i64_w, i32_w]
       rfl
      refine one_ (i := 2) (N := some 51) #[true, true, true, true, false, true, true, false] rfl rfl (one_of HT_.out (by kernel_rfl)) (by decide) (fun K hK => ?_)
      refine goes_ Try.func37 (by kernel_rfl) rfl #[.slice A1_1 l1_1.length c1_1] (by rfl) rfl rfl mA ?_
      with_reducible refine (papermillref18_sum.calls k _ _ l1_1 t486 _ ?side1 ?side2 A11.out).mono ?_
      (case side1 => repeat (first | exact (Kd.C_below HR1_1.out HB.out) | (with_reducible refine Kd.C_alloc ?_ _) | (with_reducible refine Kd.C_drewN ?_ _) | (with_reducible refine Kd.C_drew ?_)))
      (case side2 => exact HC1_1.out)
      rintro e w' ⟨rfl, ⟨nd, rfl⟩⟩
      refine ⟨_, rfl, ?_⟩
      refine hK.out _ _ ⟨(blk_cell BK472.out 0).trans rfl, (blk_cell BK472.out 1).trans rfl⟩ (fun hHeld => ?_)
      clear hK K
      refine norm_ (a' := ?_) ?_ ?_
      rotate_left
      ·show Act.put _ (some 51) _ = _
       simp only [Act.put, List.setIfInBounds_toArray, List.set_cons_zero, List.set_cons_succ, i64_w, i32_w]
       rfl
      refine pure_ (i := 4) (N := some 53) (v := ?_) (a' := ?_) #[true, true, true, true, true, true, true, false] rfl rfl (any_of HT_.out (by kernel_rfl)) (fun _ _ _ h => h) (Or.inl ⟨by rfl, ?_⟩) ?_ ?_
      rotate_left
      ·intro w'
       go_simp
       with_reducible rfl
      rotate_left
      ·simp only [Act.put, List.setIfInBounds_toArray, List.set_cons_zero, List.set_cons_succ, i64_w, i32_w]
       rfl
      refine pure_ (i := 7) (N := some 56) (v := ?_) (a' := ?_) #[true, true, true, true, true, true, true, true] rfl rfl (any_of HT_.out (by kernel_rfl)) (fun _ _ _ h => h) (Or.inl ⟨by rfl, ?_⟩) ?_ ?_
      rotate_left
      ·intro w'
       go_simp
       with_reducible rfl
      rotate_left
      ·simp only [Act.put, List.setIfInBounds_toArray, List.set_cons_zero, List.set_cons_succ, i64_w, i32_w]
       rfl
      refine done_ (done_of HT_.out (by kernel_rfl)) ?_
      have hnb38 := NB473_474.out
      have hnc38 := NB474_473.out
      obtain ⟨hcz39_0, hcz39_1, hfz39_0, hfz39_1⟩ := bk2 BK473
      obtain ⟨hcz40_0, hcz40_1, hfz40_0, hfz40_1⟩ := bk2 BK474
      try go_wp2
      refine bodyPost_ret (results_list (rs := [.cell 6 24, .cell 7 24, .tmp 8]) rfl (by simp) (.cell gb473 24 #[.int .i64 0, .slice none 0 0] (0, 0) _ rfl (by (with_reducible repeat (first | refine blk_drewN ?_ _ | refine blk_drew ?_ | refine blk_alloc ?_ _)); refine blk_far ?_ NB473_474.out _; (with_reducible repeat (first | refine blk_drewN ?_ _ | refine blk_drew ?_ | refine blk_alloc ?_ _)); refine blk_far ?_ NB473_474.out _; (with_reducible repeat (first | refine blk_drewN ?_ _ | refine blk_drew ?_ | refine blk_alloc ?_ _)); refine blk_put (cs := #[.int .i64 0, .slice none 0 0]) ?_ 1 _ rfl; (with_reducible repeat (first | refine blk_drewN ?_ _ | refine blk_drew ?_ | refine blk_alloc ?_ _)); refine blk_put (cs := #[.int .i64 0, .slice none 0 0]) ?_ 0 _ rfl; (with_reducible repeat (first | refine blk_drewN ?_ _ | refine blk_drew ?_ | refine blk_alloc ?_ _)); exact BK473.out) Try.underlying24 rfl (by kernel_rfl) (.cell gb474 24 #[.int .i64 0, .slice none 0 0] (0, 0) _ rfl (by (with_reducible repeat (first | refine blk_drewN ?_ _ | refine blk_drew ?_ | refine blk_alloc ?_ _)); refine blk_put (cs := #[.int .i64 0, .slice none 0 0]) ?_ 1 _ rfl; (with_reducible repeat (first | refine blk_drewN ?_ _ | refine blk_drew ?_ | refine blk_alloc ?_ _)); refine blk_put (cs := #[.int .i64 0, .slice none 0 0]) ?_ 0 _ rfl; (with_reducible repeat (first | refine blk_drewN ?_ _ | refine blk_drew ?_ | refine blk_alloc ?_ _)); refine blk_far ?_ NB474_473.out _; (with_reducible repeat (first | refine blk_drewN ?_ _ | refine blk_drew ?_ | refine blk_alloc ?_ _)); refine blk_far ?_ NB474_473.out _; (with_reducible repeat (first | refine blk_drewN ?_ _ | refine blk_drew ?_ | refine blk_alloc ?_ _)); exact BK474.out) Try.underlying24 rfl (by kernel_rfl) (.tmp .nil)))) rfl ?_
      exact ⟨_, _, by first | rfl | (simp [errW_none, errW_some] <;> rfl) | (simp [*, errW_none, errW_some] <;> rfl), by first | exact Kd.R_nil _ _ _ _ _ | exact Kd.N_nil _ _ _ _ _ | exact Kd.V_nil _ _ _ _ _ | exact Kd.Q_nil _ _ _ _ _ | exact Kd.S_nil _ _ _ _ _, by first | exact Kd.R_nil _ _ _ _ _ | exact Kd.N_nil _ _ _ _ _ | exact Kd.V_nil _ _ _ _ _ | exact Kd.Q_nil _ _ _ _ _ | exact Kd.S_nil _ _ _ _ _, pB⟩
     ·rw [if_neg c12] at H
      have c12b0 : decide (a1_0 < (wrap64 (t486 + a2))) = false := decide_eq_false c12
      have c12b0w : decide (a1_0 < (IntKind.i64.wrap (t486 + a2))) = false := by have h_ := c12b0; first | exact h_ | (simp only [i64_w]; exact h_)
      clear c12
      replace H := Option.bind_eq_some_iff.mp H
      obtain ⟨⟨t487, t488⟩, A410, H⟩ := H
      replace H : (some (t477, t478, t487, t488, 0)) = some (r1, r2, r3, r4, r5) := H
      have A41 := Aside0.mk A410
      clear A410
      simp only [Option.some.injEq, Prod.mk.injEq] at H
      obtain ⟨rfl, rfl, rfl, rfl, rfl⟩ := H
      go_enter Try.func26, Try.ntmps26
      try go_wp2_with (first | ((with_reducible refine gate_dst (N := 3) rfl ?_); refine box_event ?hg (N := 3) ?hd (cs := #[.int .i64 a0_0, .slice A0_1 l0_1.length c0_1]) (t := 24) ?hr ?_; (case hd => rfl); (case hg => rfl); (case hr => first | (go_simp; done) | (go_simp; rfl)); intro gb471 hg w42 hbox hb; have BK471 := Aside0.mk (hbox); have GW471 := Aside0.mk (gW hg : w.heap.size ≤ gb471); have GE471 := Aside0.mk (gW hg : w.heap.size ≤ gb471); replace HB := Aside0.mk (below_step pB hb); clear hb hbox hg) | ((with_reducible refine gate_dst (N := 4) rfl ?_); refine box_event ?hg (N := 4) ?hd (cs := #[.int .i64 a1_0, .slice A1_1 l1_1.length c1_1]) (t := 24) ?hr ?_; (case hd => rfl); (case hg => rfl); (case hr => first | (go_simp; done) | (go_simp; rfl)); intro gb472 hg w43 hbox hb; have BK472 := Aside0.mk (hbox); have GW472 := Aside0.mk (gW hg : w.heap.size ≤ gb472); have GE472 := Aside0.mk (gW hg : w.heap.size ≤ gb472); have NB471_472 := Aside0.mk (nL hg BK471 : gb471 ≠ gb472); have NB472_471 := Aside0.mk (nG hg BK471 : gb472 ≠ gb471); replace BK471 := Aside0.mk (kB BK471 hb); replace HB := Aside0.mk (below_step pB hb); clear hb hbox hg) | ((with_reducible refine gate_dst (N := 6) rfl ?_); refine box_event ?hg (N := 6) ?hd (cs := #[.int .i64 0, .slice none 0 0]) (t := 24) ?hr ?_; (case hd => rfl); (case hg => rfl); (case hr => first | (go_simp; done) | (go_simp; rfl)); intro gb473 hg w44 hbox hb; have BK473 := Aside0.mk (hbox); have GW473 := Aside0.mk (gW hg : w.heap.size ≤ gb473); have GE473 := Aside0.mk (gW hg : w.heap.size ≤ gb473); have NB471_473 := Aside0.mk (nL hg BK471 : gb471 ≠ gb473); have NB473_471 := Aside0.mk (nG hg BK471 : gb473 ≠ gb471); have NB472_473 := Aside0.mk (nL hg BK472 : gb472 ≠ gb473); have NB473_472 := Aside0.mk (nG hg BK472 : gb473 ≠ gb472); replace BK471 := Aside0.mk (kB BK471 hb); replace BK472 := Aside0.mk (kB BK472 hb); replace HB := Aside0.mk (below_step pB hb); clear hb hbox hg) | ((with_reducible refine gate_dst (N := 7) rfl ?_); refine box_event ?hg (N := 7) ?hd (cs := #[.int .i64 0, .slice none 0 0]) (t := 24) ?hr ?_; (case hd => rfl); (case hg => rfl); (case hr => first | (go_simp; done) | (go_simp; rfl)); intro gb474 hg w45 hbox hb; have BK474 := Aside0.mk (hbox); have GW474 := Aside0.mk (gW hg : w.heap.size ≤ gb474); have GE474 := Aside0.mk (gW hg : w.heap.size ≤ gb474); have NB471_474 := Aside0.mk (nL hg BK471 : gb471 ≠ gb474); have NB474_471 := Aside0.mk (nG hg BK471 : gb474 ≠ gb471); have NB472_474 := Aside0.mk (nL hg BK472 : gb472 ≠ gb474); have NB474_472 := Aside0.mk (nG hg BK472 : gb474 ≠ gb472); have NB473_474 := Aside0.mk (nL hg BK473 : gb473 ≠ gb474); have NB474_473 := Aside0.mk (nG hg BK473 : gb474 ≠ gb473); replace BK471 := Aside0.mk (kB BK471 hb); replace BK472 := Aside0.mk (kB BK472 hb); replace BK473 := Aside0.mk (kB BK473 hb); replace HB := Aside0.mk (below_step pB hb); clear hb hbox hg; have hnb46 := NB471_472.out; have hnc46 := NB472_471.out; have hnb47 := NB471_473.out; have hnc47 := NB473_471.out; have hnb48 := NB471_474.out; have hnc48 := NB474_471.out; obtain ⟨hcz49_0, hcz49_1, hfz49_0, hfz49_1⟩ := bk2 BK471) | ((with_reducible refine gate_callee (f := 16) rfl ?_); refine goesL_ (some 15) rfl rfl Try.func16 (by kernel_rfl) rfl #[.agg #[.int .i64 a0_0, .slice A0_1 l0_1.length c0_1]] rfl mA ?_; (with_reducible refine (papermillref18_Check.calls k a0_0 _ _ l0_1 t475 _ ?side1 ?side2 A4.out).mono ?_); (case side1 => repeat (first | exact (Kd.C_below HR0_1.out HB.out) | (with_reducible refine Kd.C_alloc ?_ _) | (with_reducible refine Kd.C_drewN ?_ _) | (with_reducible refine Kd.C_drew ?_))); (case side2 => exact HC0_1.out); rintro e w50 ⟨rfl, hb⟩; refine ⟨_, rfl, ?_⟩; replace BK471 := Aside0.mk (kB BK471 hb); replace BK472 := Aside0.mk (kB BK472 hb); replace BK473 := Aside0.mk (kB BK473 hb); replace BK474 := Aside0.mk (kB BK474 hb); replace HB := Aside0.mk (below_step pB hb); (try clear hb); (try clear hb2); (try clear hk); (try clear hi); have hnb51 := NB472_473.out; have hnc51 := NB473_472.out; have hnb52 := NB472_474.out; have hnc52 := NB474_472.out; obtain ⟨hcz53_0, hcz53_1, hfz53_0, hfz53_1⟩ := bk2 BK472) | ((with_reducible refine gate_callee (f := 16) rfl ?_); refine goesL_ (some 22) rfl rfl Try.func16 (by kernel_rfl) rfl #[.agg #[.int .i64 a1_0, .slice A1_1 l1_1.length c1_1]] rfl mA ?_; (with_reducible refine (papermillref18_Check.calls k a1_0 _ _ l1_1 t476 _ ?side1 ?side2 A6.out).mono ?_); (case side1 => repeat (first | exact (Kd.C_below HR1_1.out HB.out) | (with_reducible refine Kd.C_alloc ?_ _) | (with_reducible refine Kd.C_drewN ?_ _) | (with_reducible refine Kd.C_drew ?_))); (case side2 => exact HC1_1.out); rintro e w54 ⟨rfl, hb⟩; refine ⟨_, rfl, ?_⟩; replace BK471 := Aside0.mk (kB BK471 hb); replace BK472 := Aside0.mk (kB BK472 hb); replace BK473 := Aside0.mk (kB BK473 hb); replace BK474 := Aside0.mk (kB BK474 hb); replace HB := Aside0.mk (below_step pB hb); (try clear hb); (try clear hb2); (try clear hk); (try clear hi); obtain ⟨hcz55_0, hcz55_1, hfz55_0, hfz55_1⟩ := bk2 BK471; obtain ⟨hcz56_0, hcz56_1, hfz56_0, hfz56_1⟩ := bk2 BK472) | ((with_reducible refine gate_callee (f := 20) rfl ?_); refine goesL_ (some 40) rfl rfl Try.func20 (by kernel_rfl) rfl #[.agg #[.int .i64 a0_0, .slice A0_1 l0_1.length c0_1], .int .i64 a2] rfl mA ?_; (with_reducible refine (papermillref18_Draw.calls k a0_0 _ _ l0_1 a2 t477 t478 t481 t484 _ ?side1 ?side2 A9.out).mono ?_); (case side1 => repeat (first | exact (Kd.C_below HR0_1.out HB.out) | (with_reducible refine Kd.C_alloc ?_ _) | (with_reducible refine Kd.C_drewN ?_ _) | (with_reducible refine Kd.C_drew ?_))); (case side2 => exact HC0_1.out); rintro e w57 ⟨v479, v482, rfl, ho0, ho1, hb⟩; refine ⟨_, rfl, ?_⟩; have HO480 := Aside0.mk (Kd.R_lower ho0 (below_size pB)); have HO483 := Aside0.mk (Kd.R_lower ho1 (below_size pB)); replace BK471 := Aside0.mk (kB BK471 hb); replace BK472 := Aside0.mk (kB BK472 hb); replace BK473 := Aside0.mk (kB BK473 hb); replace BK474 := Aside0.mk (kB BK474 hb); replace HB := Aside0.mk (below_step pB hb); (try clear hb); (try clear hb2); (try clear hk); (try clear hi); (try clear ho0); (try clear ho1)) | ((with_reducible refine gate_dst (N := 11) rfl ?_); refine box_event ?hg (N := 11) ?hd (cs := #[.int .i64 0, .slice none 0 0]) (t := 24) ?hr ?_; (case hd => rfl); (case hg => rfl); (case hr => first | (go_simp; done) | (go_simp; rfl)); intro gb485 hg w58 hbox hb; have BK485 := Aside0.mk (hbox); have GW485 := Aside0.mk (gW hg : w.heap.size ≤ gb485); have GE485 := Aside0.mk (gW hg : w.heap.size ≤ gb485); have NB471_485 := Aside0.mk (nL hg BK471 : gb471 ≠ gb485); have NB485_471 := Aside0.mk (nG hg BK471 : gb485 ≠ gb471); have NB472_485 := Aside0.mk (nL hg BK472 : gb472 ≠ gb485); have NB485_472 := Aside0.mk (nG hg BK472 : gb485 ≠ gb472); have NB473_485 := Aside0.mk (nL hg BK473 : gb473 ≠ gb485); have NB485_473 := Aside0.mk (nG hg BK473 : gb485 ≠ gb473); have NB474_485 := Aside0.mk (nL hg BK474 : gb474 ≠ gb485); have NB485_474 := Aside0.mk (nG hg BK474 : gb485 ≠ gb474); replace HO480 := Aside0.mk (Kd.R_below (rX HO480.out) hb); replace HO483 := Aside0.mk (Kd.R_below (rX HO483.out) hb); replace BK471 := Aside0.mk (kB BK471 hb); replace BK472 := Aside0.mk (kB BK472 hb); replace BK473 := Aside0.mk (kB BK473 hb); replace BK474 := Aside0.mk (kB BK474 hb); replace HB := Aside0.mk (below_step pB hb); clear hb hbox hg; have hnb59 := NB485_471.out; have hnc59 := NB471_485.out; have hnb60 := NB485_472.out; have hnc60 := NB472_485.out; have hnb61 := NB485_473.out; have hnc61 := NB473_485.out; have hnb62 := NB485_474.out; have hnc62 := NB474_485.out; obtain ⟨hcz63_0, hcz63_1, hfz63_0, hfz63_1⟩ := bk2 BK485; obtain ⟨Ao64, co64, eo64⟩ := Kd.R_slice HO480.out; subst eo64))
      have n0_ : Aside0 (Kd.R (Kd.int .i64) 3 ((w58.setCell ⟨gb485, 0, none⟩ (.int .i64 t477)).setCell ⟨gb485, 1, none⟩ (.slice Ao64 t478.length co64)) w.heap.size (fun k_ => some k_ ≠ (v482 : Value).ownBlock) (.slice Ao64 t478.length co64) t478) := ⟨by (with_reducible repeat (first | apply Kd.R_alloc | apply Kd.R_drewN | apply Kd.R_drew)); exact Kd.R_mono (Kd.R_far (p := ⟨gb485, 1, none⟩) (Kd.R_far (p := ⟨gb485, 0, none⟩) (Kd.R_types HO480.out BK485.out (by decide)) (fun _ hk => hk.2) (.int .i64 t477)) (fun _ hk => hk.2) (.slice Ao64 t478.length co64)) (fun _ hk => hk.1)⟩
      have n1_ : Aside0 (Kd.R (Kd.int .i64) 3 ((w58.setCell ⟨gb485, 0, none⟩ (.int .i64 t477)).setCell ⟨gb485, 1, none⟩ (.slice Ao64 t478.length co64)) w.heap.size (fun k_ => some k_ ≠ (.slice Ao64 t478.length co64 : Value).ownBlock) v482 t481) := ⟨by (with_reducible repeat (first | apply Kd.R_alloc | apply Kd.R_drewN | apply Kd.R_drew)); exact Kd.R_mono (Kd.R_far (p := ⟨gb485, 1, none⟩) (Kd.R_far (p := ⟨gb485, 0, none⟩) (Kd.R_types HO483.out BK485.out (by decide)) (fun _ hk => hk.2) (.int .i64 t477)) (fun _ hk => hk.2) (.slice Ao64 t478.length co64)) (fun _ hk => hk.1)⟩
      have n2_ : Aside0 (((w58.setCell ⟨gb485, 0, none⟩ (.int .i64 t477)).setCell ⟨gb485, 1, none⟩ (.slice Ao64 t478.length co64)).heap[gb471]? = some (.cells #[.int .i64 a0_0, .slice A0_1 l0_1.length c0_1] 24 (0, 0))) := ⟨by (with_reducible repeat (first | refine blk_drewN ?_ _ | refine blk_drew ?_ | refine blk_alloc ?_ _)); refine blk_far ?_ NB471_485.out _; (with_reducible repeat (first | refine blk_drewN ?_ _ | refine blk_drew ?_ | refine blk_alloc ?_ _)); refine blk_far ?_ NB471_485.out _; (with_reducible repeat (first | refine blk_drewN ?_ _ | refine blk_drew ?_ | refine blk_alloc ?_ _)); exact BK471.out⟩
      have n3_ : Aside0 (((w58.setCell ⟨gb485, 0, none⟩ (.int .i64 t477)).setCell ⟨gb485, 1, none⟩ (.slice Ao64 t478.length co64)).heap[gb472]? = some (.cells #[.int .i64 a1_0, .slice A1_1 l1_1.length c1_1] 24 (0, 0))) := ⟨by (with_reducible repeat (first | refine blk_drewN ?_ _ | refine blk_drew ?_ | refine blk_alloc ?_ _)); refine blk_far ?_ NB472_485.out _; (with_reducible repeat (first | refine blk_drewN ?_ _ | refine blk_drew ?_ | refine blk_alloc ?_ _)); refine blk_far ?_ NB472_485.out _; (with_reducible repeat (first | refine blk_drewN ?_ _ | refine blk_drew ?_ | refine blk_alloc ?_ _)); exact BK472.out⟩
      have n4_ : Aside0 (((w58.setCell ⟨gb485, 0, none⟩ (.int .i64 t477)).setCell ⟨gb485, 1, none⟩ (.slice Ao64 t478.length co64)).heap[gb473]? = some (.cells #[.int .i64 0, .slice none 0 0] 24 (0, 0))) := ⟨by (with_reducible repeat (first | refine blk_drewN ?_ _ | refine blk_drew ?_ | refine blk_alloc ?_ _)); refine blk_far ?_ NB473_485.out _; (with_reducible repeat (first | refine blk_drewN ?_ _ | refine blk_drew ?_ | refine blk_alloc ?_ _)); refine blk_far ?_ NB473_485.out _; (with_reducible repeat (first | refine blk_drewN ?_ _ | refine blk_drew ?_ | refine blk_alloc ?_ _)); exact BK473.out⟩
      have n5_ : Aside0 (((w58.setCell ⟨gb485, 0, none⟩ (.int .i64 t477)).setCell ⟨gb485, 1, none⟩ (.slice Ao64 t478.length co64)).heap[gb474]? = some (.cells #[.int .i64 0, .slice none 0 0] 24 (0, 0))) := ⟨by (with_reducible repeat (first | refine blk_drewN ?_ _ | refine blk_drew ?_ | refine blk_alloc ?_ _)); refine blk_far ?_ NB474_485.out _; (with_reducible repeat (first | refine blk_drewN ?_ _ | refine blk_drew ?_ | refine blk_alloc ?_ _)); refine blk_far ?_ NB474_485.out _; (with_reducible repeat (first | refine blk_drewN ?_ _ | refine blk_drew ?_ | refine blk_alloc ?_ _)); exact BK474.out⟩
      have n6_ : Aside0 (((w58.setCell ⟨gb485, 0, none⟩ (.int .i64 t477)).setCell ⟨gb485, 1, none⟩ (.slice Ao64 t478.length co64)).heap[gb485]? = some (.cells #[.int .i64 t477, .slice Ao64 t478.length co64] 24 (0, 0))) := ⟨by (with_reducible repeat (first | refine blk_drewN ?_ _ | refine blk_drew ?_ | refine blk_alloc ?_ _)); refine blk_put (cs := #[.int .i64 t477, .slice none 0 0]) ?_ 1 _ rfl; (with_reducible repeat (first | refine blk_drewN ?_ _ | refine blk_drew ?_ | refine blk_alloc ?_ _)); refine blk_put (cs := #[.int .i64 0, .slice none 0 0]) ?_ 0 _ rfl; (with_reducible repeat (first | refine blk_drewN ?_ _ | refine blk_drew ?_ | refine blk_alloc ?_ _)); exact BK485.out⟩
      have n7_ : Aside0 (Below w.heap.size w ((w58.setCell ⟨gb485, 0, none⟩ (.int .i64 t477)).setCell ⟨gb485, 1, none⟩ (.slice Ao64 t478.length co64))) := ⟨pB⟩
      (try clear HO480)
      (try clear HO483)
      (try clear BK471)
      (try clear BK472)
      (try clear BK473)
      (try clear BK474)
      (try clear BK485)
      (try clear HB)
      generalize ((w58.setCell ⟨gb485, 0, none⟩ (.int .i64 t477)).setCell ⟨gb485, 1, none⟩ (.slice Ao64 t478.length co64)) = w65 at n0_ n1_ n2_ n3_ n4_ n5_ n6_ n7_ ⊢
      have HO480 := n0_
      have HO483 := n1_
      have BK471 := n2_
      have BK472 := n3_
      have BK473 := n4_
      have BK474 := n5_
      have BK485 := n6_
      have HB := n7_
      clear n0_ n1_ n2_ n3_ n4_ n5_ n6_ n7_
      have n0_ := Aside0.mk (Kd.R_drew HO480.out)
      have n1_ := Aside0.mk (Kd.R_drew HO483.out)
      have n2_ := Aside0.mk (blk_drew BK471.out)
      have n3_ := Aside0.mk (blk_drew BK472.out)
      have n4_ := Aside0.mk (blk_drew BK473.out)
      have n5_ := Aside0.mk (blk_drew BK474.out)
      have n6_ := Aside0.mk (blk_drew BK485.out)
      have n7_ := Aside0.mk (below_drew1 HB.out)
      clear HO480
      clear HO483
      clear BK471
      clear BK472
      clear BK473
      clear BK474
      clear BK485
      clear HB
      have HO480 := n0_
      have HO483 := n1_
      have BK471 := n2_
      have BK472 := n3_
      have BK473 := n4_
      have BK474 := n5_
      have BK485 := n6_
      have HB := n7_
      clear n0_ n1_ n2_ n3_ n4_ n5_ n6_ n7_
      refine start_ (n := 8) (S := fun w' => w'.cell? ⟨gb472, 0, none⟩ = some (.int .i64 a1_0) ∧ w'.cell? ⟨gb472, 1, none⟩ = some (.slice A1_1 l1_1.length c1_1)) (ds := []) #[false, false, false, false, false, false, false, false] (by kernel_rfl) rfl rfl ⟨(blk_cell BK472.out 0).trans rfl, (blk_cell BK472.out 1).trans rfl⟩ (fun hHeld => ?_); refine with_tabW papermillref18_Pour.tab12 papermillref18_Pour.bits12 (fun HT_ HW_ => ?_)
      generalize w65.drew = w66 at HO480 HO483 BK471 BK472 BK473 BK474 BK485 HB hHeld ⊢
      refine pure_ (i := 0) (N := some 49) (v := ?_) (a' := ?_) #[true, false, false, false, false, false, false, false] rfl rfl (any_of HT_.out (by kernel_rfl)) (fun _ _ _ h => h) (Or.inl ⟨by rfl, ?_⟩) ?_ ?_
      rotate_left
      ·intro w'
       go_simp
       with_reducible rfl
      rotate_left
      ·simp only [Act.put, List.setIfInBounds_toArray, List.set_cons_zero, List.set_cons_succ, i64_w, i32_w]
       rfl
      refine pure_ (i := 3) (N := some 52) (v := ?_) (a' := ?_) #[true, false, false, true, false, false, false, false] rfl rfl (any_of HT_.out (by kernel_rfl)) (fun _ _ _ h => h) (Or.inl ⟨by rfl, ?_⟩) ?_ ?_
      rotate_left
      ·intro w'
       go_simp
       with_reducible rfl
      rotate_left
      ·simp only [Act.put, List.setIfInBounds_toArray, List.set_cons_zero, List.set_cons_succ, i64_w, i32_w]
       rfl
      refine pure_ (i := 5) (N := some 54) (v := ?_) (a' := ?_) #[true, false, false, true, false, true, false, false] rfl rfl (any_of HT_.out (by kernel_rfl)) (fun _ _ _ h => h) (Or.inl ⟨by rfl, ?_⟩) ?_ ?_
      rotate_left
      ·intro w'
       go_simp
       with_reducible rfl
      rotate_left
      ·simp only [Act.put, List.setIfInBounds_toArray, List.set_cons_zero, List.set_cons_succ, i64_w, i32_w]
       rfl
      refine take_ (i := 1) (N := some 50) (v := ?_) (a' := ?_) #[true, true, false, true, false, true, false, false] rfl rfl (take_ofW HT_.out HW_.out (by kernel_rfl)) (fun _ _ _ h => h) (Or.inl ⟨by rfl, ?_⟩) hHeld ?_ ?_
      rotate_left
      ·rintro w' ⟨s0, s1⟩
       go_simp
       with_reducible rfl
      rotate_left
      ·simp only [Act.put, List.setIfInBounds_toArray, List.set_cons_zero, List.set_cons_succ, i64_w, i32_w]
       rfl
      refine take_ (i := 6) (N := some 55) (v := ?_) (a' := ?_) #[true, true, false, true, false, true, true, false] rfl rfl (take_ofW HT_.out HW_.out (by kernel_rfl)) (fun _ _ _ h => h) (Or.inl ⟨by rfl, ?_⟩) hHeld ?_ ?_
      rotate_left
      ·rintro w' ⟨s0, s1⟩
       go_simp
       with_reducible rfl
      rotate_left
      ·simp only [Act.put, List.setIfInBounds_toArray, List.set_cons_zero, List.set_cons_succ, i64_w, i32_w]
       rfl
      refine one_ (i := 2) (N := some 51) #[true, true, true, true, false, true, true, false] rfl rfl (one_of HT_.out (by kernel_rfl)) (by decide) (fun K hK => ?_)
      refine goes_ Try.func37 (by kernel_rfl) rfl #[.slice A1_1 l1_1.length c1_1] (by rfl) rfl rfl mA ?_
      with_reducible refine (papermillref18_sum.calls k _ _ l1_1 t486 _ ?side1 ?side2 A11.out).mono ?_
      (case side1 => repeat (first | exact (Kd.C_below HR1_1.out HB.out) | (with_reducible refine Kd.C_alloc ?_ _) | (with_reducible refine Kd.C_drewN ?_ _) | (with_reducible refine Kd.C_drew ?_)))
      (case side2 => exact HC1_1.out)
      rintro e w' ⟨rfl, ⟨nd, rfl⟩⟩
      refine ⟨_, rfl, ?_⟩
      refine hK.out _ _ ⟨(blk_cell BK472.out 0).trans rfl, (blk_cell BK472.out 1).trans rfl⟩ (fun hHeld => ?_)
      clear hK K
      refine norm_ (a' := ?_) ?_ ?_
      rotate_left
      ·show Act.put _ (some 51) _ = _
       simp only [Act.put, List.setIfInBounds_toArray, List.set_cons_zero, List.set_cons_succ, i64_w, i32_w]
       rfl
      refine pure_ (i := 4) (N := some 53) (v := ?_) (a' := ?_) #[true, true, true, true, true, true, true, false] rfl rfl (any_of HT_.out (by kernel_rfl)) (fun _ _ _ h => h) (Or.inl ⟨by rfl, ?_⟩) ?_ ?_
      rotate_left
      ·intro w'
       go_simp
       with_reducible rfl
      rotate_left
      ·simp only [Act.put, List.setIfInBounds_toArray, List.set_cons_zero, List.set_cons_succ, i64_w, i32_w]
       rfl
      refine pure_ (i := 7) (N := some 56) (v := ?_) (a' := ?_) #[true, true, true, true, true, true, true, true] rfl rfl (any_of HT_.out (by kernel_rfl)) (fun _ _ _ h => h) (Or.inl ⟨by rfl, ?_⟩) ?_ ?_
      rotate_left
      ·intro w'
       go_simp
       with_reducible rfl
      rotate_left
      ·simp only [Act.put, List.setIfInBounds_toArray, List.set_cons_zero, List.set_cons_succ, i64_w, i32_w]
       rfl
      refine done_ (done_of HT_.out (by kernel_rfl)) ?_
      try go_wp2
      (try (rw [drewN_self w66]; generalize hq_ : World.drewN w66 _ = w66; have n0_ : Aside0 (Kd.R (Kd.int .i64) 3 w66 w.heap.size (fun k_ => some k_ ≠ (v482 : Value).ownBlock) (.slice Ao64 t478.length co64) t478) := ⟨by rw [← hq_]; exact (rX HO480.out)⟩; have n1_ : Aside0 (Kd.R (Kd.int .i64) 3 w66 w.heap.size (fun k_ => some k_ ≠ (.slice Ao64 t478.length co64 : Value).ownBlock) v482 t481) := ⟨by rw [← hq_]; exact (rX HO483.out)⟩; have n2_ : Aside0 (w66.heap[gb471]? = some (.cells #[.int .i64 a0_0, .slice A0_1 l0_1.length c0_1] 24 (0, 0))) := ⟨by rw [← hq_]; exact (kW BK471)⟩; have n3_ : Aside0 (w66.heap[gb472]? = some (.cells #[.int .i64 a1_0, .slice A1_1 l1_1.length c1_1] 24 (0, 0))) := ⟨by rw [← hq_]; exact (kW BK472)⟩; have n4_ : Aside0 (w66.heap[gb473]? = some (.cells #[.int .i64 0, .slice none 0 0] 24 (0, 0))) := ⟨by rw [← hq_]; exact (kW BK473)⟩; have n5_ : Aside0 (w66.heap[gb474]? = some (.cells #[.int .i64 0, .slice none 0 0] 24 (0, 0))) := ⟨by rw [← hq_]; exact (kW BK474)⟩; have n6_ : Aside0 (w66.heap[gb485]? = some (.cells #[.int .i64 t477, .slice Ao64 t478.length co64] 24 (0, 0))) := ⟨by rw [← hq_]; exact (kW BK485)⟩; have n7_ : Aside0 (Below w.heap.size w w66) := ⟨by rw [← hq_]; exact pB⟩; clear HO480 HO483 BK471 BK472 BK473 BK474 BK485 HB hq_; have HO480 := n0_; have HO483 := n1_; have BK471 := n2_; have BK472 := n3_; have BK473 := n4_; have BK474 := n5_; have BK485 := n6_; have HB := n7_; clear n0_ n1_ n2_ n3_ n4_ n5_ n6_ n7_; have hcqgb471_0 : w66.cell? ⟨gb471, 0, none⟩ = some (.int .i64 a0_0) := (blk_cell BK471.out 0).trans rfl; have hfqgb471_0 := blk_frozen BK471.out 0; have hcqgb471_1 : w66.cell? ⟨gb471, 1, none⟩ = some (.slice A0_1 l0_1.length c0_1) := (blk_cell BK471.out 1).trans rfl; have hfqgb471_1 := blk_frozen BK471.out 1; have hcqgb472_0 : w66.cell? ⟨gb472, 0, none⟩ = some (.int .i64 a1_0) := (blk_cell BK472.out 0).trans rfl; have hfqgb472_0 := blk_frozen BK472.out 0; have hcqgb472_1 : w66.cell? ⟨gb472, 1, none⟩ = some (.slice A1_1 l1_1.length c1_1) := (blk_cell BK472.out 1).trans rfl; have hfqgb472_1 := blk_frozen BK472.out 1; have hcqgb473_0 : w66.cell? ⟨gb473, 0, none⟩ = some (.int .i64 0) := (blk_cell BK473.out 0).trans rfl; have hfqgb473_0 := blk_frozen BK473.out 0; have hcqgb473_1 : w66.cell? ⟨gb473, 1, none⟩ = some (.slice none 0 0) := (blk_cell BK473.out 1).trans rfl; have hfqgb473_1 := blk_frozen BK473.out 1; have hcqgb474_0 : w66.cell? ⟨gb474, 0, none⟩ = some (.int .i64 0) := (blk_cell BK474.out 0).trans rfl; have hfqgb474_0 := blk_frozen BK474.out 0; have hcqgb474_1 : w66.cell? ⟨gb474, 1, none⟩ = some (.slice none 0 0) := (blk_cell BK474.out 1).trans rfl; have hfqgb474_1 := blk_frozen BK474.out 1; have hcqgb485_0 : w66.cell? ⟨gb485, 0, none⟩ = some (.int .i64 t477) := (blk_cell BK485.out 0).trans rfl; have hfqgb485_0 := blk_frozen BK485.out 0; have hcqgb485_1 : w66.cell? ⟨gb485, 1, none⟩ = some (.slice Ao64 t478.length co64) := (blk_cell BK485.out 1).trans rfl; have hfqgb485_1 := blk_frozen BK485.out 1))
      have n0_ := Aside0.mk (Kd.R_drew HO480.out)
      have n1_ := Aside0.mk (Kd.R_drew HO483.out)
      have n2_ := Aside0.mk (blk_drew BK471.out)
      have n3_ := Aside0.mk (blk_drew BK472.out)
      have n4_ := Aside0.mk (blk_drew BK473.out)
      have n5_ := Aside0.mk (blk_drew BK474.out)
      have n6_ := Aside0.mk (blk_drew BK485.out)
      have n7_ := Aside0.mk (below_drew1 HB.out)
      clear HO480
      clear HO483
      clear BK471
      clear BK472
      clear BK473
      clear BK474
      clear BK485
      clear HB
      have HO480 := n0_
      have HO483 := n1_
      have BK471 := n2_
      have BK472 := n3_
      have BK473 := n4_
      have BK474 := n5_
      have BK485 := n6_
      have HB := n7_
      clear n0_ n1_ n2_ n3_ n4_ n5_ n6_ n7_
      obtain ⟨Ao68, co68, eo68⟩ := Kd.R_slice HO483.out
      (first | subst eo68 | (injection eo68 with f1_ f2_ f3_; have f4_ := f1_.symm; have f5_ := f3_.symm; clear f1_ f2_ f3_; subst f4_; subst f5_))
      refine start_ (n := 7) (S := fun w' => w'.cell? ⟨gb485, 0, none⟩ = some (.int .i64 t477) ∧ w'.cell? ⟨gb485, 1, none⟩ = some (.slice Ao64 t478.length co64) ∧ w'.cell? ⟨gb472, 0, none⟩ = some (.int .i64 a1_0) ∧ w'.cell? ⟨gb472, 1, none⟩ = some (.slice A1_1 l1_1.length c1_1)) (ds := []) #[false, false, false, false, false, false, false] (by kernel_rfl) rfl rfl ⟨(blk_cell BK485.out 0).trans rfl, (blk_cell BK485.out 1).trans rfl, (blk_cell BK472.out 0).trans rfl, (blk_cell BK472.out 1).trans rfl⟩ (fun hHeld => ?_)
      generalize w66.drew = w67 at HO480 HO483 BK471 BK472 BK473 BK474 BK485 HB hHeld ⊢
      refine pure_ (i := 2) (N := some 61) (v := ?_) (a' := ?_) #[false, false, true, false, false, false, false] rfl rfl (by kernel_rfl) (fun _ _ _ h => h) (Or.inl ⟨by rfl, ?_⟩) ?_ ?_
      rotate_left
      ·intro w'
       go_simp
       with_reducible rfl
      rotate_left
      ·simp only [Act.put, List.setIfInBounds_toArray, List.set_cons_zero, List.set_cons_succ, i64_w, i32_w]
       rfl
      refine take_ (i := 0) (N := some 59) (v := ?_) (a' := ?_) #[true, false, true, false, false, false, false] rfl rfl (by kernel_rfl) (fun _ _ _ h => h) (Or.inl ⟨by rfl, ?_⟩) hHeld ?_ ?_
      rotate_left
      ·rintro w' ⟨s0, s1, s2, s3⟩
       go_simp
       with_reducible rfl
      rotate_left
      ·simp only [Act.put, List.setIfInBounds_toArray, List.set_cons_zero, List.set_cons_succ, i64_w, i32_w]
       rfl
      refine take_ (i := 1) (N := some 60) (v := ?_) (a' := ?_) #[true, true, true, false, false, false, false] rfl rfl (by kernel_rfl) (fun _ _ _ h => h) (Or.inl ⟨by rfl, ?_⟩) hHeld ?_ ?_
      rotate_left
      ·rintro w' ⟨s0, s1, s2, s3⟩
       go_simp
       with_reducible rfl
      rotate_left
      ·simp only [Act.put, List.setIfInBounds_toArray, List.set_cons_zero, List.set_cons_succ, i64_w, i32_w]
       rfl
      refine one_ (i := 3) (N := some 62) #[true, true, true, true, false, false, false] rfl rfl (by kernel_rfl) (by decide) (fun K hK => ?_)
      refine goes_ Try.func41 (by kernel_rfl) rfl #[.agg #[.int .i64 a1_0, .slice A1_1 l1_1.length c1_1], .slice Ao68 t481.length co68] (by rfl) rfl rfl mA ?_
      with_reducible refine (papermillref18_plus.calls k a1_0 _ _ l1_1 _ _ t481 t487 t488 _ ?side1 ?side2 ?side3 ?side4 A41.out).mono ?_
      (case side1 => repeat (first | exact (Kd.C_below HR1_1.out HB.out) | (with_reducible refine Kd.C_alloc ?_ _) | (with_reducible refine Kd.C_drewN ?_ _) | (with_reducible refine Kd.C_drew ?_)))
      (case side2 => exact HC1_1.out)
      (case side3 => repeat (first | exact (Kd.R_reads' HO483.out).2.2 | (with_reducible refine Kd.C_alloc ?_ _) | (with_reducible refine Kd.C_drewN ?_ _) | (with_reducible refine Kd.C_drew ?_)))
      (case side4 => exact (Kd.R_reads' HO483.out).2.1)
      rintro e w69 ⟨v489, rfl, ho0, hb⟩
      refine ⟨_, rfl, ?_⟩
      have n0_ := Aside0.mk (Kd.R_elder' (rX HO480.out) (Kd.R_base ho0) hb)
      have n1_ := Aside0.mk (Kd.R_elder' (rX HO483.out) (Kd.R_base ho0) hb)
      have n2_ := Aside0.mk (Kd.R_lower (Kd.R_new' (Kd.R_new' ho0 (Kd.R_lt (rX HO480.out))) (Kd.R_lt (rX HO483.out))) (below_size pB))
      have n3_ := Aside0.mk (kB BK471 hb)
      have n4_ := Aside0.mk (kB BK472 hb)
      have n5_ := Aside0.mk (kB BK473 hb)
      have n6_ := Aside0.mk (kB BK474 hb)
      have n7_ := Aside0.mk (kB BK485 hb)
      have n8_ := Aside0.mk (below_step pB hb)
      clear HO480
      clear HO483
      clear BK471
      clear BK472
      clear BK473
      clear BK474
      clear BK485
      clear HB
      have HO480 := n0_
      have HO483 := n1_
      have HO490 := n2_
      have BK471 := n3_
      have BK472 := n4_
      have BK473 := n5_
      have BK474 := n6_
      have BK485 := n7_
      have HB := n8_
      clear n0_ n1_ n2_ n3_ n4_ n5_ n6_ n7_ n8_
      (try clear hb)
      (try clear hb2)
      (try clear hk)
      (try clear hi)
      (try clear ho0)
      obtain ⟨Ao73, co73, eo73⟩ := Kd.R_slice HO490.out
      (first | subst eo73 | (injection eo73 with f1_ f2_ f3_; have f4_ := f1_.symm; have f5_ := f3_.symm; clear f1_ f2_ f3_; subst f4_; subst f5_))
      refine hK.out _ _ ⟨(blk_cell BK485.out 0).trans rfl, (blk_cell BK485.out 1).trans rfl, (blk_cell BK472.out 0).trans rfl, (blk_cell BK472.out 1).trans rfl⟩ (fun hHeld => ?_)
      clear hK K
      refine norm_ (a' := ?_) ?_ ?_
      rotate_left
      ·show Act.put _ (some 62) _ = _
       simp only [Act.put, List.setIfInBounds_toArray, List.set_cons_zero, List.set_cons_succ, i64_w, i32_w]
       rfl
      refine one_ (i := 4) (N := none) #[true, true, true, true, true, false, false] rfl rfl (by kernel_rfl) (by decide) (fun K hK => ?_)
      have hs70 : w69.cell? ⟨gb473, 0, none⟩ = some (.int .i64 0) := (blk_cell BK473.out 0).trans rfl
      have hfs70 := blk_frozen BK473.out 0
      have hns70_0 := NB471_473.out
      have hns70_1 := NB472_473.out
      have hns70_3 := NB474_473.out
      have hns70_4 := NB485_473.out
      have hms70_0 := NB473_471.out
      have hms70_1 := NB473_472.out
      have hms70_3 := NB473_474.out
      have hms70_4 := NB473_485.out
      have hs71 : w69.cell? ⟨gb473, 1, none⟩ = some (.slice none 0 0) := (blk_cell BK473.out 1).trans rfl
      have hfs71 := blk_frozen BK473.out 1
      have hns71_0 := NB471_473.out
      have hns71_1 := NB472_473.out
      have hns71_3 := NB474_473.out
      have hns71_4 := NB485_473.out
      have hms71_0 := NB473_471.out
      have hms71_1 := NB473_472.out
      have hms71_3 := NB473_474.out
      have hms71_4 := NB473_485.out
      refine skip_ (w1 := ?_) (by rfl) rfl ?_ ?_
      rotate_left
      ·go_simp
       rfl
      refine hK.out _ _ ⟨((cell_far (p := ⟨gb473, _, none⟩) NB485_473.out _).trans (((cell_far (p := ⟨gb473, _, none⟩) NB485_473.out _).trans (hHeld.1)))), ((cell_far (p := ⟨gb473, _, none⟩) NB485_473.out _).trans (((cell_far (p := ⟨gb473, _, none⟩) NB485_473.out _).trans (hHeld.2.1)))), ((cell_far (p := ⟨gb473, _, none⟩) NB472_473.out _).trans (((cell_far (p := ⟨gb473, _, none⟩) NB472_473.out _).trans (hHeld.2.2.1)))), ((cell_far (p := ⟨gb473, _, none⟩) NB472_473.out _).trans (((cell_far (p := ⟨gb473, _, none⟩) NB472_473.out _).trans (hHeld.2.2.2))))⟩ (fun hHeld => ?_)
      clear hK K
      refine one_ (i := 5) (N := none) #[true, true, true, true, true, true, false] rfl rfl (by kernel_rfl) (by decide) (fun K hK => ?_)
      have hs72 : w69.cell? ⟨gb474, 0, none⟩ = some (.int .i64 0) := (blk_cell BK474.out 0).trans rfl
      have hfs72 := blk_frozen BK474.out 0
      have hns72_0 := NB471_474.out
      have hns72_1 := NB472_474.out
      have hns72_2 := NB473_474.out
      have hns72_4 := NB485_474.out
      have hms72_0 := NB474_471.out
      have hms72_1 := NB474_472.out
      have hms72_2 := NB474_473.out
      have hms72_4 := NB474_485.out
      have hs74 : w69.cell? ⟨gb474, 1, none⟩ = some (.slice none 0 0) := (blk_cell BK474.out 1).trans rfl
      have hfs74 := blk_frozen BK474.out 1
      have hns74_0 := NB471_474.out
      have hns74_1 := NB472_474.out
      have hns74_2 := NB473_474.out
      have hns74_4 := NB485_474.out
      have hms74_0 := NB474_471.out
      have hms74_1 := NB474_472.out
      have hms74_2 := NB474_473.out
      have hms74_4 := NB474_485.out
      refine skip_ (w1 := ?_) (by rfl) rfl ?_ ?_
      rotate_left
      ·go_simp
       rfl
      refine hK.out _ _ ⟨((cell_far (p := ⟨gb474, _, none⟩) NB485_474.out _).trans (((cell_far (p := ⟨gb474, _, none⟩) NB485_474.out _).trans (hHeld.1)))), ((cell_far (p := ⟨gb474, _, none⟩) NB485_474.out _).trans (((cell_far (p := ⟨gb474, _, none⟩) NB485_474.out _).trans (hHeld.2.1)))), ((cell_far (p := ⟨gb474, _, none⟩) NB472_474.out _).trans (((cell_far (p := ⟨gb474, _, none⟩) NB472_474.out _).trans (hHeld.2.2.1)))), ((cell_far (p := ⟨gb474, _, none⟩) NB472_474.out _).trans (((cell_far (p := ⟨gb474, _, none⟩) NB472_474.out _).trans (hHeld.2.2.2))))⟩ (fun hHeld => ?_)
      clear hK K
      refine pure_ (i := 6) (N := some 8) (v := ?_) (a' := ?_) #[true, true, true, true, true, true, true] rfl rfl (by kernel_rfl) (fun _ _ _ h => h) (Or.inl ⟨by rfl, ?_⟩) ?_ ?_
      rotate_left
      ·intro w'
       go_simp
       with_reducible rfl
      rotate_left
      ·simp only [Act.put, List.setIfInBounds_toArray, List.set_cons_zero, List.set_cons_succ, i64_w, i32_w]
       rfl
      refine done_ (by kernel_rfl) ?_
      try go_wp2
      refine bodyPost_ret (results_list (rs := [.cell 6 24, .cell 7 24, .tmp 8]) rfl (by simp) (.cell gb473 24 #[.int .i64 t477, .slice Ao64 t478.length co64] (0, 0) _ rfl (by (with_reducible repeat (first | refine blk_drewN ?_ _ | refine blk_drew ?_ | refine blk_alloc ?_ _)); refine blk_far ?_ NB473_474.out _; (with_reducible repeat (first | refine blk_drewN ?_ _ | refine blk_drew ?_ | refine blk_alloc ?_ _)); refine blk_far ?_ NB473_474.out _; (with_reducible repeat (first | refine blk_drewN ?_ _ | refine blk_drew ?_ | refine blk_alloc ?_ _)); refine blk_put (cs := #[.int .i64 t477, .slice none 0 0]) ?_ 1 _ rfl; (with_reducible repeat (first | refine blk_drewN ?_ _ | refine blk_drew ?_ | refine blk_alloc ?_ _)); refine blk_put (cs := #[.int .i64 0, .slice none 0 0]) ?_ 0 _ rfl; (with_reducible repeat (first | refine blk_drewN ?_ _ | refine blk_drew ?_ | refine blk_alloc ?_ _)); exact BK473.out) Try.underlying24 rfl (by kernel_rfl) (.cell gb474 24 #[.int .i64 t487, .slice Ao73 t488.length co73] (0, 0) _ rfl (by (with_reducible repeat (first | refine blk_drewN ?_ _ | refine blk_drew ?_ | refine blk_alloc ?_ _)); refine blk_put (cs := #[.int .i64 t487, .slice none 0 0]) ?_ 1 _ rfl; (with_reducible repeat (first | refine blk_drewN ?_ _ | refine blk_drew ?_ | refine blk_alloc ?_ _)); refine blk_put (cs := #[.int .i64 0, .slice none 0 0]) ?_ 0 _ rfl; (with_reducible repeat (first | refine blk_drewN ?_ _ | refine blk_drew ?_ | refine blk_alloc ?_ _)); refine blk_far ?_ NB474_473.out _; (with_reducible repeat (first | refine blk_drewN ?_ _ | refine blk_drew ?_ | refine blk_alloc ?_ _)); refine blk_far ?_ NB474_473.out _; (with_reducible repeat (first | refine blk_drewN ?_ _ | refine blk_drew ?_ | refine blk_alloc ?_ _)); exact BK474.out) Try.underlying24 rfl (by kernel_rfl) (.tmp .nil)))) rfl ?_
      exact ⟨_, _, by first | rfl | (simp [errW_none, errW_some] <;> rfl) | (simp [*, errW_none, errW_some] <;> rfl), by (with_reducible repeat (first | apply Kd.R_alloc | apply Kd.R_drewN | apply Kd.R_drew)); exact Kd.R_mono (Kd.R_far (p := ⟨gb474, 1, none⟩) (Kd.R_far (p := ⟨gb474, 0, none⟩) (Kd.R_far (p := ⟨gb473, 1, none⟩) (Kd.R_far (p := ⟨gb473, 0, none⟩) (Kd.R_types (Kd.R_types HO480.out BK473.out (by decide)) BK474.out (by decide)) (fun _ hk => hk.1.2) (.int .i64 t477)) (fun _ hk => hk.1.2) (.slice Ao64 t478.length co64)) (fun _ hk => hk.2) (.int .i64 t487)) (fun _ hk => hk.2) (.slice Ao73 t488.length co73)) (fun _ hk => hk.1.1.2), by (with_reducible repeat (first | apply Kd.R_alloc | apply Kd.R_drewN | apply Kd.R_drew)); exact Kd.R_mono (Kd.R_far (p := ⟨gb474, 1, none⟩) (Kd.R_far (p := ⟨gb474, 0, none⟩) (Kd.R_far (p := ⟨gb473, 1, none⟩) (Kd.R_far (p := ⟨gb473, 0, none⟩) (Kd.R_types (Kd.R_types HO490.out BK473.out (by decide)) BK474.out (by decide)) (fun _ hk => hk.1.2) (.int .i64 t477)) (fun _ hk => hk.1.2) (.slice Ao64 t478.length co64)) (fun _ hk => hk.2) (.int .i64 t487)) (fun _ hk => hk.2) (.slice Ao73 t488.length co73)) (fun _ hk => hk.1.1.1.2), pB⟩
    ·rw [if_neg c10] at H
     have c10b0 : (t484 == 0) = false := beq_eq_false_iff_ne.mpr c10
     have c10b1 : (t484 != 0) = true := bne_iff_ne.mpr c10
     simp only [Option.some.injEq, Prod.mk.injEq] at H
     obtain ⟨rfl, rfl, rfl, rfl, rfl⟩ := H
     go_enter Try.func26, Try.ntmps26
     go_wp2_with (first | ((with_reducible refine gate_dst (N := 3) rfl ?_); refine box_event ?hg (N := 3) ?hd (cs := #[.int .i64 a0_0, .slice A0_1 l0_1.length c0_1]) (t := 24) ?hr ?_; (case hd => rfl); (case hg => rfl); (case hr => first | (go_simp; done) | (go_simp; rfl)); intro gb471 hg w75 hbox hb; have BK471 := Aside0.mk (hbox); have GW471 := Aside0.mk (gW hg : w.heap.size ≤ gb471); have GE471 := Aside0.mk (gW hg : w.heap.size ≤ gb471); replace HB := Aside0.mk (below_step pB hb); clear hb hbox hg) | ((with_reducible refine gate_dst (N := 4) rfl ?_); refine box_event ?hg (N := 4) ?hd (cs := #[.int .i64 a1_0, .slice A1_1 l1_1.length c1_1]) (t := 24) ?hr ?_; (case hd => rfl); (case hg => rfl); (case hr => first | (go_simp; done) | (go_simp; rfl)); intro gb472 hg w76 hbox hb; have BK472 := Aside0.mk (hbox); have GW472 := Aside0.mk (gW hg : w.heap.size ≤ gb472); have GE472 := Aside0.mk (gW hg : w.heap.size ≤ gb472); have NB471_472 := Aside0.mk (nL hg BK471 : gb471 ≠ gb472); have NB472_471 := Aside0.mk (nG hg BK471 : gb472 ≠ gb471); replace BK471 := Aside0.mk (kB BK471 hb); replace HB := Aside0.mk (below_step pB hb); clear hb hbox hg) | ((with_reducible refine gate_dst (N := 6) rfl ?_); refine box_event ?hg (N := 6) ?hd (cs := #[.int .i64 0, .slice none 0 0]) (t := 24) ?hr ?_; (case hd => rfl); (case hg => rfl); (case hr => first | (go_simp; done) | (go_simp; rfl)); intro gb473 hg w77 hbox hb; have BK473 := Aside0.mk (hbox); have GW473 := Aside0.mk (gW hg : w.heap.size ≤ gb473); have GE473 := Aside0.mk (gW hg : w.heap.size ≤ gb473); have NB471_473 := Aside0.mk (nL hg BK471 : gb471 ≠ gb473); have NB473_471 := Aside0.mk (nG hg BK471 : gb473 ≠ gb471); have NB472_473 := Aside0.mk (nL hg BK472 : gb472 ≠ gb473); have NB473_472 := Aside0.mk (nG hg BK472 : gb473 ≠ gb472); replace BK471 := Aside0.mk (kB BK471 hb); replace BK472 := Aside0.mk (kB BK472 hb); replace HB := Aside0.mk (below_step pB hb); clear hb hbox hg) | ((with_reducible refine gate_dst (N := 7) rfl ?_); refine box_event ?hg (N := 7) ?hd (cs := #[.int .i64 0, .slice none 0 0]) (t := 24) ?hr ?_; (case hd => rfl); (case hg => rfl); (case hr => first | (go_simp; done) | (go_simp; rfl)); intro gb474 hg w78 hbox hb; have BK474 := Aside0.mk (hbox); have GW474 := Aside0.mk (gW hg : w.heap.size ≤ gb474); have GE474 := Aside0.mk (gW hg : w.heap.size ≤ gb474); have NB471_474 := Aside0.mk (nL hg BK471 : gb471 ≠ gb474); have NB474_471 := Aside0.mk (nG hg BK471 : gb474 ≠ gb471); have NB472_474 := Aside0.mk (nL hg BK472 : gb472 ≠ gb474); have NB474_472 := Aside0.mk (nG hg BK472 : gb474 ≠ gb472); have NB473_474 := Aside0.mk (nL hg BK473 : gb473 ≠ gb474); have NB474_473 := Aside0.mk (nG hg BK473 : gb474 ≠ gb473); replace BK471 := Aside0.mk (kB BK471 hb); replace BK472 := Aside0.mk (kB BK472 hb); replace BK473 := Aside0.mk (kB BK473 hb); replace HB := Aside0.mk (below_step pB hb); clear hb hbox hg; have hnb79 := NB471_472.out; have hnc79 := NB472_471.out; have hnb80 := NB471_473.out; have hnc80 := NB473_471.out; have hnb81 := NB471_474.out; have hnc81 := NB474_471.out; obtain ⟨hcz82_0, hcz82_1, hfz82_0, hfz82_1⟩ := bk2 BK471) | ((with_reducible refine gate_callee (f := 16) rfl ?_); refine goesL_ (some 15) rfl rfl Try.func16 (by kernel_rfl) rfl #[.agg #[.int .i64 a0_0, .slice A0_1 l0_1.length c0_1]] rfl mA ?_; (with_reducible refine (papermillref18_Check.calls k a0_0 _ _ l0_1 t475 _ ?side1 ?side2 A4.out).mono ?_); (case side1 => repeat (first | exact (Kd.C_below HR0_1.out HB.out) | (with_reducible refine Kd.C_alloc ?_ _) | (with_reducible refine Kd.C_drewN ?_ _) | (with_reducible refine Kd.C_drew ?_))); (case side2 => exact HC0_1.out); rintro e w83 ⟨rfl, hb⟩; refine ⟨_, rfl, ?_⟩; replace BK471 := Aside0.mk (kB BK471 hb); replace BK472 := Aside0.mk (kB BK472 hb); replace BK473 := Aside0.mk (kB BK473 hb); replace BK474 := Aside0.mk (kB BK474 hb); replace HB := Aside0.mk (below_step pB hb); (try clear hb); (try clear hb2); (try clear hk); (try clear hi); have hnb84 := NB472_473.out; have hnc84 := NB473_472.out; have hnb85 := NB472_474.out; have hnc85 := NB474_472.out; obtain ⟨hcz86_0, hcz86_1, hfz86_0, hfz86_1⟩ := bk2 BK472) | ((with_reducible refine gate_callee (f := 16) rfl ?_); refine goesL_ (some 22) rfl rfl Try.func16 (by kernel_rfl) rfl #[.agg #[.int .i64 a1_0, .slice A1_1 l1_1.length c1_1]] rfl mA ?_; (with_reducible refine (papermillref18_Check.calls k a1_0 _ _ l1_1 t476 _ ?side1 ?side2 A6.out).mono ?_); (case side1 => repeat (first | exact (Kd.C_below HR1_1.out HB.out) | (with_reducible refine Kd.C_alloc ?_ _) | (with_reducible refine Kd.C_drewN ?_ _) | (with_reducible refine Kd.C_drew ?_))); (case side2 => exact HC1_1.out); rintro e w87 ⟨rfl, hb⟩; refine ⟨_, rfl, ?_⟩; replace BK471 := Aside0.mk (kB BK471 hb); replace BK472 := Aside0.mk (kB BK472 hb); replace BK473 := Aside0.mk (kB BK473 hb); replace BK474 := Aside0.mk (kB BK474 hb); replace HB := Aside0.mk (below_step pB hb); (try clear hb); (try clear hb2); (try clear hk); (try clear hi); obtain ⟨hcz88_0, hcz88_1, hfz88_0, hfz88_1⟩ := bk2 BK471; obtain ⟨hcz89_0, hcz89_1, hfz89_0, hfz89_1⟩ := bk2 BK472) | ((with_reducible refine gate_callee (f := 20) rfl ?_); refine goesL_ (some 40) rfl rfl Try.func20 (by kernel_rfl) rfl #[.agg #[.int .i64 a0_0, .slice A0_1 l0_1.length c0_1], .int .i64 a2] rfl mA ?_; (with_reducible refine (papermillref18_Draw.calls k a0_0 _ _ l0_1 a2 t477 t478 t481 t484 _ ?side1 ?side2 A9.out).mono ?_); (case side1 => repeat (first | exact (Kd.C_below HR0_1.out HB.out) | (with_reducible refine Kd.C_alloc ?_ _) | (with_reducible refine Kd.C_drewN ?_ _) | (with_reducible refine Kd.C_drew ?_))); (case side2 => exact HC0_1.out); rintro e w90 ⟨v479, v482, rfl, ho0, ho1, hb⟩; refine ⟨_, rfl, ?_⟩; have HO480 := Aside0.mk (Kd.R_lower ho0 (below_size pB)); have HO483 := Aside0.mk (Kd.R_lower ho1 (below_size pB)); replace BK471 := Aside0.mk (kB BK471 hb); replace BK472 := Aside0.mk (kB BK472 hb); replace BK473 := Aside0.mk (kB BK473 hb); replace BK474 := Aside0.mk (kB BK474 hb); replace HB := Aside0.mk (below_step pB hb); (try clear hb); (try clear hb2); (try clear hk); (try clear hi); (try clear ho0); (try clear ho1)) | ((with_reducible refine gate_dst (N := 11) rfl ?_); refine box_event ?hg (N := 11) ?hd (cs := #[.int .i64 0, .slice none 0 0]) (t := 24) ?hr ?_; (case hd => rfl); (case hg => rfl); (case hr => first | (go_simp; done) | (go_simp; rfl)); intro gb485 hg w91 hbox hb; have BK485 := Aside0.mk (hbox); have GW485 := Aside0.mk (gW hg : w.heap.size ≤ gb485); have GE485 := Aside0.mk (gW hg : w.heap.size ≤ gb485); have NB471_485 := Aside0.mk (nL hg BK471 : gb471 ≠ gb485); have NB485_471 := Aside0.mk (nG hg BK471 : gb485 ≠ gb471); have NB472_485 := Aside0.mk (nL hg BK472 : gb472 ≠ gb485); have NB485_472 := Aside0.mk (nG hg BK472 : gb485 ≠ gb472); have NB473_485 := Aside0.mk (nL hg BK473 : gb473 ≠ gb485); have NB485_473 := Aside0.mk (nG hg BK473 : gb485 ≠ gb473); have NB474_485 := Aside0.mk (nL hg BK474 : gb474 ≠ gb485); have NB485_474 := Aside0.mk (nG hg BK474 : gb485 ≠ gb474); replace HO480 := Aside0.mk (Kd.R_below (rX HO480.out) hb); replace HO483 := Aside0.mk (Kd.R_below (rX HO483.out) hb); replace BK471 := Aside0.mk (kB BK471 hb); replace BK472 := Aside0.mk (kB BK472 hb); replace BK473 := Aside0.mk (kB BK473 hb); replace BK474 := Aside0.mk (kB BK474 hb); replace HB := Aside0.mk (below_step pB hb); clear hb hbox hg; have hnb92 := NB485_471.out; have hnc92 := NB471_485.out; have hnb93 := NB485_472.out; have hnc93 := NB472_485.out; have hnb94 := NB485_473.out; have hnc94 := NB473_485.out; have hnb95 := NB485_474.out; have hnc95 := NB474_485.out; obtain ⟨hcz96_0, hcz96_1, hfz96_0, hfz96_1⟩ := bk2 BK485; obtain ⟨Ao97, co97, eo97⟩ := Kd.R_slice HO480.out; subst eo97; have hnb98 := NB473_474.out; have hnc98 := NB474_473.out; obtain ⟨hcz99_0, hcz99_1, hfz99_0, hfz99_1⟩ := bk2 BK473; obtain ⟨hcz100_0, hcz100_1, hfz100_0, hfz100_1⟩ := bk2 BK474))
     refine bodyPost_ret (results_list (rs := [.cell 6 24, .cell 7 24, .tmp 8]) rfl (by simp) (.cell gb473 24 #[.int .i64 0, .slice none 0 0] (0, 0) _ rfl (by (with_reducible repeat (first | refine blk_drewN ?_ _ | refine blk_drew ?_ | refine blk_alloc ?_ _)); refine blk_far ?_ NB473_474.out _; (with_reducible repeat (first | refine blk_drewN ?_ _ | refine blk_drew ?_ | refine blk_alloc ?_ _)); refine blk_far ?_ NB473_474.out _; (with_reducible repeat (first | refine blk_drewN ?_ _ | refine blk_drew ?_ | refine blk_alloc ?_ _)); refine blk_put (cs := #[.int .i64 0, .slice none 0 0]) ?_ 1 _ rfl; (with_reducible repeat (first | refine blk_drewN ?_ _ | refine blk_drew ?_ | refine blk_alloc ?_ _)); refine blk_put (cs := #[.int .i64 0, .slice none 0 0]) ?_ 0 _ rfl; (with_reducible repeat (first | refine blk_drewN ?_ _ | refine blk_drew ?_ | refine blk_alloc ?_ _)); refine blk_far ?_ NB473_485.out _; (with_reducible repeat (first | refine blk_drewN ?_ _ | refine blk_drew ?_ | refine blk_alloc ?_ _)); refine blk_far ?_ NB473_485.out _; (with_reducible repeat (first | refine blk_drewN ?_ _ | refine blk_drew ?_ | refine blk_alloc ?_ _)); exact BK473.out) Try.underlying24 rfl (by kernel_rfl) (.cell gb474 24 #[.int .i64 0, .slice none 0 0] (0, 0) _ rfl (by (with_reducible repeat (first | refine blk_drewN ?_ _ | refine blk_drew ?_ | refine blk_alloc ?_ _)); refine blk_put (cs := #[.int .i64 0, .slice none 0 0]) ?_ 1 _ rfl; (with_reducible repeat (first | refine blk_drewN ?_ _ | refine blk_drew ?_ | refine blk_alloc ?_ _)); refine blk_put (cs := #[.int .i64 0, .slice none 0 0]) ?_ 0 _ rfl; (with_reducible repeat (first | refine blk_drewN ?_ _ | refine blk_drew ?_ | refine blk_alloc ?_ _)); refine blk_far ?_ NB474_473.out _; (with_reducible repeat (first | refine blk_drewN ?_ _ | refine blk_drew ?_ | refine blk_alloc ?_ _)); refine blk_far ?_ NB474_473.out _; (with_reducible repeat (first | refine blk_drewN ?_ _ | refine blk_drew ?_ | refine blk_alloc ?_ _)); refine blk_far ?_ NB474_485.out _; (with_reducible repeat (first | refine blk_drewN ?_ _ | refine blk_drew ?_ | refine blk_alloc ?_ _)); refine blk_far ?_ NB474_485.out _; (with_reducible repeat (first | refine blk_drewN ?_ _ | refine blk_drew ?_ | refine blk_alloc ?_ _)); exact BK474.out) Try.underlying24 rfl (by kernel_rfl) (.tmp .nil)))) rfl ?_
     exact ⟨_, _, by first | rfl | (simp [errW_none, errW_some] <;> rfl) | (simp [*, errW_none, errW_some] <;> rfl), by first | exact Kd.R_nil _ _ _ _ _ | exact Kd.N_nil _ _ _ _ _ | exact Kd.V_nil _ _ _ _ _ | exact Kd.Q_nil _ _ _ _ _ | exact Kd.S_nil _ _ _ _ _, by first | exact Kd.R_nil _ _ _ _ _ | exact Kd.N_nil _ _ _ _ _ | exact Kd.V_nil _ _ _ _ _ | exact Kd.Q_nil _ _ _ _ _ | exact Kd.S_nil _ _ _ _ _, pB⟩
   ·rw [if_neg c8] at H
    have c8b0 : ((l0_1.length : Int) == (l1_1.length : Int)) = false := beq_eq_false_iff_ne.mpr c8
    have c8b1 : ((l0_1.length : Int) != (l1_1.length : Int)) = true := bne_iff_ne.mpr c8
    have c8b2 : (l0_1.length == l1_1.length) = false := by first | simpa using c8 | (simp at c8 ⊢; omega)
    simp only [Option.some.injEq, Prod.mk.injEq] at H
    obtain ⟨rfl, rfl, rfl, rfl, rfl⟩ := H
    go_enter Try.func26, Try.ntmps26
    go_wp2_with (first | ((with_reducible refine gate_dst (N := 3) rfl ?_); refine box_event ?hg (N := 3) ?hd (cs := #[.int .i64 a0_0, .slice A0_1 l0_1.length c0_1]) (t := 24) ?hr ?_; (case hd => rfl); (case hg => rfl); (case hr => first | (go_simp; done) | (go_simp; rfl)); intro gb471 hg w101 hbox hb; have BK471 := Aside0.mk (hbox); have GW471 := Aside0.mk (gW hg : w.heap.size ≤ gb471); have GE471 := Aside0.mk (gW hg : w.heap.size ≤ gb471); replace HB := Aside0.mk (below_step pB hb); clear hb hbox hg) | ((with_reducible refine gate_dst (N := 4) rfl ?_); refine box_event ?hg (N := 4) ?hd (cs := #[.int .i64 a1_0, .slice A1_1 l1_1.length c1_1]) (t := 24) ?hr ?_; (case hd => rfl); (case hg => rfl); (case hr => first | (go_simp; done) | (go_simp; rfl)); intro gb472 hg w102 hbox hb; have BK472 := Aside0.mk (hbox); have GW472 := Aside0.mk (gW hg : w.heap.size ≤ gb472); have GE472 := Aside0.mk (gW hg : w.heap.size ≤ gb472); have NB471_472 := Aside0.mk (nL hg BK471 : gb471 ≠ gb472); have NB472_471 := Aside0.mk (nG hg BK471 : gb472 ≠ gb471); replace BK471 := Aside0.mk (kB BK471 hb); replace HB := Aside0.mk (below_step pB hb); clear hb hbox hg) | ((with_reducible refine gate_dst (N := 6) rfl ?_); refine box_event ?hg (N := 6) ?hd (cs := #[.int .i64 0, .slice none 0 0]) (t := 24) ?hr ?_; (case hd => rfl); (case hg => rfl); (case hr => first | (go_simp; done) | (go_simp; rfl)); intro gb473 hg w103 hbox hb; have BK473 := Aside0.mk (hbox); have GW473 := Aside0.mk (gW hg : w.heap.size ≤ gb473); have GE473 := Aside0.mk (gW hg : w.heap.size ≤ gb473); have NB471_473 := Aside0.mk (nL hg BK471 : gb471 ≠ gb473); have NB473_471 := Aside0.mk (nG hg BK471 : gb473 ≠ gb471); have NB472_473 := Aside0.mk (nL hg BK472 : gb472 ≠ gb473); have NB473_472 := Aside0.mk (nG hg BK472 : gb473 ≠ gb472); replace BK471 := Aside0.mk (kB BK471 hb); replace BK472 := Aside0.mk (kB BK472 hb); replace HB := Aside0.mk (below_step pB hb); clear hb hbox hg) | ((with_reducible refine gate_dst (N := 7) rfl ?_); refine box_event ?hg (N := 7) ?hd (cs := #[.int .i64 0, .slice none 0 0]) (t := 24) ?hr ?_; (case hd => rfl); (case hg => rfl); (case hr => first | (go_simp; done) | (go_simp; rfl)); intro gb474 hg w104 hbox hb; have BK474 := Aside0.mk (hbox); have GW474 := Aside0.mk (gW hg : w.heap.size ≤ gb474); have GE474 := Aside0.mk (gW hg : w.heap.size ≤ gb474); have NB471_474 := Aside0.mk (nL hg BK471 : gb471 ≠ gb474); have NB474_471 := Aside0.mk (nG hg BK471 : gb474 ≠ gb471); have NB472_474 := Aside0.mk (nL hg BK472 : gb472 ≠ gb474); have NB474_472 := Aside0.mk (nG hg BK472 : gb474 ≠ gb472); have NB473_474 := Aside0.mk (nL hg BK473 : gb473 ≠ gb474); have NB474_473 := Aside0.mk (nG hg BK473 : gb474 ≠ gb473); replace BK471 := Aside0.mk (kB BK471 hb); replace BK472 := Aside0.mk (kB BK472 hb); replace BK473 := Aside0.mk (kB BK473 hb); replace HB := Aside0.mk (below_step pB hb); clear hb hbox hg; have hnb105 := NB471_472.out; have hnc105 := NB472_471.out; have hnb106 := NB471_473.out; have hnc106 := NB473_471.out; have hnb107 := NB471_474.out; have hnc107 := NB474_471.out; obtain ⟨hcz108_0, hcz108_1, hfz108_0, hfz108_1⟩ := bk2 BK471) | ((with_reducible refine gate_callee (f := 16) rfl ?_); refine goesL_ (some 15) rfl rfl Try.func16 (by kernel_rfl) rfl #[.agg #[.int .i64 a0_0, .slice A0_1 l0_1.length c0_1]] rfl mA ?_; (with_reducible refine (papermillref18_Check.calls k a0_0 _ _ l0_1 t475 _ ?side1 ?side2 A4.out).mono ?_); (case side1 => repeat (first | exact (Kd.C_below HR0_1.out HB.out) | (with_reducible refine Kd.C_alloc ?_ _) | (with_reducible refine Kd.C_drewN ?_ _) | (with_reducible refine Kd.C_drew ?_))); (case side2 => exact HC0_1.out); rintro e w109 ⟨rfl, hb⟩; refine ⟨_, rfl, ?_⟩; replace BK471 := Aside0.mk (kB BK471 hb); replace BK472 := Aside0.mk (kB BK472 hb); replace BK473 := Aside0.mk (kB BK473 hb); replace BK474 := Aside0.mk (kB BK474 hb); replace HB := Aside0.mk (below_step pB hb); (try clear hb); (try clear hb2); (try clear hk); (try clear hi); have hnb110 := NB472_473.out; have hnc110 := NB473_472.out; have hnb111 := NB472_474.out; have hnc111 := NB474_472.out; obtain ⟨hcz112_0, hcz112_1, hfz112_0, hfz112_1⟩ := bk2 BK472) | ((with_reducible refine gate_callee (f := 16) rfl ?_); refine goesL_ (some 22) rfl rfl Try.func16 (by kernel_rfl) rfl #[.agg #[.int .i64 a1_0, .slice A1_1 l1_1.length c1_1]] rfl mA ?_; (with_reducible refine (papermillref18_Check.calls k a1_0 _ _ l1_1 t476 _ ?side1 ?side2 A6.out).mono ?_); (case side1 => repeat (first | exact (Kd.C_below HR1_1.out HB.out) | (with_reducible refine Kd.C_alloc ?_ _) | (with_reducible refine Kd.C_drewN ?_ _) | (with_reducible refine Kd.C_drew ?_))); (case side2 => exact HC1_1.out); rintro e w113 ⟨rfl, hb⟩; refine ⟨_, rfl, ?_⟩; replace BK471 := Aside0.mk (kB BK471 hb); replace BK472 := Aside0.mk (kB BK472 hb); replace BK473 := Aside0.mk (kB BK473 hb); replace BK474 := Aside0.mk (kB BK474 hb); replace HB := Aside0.mk (below_step pB hb); (try clear hb); (try clear hb2); (try clear hk); (try clear hi); obtain ⟨hcz114_0, hcz114_1, hfz114_0, hfz114_1⟩ := bk2 BK471; obtain ⟨hcz115_0, hcz115_1, hfz115_0, hfz115_1⟩ := bk2 BK472; have hnb116 := NB473_474.out; have hnc116 := NB474_473.out; obtain ⟨hcz117_0, hcz117_1, hfz117_0, hfz117_1⟩ := bk2 BK473; obtain ⟨hcz118_0, hcz118_1, hfz118_0, hfz118_1⟩ := bk2 BK474))
    refine bodyPost_ret (results_list (rs := [.cell 6 24, .cell 7 24, .tmp 8]) rfl (by simp) (.cell gb473 24 #[.int .i64 0, .slice none 0 0] (0, 0) _ rfl (by (with_reducible repeat (first | refine blk_drewN ?_ _ | refine blk_drew ?_ | refine blk_alloc ?_ _)); refine blk_far ?_ NB473_474.out _; (with_reducible repeat (first | refine blk_drewN ?_ _ | refine blk_drew ?_ | refine blk_alloc ?_ _)); refine blk_far ?_ NB473_474.out _; (with_reducible repeat (first | refine blk_drewN ?_ _ | refine blk_drew ?_ | refine blk_alloc ?_ _)); refine blk_put (cs := #[.int .i64 0, .slice none 0 0]) ?_ 1 _ rfl; (with_reducible repeat (first | refine blk_drewN ?_ _ | refine blk_drew ?_ | refine blk_alloc ?_ _)); refine blk_put (cs := #[.int .i64 0, .slice none 0 0]) ?_ 0 _ rfl; (with_reducible repeat (first | refine blk_drewN ?_ _ | refine blk_drew ?_ | refine blk_alloc ?_ _)); exact BK473.out) Try.underlying24 rfl (by kernel_rfl) (.cell gb474 24 #[.int .i64 0, .slice none 0 0] (0, 0) _ rfl (by (with_reducible repeat (first | refine blk_drewN ?_ _ | refine blk_drew ?_ | refine blk_alloc ?_ _)); refine blk_put (cs := #[.int .i64 0, .slice none 0 0]) ?_ 1 _ rfl; (with_reducible repeat (first | refine blk_drewN ?_ _ | refine blk_drew ?_ | refine blk_alloc ?_ _)); refine blk_put (cs := #[.int .i64 0, .slice none 0 0]) ?_ 0 _ rfl; (with_reducible repeat (first | refine blk_drewN ?_ _ | refine blk_drew ?_ | refine blk_alloc ?_ _)); refine blk_far ?_ NB474_473.out _; (with_reducible repeat (first | refine blk_drewN ?_ _ | refine blk_drew ?_ | refine blk_alloc ?_ _)); refine blk_far ?_ NB474_473.out _; (with_reducible repeat (first | refine blk_drewN ?_ _ | refine blk_drew ?_ | refine blk_alloc ?_ _)); exact BK474.out) Try.underlying24 rfl (by kernel_rfl) (.tmp .nil)))) rfl ?_
    exact ⟨_, _, by first | rfl | (simp [errW_none, errW_some] <;> rfl) | (simp [*, errW_none, errW_some] <;> rfl), by first | exact Kd.R_nil _ _ _ _ _ | exact Kd.N_nil _ _ _ _ _ | exact Kd.V_nil _ _ _ _ _ | exact Kd.Q_nil _ _ _ _ _ | exact Kd.S_nil _ _ _ _ _, by first | exact Kd.R_nil _ _ _ _ _ | exact Kd.N_nil _ _ _ _ _ | exact Kd.V_nil _ _ _ _ _ | exact Kd.Q_nil _ _ _ _ _ | exact Kd.S_nil _ _ _ _ _, pB⟩
  ·rw [if_neg c7] at H
   have c7b0 : (t476 == 0) = false := beq_eq_false_iff_ne.mpr c7
   have c7b1 : (t476 != 0) = true := bne_iff_ne.mpr c7
   simp only [Option.some.injEq, Prod.mk.injEq] at H
   obtain ⟨rfl, rfl, rfl, rfl, rfl⟩ := H
   go_enter Try.func26, Try.ntmps26
   go_wp2_with (first | ((with_reducible refine gate_dst (N := 3) rfl ?_); refine box_event ?hg (N := 3) ?hd (cs := #[.int .i64 a0_0, .slice A0_1 l0_1.length c0_1]) (t := 24) ?hr ?_; (case hd => rfl); (case hg => rfl); (case hr => first | (go_simp; done) | (go_simp; rfl)); intro gb471 hg w119 hbox hb; have BK471 := Aside0.mk (hbox); have GW471 := Aside0.mk (gW hg : w.heap.size ≤ gb471); have GE471 := Aside0.mk (gW hg : w.heap.size ≤ gb471); replace HB := Aside0.mk (below_step pB hb); clear hb hbox hg) | ((with_reducible refine gate_dst (N := 4) rfl ?_); refine box_event ?hg (N := 4) ?hd (cs := #[.int .i64 a1_0, .slice A1_1 l1_1.length c1_1]) (t := 24) ?hr ?_; (case hd => rfl); (case hg => rfl); (case hr => first | (go_simp; done) | (go_simp; rfl)); intro gb472 hg w120 hbox hb; have BK472 := Aside0.mk (hbox); have GW472 := Aside0.mk (gW hg : w.heap.size ≤ gb472); have GE472 := Aside0.mk (gW hg : w.heap.size ≤ gb472); have NB471_472 := Aside0.mk (nL hg BK471 : gb471 ≠ gb472); have NB472_471 := Aside0.mk (nG hg BK471 : gb472 ≠ gb471); replace BK471 := Aside0.mk (kB BK471 hb); replace HB := Aside0.mk (below_step pB hb); clear hb hbox hg) | ((with_reducible refine gate_dst (N := 6) rfl ?_); refine box_event ?hg (N := 6) ?hd (cs := #[.int .i64 0, .slice none 0 0]) (t := 24) ?hr ?_; (case hd => rfl); (case hg => rfl); (case hr => first | (go_simp; done) | (go_simp; rfl)); intro gb473 hg w121 hbox hb; have BK473 := Aside0.mk (hbox); have GW473 := Aside0.mk (gW hg : w.heap.size ≤ gb473); have GE473 := Aside0.mk (gW hg : w.heap.size ≤ gb473); have NB471_473 := Aside0.mk (nL hg BK471 : gb471 ≠ gb473); have NB473_471 := Aside0.mk (nG hg BK471 : gb473 ≠ gb471); have NB472_473 := Aside0.mk (nL hg BK472 : gb472 ≠ gb473); have NB473_472 := Aside0.mk (nG hg BK472 : gb473 ≠ gb472); replace BK471 := Aside0.mk (kB BK471 hb); replace BK472 := Aside0.mk (kB BK472 hb); replace HB := Aside0.mk (below_step pB hb); clear hb hbox hg) | ((with_reducible refine gate_dst (N := 7) rfl ?_); refine box_event ?hg (N := 7) ?hd (cs := #[.int .i64 0, .slice none 0 0]) (t := 24) ?hr ?_; (case hd => rfl); (case hg => rfl); (case hr => first | (go_simp; done) | (go_simp; rfl)); intro gb474 hg w122 hbox hb; have BK474 := Aside0.mk (hbox); have GW474 := Aside0.mk (gW hg : w.heap.size ≤ gb474); have GE474 := Aside0.mk (gW hg : w.heap.size ≤ gb474); have NB471_474 := Aside0.mk (nL hg BK471 : gb471 ≠ gb474); have NB474_471 := Aside0.mk (nG hg BK471 : gb474 ≠ gb471); have NB472_474 := Aside0.mk (nL hg BK472 : gb472 ≠ gb474); have NB474_472 := Aside0.mk (nG hg BK472 : gb474 ≠ gb472); have NB473_474 := Aside0.mk (nL hg BK473 : gb473 ≠ gb474); have NB474_473 := Aside0.mk (nG hg BK473 : gb474 ≠ gb473); replace BK471 := Aside0.mk (kB BK471 hb); replace BK472 := Aside0.mk (kB BK472 hb); replace BK473 := Aside0.mk (kB BK473 hb); replace HB := Aside0.mk (below_step pB hb); clear hb hbox hg; have hnb123 := NB471_472.out; have hnc123 := NB472_471.out; have hnb124 := NB471_473.out; have hnc124 := NB473_471.out; have hnb125 := NB471_474.out; have hnc125 := NB474_471.out; obtain ⟨hcz126_0, hcz126_1, hfz126_0, hfz126_1⟩ := bk2 BK471) | ((with_reducible refine gate_callee (f := 16) rfl ?_); refine goesL_ (some 15) rfl rfl Try.func16 (by kernel_rfl) rfl #[.agg #[.int .i64 a0_0, .slice A0_1 l0_1.length c0_1]] rfl mA ?_; (with_reducible refine (papermillref18_Check.calls k a0_0 _ _ l0_1 t475 _ ?side1 ?side2 A4.out).mono ?_); (case side1 => repeat (first | exact (Kd.C_below HR0_1.out HB.out) | (with_reducible refine Kd.C_alloc ?_ _) | (with_reducible refine Kd.C_drewN ?_ _) | (with_reducible refine Kd.C_drew ?_))); (case side2 => exact HC0_1.out); rintro e w127 ⟨rfl, hb⟩; refine ⟨_, rfl, ?_⟩; replace BK471 := Aside0.mk (kB BK471 hb); replace BK472 := Aside0.mk (kB BK472 hb); replace BK473 := Aside0.mk (kB BK473 hb); replace BK474 := Aside0.mk (kB BK474 hb); replace HB := Aside0.mk (below_step pB hb); (try clear hb); (try clear hb2); (try clear hk); (try clear hi); have hnb128 := NB472_473.out; have hnc128 := NB473_472.out; have hnb129 := NB472_474.out; have hnc129 := NB474_472.out; obtain ⟨hcz130_0, hcz130_1, hfz130_0, hfz130_1⟩ := bk2 BK472) | ((with_reducible refine gate_callee (f := 16) rfl ?_); refine goesL_ (some 22) rfl rfl Try.func16 (by kernel_rfl) rfl #[.agg #[.int .i64 a1_0, .slice A1_1 l1_1.length c1_1]] rfl mA ?_; (with_reducible refine (papermillref18_Check.calls k a1_0 _ _ l1_1 t476 _ ?side1 ?side2 A6.out).mono ?_); (case side1 => repeat (first | exact (Kd.C_below HR1_1.out HB.out) | (with_reducible refine Kd.C_alloc ?_ _) | (with_reducible refine Kd.C_drewN ?_ _) | (with_reducible refine Kd.C_drew ?_))); (case side2 => exact HC1_1.out); rintro e w131 ⟨rfl, hb⟩; refine ⟨_, rfl, ?_⟩; replace BK471 := Aside0.mk (kB BK471 hb); replace BK472 := Aside0.mk (kB BK472 hb); replace BK473 := Aside0.mk (kB BK473 hb); replace BK474 := Aside0.mk (kB BK474 hb); replace HB := Aside0.mk (below_step pB hb); (try clear hb); (try clear hb2); (try clear hk); (try clear hi); have hnb132 := NB473_474.out; have hnc132 := NB474_473.out; obtain ⟨hcz133_0, hcz133_1, hfz133_0, hfz133_1⟩ := bk2 BK473; obtain ⟨hcz134_0, hcz134_1, hfz134_0, hfz134_1⟩ := bk2 BK474))
   refine bodyPost_ret (results_list (rs := [.cell 6 24, .cell 7 24, .tmp 8]) rfl (by simp) (.cell gb473 24 #[.int .i64 0, .slice none 0 0] (0, 0) _ rfl (by (with_reducible repeat (first | refine blk_drewN ?_ _ | refine blk_drew ?_ | refine blk_alloc ?_ _)); refine blk_far ?_ NB473_474.out _; (with_reducible repeat (first | refine blk_drewN ?_ _ | refine blk_drew ?_ | refine blk_alloc ?_ _)); refine blk_far ?_ NB473_474.out _; (with_reducible repeat (first | refine blk_drewN ?_ _ | refine blk_drew ?_ | refine blk_alloc ?_ _)); refine blk_put (cs := #[.int .i64 0, .slice none 0 0]) ?_ 1 _ rfl; (with_reducible repeat (first | refine blk_drewN ?_ _ | refine blk_drew ?_ | refine blk_alloc ?_ _)); refine blk_put (cs := #[.int .i64 0, .slice none 0 0]) ?_ 0 _ rfl; (with_reducible repeat (first | refine blk_drewN ?_ _ | refine blk_drew ?_ | refine blk_alloc ?_ _)); exact BK473.out) Try.underlying24 rfl (by kernel_rfl) (.cell gb474 24 #[.int .i64 0, .slice none 0 0] (0, 0) _ rfl (by (with_reducible repeat (first | refine blk_drewN ?_ _ | refine blk_drew ?_ | refine blk_alloc ?_ _)); refine blk_put (cs := #[.int .i64 0, .slice none 0 0]) ?_ 1 _ rfl; (with_reducible repeat (first | refine blk_drewN ?_ _ | refine blk_drew ?_ | refine blk_alloc ?_ _)); refine blk_put (cs := #[.int .i64 0, .slice none 0 0]) ?_ 0 _ rfl; (with_reducible repeat (first | refine blk_drewN ?_ _ | refine blk_drew ?_ | refine blk_alloc ?_ _)); refine blk_far ?_ NB474_473.out _; (with_reducible repeat (first | refine blk_drewN ?_ _ | refine blk_drew ?_ | refine blk_alloc ?_ _)); refine blk_far ?_ NB474_473.out _; (with_reducible repeat (first | refine blk_drewN ?_ _ | refine blk_drew ?_ | refine blk_alloc ?_ _)); exact BK474.out) Try.underlying24 rfl (by kernel_rfl) (.tmp .nil)))) rfl ?_
   exact ⟨_, _, by first | rfl | (simp [errW_none, errW_some] <;> rfl) | (simp [*, errW_none, errW_some] <;> rfl), by first | exact Kd.R_nil _ _ _ _ _ | exact Kd.N_nil _ _ _ _ _ | exact Kd.V_nil _ _ _ _ _ | exact Kd.Q_nil _ _ _ _ _ | exact Kd.S_nil _ _ _ _ _, by first | exact Kd.R_nil _ _ _ _ _ | exact Kd.N_nil _ _ _ _ _ | exact Kd.V_nil _ _ _ _ _ | exact Kd.Q_nil _ _ _ _ _ | exact Kd.S_nil _ _ _ _ _, pB⟩
 ·rw [if_neg c5] at H
  have c5b0 : (t475 == 0) = false := beq_eq_false_iff_ne.mpr c5
  have c5b1 : (t475 != 0) = true := bne_iff_ne.mpr c5
  simp only [Option.some.injEq, Prod.mk.injEq] at H
  obtain ⟨rfl, rfl, rfl, rfl, rfl⟩ := H
  go_enter Try.func26, Try.ntmps26
  go_wp2_with (first | ((with_reducible refine gate_dst (N := 3) rfl ?_); refine box_event ?hg (N := 3) ?hd (cs := #[.int .i64 a0_0, .slice A0_1 l0_1.length c0_1]) (t := 24) ?hr ?_; (case hd => rfl); (case hg => rfl); (case hr => first | (go_simp; done) | (go_simp; rfl)); intro gb471 hg w135 hbox hb; have BK471 := Aside0.mk (hbox); have GW471 := Aside0.mk (gW hg : w.heap.size ≤ gb471); have GE471 := Aside0.mk (gW hg : w.heap.size ≤ gb471); replace HB := Aside0.mk (below_step pB hb); clear hb hbox hg) | ((with_reducible refine gate_dst (N := 4) rfl ?_); refine box_event ?hg (N := 4) ?hd (cs := #[.int .i64 a1_0, .slice A1_1 l1_1.length c1_1]) (t := 24) ?hr ?_; (case hd => rfl); (case hg => rfl); (case hr => first | (go_simp; done) | (go_simp; rfl)); intro gb472 hg w136 hbox hb; have BK472 := Aside0.mk (hbox); have GW472 := Aside0.mk (gW hg : w.heap.size ≤ gb472); have GE472 := Aside0.mk (gW hg : w.heap.size ≤ gb472); have NB471_472 := Aside0.mk (nL hg BK471 : gb471 ≠ gb472); have NB472_471 := Aside0.mk (nG hg BK471 : gb472 ≠ gb471); replace BK471 := Aside0.mk (kB BK471 hb); replace HB := Aside0.mk (below_step pB hb); clear hb hbox hg) | ((with_reducible refine gate_dst (N := 6) rfl ?_); refine box_event ?hg (N := 6) ?hd (cs := #[.int .i64 0, .slice none 0 0]) (t := 24) ?hr ?_; (case hd => rfl); (case hg => rfl); (case hr => first | (go_simp; done) | (go_simp; rfl)); intro gb473 hg w137 hbox hb; have BK473 := Aside0.mk (hbox); have GW473 := Aside0.mk (gW hg : w.heap.size ≤ gb473); have GE473 := Aside0.mk (gW hg : w.heap.size ≤ gb473); have NB471_473 := Aside0.mk (nL hg BK471 : gb471 ≠ gb473); have NB473_471 := Aside0.mk (nG hg BK471 : gb473 ≠ gb471); have NB472_473 := Aside0.mk (nL hg BK472 : gb472 ≠ gb473); have NB473_472 := Aside0.mk (nG hg BK472 : gb473 ≠ gb472); replace BK471 := Aside0.mk (kB BK471 hb); replace BK472 := Aside0.mk (kB BK472 hb); replace HB := Aside0.mk (below_step pB hb); clear hb hbox hg) | ((with_reducible refine gate_dst (N := 7) rfl ?_); refine box_event ?hg (N := 7) ?hd (cs := #[.int .i64 0, .slice none 0 0]) (t := 24) ?hr ?_; (case hd => rfl); (case hg => rfl); (case hr => first | (go_simp; done) | (go_simp; rfl)); intro gb474 hg w138 hbox hb; have BK474 := Aside0.mk (hbox); have GW474 := Aside0.mk (gW hg : w.heap.size ≤ gb474); have GE474 := Aside0.mk (gW hg : w.heap.size ≤ gb474); have NB471_474 := Aside0.mk (nL hg BK471 : gb471 ≠ gb474); have NB474_471 := Aside0.mk (nG hg BK471 : gb474 ≠ gb471); have NB472_474 := Aside0.mk (nL hg BK472 : gb472 ≠ gb474); have NB474_472 := Aside0.mk (nG hg BK472 : gb474 ≠ gb472); have NB473_474 := Aside0.mk (nL hg BK473 : gb473 ≠ gb474); have NB474_473 := Aside0.mk (nG hg BK473 : gb474 ≠ gb473); replace BK471 := Aside0.mk (kB BK471 hb); replace BK472 := Aside0.mk (kB BK472 hb); replace BK473 := Aside0.mk (kB BK473 hb); replace HB := Aside0.mk (below_step pB hb); clear hb hbox hg; have hnb139 := NB471_472.out; have hnc139 := NB472_471.out; have hnb140 := NB471_473.out; have hnc140 := NB473_471.out; have hnb141 := NB471_474.out; have hnc141 := NB474_471.out; obtain ⟨hcz142_0, hcz142_1, hfz142_0, hfz142_1⟩ := bk2 BK471) | ((with_reducible refine gate_callee (f := 16) rfl ?_); refine goesL_ (some 15) rfl rfl Try.func16 (by kernel_rfl) rfl #[.agg #[.int .i64 a0_0, .slice A0_1 l0_1.length c0_1]] rfl mA ?_; (with_reducible refine (papermillref18_Check.calls k a0_0 _ _ l0_1 t475 _ ?side1 ?side2 A4.out).mono ?_); (case side1 => repeat (first | exact (Kd.C_below HR0_1.out HB.out) | (with_reducible refine Kd.C_alloc ?_ _) | (with_reducible refine Kd.C_drewN ?_ _) | (with_reducible refine Kd.C_drew ?_))); (case side2 => exact HC0_1.out); rintro e w143 ⟨rfl, hb⟩; refine ⟨_, rfl, ?_⟩; replace BK471 := Aside0.mk (kB BK471 hb); replace BK472 := Aside0.mk (kB BK472 hb); replace BK473 := Aside0.mk (kB BK473 hb); replace BK474 := Aside0.mk (kB BK474 hb); replace HB := Aside0.mk (below_step pB hb); (try clear hb); (try clear hb2); (try clear hk); (try clear hi); have hnb144 := NB473_472.out; have hnc144 := NB472_473.out; have hnb145 := NB473_474.out; have hnc145 := NB474_473.out; obtain ⟨hcz146_0, hcz146_1, hfz146_0, hfz146_1⟩ := bk2 BK473; have hnb147 := NB474_472.out; have hnc147 := NB472_474.out; obtain ⟨hcz148_0, hcz148_1, hfz148_0, hfz148_1⟩ := bk2 BK474))
  refine bodyPost_ret (results_list (rs := [.cell 6 24, .cell 7 24, .tmp 8]) rfl (by simp) (.cell gb473 24 #[.int .i64 0, .slice none 0 0] (0, 0) _ rfl (by (with_reducible repeat (first | refine blk_drewN ?_ _ | refine blk_drew ?_ | refine blk_alloc ?_ _)); refine blk_far ?_ NB473_474.out _; (with_reducible repeat (first | refine blk_drewN ?_ _ | refine blk_drew ?_ | refine blk_alloc ?_ _)); refine blk_far ?_ NB473_474.out _; (with_reducible repeat (first | refine blk_drewN ?_ _ | refine blk_drew ?_ | refine blk_alloc ?_ _)); refine blk_put (cs := #[.int .i64 0, .slice none 0 0]) ?_ 1 _ rfl; (with_reducible repeat (first | refine blk_drewN ?_ _ | refine blk_drew ?_ | refine blk_alloc ?_ _)); refine blk_put (cs := #[.int .i64 0, .slice none 0 0]) ?_ 0 _ rfl; (with_reducible repeat (first | refine blk_drewN ?_ _ | refine blk_drew ?_ | refine blk_alloc ?_ _)); exact BK473.out) Try.underlying24 rfl (by kernel_rfl) (.cell gb474 24 #[.int .i64 0, .slice none 0 0] (0, 0) _ rfl (by (with_reducible repeat (first | refine blk_drewN ?_ _ | refine blk_drew ?_ | refine blk_alloc ?_ _)); refine blk_put (cs := #[.int .i64 0, .slice none 0 0]) ?_ 1 _ rfl; (with_reducible repeat (first | refine blk_drewN ?_ _ | refine blk_drew ?_ | refine blk_alloc ?_ _)); refine blk_put (cs := #[.int .i64 0, .slice none 0 0]) ?_ 0 _ rfl; (with_reducible repeat (first | refine blk_drewN ?_ _ | refine blk_drew ?_ | refine blk_alloc ?_ _)); refine blk_far ?_ NB474_473.out _; (with_reducible repeat (first | refine blk_drewN ?_ _ | refine blk_drew ?_ | refine blk_alloc ?_ _)); refine blk_far ?_ NB474_473.out _; (with_reducible repeat (first | refine blk_drewN ?_ _ | refine blk_drew ?_ | refine blk_alloc ?_ _)); exact BK474.out) Try.underlying24 rfl (by kernel_rfl) (.tmp .nil)))) rfl ?_
  exact ⟨_, _, by first | rfl | (simp [errW_none, errW_some] <;> rfl) | (simp [*, errW_none, errW_some] <;> rfl), by first | exact Kd.R_nil _ _ _ _ _ | exact Kd.N_nil _ _ _ _ _ | exact Kd.V_nil _ _ _ _ _ | exact Kd.Q_nil _ _ _ _ _ | exact Kd.S_nil _ _ _ _ _, by first | exact Kd.R_nil _ _ _ _ _ | exact Kd.N_nil _ _ _ _ _ | exact Kd.V_nil _ _ _ _ _ | exact Kd.Q_nil _ _ _ _ _ | exact Kd.S_nil _ _ _ _ _, pB⟩

end Go.Proofs.Ytpjcpgobdiahpaa.Print
