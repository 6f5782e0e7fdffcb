-- Written by wip/tools/myprint.py out of the translation. Not trusted: Lean checks it.
import Derived.Test.YtpjcpgobdiahpaaPrint0
import Derived.Test.YtpjcpgobdiahpaaPrint15
import Derived.Test.YtpjcpgobdiahpaaPrint16
import Derived.Test.YtpjcpgobdiahpaaPrint29
import Derived.Test.YtpjcpgobdiahpaaPrint30
namespace Go.Proofs.Ytpjcpgobdiahpaa.Print
open Go.RowKit Go.Proofs.YtpjcpgobdiahpaaW.PrintWords Go.Proofs.YtpjcpgobdiahpaaW.PrintLast Go.Proofs.YtpjcpgobdiahpaaW.PrintMore
attribute [local go_sem] max2_int min2_int max_two min_two max_three min_three max_four min_four   -- for this text's walks alone
set_option linter.unusedVariables false
set_option linter.unusedSimpArgs false

/-! ### papermilllaw18_ChestPours: function 6 -/
def papermilllaw18_ChestPours.j0 : Nat → Int → Bool → Int → List Int → Int → List Int → Option (Bool)
 | 0, _, _, _, _, _, _ => none
 | k + 1, x2, x22, x492000, x492001, x493000, x493001 => if x22 = true then ((papermilllaw18_awake.f k).bind fun t493 => (some t493)) else ((chest_Pour.f k x492000 x492001 x493000 x493001 x2).bind fun bt494 => ((papermillref18_Pour.f k x492000 x492001 x493000 x493001 x2).bind fun bt505 => ((papermillref18_Same.f k bt494.1 bt494.2.1 bt505.1 bt505.2.1).bind fun t516 => (if t516 = true then ((papermillref18_Same.f k bt494.2.2.1 bt494.2.2.2.1 bt505.2.2.1 bt505.2.2.2.1).bind fun t517 => (if t517 = true then (if bt494.2.2.2.2 = bt505.2.2.2.2 then ((papermilllaw18_awake.f k).bind fun t518 => (some t518)) else (none)) else (none))) else (none)))))
def papermilllaw18_ChestPours.f (k : Nat) (a0_0 : Int) (l0_1 : List Int) (a1_0 : Int) (l1_1 : List Int) (a2 : Int) : Option (Bool) := if (l0_1.length : Int) > 20 then (papermilllaw18_ChestPours.j0 k a2 true a0_0 l0_1 a1_0 l1_1) else (papermilllaw18_ChestPours.j0 k a2 (decide ((l1_1.length : Int) > 20)) a0_0 l0_1 a1_0 l1_1)
theorem papermilllaw18_ChestPours.mono_l : ∀ k, (∀ y0 y1 y2 y3 y4 y5, LeO (papermilllaw18_ChestPours.j0 k y0 y1 y2 y3 y4 y5) (papermilllaw18_ChestPours.j0 (k + 1) y0 y1 y2 y3 y4 y5))
 | 0 => fun _ _ _ _ _ _ r h => by simp [papermilllaw18_ChestPours.j0] at h
 | k + 1 => by
  have ih0 := papermilllaw18_ChestPours.mono_l k
  ·intro y0 y1 y2 y3 y4 y5
   unfold papermilllaw18_ChestPours.j0
   repeat' first
   | (with_reducible exact ih0 _ _ _ _ _ _)
   | (with_reducible exact chest_Pour.mono _ _ _ _ _ _)
   | (with_reducible exact papermilllaw18_awake.mono _)
   | (with_reducible exact papermillref18_Pour.mono _ _ _ _ _ _)
   | (with_reducible exact papermillref18_Same.mono _ _ _ _ _)
   | (with_reducible exact LeO.refl _)
   | (with_reducible exact LeO.none _)
   | (with_reducible refine LeO.ite ?_ ?_)
   | (with_reducible refine LeO.bind ?_ (fun _ => ?_))
   | exact ih0 _ _ _ _ _ _
   | exact chest_Pour.mono _ _ _ _ _ _
   | exact papermilllaw18_awake.mono _
   | exact papermillref18_Pour.mono _ _ _ _ _ _
   | exact papermillref18_Same.mono _ _ _ _ _
   | exact LeO.none _
   | refine LeO.ite ?_ ?_
   | refine LeO.bind ?_ (fun _ => ?_)
theorem papermilllaw18_ChestPours.mono : ∀ a0 a1 a2 a3 a4 k, LeO (papermilllaw18_ChestPours.f k a0 a1 a2 a3 a4) (papermilllaw18_ChestPours.f (k + 1) a0 a1 a2 a3 a4) := by
 intro a0 a1 a2 a3 a4 k
 have ih0 := papermilllaw18_ChestPours.mono_l k
 unfold papermilllaw18_ChestPours.f
 repeat' first
   | (with_reducible exact ih0 _ _ _ _ _ _)
   | (with_reducible exact chest_Pour.mono _ _ _ _ _ _)
   | (with_reducible exact papermilllaw18_awake.mono _)
   | (with_reducible exact papermillref18_Pour.mono _ _ _ _ _ _)
   | (with_reducible exact papermillref18_Same.mono _ _ _ _ _)
   | (with_reducible exact LeO.refl _)
   | (with_reducible exact LeO.none _)
   | (with_reducible refine LeO.ite ?_ ?_)
   | (with_reducible refine LeO.bind ?_ (fun _ => ?_))
   | exact ih0 _ _ _ _ _ _
   | exact chest_Pour.mono _ _ _ _ _ _
   | exact papermilllaw18_awake.mono _
   | exact papermillref18_Pour.mono _ _ _ _ _ _
   | exact papermillref18_Same.mono _ _ _ _ _
   | exact LeO.none _
   | refine LeO.ite ?_ ?_
   | refine LeO.bind ?_ (fun _ => ?_)
set_option maxHeartbeats 8000000 in
set_option maxRecDepth 100000 in
theorem papermilllaw18_ChestPours.calls (k : Nat) (a0_0 : Int) (A0_1 : Option Addr) (c0_1 : Nat) (l0_1 : List Int) (a1_0 : Int) (A1_1 : Option Addr) (c1_1 : Nat) (l1_1 : List Int) (a2 : Int) (r : Bool) (w : World) (hr0_1 : Kd.C (Kd.int .i64) w A0_1 l0_1.length l0_1) (hc0_1 : l0_1.length ≤ c0_1) (hr1_1 : Kd.C (Kd.int .i64) w A1_1 l1_1.length l1_1) (hc1_1 : l1_1.length ≤ c1_1) (h : papermilllaw18_ChestPours.f k a0_0 l0_1 a1_0 l1_1 a2 = some r) :
  Calls Try.prog 6 #[.agg #[.int .i64 a0_0, .slice A0_1 l0_1.length c0_1], .agg #[.int .i64 a1_0, .slice A1_1 l1_1.length c1_1], .int .i64 a2] w fun e w' => e = .returned (.bool r) ∧ Below w.heap.size w w' := by
 have hu24 := Try.underlying24
 have HR0_1 := Aside0.mk hr0_1
 have HC0_1 := Aside0.mk hc0_1
 clear hr0_1 hc0_1
 have HR1_1 := Aside0.mk hr1_1
 have HC1_1 := Aside0.mk hc1_1
 clear hr1_1 hc1_1
 have HB := Aside0.mk (Below.refl w.heap.size w)
 have H : (if (l0_1.length : Int) > 20 then (papermilllaw18_ChestPours.j0 k a2 true a0_0 l0_1 a1_0 l1_1) else (papermilllaw18_ChestPours.j0 k a2 (decide ((l1_1.length : Int) > 20)) a0_0 l0_1 a1_0 l1_1)) = some r := h
 clear h
 have HC4 := Aside0.mk H
 clear H
 go_enter Try.func6, Try.ntmps6
 go_upto_region 1 with (first | ((with_reducible refine gate_dst (N := 3) rfl ?_); (try (refine gate_guard (by rfl) ?_; dsimp only)); refine box_event ?hg (N := 3) ?hd (cs := #[.int .i64 a0_0, .slice A0_1 l0_1.length c0_1]) (t := 24) ?hr ?_; (case hd => rfl); (case hg => rfl); (case hr => first | (go_simp; done) | (go_simp; rfl)); intro gb491 hg w5 hbox hb; have BK491 := Aside0.mk (hbox); have GW491 := Aside0.mk (gW hg : w.heap.size ≤ gb491); have GE491 := Aside0.mk (gW hg : w.heap.size ≤ gb491); replace HB := Aside0.mk (below_step pB hb); clear hb hbox hg) | ((with_reducible refine gate_dst (N := 4) rfl ?_); (try (refine gate_guard (by rfl) ?_; dsimp only)); refine box_event ?hg (N := 4) ?hd (cs := #[.int .i64 a1_0, .slice A1_1 l1_1.length c1_1]) (t := 24) ?hr ?_; (case hd => rfl); (case hg => rfl); (case hr => first | (go_simp; done) | (go_simp; rfl)); intro gb492 hg w6 hbox hb; have BK492 := Aside0.mk (hbox); have GW492 := Aside0.mk (gW hg : w.heap.size ≤ gb492); have GE492 := Aside0.mk (gW hg : w.heap.size ≤ gb492); have NB491_492 := Aside0.mk (nL hg BK491 : gb491 ≠ gb492); have NB492_491 := Aside0.mk (nG hg BK491 : gb492 ≠ gb491); replace BK491 := Aside0.mk (kB BK491 hb); replace HB := Aside0.mk (below_step pB hb); clear hb hbox hg))
 (try simp only [Act.put, List.setIfInBounds_toArray, List.set_cons_zero, List.set_cons_succ])
 go_cut [22] (fun v22 wc => ∃ (kq : Nat) (x22_3 : Bool), v22 = .bool x22_3 ∧ Aside0 (papermilllaw18_ChestPours.j0 kq a2 x22_3 a0_0 l0_1 a1_0 l1_1 = some r) ∧ Aside0 (kq ≤ k) ∧ Aside0 (wc.heap[gb491]? = some (.cells #[.int .i64 a0_0, (.slice A0_1 l0_1.length c0_1)] 24 (0, 0))) ∧ Aside0 (wc.heap[gb492]? = some (.cells #[.int .i64 a1_0, (.slice A1_1 l1_1.length c1_1)] 24 (0, 0))) ∧ Aside0 (Below w.heap.size w wc))
 case first =>
  have H := HC4.out
  clear HC4
  by_cases c7 : (l0_1.length : Int) > 20
  ·rw [if_pos c7] at H
   have c7b0 : decide (20 < (l0_1.length : Int)) = true := decide_eq_true c7
   have c7b1 : decide (20 < l0_1.length) = true := decide_eq_true (by omega)
   clear c7
   (first | rw [c7b0] | (simp only [i64_w, i32_w]; rw [c7b0]) | skip)
   have H' := Aside0.mk H
   clear H
   have hnb8 := NB491_492.out
   have hnc8 := NB492_491.out
   obtain ⟨hcz9_0, hcz9_1, hfz9_0, hfz9_1⟩ := bk2 BK491
   go_wp2
   go_meet
   case rel => exact ⟨_, (true), (by first | rfl | (simp; done) | (simp [*]; done)), H', ⟨by first | omega | exact Nat.le_refl _⟩, ⟨by (with_reducible repeat (first | refine blk_drewN ?_ _ | refine blk_drew ?_ | refine blk_alloc ?_ _)); exact BK491.out⟩, ⟨by (with_reducible repeat (first | refine blk_drewN ?_ _ | refine blk_drew ?_ | refine blk_alloc ?_ _)); exact BK492.out⟩, ⟨pB⟩⟩
  ·rw [if_neg c7] at H
   have c7b0 : decide (20 < (l0_1.length : Int)) = false := decide_eq_false c7
   have c7b1 : decide (20 < l0_1.length) = false := decide_eq_false (by omega)
   clear c7
   (first | rw [c7b0] | (simp only [i64_w, i32_w]; rw [c7b0]) | skip)
   have H' := Aside0.mk H
   clear H
   have hnb10 := NB491_492.out
   have hnc10 := NB492_491.out
   obtain ⟨hcz11_0, hcz11_1, hfz11_0, hfz11_1⟩ := bk2 BK491
   obtain ⟨hcz12_0, hcz12_1, hfz12_0, hfz12_1⟩ := bk2 BK492
   go_wp2
   go_meet
   case rel => exact ⟨_, (decide ((l1_1.length : Int) > 20)), (by first | rfl | (simp; done) | (simp [*]; done)), H', ⟨by first | omega | exact Nat.le_refl _⟩, ⟨by (with_reducible repeat (first | refine blk_drewN ?_ _ | refine blk_drew ?_ | refine blk_alloc ?_ _)); exact BK491.out⟩, ⟨by (with_reducible repeat (first | refine blk_drewN ?_ _ | refine blk_drew ?_ | refine blk_alloc ?_ _)); exact BK492.out⟩, ⟨pB⟩⟩
 case rest =>
  clear HC4
  try clear c1
  try clear p2
  try clear c6
  try clear c7
  try clear c7b0
  try clear c7b1
  try clear c8
  try clear c10
  try clear hcz11_0
  try clear hcz11_1
  try clear hcz12_0
  try clear hcz12_1
  try clear hcz9_0
  try clear hcz9_1
  try clear hfz11_0
  try clear hfz11_1
  try clear hfz12_0
  try clear hfz12_1
  try clear hfz9_0
  try clear hfz9_1
  obtain ⟨kq, x22_3, rfl, HA, HJ3, BK491, BK492, HB⟩ := hcut
  cases kq with
  | zero => exact absurd HA.out (by simp [papermilllaw18_ChestPours.j0])
  | succ kj3 =>
   have H := HA.out
   clear HA
   simp only [papermilllaw18_ChestPours.j0] at H
   by_cases c13 : x22_3 = true
   ·subst c13
    have H1 : ((papermilllaw18_awake.f kj3).bind fun t493 => (some t493)) = some r := by rw [if_pos rfl] at H; exact H
    clear H
    have H := H1
    clear H1
    replace H := Option.bind_eq_some_iff.mp H
    obtain ⟨t493, A140, H⟩ := H
    replace H : (some t493) = some r := H
    have A14 := Aside0.mk A140
    clear A140
    obtain rfl := Option.some.inj H
    go_wp2_with (first | ((with_reducible refine gate_callee (f := 10) rfl ?_); refine goesL_ (some 23) rfl rfl Try.func10 (by kernel_rfl) rfl #[] rfl mA ?_; (with_reducible refine (papermilllaw18_awake.calls kj3  t493 _ A14.out).mono ?_); rintro e w15 ⟨rfl, hb⟩; refine ⟨_, rfl, ?_⟩; replace BK491 := Aside0.mk (kB BK491 hb); replace BK492 := Aside0.mk (kB BK492 hb); replace HB := Aside0.mk (below_step pB hb); (try clear hb); (try clear hb2); (try clear hk); (try clear hi)))
    go_ret
    exact ⟨by first | rfl | (simp [errW_none, errW_some] <;> rfl) | (simp [*, errW_none, errW_some] <;> rfl), pB⟩
   ·replace c13 := Bool.eq_false_iff.mpr c13
    subst c13
    have H1 : ((chest_Pour.f kj3 a0_0 l0_1 a1_0 l1_1 a2).bind fun bt494 => ((papermillref18_Pour.f kj3 a0_0 l0_1 a1_0 l1_1 a2).bind fun bt505 => ((papermillref18_Same.f kj3 bt494.1 bt494.2.1 bt505.1 bt505.2.1).bind fun t516 => (if t516 = true then ((papermillref18_Same.f kj3 bt494.2.2.1 bt494.2.2.2.1 bt505.2.2.1 bt505.2.2.2.1).bind fun t517 => (if t517 = true then (if bt494.2.2.2.2 = bt505.2.2.2.2 then ((papermilllaw18_awake.f kj3).bind fun t518 => (some t518)) else (none)) else (none))) else (none))))) = some r := by rw [if_neg (show ¬ (false = true) by decide)] at H; exact H
    clear H
    have H := H1
    clear H1
    replace H := Option.bind_eq_some_iff.mp H
    obtain ⟨⟨t494, t495, t498, t499, t502⟩, A160, H⟩ := H
    replace H : ((papermillref18_Pour.f kj3 a0_0 l0_1 a1_0 l1_1 a2).bind fun bt505 => ((papermillref18_Same.f kj3 t494 t495 bt505.1 bt505.2.1).bind fun t516 => (if t516 = true then ((papermillref18_Same.f kj3 t498 t499 bt505.2.2.1 bt505.2.2.2.1).bind fun t517 => (if t517 = true then (if t502 = bt505.2.2.2.2 then ((papermilllaw18_awake.f kj3).bind fun t518 => (some t518)) else (none)) else (none))) else (none)))) = some r := H
    have A16 := Aside0.mk A160
    clear A160
    replace H := Option.bind_eq_some_iff.mp H
    obtain ⟨⟨t505, t506, t509, t510, t513⟩, A170, H⟩ := H
    replace H : ((papermillref18_Same.f kj3 t494 t495 t505 t506).bind fun t516 => (if t516 = true then ((papermillref18_Same.f kj3 t498 t499 t509 t510).bind fun t517 => (if t517 = true then (if t502 = t513 then ((papermilllaw18_awake.f kj3).bind fun t518 => (some t518)) else (none)) else (none))) else (none))) = some r := H
    have A17 := Aside0.mk A170
    clear A170
    replace H := Option.bind_eq_some_iff.mp H
    obtain ⟨t516, A180, H⟩ := H
    replace H : (if t516 = true then ((papermillref18_Same.f kj3 t498 t499 t509 t510).bind fun t517 => (if t517 = true then (if t502 = t513 then ((papermilllaw18_awake.f kj3).bind fun t518 => (some t518)) else (none)) else (none))) else (none)) = some r := H
    have A18 := Aside0.mk A180
    clear A180
    by_cases c19 : t516 = true
    ·subst c19
     have H1 : ((papermillref18_Same.f kj3 t498 t499 t509 t510).bind fun t517 => (if t517 = true then (if t502 = t513 then ((papermilllaw18_awake.f kj3).bind fun t518 => (some t518)) else (none)) else (none))) = some r := by rw [if_pos rfl] at H; exact H
     clear H
     have H := H1
     clear H1
     replace H := Option.bind_eq_some_iff.mp H
     obtain ⟨t517, A200, H⟩ := H
     replace H : (if t517 = true then (if t502 = t513 then ((papermilllaw18_awake.f kj3).bind fun t518 => (some t518)) else (none)) else (none)) = some r := H
     have A20 := Aside0.mk A200
     clear A200
     by_cases c21 : t517 = true
     ·subst c21
      have H1 : (if t502 = t513 then ((papermilllaw18_awake.f kj3).bind fun t518 => (some t518)) else (none)) = some r := by rw [if_pos rfl] at H; exact H
      clear H
      have H := H1
      clear H1
      by_cases c22 : t502 = t513
      ·rw [if_pos c22] at H
       have c22b0 : (t502 == t513) = true := beq_iff_eq.mpr c22
       have c22b1 : (t502 != t513) = false := bne_eq_false_iff_eq.mpr c22
       clear c22
       replace H := Option.bind_eq_some_iff.mp H
       obtain ⟨t518, A230, H⟩ := H
       replace H : (some t518) = some r := H
       have A23 := Aside0.mk A230
       clear A230
       obtain rfl := Option.some.inj H
       have hnb24 := NB491_492.out
       have hnc24 := NB492_491.out
       obtain ⟨hcz25_0, hcz25_1, hfz25_0, hfz25_1⟩ := bk2 BK491
       obtain ⟨hcz26_0, hcz26_1, hfz26_0, hfz26_1⟩ := bk2 BK492
       go_wp2_with (first | ((with_reducible refine gate_callee (f := 25) rfl ?_); refine goesL_ (some 28) rfl rfl Try.func25 (by kernel_rfl) rfl #[.agg #[.int .i64 a0_0, .slice A0_1 l0_1.length c0_1], .agg #[.int .i64 a1_0, .slice A1_1 l1_1.length c1_1], .int .i64 a2] rfl mA ?_; (with_reducible refine (chest_Pour.calls kj3 a0_0 (fun k_ => k_ < w.heap.size) _ _ l0_1 a1_0 (fun k_ => k_ < w.heap.size) _ _ l1_1 a2 t494 t495 t498 t499 t502 _ ?side1 ?side2 A16.out).mono ?_); (case side1 => exact Kd.V_mk HC0_1.out (Kd.F_below (Kd.C_F (Kd.heap_int .i64) HR0_1.out) pB)); (case side2 => exact Kd.V_mk HC1_1.out (Kd.F_below (Kd.C_F (Kd.heap_int .i64) HR1_1.out) pB)); rintro e w27 ⟨v496, v500, rfl, ho0, ho1, hb⟩; refine ⟨_, rfl, ?_⟩; have HO497 := Aside0.mk (Kd.R_lower (Kd.R_mono (ok' := fun k_ => some k_ ≠ (v500 : Value).ownBlock) ho0 (fun _ hk_ => hk_.2)) (below_size pB)); have HO501 := Aside0.mk (Kd.R_lower (Kd.R_mono (ok' := fun k_ => some k_ ≠ (v496 : Value).ownBlock) ho1 (fun _ hk_ => hk_.2)) (below_size pB)); replace BK491 := Aside0.mk (kB BK491 hb); replace BK492 := Aside0.mk (kB BK492 hb); replace HB := Aside0.mk (below_step pB hb); (try clear hb); (try clear hb2); (try clear hk); (try clear hi); (try clear ho0); (try clear ho1)) | ((with_reducible refine gate_dst (N := 7) rfl ?_); (try (refine gate_guard (by rfl) ?_; dsimp only)); refine box_event ?hg (N := 7) ?hd (cs := #[.int .i64 0, .slice none 0 0]) (t := 24) ?hr ?_; (case hd => rfl); (case hg => rfl); (case hr => first | (go_simp; done) | (go_simp; rfl)); intro gb503 hg w28 hbox hb; have BK503 := Aside0.mk (hbox); have GW503 := Aside0.mk (gW hg : w.heap.size ≤ gb503); have GE503 := Aside0.mk (gW hg : w.heap.size ≤ gb503); have NB491_503 := Aside0.mk (nL hg BK491 : gb491 ≠ gb503); have NB503_491 := Aside0.mk (nG hg BK491 : gb503 ≠ gb491); have NB492_503 := Aside0.mk (nL hg BK492 : gb492 ≠ gb503); have NB503_492 := Aside0.mk (nG hg BK492 : gb503 ≠ gb492); replace HO497 := Aside0.mk (Kd.R_below (rX HO497.out) hb); replace HO501 := Aside0.mk (Kd.R_below (rX HO501.out) hb); replace BK491 := Aside0.mk (kB BK491 hb); replace BK492 := Aside0.mk (kB BK492 hb); replace HB := Aside0.mk (below_step pB hb); clear hb hbox hg) | ((with_reducible refine gate_dst (N := 8) rfl ?_); (try (refine gate_guard (by rfl) ?_; dsimp only)); refine box_event ?hg (N := 8) ?hd (cs := #[.int .i64 0, .slice none 0 0]) (t := 24) ?hr ?_; (case hd => rfl); (case hg => rfl); (case hr => first | (go_simp; done) | (go_simp; rfl)); intro gb504 hg w29 hbox hb; have BK504 := Aside0.mk (hbox); have GW504 := Aside0.mk (gW hg : w.heap.size ≤ gb504); have GE504 := Aside0.mk (gW hg : w.heap.size ≤ gb504); have NB491_504 := Aside0.mk (nL hg BK491 : gb491 ≠ gb504); have NB504_491 := Aside0.mk (nG hg BK491 : gb504 ≠ gb491); have NB492_504 := Aside0.mk (nL hg BK492 : gb492 ≠ gb504); have NB504_492 := Aside0.mk (nG hg BK492 : gb504 ≠ gb492); have NB503_504 := Aside0.mk (nL hg BK503 : gb503 ≠ gb504); have NB504_503 := Aside0.mk (nG hg BK503 : gb504 ≠ gb503); replace HO497 := Aside0.mk (Kd.R_below (rX HO497.out) hb); replace HO501 := Aside0.mk (Kd.R_below (rX HO501.out) hb); replace BK491 := Aside0.mk (kB BK491 hb); replace BK492 := Aside0.mk (kB BK492 hb); replace BK503 := Aside0.mk (kB BK503 hb); replace HB := Aside0.mk (below_step pB hb); clear hb hbox hg; have hnb30 := NB503_491.out; have hnc30 := NB491_503.out; have hnb31 := NB503_492.out; have hnc31 := NB492_503.out; have hnb32 := NB503_504.out; have hnc32 := NB504_503.out; obtain ⟨hcz33_0, hcz33_1, hfz33_0, hfz33_1⟩ := bk2 BK503; obtain ⟨Ao34, co34, eo34⟩ := Kd.R_slice HO497.out; subst eo34; have hnb35 := NB504_491.out; have hnc35 := NB491_504.out; have hnb36 := NB504_492.out; have hnc36 := NB492_504.out; obtain ⟨hcz37_0, hcz37_1, hfz37_0, hfz37_1⟩ := bk2 BK504; obtain ⟨Ao38, co38, eo38⟩ := Kd.R_slice HO501.out; subst eo38; obtain ⟨hcz39_0, hcz39_1, hfz39_0, hfz39_1⟩ := bk2 BK491; obtain ⟨hcz40_0, hcz40_1, hfz40_0, hfz40_1⟩ := bk2 BK492) | ((with_reducible refine gate_callee (f := 26) rfl ?_); refine goesL_ (some 36) rfl rfl Try.func26 (by kernel_rfl) rfl #[.agg #[.int .i64 a0_0, .slice A0_1 l0_1.length c0_1], .agg #[.int .i64 a1_0, .slice A1_1 l1_1.length c1_1], .int .i64 a2] rfl mA ?_; (with_reducible refine (papermillref18_Pour.calls kj3 a0_0 _ _ l0_1 a1_0 _ _ l1_1 a2 t505 t506 t509 t510 t513 _ ?side1 ?side2 ?side3 ?side4 A17.out).mono ?_); (case side1 => exact Kd.C_below HR0_1.out pB); (case side2 => exact HC0_1.out); (case side3 => exact Kd.C_below HR1_1.out pB); (case side4 => exact HC1_1.out); rintro e w41 ⟨v507, v511, rfl, ho0, ho1, hb⟩; refine ⟨_, rfl, ?_⟩; have HO508 := Aside0.mk (Kd.R_lower (Kd.R_new' (Kd.R_new' ho0 (Kd.R_lt (rX (Kd.R_mono (Kd.R_mono (Kd.R_far (p := ⟨gb504, 1, none⟩) (Kd.R_far (p := ⟨gb504, 0, none⟩) (Kd.R_far (p := ⟨gb503, 1, none⟩) (Kd.R_far (p := ⟨gb503, 0, none⟩) (Kd.R_types (Kd.R_types HO497.out BK503.out (by decide)) BK504.out (by decide)) (fun _ hk => hk.1.2) (.int .i64 t494)) (fun _ hk => hk.1.2) (.slice Ao34 t495.length co34)) (fun _ hk => hk.2) (.int .i64 t498)) (fun _ hk => hk.2) (.slice Ao38 t499.length co38)) (fun _ h_ => h_.1)) (fun _ h_ => h_.1))))) (Kd.R_lt (rX (Kd.R_mono (Kd.R_mono (Kd.R_far (p := ⟨gb504, 1, none⟩) (Kd.R_far (p := ⟨gb504, 0, none⟩) (Kd.R_far (p := ⟨gb503, 1, none⟩) (Kd.R_far (p := ⟨gb503, 0, none⟩) (Kd.R_types (Kd.R_types HO501.out BK503.out (by decide)) BK504.out (by decide)) (fun _ hk => hk.1.2) (.int .i64 t494)) (fun _ hk => hk.1.2) (.slice Ao34 t495.length co34)) (fun _ hk => hk.2) (.int .i64 t498)) (fun _ hk => hk.2) (.slice Ao38 t499.length co38)) (fun _ h_ => h_.1)) (fun _ h_ => h_.1))))) (below_size pB)); have HO512 := Aside0.mk (Kd.R_lower (Kd.R_new' (Kd.R_new' ho1 (Kd.R_lt (rX (Kd.R_mono (Kd.R_mono (Kd.R_far (p := ⟨gb504, 1, none⟩) (Kd.R_far (p := ⟨gb504, 0, none⟩) (Kd.R_far (p := ⟨gb503, 1, none⟩) (Kd.R_far (p := ⟨gb503, 0, none⟩) (Kd.R_types (Kd.R_types HO497.out BK503.out (by decide)) BK504.out (by decide)) (fun _ hk => hk.1.2) (.int .i64 t494)) (fun _ hk => hk.1.2) (.slice Ao34 t495.length co34)) (fun _ hk => hk.2) (.int .i64 t498)) (fun _ hk => hk.2) (.slice Ao38 t499.length co38)) (fun _ h_ => h_.1)) (fun _ h_ => h_.1))))) (Kd.R_lt (rX (Kd.R_mono (Kd.R_mono (Kd.R_far (p := ⟨gb504, 1, none⟩) (Kd.R_far (p := ⟨gb504, 0, none⟩) (Kd.R_far (p := ⟨gb503, 1, none⟩) (Kd.R_far (p := ⟨gb503, 0, none⟩) (Kd.R_types (Kd.R_types HO501.out BK503.out (by decide)) BK504.out (by decide)) (fun _ hk => hk.1.2) (.int .i64 t494)) (fun _ hk => hk.1.2) (.slice Ao34 t495.length co34)) (fun _ hk => hk.2) (.int .i64 t498)) (fun _ hk => hk.2) (.slice Ao38 t499.length co38)) (fun _ h_ => h_.1)) (fun _ h_ => h_.1))))) (below_size pB)); replace HO497 := Aside0.mk (Kd.R_mono (Kd.R_told (Kd.R_told (Kd.R_old (rX (Kd.R_mono (Kd.R_mono (Kd.R_far (p := ⟨gb504, 1, none⟩) (Kd.R_far (p := ⟨gb504, 0, none⟩) (Kd.R_far (p := ⟨gb503, 1, none⟩) (Kd.R_far (p := ⟨gb503, 0, none⟩) (Kd.R_types (Kd.R_types HO497.out BK503.out (by decide)) BK504.out (by decide)) (fun _ hk => hk.1.2) (.int .i64 t494)) (fun _ hk => hk.1.2) (.slice Ao34 t495.length co34)) (fun _ hk => hk.2) (.int .i64 t498)) (fun _ hk => hk.2) (.slice Ao38 t499.length co38)) (fun _ h_ => h_.1)) (fun _ h_ => h_.1))) hb) (Kd.R_base ho0)) (Kd.R_base ho1)) (fun _ h_ => h_.1)); replace HO501 := Aside0.mk (Kd.R_mono (Kd.R_told (Kd.R_told (Kd.R_old (rX (Kd.R_mono (Kd.R_mono (Kd.R_far (p := ⟨gb504, 1, none⟩) (Kd.R_far (p := ⟨gb504, 0, none⟩) (Kd.R_far (p := ⟨gb503, 1, none⟩) (Kd.R_far (p := ⟨gb503, 0, none⟩) (Kd.R_types (Kd.R_types HO501.out BK503.out (by decide)) BK504.out (by decide)) (fun _ hk => hk.1.2) (.int .i64 t494)) (fun _ hk => hk.1.2) (.slice Ao34 t495.length co34)) (fun _ hk => hk.2) (.int .i64 t498)) (fun _ hk => hk.2) (.slice Ao38 t499.length co38)) (fun _ h_ => h_.1)) (fun _ h_ => h_.1))) hb) (Kd.R_base ho0)) (Kd.R_base ho1)) (fun _ h_ => h_.1)); replace BK491 := Aside0.mk (blk_below (g := gb491) (o := .cells #[.int .i64 a0_0, .slice A0_1 l0_1.length c0_1] 24 (0, 0)) (by (with_reducible repeat (first | refine blk_drewN ?_ _ | refine blk_drew ?_ | refine blk_alloc ?_ _)); refine blk_far ?_ NB491_504.out _; (with_reducible repeat (first | refine blk_drewN ?_ _ | refine blk_drew ?_ | refine blk_alloc ?_ _)); refine blk_far ?_ NB491_504.out _; (with_reducible repeat (first | refine blk_drewN ?_ _ | refine blk_drew ?_ | refine blk_alloc ?_ _)); refine blk_far ?_ NB491_503.out _; (with_reducible repeat (first | refine blk_drewN ?_ _ | refine blk_drew ?_ | refine blk_alloc ?_ _)); refine blk_far ?_ NB491_503.out _; (with_reducible repeat (first | refine blk_drewN ?_ _ | refine blk_drew ?_ | refine blk_alloc ?_ _)); exact BK491.out) hb); replace BK492 := Aside0.mk (blk_below (g := gb492) (o := .cells #[.int .i64 a1_0, .slice A1_1 l1_1.length c1_1] 24 (0, 0)) (by (with_reducible repeat (first | refine blk_drewN ?_ _ | refine blk_drew ?_ | refine blk_alloc ?_ _)); refine blk_far ?_ NB492_504.out _; (with_reducible repeat (first | refine blk_drewN ?_ _ | refine blk_drew ?_ | refine blk_alloc ?_ _)); refine blk_far ?_ NB492_504.out _; (with_reducible repeat (first | refine blk_drewN ?_ _ | refine blk_drew ?_ | refine blk_alloc ?_ _)); refine blk_far ?_ NB492_503.out _; (with_reducible repeat (first | refine blk_drewN ?_ _ | refine blk_drew ?_ | refine blk_alloc ?_ _)); refine blk_far ?_ NB492_503.out _; (with_reducible repeat (first | refine blk_drewN ?_ _ | refine blk_drew ?_ | refine blk_alloc ?_ _)); exact BK492.out) hb); replace BK503 := Aside0.mk (blk_below (g := gb503) (o := .cells #[.int .i64 t494, .slice Ao34 t495.length co34] 24 (0, 0)) (by (with_reducible repeat (first | refine blk_drewN ?_ _ | refine blk_drew ?_ | refine blk_alloc ?_ _)); refine blk_far ?_ NB503_504.out _; (with_reducible repeat (first | refine blk_drewN ?_ _ | refine blk_drew ?_ | refine blk_alloc ?_ _)); refine blk_far ?_ NB503_504.out _; (with_reducible repeat (first | refine blk_drewN ?_ _ | refine blk_drew ?_ | refine blk_alloc ?_ _)); refine blk_put (cs := #[.int .i64 t494, .slice none 0 0]) ?_ 1 _ rfl; (with_reducible repeat (first | refine blk_drewN ?_ _ | refine blk_drew ?_ | refine blk_alloc ?_ _)); refine blk_put (cs := #[.int .i64 0, .slice none 0 0]) ?_ 0 _ rfl; (with_reducible repeat (first | refine blk_drewN ?_ _ | refine blk_drew ?_ | refine blk_alloc ?_ _)); exact BK503.out) hb); replace BK504 := Aside0.mk (blk_below (g := gb504) (o := .cells #[.int .i64 t498, .slice Ao38 t499.length co38] 24 (0, 0)) (by (with_reducible repeat (first | refine blk_drewN ?_ _ | refine blk_drew ?_ | refine blk_alloc ?_ _)); refine blk_put (cs := #[.int .i64 t498, .slice none 0 0]) ?_ 1 _ rfl; (with_reducible repeat (first | refine blk_drewN ?_ _ | refine blk_drew ?_ | refine blk_alloc ?_ _)); refine blk_put (cs := #[.int .i64 0, .slice none 0 0]) ?_ 0 _ rfl; (with_reducible repeat (first | refine blk_drewN ?_ _ | refine blk_drew ?_ | refine blk_alloc ?_ _)); refine blk_far ?_ NB504_503.out _; (with_reducible repeat (first | refine blk_drewN ?_ _ | refine blk_drew ?_ | refine blk_alloc ?_ _)); refine blk_far ?_ NB504_503.out _; (with_reducible repeat (first | refine blk_drewN ?_ _ | refine blk_drew ?_ | refine blk_alloc ?_ _)); exact BK504.out) hb); replace HB := Aside0.mk (below_step pB hb); (try clear hb); (try clear hb2); (try clear hk); (try clear hi); (try clear ho0); (try clear ho1)) | ((with_reducible refine gate_dst (N := 10) rfl ?_); (try (refine gate_guard (by rfl) ?_; dsimp only)); refine box_event ?hg (N := 10) ?hd (cs := #[.int .i64 0, .slice none 0 0]) (t := 24) ?hr ?_; (case hd => rfl); (case hg => rfl); (case hr => first | (go_simp; done) | (go_simp; rfl)); intro gb514 hg w42 hbox hb; have BK514 := Aside0.mk (hbox); have GW514 := Aside0.mk (gW hg : w.heap.size ≤ gb514); have GE514 := Aside0.mk (gW hg : w.heap.size ≤ gb514); have NB491_514 := Aside0.mk (nL hg BK491 : gb491 ≠ gb514); have NB514_491 := Aside0.mk (nG hg BK491 : gb514 ≠ gb491); have NB492_514 := Aside0.mk (nL hg BK492 : gb492 ≠ gb514); have NB514_492 := Aside0.mk (nG hg BK492 : gb514 ≠ gb492); have NB503_514 := Aside0.mk (nL hg BK503 : gb503 ≠ gb514); have NB514_503 := Aside0.mk (nG hg BK503 : gb514 ≠ gb503); have NB504_514 := Aside0.mk (nL hg BK504 : gb504 ≠ gb514); have NB514_504 := Aside0.mk (nG hg BK504 : gb514 ≠ gb504); replace HO497 := Aside0.mk (Kd.R_below (rX HO497.out) hb); replace HO501 := Aside0.mk (Kd.R_below (rX HO501.out) hb); replace HO508 := Aside0.mk (Kd.R_below (rX HO508.out) hb); replace HO512 := Aside0.mk (Kd.R_below (rX HO512.out) hb); replace BK491 := Aside0.mk (kB BK491 hb); replace BK492 := Aside0.mk (kB BK492 hb); replace BK503 := Aside0.mk (kB BK503 hb); replace BK504 := Aside0.mk (kB BK504 hb); replace HB := Aside0.mk (below_step pB hb); clear hb hbox hg) | ((with_reducible refine gate_dst (N := 11) rfl ?_); (try (refine gate_guard (by rfl) ?_; dsimp only)); refine box_event ?hg (N := 11) ?hd (cs := #[.int .i64 0, .slice none 0 0]) (t := 24) ?hr ?_; (case hd => rfl); (case hg => rfl); (case hr => first | (go_simp; done) | (go_simp; rfl)); intro gb515 hg w43 hbox hb; have BK515 := Aside0.mk (hbox); have GW515 := Aside0.mk (gW hg : w.heap.size ≤ gb515); have GE515 := Aside0.mk (gW hg : w.heap.size ≤ gb515); have NB491_515 := Aside0.mk (nL hg BK491 : gb491 ≠ gb515); have NB515_491 := Aside0.mk (nG hg BK491 : gb515 ≠ gb491); have NB492_515 := Aside0.mk (nL hg BK492 : gb492 ≠ gb515); have NB515_492 := Aside0.mk (nG hg BK492 : gb515 ≠ gb492); have NB503_515 := Aside0.mk (nL hg BK503 : gb503 ≠ gb515); have NB515_503 := Aside0.mk (nG hg BK503 : gb515 ≠ gb503); have NB504_515 := Aside0.mk (nL hg BK504 : gb504 ≠ gb515); have NB515_504 := Aside0.mk (nG hg BK504 : gb515 ≠ gb504); have NB514_515 := Aside0.mk (nL hg BK514 : gb514 ≠ gb515); have NB515_514 := Aside0.mk (nG hg BK514 : gb515 ≠ gb514); replace HO497 := Aside0.mk (Kd.R_below (rX HO497.out) hb); replace HO501 := Aside0.mk (Kd.R_below (rX HO501.out) hb); replace HO508 := Aside0.mk (Kd.R_below (rX HO508.out) hb); replace HO512 := Aside0.mk (Kd.R_below (rX HO512.out) hb); replace BK491 := Aside0.mk (kB BK491 hb); replace BK492 := Aside0.mk (kB BK492 hb); replace BK503 := Aside0.mk (kB BK503 hb); replace BK504 := Aside0.mk (kB BK504 hb); replace BK514 := Aside0.mk (kB BK514 hb); replace HB := Aside0.mk (below_step pB hb); clear hb hbox hg; have hnb44 := NB514_491.out; have hnc44 := NB491_514.out; have hnb45 := NB514_492.out; have hnc45 := NB492_514.out; have hnb46 := NB514_503.out; have hnc46 := NB503_514.out; have hnb47 := NB514_504.out; have hnc47 := NB504_514.out; have hnb48 := NB514_515.out; have hnc48 := NB515_514.out; obtain ⟨hcz49_0, hcz49_1, hfz49_0, hfz49_1⟩ := bk2 BK514; obtain ⟨Ao50, co50, eo50⟩ := Kd.R_slice HO508.out; subst eo50; have hnb51 := NB515_491.out; have hnc51 := NB491_515.out; have hnb52 := NB515_492.out; have hnc52 := NB492_515.out; have hnb53 := NB515_503.out; have hnc53 := NB503_515.out; have hnb54 := NB515_504.out; have hnc54 := NB504_515.out; obtain ⟨hcz55_0, hcz55_1, hfz55_0, hfz55_1⟩ := bk2 BK515; obtain ⟨Ao56, co56, eo56⟩ := Kd.R_slice HO512.out; subst eo56; obtain ⟨hcz57_0, hcz57_1, hfz57_0, hfz57_1⟩ := bk2 BK503) | ((with_reducible refine gate_callee (f := 21) rfl ?_); refine goesL_ (some 42) rfl rfl Try.func21 (by kernel_rfl) rfl #[.agg #[.int .i64 t494, .slice Ao34 t495.length co34], .agg #[.int .i64 t505, .slice Ao50 t506.length co50]] rfl mA ?_; (with_reducible refine (papermillref18_Same.calls kj3 t494 _ _ t495 t505 _ _ t506 true _ ?side1 ?side2 ?side3 ?side4 A18.out).mono ?_); (case side1 => refine (Kd.R_reads' (e := 3) (base := w.heap.size) (ok := fun k_ => ((some k_ ≠ (.slice Ao38 t499.length co38 : Value).ownBlock ∧ some k_ ≠ (.slice Ao50 t506.length co50 : Value).ownBlock) ∧ some k_ ≠ (.slice Ao56 t510.length co56 : Value).ownBlock)) (n := t495.length) (c := co34) ?_).2.2; exact (rX (Kd.R_mono (Kd.R_mono (Kd.R_far (p := ⟨gb515, 1, none⟩) (Kd.R_far (p := ⟨gb515, 0, none⟩) (Kd.R_far (p := ⟨gb514, 1, none⟩) (Kd.R_far (p := ⟨gb514, 0, none⟩) (Kd.R_types (Kd.R_types HO497.out BK514.out (by decide)) BK515.out (by decide)) (fun _ hk => hk.1.2) (.int .i64 t505)) (fun _ hk => hk.1.2) (.slice Ao50 t506.length co50)) (fun _ hk => hk.2) (.int .i64 t509)) (fun _ hk => hk.2) (.slice Ao56 t510.length co56)) (fun _ h_ => h_.1)) (fun _ h_ => h_.1)))); (case side2 => exact (Kd.R_reads' HO497.out).2.1); (case side3 => refine (Kd.R_reads' (e := 3) (base := w.heap.size) (ok := fun k_ => ((some k_ ≠ (.slice Ao56 t510.length co56 : Value).ownBlock ∧ some k_ ≠ (.slice Ao34 t495.length co34 : Value).ownBlock) ∧ some k_ ≠ (.slice Ao38 t499.length co38 : Value).ownBlock)) (n := t506.length) (c := co50) ?_).2.2; exact (rX (Kd.R_mono (Kd.R_mono (Kd.R_far (p := ⟨gb515, 1, none⟩) (Kd.R_far (p := ⟨gb515, 0, none⟩) (Kd.R_far (p := ⟨gb514, 1, none⟩) (Kd.R_far (p := ⟨gb514, 0, none⟩) (Kd.R_types (Kd.R_types HO508.out BK514.out (by decide)) BK515.out (by decide)) (fun _ hk => hk.1.2) (.int .i64 t505)) (fun _ hk => hk.1.2) (.slice Ao50 t506.length co50)) (fun _ hk => hk.2) (.int .i64 t509)) (fun _ hk => hk.2) (.slice Ao56 t510.length co56)) (fun _ h_ => h_.1)) (fun _ h_ => h_.1)))); (case side4 => exact (Kd.R_reads' HO508.out).2.1); rintro e w58 ⟨rfl, hb⟩; refine ⟨_, rfl, ?_⟩; replace HO497 := Aside0.mk (Kd.R_below (rX (Kd.R_mono (Kd.R_mono (Kd.R_far (p := ⟨gb515, 1, none⟩) (Kd.R_far (p := ⟨gb515, 0, none⟩) (Kd.R_far (p := ⟨gb514, 1, none⟩) (Kd.R_far (p := ⟨gb514, 0, none⟩) (Kd.R_types (Kd.R_types HO497.out BK514.out (by decide)) BK515.out (by decide)) (fun _ hk => hk.1.2) (.int .i64 t505)) (fun _ hk => hk.1.2) (.slice Ao50 t506.length co50)) (fun _ hk => hk.2) (.int .i64 t509)) (fun _ hk => hk.2) (.slice Ao56 t510.length co56)) (fun _ h_ => h_.1)) (fun _ h_ => h_.1))) hb); replace HO501 := Aside0.mk (Kd.R_below (rX (Kd.R_mono (Kd.R_mono (Kd.R_far (p := ⟨gb515, 1, none⟩) (Kd.R_far (p := ⟨gb515, 0, none⟩) (Kd.R_far (p := ⟨gb514, 1, none⟩) (Kd.R_far (p := ⟨gb514, 0, none⟩) (Kd.R_types (Kd.R_types HO501.out BK514.out (by decide)) BK515.out (by decide)) (fun _ hk => hk.1.2) (.int .i64 t505)) (fun _ hk => hk.1.2) (.slice Ao50 t506.length co50)) (fun _ hk => hk.2) (.int .i64 t509)) (fun _ hk => hk.2) (.slice Ao56 t510.length co56)) (fun _ h_ => h_.1)) (fun _ h_ => h_.1))) hb); replace HO508 := Aside0.mk (Kd.R_below (rX (Kd.R_mono (Kd.R_mono (Kd.R_far (p := ⟨gb515, 1, none⟩) (Kd.R_far (p := ⟨gb515, 0, none⟩) (Kd.R_far (p := ⟨gb514, 1, none⟩) (Kd.R_far (p := ⟨gb514, 0, none⟩) (Kd.R_types (Kd.R_types HO508.out BK514.out (by decide)) BK515.out (by decide)) (fun _ hk => hk.1.2) (.int .i64 t505)) (fun _ hk => hk.1.2) (.slice Ao50 t506.length co50)) (fun _ hk => hk.2) (.int .i64 t509)) (fun _ hk => hk.2) (.slice Ao56 t510.length co56)) (fun _ h_ => h_.1)) (fun _ h_ => h_.1))) hb); replace HO512 := Aside0.mk (Kd.R_below (rX (Kd.R_mono (Kd.R_mono (Kd.R_far (p := ⟨gb515, 1, none⟩) (Kd.R_far (p := ⟨gb515, 0, none⟩) (Kd.R_far (p := ⟨gb514, 1, none⟩) (Kd.R_far (p := ⟨gb514, 0, none⟩) (Kd.R_types (Kd.R_types HO512.out BK514.out (by decide)) BK515.out (by decide)) (fun _ hk => hk.1.2) (.int .i64 t505)) (fun _ hk => hk.1.2) (.slice Ao50 t506.length co50)) (fun _ hk => hk.2) (.int .i64 t509)) (fun _ hk => hk.2) (.slice Ao56 t510.length co56)) (fun _ h_ => h_.1)) (fun _ h_ => h_.1))) hb); replace BK491 := Aside0.mk (blk_below (g := gb491) (o := .cells #[.int .i64 a0_0, .slice A0_1 l0_1.length c0_1] 24 (0, 0)) (by (with_reducible repeat (first | refine blk_drewN ?_ _ | refine blk_drew ?_ | refine blk_alloc ?_ _)); refine blk_far ?_ NB491_515.out _; (with_reducible repeat (first | refine blk_drewN ?_ _ | refine blk_drew ?_ | refine blk_alloc ?_ _)); refine blk_far ?_ NB491_515.out _; (with_reducible repeat (first | refine blk_drewN ?_ _ | refine blk_drew ?_ | refine blk_alloc ?_ _)); refine blk_far ?_ NB491_514.out _; (with_reducible repeat (first | refine blk_drewN ?_ _ | refine blk_drew ?_ | refine blk_alloc ?_ _)); refine blk_far ?_ NB491_514.out _; (with_reducible repeat (first | refine blk_drewN ?_ _ | refine blk_drew ?_ | refine blk_alloc ?_ _)); exact BK491.out) hb); replace BK492 := Aside0.mk (blk_below (g := gb492) (o := .cells #[.int .i64 a1_0, .slice A1_1 l1_1.length c1_1] 24 (0, 0)) (by (with_reducible repeat (first | refine blk_drewN ?_ _ | refine blk_drew ?_ | refine blk_alloc ?_ _)); refine blk_far ?_ NB492_515.out _; (with_reducible repeat (first | refine blk_drewN ?_ _ | refine blk_drew ?_ | refine blk_alloc ?_ _)); refine blk_far ?_ NB492_515.out _; (with_reducible repeat (first | refine blk_drewN ?_ _ | refine blk_drew ?_ | refine blk_alloc ?_ _)); refine blk_far ?_ NB492_514.out _; (with_reducible repeat (first | refine blk_drewN ?_ _ | refine blk_drew ?_ | refine blk_alloc ?_ _)); refine blk_far ?_ NB492_514.out _; (with_reducible repeat (first | refine blk_drewN ?_ _ | refine blk_drew ?_ | refine blk_alloc ?_ _)); exact BK492.out) hb); replace BK503 := Aside0.mk (blk_below (g := gb503) (o := .cells #[.int .i64 t494, .slice Ao34 t495.length co34] 24 (0, 0)) (by (with_reducible repeat (first | refine blk_drewN ?_ _ | refine blk_drew ?_ | refine blk_alloc ?_ _)); refine blk_far ?_ NB503_515.out _; (with_reducible repeat (first | refine blk_drewN ?_ _ | refine blk_drew ?_ | refine blk_alloc ?_ _)); refine blk_far ?_ NB503_515.out _; (with_reducible repeat (first | refine blk_drewN ?_ _ | refine blk_drew ?_ | refine blk_alloc ?_ _)); refine blk_far ?_ NB503_514.out _; (with_reducible repeat (first | refine blk_drewN ?_ _ | refine blk_drew ?_ | refine blk_alloc ?_ _)); refine blk_far ?_ NB503_514.out _; (with_reducible repeat (first | refine blk_drewN ?_ _ | refine blk_drew ?_ | refine blk_alloc ?_ _)); exact BK503.out) hb); replace BK504 := Aside0.mk (blk_below (g := gb504) (o := .cells #[.int .i64 t498, .slice Ao38 t499.length co38] 24 (0, 0)) (by (with_reducible repeat (first | refine blk_drewN ?_ _ | refine blk_drew ?_ | refine blk_alloc ?_ _)); refine blk_far ?_ NB504_515.out _; (with_reducible repeat (first | refine blk_drewN ?_ _ | refine blk_drew ?_ | refine blk_alloc ?_ _)); refine blk_far ?_ NB504_515.out _; (with_reducible repeat (first | refine blk_drewN ?_ _ | refine blk_drew ?_ | refine blk_alloc ?_ _)); refine blk_far ?_ NB504_514.out _; (with_reducible repeat (first | refine blk_drewN ?_ _ | refine blk_drew ?_ | refine blk_alloc ?_ _)); refine blk_far ?_ NB504_514.out _; (with_reducible repeat (first | refine blk_drewN ?_ _ | refine blk_drew ?_ | refine blk_alloc ?_ _)); exact BK504.out) hb); replace BK514 := Aside0.mk (blk_below (g := gb514) (o := .cells #[.int .i64 t505, .slice Ao50 t506.length co50] 24 (0, 0)) (by (with_reducible repeat (first | refine blk_drewN ?_ _ | refine blk_drew ?_ | refine blk_alloc ?_ _)); refine blk_far ?_ NB514_515.out _; (with_reducible repeat (first | refine blk_drewN ?_ _ | refine blk_drew ?_ | refine blk_alloc ?_ _)); refine blk_far ?_ NB514_515.out _; (with_reducible repeat (first | refine blk_drewN ?_ _ | refine blk_drew ?_ | refine blk_alloc ?_ _)); refine blk_put (cs := #[.int .i64 t505, .slice none 0 0]) ?_ 1 _ rfl; (with_reducible repeat (first | refine blk_drewN ?_ _ | refine blk_drew ?_ | refine blk_alloc ?_ _)); refine blk_put (cs := #[.int .i64 0, .slice none 0 0]) ?_ 0 _ rfl; (with_reducible repeat (first | refine blk_drewN ?_ _ | refine blk_drew ?_ | refine blk_alloc ?_ _)); exact BK514.out) hb); replace BK515 := Aside0.mk (blk_below (g := gb515) (o := .cells #[.int .i64 t509, .slice Ao56 t510.length co56] 24 (0, 0)) (by (with_reducible repeat (first | refine blk_drewN ?_ _ | refine blk_drew ?_ | refine blk_alloc ?_ _)); refine blk_put (cs := #[.int .i64 t509, .slice none 0 0]) ?_ 1 _ rfl; (with_reducible repeat (first | refine blk_drewN ?_ _ | refine blk_drew ?_ | refine blk_alloc ?_ _)); refine blk_put (cs := #[.int .i64 0, .slice none 0 0]) ?_ 0 _ rfl; (with_reducible repeat (first | refine blk_drewN ?_ _ | refine blk_drew ?_ | refine blk_alloc ?_ _)); refine blk_far ?_ NB515_514.out _; (with_reducible repeat (first | refine blk_drewN ?_ _ | refine blk_drew ?_ | refine blk_alloc ?_ _)); refine blk_far ?_ NB515_514.out _; (with_reducible repeat (first | refine blk_drewN ?_ _ | refine blk_drew ?_ | refine blk_alloc ?_ _)); exact BK515.out) hb); replace HB := Aside0.mk (below_step pB hb); (try clear hb); (try clear hb2); (try clear hk); (try clear hi); obtain ⟨hcz59_0, hcz59_1, hfz59_0, hfz59_1⟩ := bk2 BK504; obtain ⟨hcz60_0, hcz60_1, hfz60_0, hfz60_1⟩ := bk2 BK515) | (go_at_call 21; (with_reducible refine (papermillref18_Same.calls kj3 t498 _ _ t499 t509 _ _ t510 true _ ?side1 ?side2 ?side3 ?side4 A20.out).mono ?_); (case side1 => repeat (first | exact (Kd.R_reads' HO501.out).2.2 | (with_reducible refine Kd.C_alloc ?_ _) | (with_reducible refine Kd.C_drewN ?_ _) | (with_reducible refine Kd.C_drew ?_))); (case side2 => exact (Kd.R_reads' HO501.out).2.1); (case side3 => repeat (first | exact (Kd.R_reads' HO512.out).2.2 | (with_reducible refine Kd.C_alloc ?_ _) | (with_reducible refine Kd.C_drewN ?_ _) | (with_reducible refine Kd.C_drew ?_))); (case side4 => exact (Kd.R_reads' HO512.out).2.1); rintro e w61 ⟨rfl, hb⟩; replace HO497 := Aside0.mk (Kd.R_below (rX HO497.out) hb); replace HO501 := Aside0.mk (Kd.R_below (rX HO501.out) hb); replace HO508 := Aside0.mk (Kd.R_below (rX HO508.out) hb); replace HO512 := Aside0.mk (Kd.R_below (rX HO512.out) hb); replace BK491 := Aside0.mk (kB BK491 hb); replace BK492 := Aside0.mk (kB BK492 hb); replace BK503 := Aside0.mk (kB BK503 hb); replace BK504 := Aside0.mk (kB BK504 hb); replace BK514 := Aside0.mk (kB BK514 hb); replace BK515 := Aside0.mk (kB BK515 hb); replace HB := Aside0.mk (below_step pB hb); (try clear hb); (try clear hb2); (try clear hk); (try clear hi)) | (go_at_call 10; (with_reducible refine (papermilllaw18_awake.calls kj3  t518 _ A23.out).mono ?_); rintro e w62 ⟨rfl, hb⟩; replace HO497 := Aside0.mk (Kd.R_below (rX HO497.out) hb); replace HO501 := Aside0.mk (Kd.R_below (rX HO501.out) hb); replace HO508 := Aside0.mk (Kd.R_below (rX HO508.out) hb); replace HO512 := Aside0.mk (Kd.R_below (rX HO512.out) hb); replace BK491 := Aside0.mk (kB BK491 hb); replace BK492 := Aside0.mk (kB BK492 hb); replace BK503 := Aside0.mk (kB BK503 hb); replace BK504 := Aside0.mk (kB BK504 hb); replace BK514 := Aside0.mk (kB BK514 hb); replace BK515 := Aside0.mk (kB BK515 hb); replace HB := Aside0.mk (below_step pB hb); (try clear hb); (try clear hb2); (try clear hk); (try clear hi)))
       go_ret
       exact ⟨by first | rfl | (simp [errW_none, errW_some] <;> rfl) | (simp [*, errW_none, errW_some] <;> rfl), pB⟩
      ·rw [if_neg c22] at H
       exact absurd H (by simp)
     ·replace c21 := Bool.eq_false_iff.mpr c21
      subst c21
      have H1 : (none) = some r := by rw [if_neg (show ¬ (false = true) by decide)] at H; exact H
      clear H
      have H := H1
      clear H1
      exact absurd H (by simp)
    ·replace c19 := Bool.eq_false_iff.mpr c19
     subst c19
     have H1 : (none) = some r := by rw [if_neg (show ¬ (false = true) by decide)] at H; exact H
     clear H
     have H := H1
     clear H1
     exact absurd H (by simp)

/-- THE ONE PURE STATEMENT of papermilllaw18_ChestPours: yours. -/
def papermilllaw18_ChestPours.Pure : Prop := ∀ (a0_0 : Int) (l0_1 : List Int) (a1_0 : Int) (l1_1 : List Int) (a2 : Int), (Lit.int .i64 a0_0).wf = true → l0_1.length ≤ maxLen → l0_1.length * 8 ≤ 140737488351232 → (∀ x_ ∈ l0_1, (Lit.int .i64 x_).wf = true) → (Lit.int .i64 a1_0).wf = true → l1_1.length ≤ maxLen → l1_1.length * 8 ≤ 140737488351232 → (∀ x_ ∈ l1_1, (Lit.int .i64 x_).wf = true) → (Lit.int .i64 a2).wf = true → ∃ k, papermilllaw18_ChestPours.f k a0_0 l0_1 a1_0 l1_1 a2 = some true

end Go.Proofs.Ytpjcpgobdiahpaa.Print
