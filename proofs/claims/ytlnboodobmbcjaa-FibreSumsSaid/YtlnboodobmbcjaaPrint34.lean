-- Written by wip/tools/myprint.py out of the translation. Not trusted: Lean checks it.
import Derived.Test.YtlnboodobmbcjaaPrint0
import Derived.Test.YtlnboodobmbcjaaPrint7
import Derived.Test.YtlnboodobmbcjaaPrint8
import Derived.Test.YtlnboodobmbcjaaPrint18
import Derived.Test.YtlnboodobmbcjaaPrint22
import Derived.Test.YtlnboodobmbcjaaPrint32
namespace Go.Proofs.Ytlnboodobmbcjaa.Print
open Go.RowKit Go.Proofs.YtlnboodobmbcjaaW.PrintWords Go.Proofs.YtlnboodobmbcjaaW.PrintLast Go.Proofs.YtlnboodobmbcjaaW.PrintMore
attribute [local go_sem] max2_int min2_int max_two min_two max_three min_three max_four min_four   -- for this text's walks alone
set_option linter.unusedVariables false
set_option linter.unusedSimpArgs false

/-! ### papermilllaw16_FibreSums: function 10 -/
mutual
def papermilllaw16_FibreSums.j0 : Nat → List Int → List Int → Bool → Option (Bool)
 | 0, _, _, _ => none
 | k + 1, x0, x1, x20 => if x20 = true then ((papermilllaw16_awake.f k).bind fun t471 => (some t471)) else ((fibre_Add.f k x0 x1).bind fun bt472 => ((fibre_Add.f k x1 x0).bind fun bt476 => (if bt472.2 = bt476.2 then ((papermillref16_Same.f k bt472.1 bt476.1).bind fun t480 => (papermilllaw16_FibreSums.j1 k x0 x1 bt472.1 bt472.2 (!t480))) else (papermilllaw16_FibreSums.j1 k x0 x1 bt472.1 bt472.2 true))))
def papermilllaw16_FibreSums.j1 : Nat → List Int → List Int → List Int → Int → Bool → Option (Bool)
 | 0, _, _, _, _, _ => none
 | k + 1, x0, x1, x5, x6, x42 => if x42 = true then (none) else (if x6 = 0 then ((fibre_Total.f k x0).bind fun bt482 => ((fibre_Total.f k x1).bind fun bt484 => ((fibre_Total.f k x5).bind fun bt486 => (if bt482.2 = 0 then (if bt484.2 = 0 then (if bt486.2 = 0 then (if bt486.1 = (wrap64 (bt482.1 + bt484.1)) then ((papermilllaw16_awake.f k).bind fun t488 => (some t488)) else (none)) else (none)) else (none)) else (none))))) else (if (x5.length : Int) = 0 then ((papermilllaw16_awake.f k).bind fun t481 => (some t481)) else (none)))
end
def papermilllaw16_FibreSums.f (k : Nat) (l0 : List Int) (l1 : List Int) : Option (Bool) := (papermilllaw16_great.f l0).bind fun t469 => (if t469 = true then (papermilllaw16_FibreSums.j0 k l0 l1 true) else ((papermilllaw16_great.f l1).bind fun t470 => (papermilllaw16_FibreSums.j0 k l0 l1 t470)))
theorem papermilllaw16_FibreSums.mono_l : ∀ k, (∀ y0 y1 y2, LeO (papermilllaw16_FibreSums.j0 k y0 y1 y2) (papermilllaw16_FibreSums.j0 (k + 1) y0 y1 y2)) ∧ (∀ y0 y1 y2 y3 y4, LeO (papermilllaw16_FibreSums.j1 k y0 y1 y2 y3 y4) (papermilllaw16_FibreSums.j1 (k + 1) y0 y1 y2 y3 y4))
 | 0 => ⟨fun _ _ _ r h => by simp [papermilllaw16_FibreSums.j0] at h, fun _ _ _ _ _ r h => by simp [papermilllaw16_FibreSums.j1] at h⟩
 | k + 1 => by
  obtain ⟨ih0, ih1⟩ := papermilllaw16_FibreSums.mono_l k
  refine ⟨?_, ?_⟩
  ·intro y0 y1 y2
   unfold papermilllaw16_FibreSums.j0
   repeat' first
   | (with_reducible exact ih0 _ _ _)
   | (with_reducible exact ih1 _ _ _ _ _)
   | (with_reducible exact fibre_Add.mono _ _ _)
   | (with_reducible exact fibre_Total.mono _ _)
   | (with_reducible exact papermilllaw16_awake.mono _)
   | (with_reducible exact papermillref16_Same.mono _ _ _)
   | (with_reducible exact LeO.refl _)
   | (with_reducible exact LeO.none _)
   | (with_reducible refine LeO.ite ?_ ?_)
   | (with_reducible refine LeO.bind ?_ (fun _ => ?_))
   | exact ih0 _ _ _
   | exact ih1 _ _ _ _ _
   | exact fibre_Add.mono _ _ _
   | exact fibre_Total.mono _ _
   | exact papermilllaw16_awake.mono _
   | exact papermillref16_Same.mono _ _ _
   | exact LeO.none _
   | refine LeO.ite ?_ ?_
   | refine LeO.bind ?_ (fun _ => ?_)
  ·intro y0 y1 y2 y3 y4
   unfold papermilllaw16_FibreSums.j1
   repeat' first
   | (with_reducible exact ih0 _ _ _)
   | (with_reducible exact ih1 _ _ _ _ _)
   | (with_reducible exact fibre_Add.mono _ _ _)
   | (with_reducible exact fibre_Total.mono _ _)
   | (with_reducible exact papermilllaw16_awake.mono _)
   | (with_reducible exact papermillref16_Same.mono _ _ _)
   | (with_reducible exact LeO.refl _)
   | (with_reducible exact LeO.none _)
   | (with_reducible refine LeO.ite ?_ ?_)
   | (with_reducible refine LeO.bind ?_ (fun _ => ?_))
   | exact ih0 _ _ _
   | exact ih1 _ _ _ _ _
   | exact fibre_Add.mono _ _ _
   | exact fibre_Total.mono _ _
   | exact papermilllaw16_awake.mono _
   | exact papermillref16_Same.mono _ _ _
   | exact LeO.none _
   | refine LeO.ite ?_ ?_
   | refine LeO.bind ?_ (fun _ => ?_)
theorem papermilllaw16_FibreSums.mono : ∀ a0 a1 k, LeO (papermilllaw16_FibreSums.f k a0 a1) (papermilllaw16_FibreSums.f (k + 1) a0 a1) := by
 intro a0 a1 k
 obtain ⟨ih0, ih1⟩ := papermilllaw16_FibreSums.mono_l k
 unfold papermilllaw16_FibreSums.f
 repeat' first
   | (with_reducible exact ih0 _ _ _)
   | (with_reducible exact ih1 _ _ _ _ _)
   | (with_reducible exact fibre_Add.mono _ _ _)
   | (with_reducible exact fibre_Total.mono _ _)
   | (with_reducible exact papermilllaw16_awake.mono _)
   | (with_reducible exact papermillref16_Same.mono _ _ _)
   | (with_reducible exact LeO.refl _)
   | (with_reducible exact LeO.none _)
   | (with_reducible refine LeO.ite ?_ ?_)
   | (with_reducible refine LeO.bind ?_ (fun _ => ?_))
   | exact ih0 _ _ _
   | exact ih1 _ _ _ _ _
   | exact fibre_Add.mono _ _ _
   | exact fibre_Total.mono _ _
   | exact papermilllaw16_awake.mono _
   | exact papermillref16_Same.mono _ _ _
   | exact LeO.none _
   | refine LeO.ite ?_ ?_
   | refine LeO.bind ?_ (fun _ => ?_)
set_option maxHeartbeats 8000000 in
set_option maxRecDepth 100000 in
theorem papermilllaw16_FibreSums.calls (k : Nat) (A0 : Option Addr) (c0 : Nat) (l0 : List Int) (A1 : Option Addr) (c1 : Nat) (l1 : List Int) (r : Bool) (w : World) (hr0 : Kd.C (Kd.int .i64) w A0 l0.length l0) (hc0 : l0.length ≤ c0) (hr1 : Kd.C (Kd.int .i64) w A1 l1.length l1) (hc1 : l1.length ≤ c1) (h : papermilllaw16_FibreSums.f k l0 l1 = some r) :
  Calls Try.prog 10 #[.slice A0 l0.length c0, .slice A1 l1.length c1] w fun e w' => e = .returned (.bool r) ∧ Below w.heap.size w w' := by
 have HR0 := Aside0.mk hr0
 have HC0 := Aside0.mk hc0
 clear hr0 hc0
 have HR1 := Aside0.mk hr1
 have HC1 := Aside0.mk hc1
 clear hr1 hc1
 have HB := Aside0.mk (Below.refl w.heap.size w)
 have H : ((papermilllaw16_great.f l0).bind fun t469 => (if t469 = true then (papermilllaw16_FibreSums.j0 k l0 l1 true) else ((papermilllaw16_great.f l1).bind fun t470 => (papermilllaw16_FibreSums.j0 k l0 l1 t470)))) = some r := h
 clear h
 have HC3 := Aside0.mk H
 clear H
 go_enter Try.func10, Try.ntmps10
 go_upto_region 1 with (fail)
 go_cut [20] (fun v20 wc => ∃ (kq : Nat) (x20_2 : Bool), v20 = .bool x20_2 ∧ Aside0 (papermilllaw16_FibreSums.j0 kq l0 l1 x20_2 = some r) ∧ Aside0 (kq ≤ k) ∧ Aside0 (Below w.heap.size w wc))
 case first =>
  have H := HC3.out
  clear HC3
  replace H := Option.bind_eq_some_iff.mp H
  obtain ⟨t469, A40, H⟩ := H
  replace H : (if t469 = true then (papermilllaw16_FibreSums.j0 k l0 l1 true) else ((papermilllaw16_great.f l1).bind fun t470 => (papermilllaw16_FibreSums.j0 k l0 l1 t470))) = some r := H
  have A4 := Aside0.mk A40
  clear A40
  by_cases c5 : t469 = true
  ·subst c5
   have H1 : (papermilllaw16_FibreSums.j0 k l0 l1 true) = some r := by rw [if_pos rfl] at H; exact H
   clear H
   have H := H1
   clear H1
   have H' := Aside0.mk H
   clear H
   go_wp2_with (first | ((with_reducible refine gate_callee (f := 15) rfl ?_); refine goesL_ (some 16) rfl rfl Try.func15 (by kernel_rfl) rfl #[.slice A0 l0.length c0] rfl mA ?_; (with_reducible refine (papermilllaw16_great.calls _ _ l0 true _ ?side1 ?side2 A4.out).mono ?_); (case side1 => repeat (first | exact (Kd.C_below HR0.out HB.out) | (with_reducible refine Kd.C_alloc ?_ _) | (with_reducible refine Kd.C_drewN ?_ _) | (with_reducible refine Kd.C_drew ?_))); (case side2 => exact HC0.out); rintro e w' ⟨rfl, ⟨nd, rfl⟩⟩; refine ⟨_, rfl, ?_⟩))
   go_meet
   case rel => exact ⟨_, (true), (by first | rfl | (simp; done) | (simp [*]; done)), H', ⟨by first | omega | exact Nat.le_refl _⟩, ⟨pB⟩⟩
  ·replace c5 := Bool.eq_false_iff.mpr c5
   subst c5
   have H1 : ((papermilllaw16_great.f l1).bind fun t470 => (papermilllaw16_FibreSums.j0 k l0 l1 t470)) = some r := by rw [if_neg (show ¬ (false = true) by decide)] at H; exact H
   clear H
   have H := H1
   clear H1
   replace H := Option.bind_eq_some_iff.mp H
   obtain ⟨t470, A60, H⟩ := H
   replace H : (papermilllaw16_FibreSums.j0 k l0 l1 t470) = some r := H
   have A6 := Aside0.mk A60
   clear A60
   have H' := Aside0.mk H
   clear H
   go_wp2_with (first | ((with_reducible refine gate_callee (f := 15) rfl ?_); refine goesL_ (some 16) rfl rfl Try.func15 (by kernel_rfl) rfl #[.slice A0 l0.length c0] rfl mA ?_; (with_reducible refine (papermilllaw16_great.calls _ _ l0 false _ ?side1 ?side2 A4.out).mono ?_); (case side1 => repeat (first | exact (Kd.C_below HR0.out HB.out) | (with_reducible refine Kd.C_alloc ?_ _) | (with_reducible refine Kd.C_drewN ?_ _) | (with_reducible refine Kd.C_drew ?_))); (case side2 => exact HC0.out); rintro e w' ⟨rfl, ⟨nd, rfl⟩⟩; refine ⟨_, rfl, ?_⟩) | (go_at_call 15; (with_reducible refine (papermilllaw16_great.calls _ _ l1 t470 _ ?side1 ?side2 A6.out).mono ?_); (case side1 => repeat (first | exact (Kd.C_below HR1.out pB) | (with_reducible refine Kd.C_alloc ?_ _) | (with_reducible refine Kd.C_drewN ?_ _) | (with_reducible refine Kd.C_drew ?_))); (case side2 => exact HC1.out); rintro e w' ⟨rfl, ⟨nd, rfl⟩⟩))
   go_meet
   case rel => exact ⟨_, (t470), (by first | rfl | (simp; done) | (simp [*]; done)), H', ⟨by first | omega | exact Nat.le_refl _⟩, ⟨pB⟩⟩
 case rest =>
  clear HC3
  try clear c1
  try clear p2
  try clear c5
  obtain ⟨kq, x20_2, rfl, HA, HJ2, HB⟩ := hcut
  cases kq with
  | zero => exact absurd HA.out (by simp [papermilllaw16_FibreSums.j0])
  | succ kj2 =>
   have H := HA.out
   clear HA
   simp only [papermilllaw16_FibreSums.j0] at H
   by_cases c7 : x20_2 = true
   ·subst c7
    have H1 : ((papermilllaw16_awake.f kj2).bind fun t471 => (some t471)) = some r := by rw [if_pos rfl] at H; exact H
    clear H
    have H := H1
    clear H1
    replace H := Option.bind_eq_some_iff.mp H
    obtain ⟨t471, A80, H⟩ := H
    replace H : (some t471) = some r := H
    have A8 := Aside0.mk A80
    clear A80
    obtain rfl := Option.some.inj H
    go_wp2_with (first | ((with_reducible refine gate_callee (f := 12) rfl ?_); refine goesL_ (some 21) rfl rfl Try.func12 (by kernel_rfl) rfl #[] rfl mA ?_; (with_reducible refine (papermilllaw16_awake.calls kj2  t471 _ A8.out).mono ?_); rintro e w9 ⟨rfl, hb⟩; refine ⟨_, rfl, ?_⟩; replace HB := Aside0.mk (below_step pB hb); (try clear hb); (try clear hb2); (try clear hk); (try clear hi)))
    go_ret
    exact ⟨by first | rfl | (simp [errW_none, errW_some] <;> rfl) | (simp [*, errW_none, errW_some] <;> rfl), pB⟩
   ·replace c7 := Bool.eq_false_iff.mpr c7
    subst c7
    have H1 : ((fibre_Add.f kj2 l0 l1).bind fun bt472 => ((fibre_Add.f kj2 l1 l0).bind fun bt476 => (if bt472.2 = bt476.2 then ((papermillref16_Same.f kj2 bt472.1 bt476.1).bind fun t480 => (papermilllaw16_FibreSums.j1 kj2 l0 l1 bt472.1 bt472.2 (!t480))) else (papermilllaw16_FibreSums.j1 kj2 l0 l1 bt472.1 bt472.2 true)))) = some r := by rw [if_neg (show ¬ (false = true) by decide)] at H; exact H
    clear H
    have H := H1
    clear H1
    replace H := Option.bind_eq_some_iff.mp H
    obtain ⟨⟨t472, t473⟩, A100, H⟩ := H
    replace H : ((fibre_Add.f kj2 l1 l0).bind fun bt476 => (if t473 = bt476.2 then ((papermillref16_Same.f kj2 t472 bt476.1).bind fun t480 => (papermilllaw16_FibreSums.j1 kj2 l0 l1 t472 t473 (!t480))) else (papermilllaw16_FibreSums.j1 kj2 l0 l1 t472 t473 true))) = some r := H
    have A10 := Aside0.mk A100
    clear A100
    replace H := Option.bind_eq_some_iff.mp H
    obtain ⟨⟨t476, t477⟩, A110, H⟩ := H
    replace H : (if t473 = t477 then ((papermillref16_Same.f kj2 t472 t476).bind fun t480 => (papermilllaw16_FibreSums.j1 kj2 l0 l1 t472 t473 (!t480))) else (papermilllaw16_FibreSums.j1 kj2 l0 l1 t472 t473 true)) = some r := H
    have A11 := Aside0.mk A110
    clear A110
    have HC12 := Aside0.mk H
    clear H
    go_upto_region 5 with (first | ((with_reducible refine gate_callee (f := 20) rfl ?_); refine goesL_ (some 25) rfl rfl Try.func20 (by kernel_rfl) rfl #[.slice A0 l0.length c0, .slice A1 l1.length c1] rfl mA ?_; (with_reducible refine (fibre_Add.calls kj2 _ _ l0 _ _ l1 t472 t473 _ ?side1 ?side2 ?side3 ?side4 A10.out).mono ?_); (case side1 => repeat (first | exact (Kd.C_below HR0.out HB.out) | (with_reducible refine Kd.C_alloc ?_ _) | (with_reducible refine Kd.C_drewN ?_ _) | (with_reducible refine Kd.C_drew ?_))); (case side2 => exact HC0.out); (case side3 => repeat (first | exact (Kd.C_below HR1.out HB.out) | (with_reducible refine Kd.C_alloc ?_ _) | (with_reducible refine Kd.C_drewN ?_ _) | (with_reducible refine Kd.C_drew ?_))); (case side4 => exact HC1.out); rintro e w13 ⟨v474, rfl, ho0, hb⟩; refine ⟨_, rfl, ?_⟩; have HO475 := Aside0.mk (Kd.R_lower ho0 (below_size pB)); replace HB := Aside0.mk (below_step pB hb); (try clear hb); (try clear hb2); (try clear hk); (try clear hi); (try clear ho0)) | ((with_reducible refine gate_callee (f := 20) rfl ?_); refine goesL_ (some 31) rfl rfl Try.func20 (by kernel_rfl) rfl #[.slice A1 l1.length c1, .slice A0 l0.length c0] rfl mA ?_; (with_reducible refine (fibre_Add.calls kj2 _ _ l1 _ _ l0 t476 t477 _ ?side1 ?side2 ?side3 ?side4 A11.out).mono ?_); (case side1 => repeat (first | exact (Kd.C_below HR1.out HB.out) | (with_reducible refine Kd.C_alloc ?_ _) | (with_reducible refine Kd.C_drewN ?_ _) | (with_reducible refine Kd.C_drew ?_))); (case side2 => exact HC1.out); (case side3 => repeat (first | exact (Kd.C_below HR0.out HB.out) | (with_reducible refine Kd.C_alloc ?_ _) | (with_reducible refine Kd.C_drewN ?_ _) | (with_reducible refine Kd.C_drew ?_))); (case side4 => exact HC0.out); rintro e w14 ⟨v478, rfl, ho0, hb⟩; refine ⟨_, rfl, ?_⟩; have HO479 := Aside0.mk (Kd.R_lower (Kd.R_new' ho0 (Kd.R_lt (rX HO475.out))) (below_size pB)); replace HO475 := Aside0.mk (Kd.R_elder' (rX HO475.out) (Kd.R_base ho0) hb); replace HB := Aside0.mk (below_step pB hb); (try clear hb); (try clear hb2); (try clear hk); (try clear hi); (try clear ho0)))
    (try simp only [Act.put, List.setIfInBounds_toArray, List.set_cons_zero, List.set_cons_succ])
    go_cut [42] (fun v42 wc => ∃ (kq : Nat) (x42_11 : Bool), v42 = .bool x42_11 ∧ Aside0 (papermilllaw16_FibreSums.j1 kq l0 l1 t472 t473 x42_11 = some r) ∧ Aside0 (kq ≤ kj2) ∧ Aside0 (Kd.R (Kd.int .i64) 3 wc w.heap.size (fun _ => True) v474 t472) ∧ Aside0 (Below w.heap.size w wc))
    case first =>
     have H := HC12.out
     clear HC12
     by_cases c15 : t473 = t477
     ·rw [if_pos c15] at H
      have c15b0 : (t473 == t477) = true := beq_iff_eq.mpr c15
      have c15b1 : (t473 != t477) = false := bne_eq_false_iff_eq.mpr c15
      clear c15
      (first | rw [c15b0] | (simp only [i64_w, i32_w]; rw [c15b0]) | skip)
      replace H := Option.bind_eq_some_iff.mp H
      obtain ⟨t480, A160, H⟩ := H
      replace H : (papermilllaw16_FibreSums.j1 kj2 l0 l1 t472 t473 (!t480)) = some r := H
      have A16 := Aside0.mk A160
      clear A160
      have H' := Aside0.mk H
      clear H
      obtain ⟨Ao17, co17, eo17⟩ := Kd.R_slice HO475.out
      subst eo17
      obtain ⟨Ao18, co18, eo18⟩ := Kd.R_slice HO479.out
      subst eo18
      go_wp2_with (first | (go_at_call 22; (with_reducible refine (papermillref16_Same.calls kj2 _ _ t472 _ _ t476 t480 _ ?side1 ?side2 ?side3 ?side4 A16.out).mono ?_); (case side1 => repeat (first | exact (Kd.R_reads' HO475.out).2.2 | (with_reducible refine Kd.C_alloc ?_ _) | (with_reducible refine Kd.C_drewN ?_ _) | (with_reducible refine Kd.C_drew ?_))); (case side2 => exact (Kd.R_reads' HO475.out).2.1); (case side3 => repeat (first | exact (Kd.R_reads' HO479.out).2.2 | (with_reducible refine Kd.C_alloc ?_ _) | (with_reducible refine Kd.C_drewN ?_ _) | (with_reducible refine Kd.C_drew ?_))); (case side4 => exact (Kd.R_reads' HO479.out).2.1); rintro e w' ⟨rfl, ⟨nd, rfl⟩⟩))
      go_meet
      case rel => exact ⟨_, (!t480), (by first | rfl | (simp; done) | (simp [*]; done)), H', ⟨by have := HJ2.out; first | omega | exact Nat.le_refl _⟩, ⟨by (with_reducible repeat (first | apply Kd.R_alloc | apply Kd.R_drewN | apply Kd.R_drew)); exact Kd.R_mono HO475.out (fun _ hk => trivial)⟩, ⟨pB⟩⟩
     ·rw [if_neg c15] at H
      have c15b0 : (t473 == t477) = false := beq_eq_false_iff_ne.mpr c15
      have c15b1 : (t473 != t477) = true := bne_iff_ne.mpr c15
      (first | rw [c15b0] | (simp only [i64_w, i32_w]; rw [c15b0]) | skip)
      have H' := Aside0.mk H
      clear H
      go_wp2
      go_meet
      case rel => exact ⟨_, (true), (by first | rfl | (simp; done) | (simp [*]; done)), H', ⟨by have := HJ2.out; first | omega | exact Nat.le_refl _⟩, ⟨by (with_reducible repeat (first | apply Kd.R_alloc | apply Kd.R_drewN | apply Kd.R_drew)); exact Kd.R_mono HO475.out (fun _ hk => trivial)⟩, ⟨pB⟩⟩
    case rest =>
     clear HC12
     try clear c1
     try clear c2
     try clear p2
     try clear c5
     try clear c7
     try clear c10
     try clear c12
     try clear c15
     try clear c15b0
     try clear c15b1
     try clear p2
     obtain ⟨kq, x42_11, rfl, HA, HJ11, HO_5, HB⟩ := hcut
     cases kq with
     | zero => exact absurd HA.out (by simp [papermilllaw16_FibreSums.j1])
     | succ kj11 =>
      have H := HA.out
      clear HA
      simp only [papermilllaw16_FibreSums.j1] at H
      by_cases c19 : x42_11 = true
      ·subst c19
       have H1 : (none) = some r := by rw [if_pos rfl] at H; exact H
       clear H
       have H := H1
       clear H1
       exact absurd H (by simp)
      ·replace c19 := Bool.eq_false_iff.mpr c19
       subst c19
       have H1 : (if t473 = 0 then ((fibre_Total.f kj11 l0).bind fun bt482 => ((fibre_Total.f kj11 l1).bind fun bt484 => ((fibre_Total.f kj11 t472).bind fun bt486 => (if bt482.2 = 0 then (if bt484.2 = 0 then (if bt486.2 = 0 then (if bt486.1 = (wrap64 (bt482.1 + bt484.1)) then ((papermilllaw16_awake.f kj11).bind fun t488 => (some t488)) else (none)) else (none)) else (none)) else (none))))) else (if (t472.length : Int) = 0 then ((papermilllaw16_awake.f kj11).bind fun t481 => (some t481)) else (none))) = some r := by rw [if_neg (show ¬ (false = true) by decide)] at H; exact H
       clear H
       have H := H1
       clear H1
       by_cases c20 : t473 = 0
       ·rw [if_pos c20] at H
        have c20b0 : (t473 == 0) = true := beq_iff_eq.mpr c20
        have c20b1 : (t473 != 0) = false := bne_eq_false_iff_eq.mpr c20
        clear c20
        replace H := Option.bind_eq_some_iff.mp H
        obtain ⟨⟨t482, t483⟩, A210, H⟩ := H
        replace H : ((fibre_Total.f kj11 l1).bind fun bt484 => ((fibre_Total.f kj11 t472).bind fun bt486 => (if t483 = 0 then (if bt484.2 = 0 then (if bt486.2 = 0 then (if bt486.1 = (wrap64 (t482 + bt484.1)) then ((papermilllaw16_awake.f kj11).bind fun t488 => (some t488)) else (none)) else (none)) else (none)) else (none)))) = some r := H
        have A21 := Aside0.mk A210
        clear A210
        replace H := Option.bind_eq_some_iff.mp H
        obtain ⟨⟨t484, t485⟩, A220, H⟩ := H
        replace H : ((fibre_Total.f kj11 t472).bind fun bt486 => (if t483 = 0 then (if t485 = 0 then (if bt486.2 = 0 then (if bt486.1 = (wrap64 (t482 + t484)) then ((papermilllaw16_awake.f kj11).bind fun t488 => (some t488)) else (none)) else (none)) else (none)) else (none))) = some r := H
        have A22 := Aside0.mk A220
        clear A220
        replace H := Option.bind_eq_some_iff.mp H
        obtain ⟨⟨t486, t487⟩, A230, H⟩ := H
        replace H : (if t483 = 0 then (if t485 = 0 then (if t487 = 0 then (if t486 = (wrap64 (t482 + t484)) then ((papermilllaw16_awake.f kj11).bind fun t488 => (some t488)) else (none)) else (none)) else (none)) else (none)) = some r := H
        have A23 := Aside0.mk A230
        clear A230
        by_cases c24 : t483 = 0
        ·rw [if_pos c24] at H
         have c24b0 : (t483 == 0) = true := beq_iff_eq.mpr c24
         have c24b1 : (t483 != 0) = false := bne_eq_false_iff_eq.mpr c24
         clear c24
         by_cases c25 : t485 = 0
         ·rw [if_pos c25] at H
          have c25b0 : (t485 == 0) = true := beq_iff_eq.mpr c25
          have c25b1 : (t485 != 0) = false := bne_eq_false_iff_eq.mpr c25
          clear c25
          by_cases c26 : t487 = 0
          ·rw [if_pos c26] at H
           have c26b0 : (t487 == 0) = true := beq_iff_eq.mpr c26
           have c26b1 : (t487 != 0) = false := bne_eq_false_iff_eq.mpr c26
           clear c26
           by_cases c27 : t486 = (wrap64 (t482 + t484))
           ·rw [if_pos c27] at H
            have c27b0 : (t486 == (wrap64 (t482 + t484))) = true := beq_iff_eq.mpr c27
            have c27b1 : (t486 != (wrap64 (t482 + t484))) = false := bne_eq_false_iff_eq.mpr c27
            clear c27
            replace H := Option.bind_eq_some_iff.mp H
            obtain ⟨t488, A280, H⟩ := H
            replace H : (some t488) = some r := H
            have A28 := Aside0.mk A280
            clear A280
            obtain rfl := Option.some.inj H
            go_wp2_with (first | ((with_reducible refine gate_callee (f := 29) rfl ?_); refine goesL_ (some 53) rfl rfl Try.func29 (by kernel_rfl) rfl #[.slice A0 l0.length c0] rfl mA ?_; (with_reducible refine (fibre_Total.calls kj11 _ _ l0 t482 t483 _ ?side1 ?side2 A21.out).mono ?_); (case side1 => repeat (first | exact (Kd.C_below HR0.out HB.out) | (with_reducible refine Kd.C_alloc ?_ _) | (with_reducible refine Kd.C_drewN ?_ _) | (with_reducible refine Kd.C_drew ?_))); (case side2 => exact HC0.out); rintro e w29 ⟨rfl, hb⟩; refine ⟨_, rfl, ?_⟩; replace HO_5 := Aside0.mk (Kd.R_below (rX HO_5.out) hb); replace HB := Aside0.mk (below_step pB hb); (try clear hb); (try clear hb2); (try clear hk); (try clear hi)) | ((with_reducible refine gate_callee (f := 29) rfl ?_); refine goesL_ (some 58) rfl rfl Try.func29 (by kernel_rfl) rfl #[.slice A1 l1.length c1] rfl mA ?_; (with_reducible refine (fibre_Total.calls kj11 _ _ l1 t484 t485 _ ?side1 ?side2 A22.out).mono ?_); (case side1 => repeat (first | exact (Kd.C_below HR1.out HB.out) | (with_reducible refine Kd.C_alloc ?_ _) | (with_reducible refine Kd.C_drewN ?_ _) | (with_reducible refine Kd.C_drew ?_))); (case side2 => exact HC1.out); rintro e w30 ⟨rfl, hb⟩; refine ⟨_, rfl, ?_⟩; replace HO_5 := Aside0.mk (Kd.R_below (rX HO_5.out) hb); replace HB := Aside0.mk (below_step pB hb); (try clear hb); (try clear hb2); (try clear hk); (try clear hi); obtain ⟨Ao31, co31, eo31⟩ := Kd.R_slice HO_5.out; subst eo31) | ((with_reducible refine gate_callee (f := 29) rfl ?_); refine goesL_ (some 63) rfl rfl Try.func29 (by kernel_rfl) rfl #[.slice Ao31 t472.length co31] rfl mA ?_; (with_reducible refine (fibre_Total.calls kj11 _ _ t472 t486 t487 _ ?side1 ?side2 A23.out).mono ?_); (case side1 => repeat (first | exact (Kd.R_reads' HO_5.out).2.2 | (with_reducible refine Kd.C_alloc ?_ _) | (with_reducible refine Kd.C_drewN ?_ _) | (with_reducible refine Kd.C_drew ?_))); (case side2 => exact (Kd.R_reads' HO_5.out).2.1); rintro e w32 ⟨rfl, hb⟩; refine ⟨_, rfl, ?_⟩; replace HO_5 := Aside0.mk (Kd.R_below (rX HO_5.out) hb); replace HB := Aside0.mk (below_step pB hb); (try clear hb); (try clear hb2); (try clear hk); (try clear hi)) | (go_at_call 12; (with_reducible refine (papermilllaw16_awake.calls kj11  t488 _ A28.out).mono ?_); rintro e w33 ⟨rfl, hb⟩; replace HO_5 := Aside0.mk (Kd.R_below (rX HO_5.out) hb); replace HB := Aside0.mk (below_step pB hb); (try clear hb); (try clear hb2); (try clear hk); (try clear hi)))
            go_ret
            exact ⟨by first | rfl | (simp [errW_none, errW_some] <;> rfl) | (simp [*, errW_none, errW_some] <;> rfl), pB⟩
           ·rw [if_neg c27] at H
            exact absurd H (by simp)
          ·rw [if_neg c26] at H
           exact absurd H (by simp)
         ·rw [if_neg c25] at H
          exact absurd H (by simp)
        ·rw [if_neg c24] at H
         exact absurd H (by simp)
       ·rw [if_neg c20] at H
        have c20b0 : (t473 == 0) = false := beq_eq_false_iff_ne.mpr c20
        have c20b1 : (t473 != 0) = true := bne_iff_ne.mpr c20
        by_cases c34 : (t472.length : Int) = 0
        ·rw [if_pos c34] at H
         have c34b0 : ((t472.length : Int) == 0) = true := beq_iff_eq.mpr c34
         have c34b1 : ((t472.length : Int) != 0) = false := bne_eq_false_iff_eq.mpr c34
         clear c34
         replace H := Option.bind_eq_some_iff.mp H
         obtain ⟨t481, A350, H⟩ := H
         replace H : (some t481) = some r := H
         have A35 := Aside0.mk A350
         clear A350
         obtain rfl := Option.some.inj H
         obtain ⟨Ao36, co36, eo36⟩ := Kd.R_slice HO_5.out
         subst eo36
         go_wp2_with (first | (go_at_call 12; (with_reducible refine (papermilllaw16_awake.calls kj11  t481 _ A35.out).mono ?_); rintro e w37 ⟨rfl, hb⟩; replace HO_5 := Aside0.mk (Kd.R_below (rX HO_5.out) hb); replace HB := Aside0.mk (below_step pB hb); (try clear hb); (try clear hb2); (try clear hk); (try clear hi)))
         go_ret
         exact ⟨by first | rfl | (simp [errW_none, errW_some] <;> rfl) | (simp [*, errW_none, errW_some] <;> rfl), pB⟩
        ·rw [if_neg c34] at H
         exact absurd H (by simp)

/-- THE ONE PURE STATEMENT of papermilllaw16_FibreSums: yours. -/
def papermilllaw16_FibreSums.Pure : Prop := ∀ (l0 : List Int) (l1 : List Int), l0.length ≤ maxLen → l0.length * 8 ≤ 140737488351232 → (∀ x ∈ l0, (Lit.int .i64 x).wf = true) → l1.length ≤ maxLen → l1.length * 8 ≤ 140737488351232 → (∀ x ∈ l1, (Lit.int .i64 x).wf = true) → ∃ k, papermilllaw16_FibreSums.f k l0 l1 = some true
theorem papermilllaw16_FibreSums.walk (P : papermilllaw16_FibreSums.Pure) (a0 : Option Addr) (len0 cap0 : Nat) (z0 : List Int) (a1 : Option Addr) (len1 cap1 : Nat) (z1 : List Int) (w : World) (w0 : (a0 = none ∧ len0 = 0 ∧ cap0 = 0 ∧ z0 = []) ∨ ∃ x, a0 = some x ∧ len0 ≤ cap0 ∧ cap0 ≤ maxLen ∧ z0.length = cap0 ∧ (∀ i, i < z0.length → w.cell? (x.add i) = some (.int .i64 (z0.getD i 0))) ∧ ∀ n ∈ z0, (Lit.int .i64 n).wf = true) (y0 : len0 * 8 ≤ 140737488351232) (w1 : (a1 = none ∧ len1 = 0 ∧ cap1 = 0 ∧ z1 = []) ∨ ∃ x, a1 = some x ∧ len1 ≤ cap1 ∧ cap1 ≤ maxLen ∧ z1.length = cap1 ∧ (∀ i, i < z1.length → w.cell? (x.add i) = some (.int .i64 (z1.getD i 0))) ∧ ∀ n ∈ z1, (Lit.int .i64 n).wf = true) (y1 : len1 * 8 ≤ 140737488351232) :
  Calls Try.prog 10 #[.slice a0 len0 cap0, .slice a1 len1 cap1] w fun e w' => e = .returned (.bool true) ∧ Below w.heap.size w w' := by
 obtain ⟨l0, rfl, hr0, hm0, hw0, hc0⟩ := ReadsInt.ofRowC w0
 obtain ⟨l1, rfl, hr1, hm1, hw1, hc1⟩ := ReadsInt.ofRowC w1
 obtain ⟨k, h⟩ := P l0 l1 hm0 y0 hw0 hm1 y1 hw1
 refine (papermilllaw16_FibreSums.calls k _ _ l0 _ _ l1 true w (Kd.C_of_reads (d := (0 : Int)) (h1 := fun _ => rfl) hr0) hc0 (Kd.C_of_reads (d := (0 : Int)) (h1 := fun _ => rfl) hr1) hc1 h).mono ?_
 rintro e w' ⟨rfl, hd⟩
 exact ⟨rfl, hd⟩

end Go.Proofs.Ytlnboodobmbcjaa.Print
