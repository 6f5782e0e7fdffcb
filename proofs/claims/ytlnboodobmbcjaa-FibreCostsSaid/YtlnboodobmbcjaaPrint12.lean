-- Written by wip/tools/myprint.py out of the translation. Not trusted: Lean checks it.
import Derived.Test.YtlnboodobmbcjaaPrint0
import Derived.Test.YtlnboodobmbcjaaPrint5
import Derived.Test.YtlnboodobmbcjaaPrint6
namespace Go.Proofs.Ytlnboodobmbcjaa.Print
open Go.RowKit Go.Proofs.YtlnboodobmbcjaaW.PrintWords Go.Proofs.YtlnboodobmbcjaaW.PrintLast Go.Proofs.YtlnboodobmbcjaaW.PrintMore
attribute [local go_sem] max2_int min2_int max_two min_two max_three min_three max_four min_four   -- for this text's walks alone
set_option linter.unusedVariables false
set_option linter.unusedSimpArgs false

/-! ### fibre_Near: function 25 -/
mutual
def fibre_Near.j0 : Nat → List Int → List Int → Int → Bool → Option (Bool × Int)
 | 0, _, _, _, _ => none
 | k + 1, x0, x1, x2, x33 => if x33 = true then (some (false, 1)) else ((fibre_sum.f k x0).bind fun t161 => (if t161 = 0 then (some (false, 10)) else (fibre_Near.l0 k x1 x2 t161 x0 (x0.length : Int) 0)))
def fibre_Near.l0 : Nat → List Int → Int → Int → List Int → Int → Int → Option (Bool × Int)
 | 0, _, _, _, _, _, _ => none
 | k + 1, x1, x2, x10, x38, x39, x40 => if x40 < x39 then (if 0 ≤ x40 then (if x40 < (x38.length : Int) then (if x40 < (x1.length : Int) then (if (mx (wrap64 ((wrap64 (1000 * (rd x38 x40))) - (wrap64 ((rd x1 x40) * x10)))) (wrap64 (-(wrap64 ((wrap64 (1000 * (rd x38 x40))) - (wrap64 ((rd x1 x40) * x10))))))) > (wrap64 (x2 * x10)) then (some (false, 0)) else (fibre_Near.l0 k x1 x2 x10 x38 x39 (wrap64 (x40 + 1)))) else (none)) else (none)) else (none)) else (some (true, 0))
end
def fibre_Near.f (k : Nat) (l0 : List Int) (l1 : List Int) (a2 : Int) : Option (Bool × Int) := (fibre_Recipe.f k l1 (l1.length : Int)).bind fun t159 => (if t159 = 0 then ((fibre_Parts.f k l0 (l1.length : Int)).bind fun t160 => (if t160 = 0 then (if a2 < 0 then (fibre_Near.j0 k l0 l1 a2 true) else (fibre_Near.j0 k l0 l1 a2 (decide (a2 > 1000)))) else (some (false, t160)))) else (some (false, t159)))
theorem fibre_Near.mono_l : ∀ k, (∀ y0 y1 y2 y3, LeO (fibre_Near.j0 k y0 y1 y2 y3) (fibre_Near.j0 (k + 1) y0 y1 y2 y3)) ∧ (∀ y0 y1 y2 y3 y4 y5, LeO (fibre_Near.l0 k y0 y1 y2 y3 y4 y5) (fibre_Near.l0 (k + 1) y0 y1 y2 y3 y4 y5))
 | 0 => ⟨fun _ _ _ _ r h => by simp [fibre_Near.j0] at h, fun _ _ _ _ _ _ r h => by simp [fibre_Near.l0] at h⟩
 | k + 1 => by
  obtain ⟨ih0, ih1⟩ := fibre_Near.mono_l k
  refine ⟨?_, ?_⟩
  ·intro y0 y1 y2 y3
   unfold fibre_Near.j0
   repeat' first
   | (with_reducible exact ih0 _ _ _ _)
   | (with_reducible exact ih1 _ _ _ _ _ _)
   | (with_reducible exact fibre_Parts.mono _ _ _)
   | (with_reducible exact fibre_Recipe.mono _ _ _)
   | (with_reducible exact fibre_sum.mono _ _)
   | (with_reducible exact LeO.refl _)
   | (with_reducible exact LeO.none _)
   | (with_reducible refine LeO.ite ?_ ?_)
   | (with_reducible refine LeO.bind ?_ (fun _ => ?_))
   | exact ih0 _ _ _ _
   | exact ih1 _ _ _ _ _ _
   | exact fibre_Parts.mono _ _ _
   | exact fibre_Recipe.mono _ _ _
   | exact fibre_sum.mono _ _
   | exact LeO.none _
   | refine LeO.ite ?_ ?_
   | refine LeO.bind ?_ (fun _ => ?_)
  ·intro y0 y1 y2 y3 y4 y5
   unfold fibre_Near.l0
   repeat' first
   | (with_reducible exact ih0 _ _ _ _)
   | (with_reducible exact ih1 _ _ _ _ _ _)
   | (with_reducible exact fibre_Parts.mono _ _ _)
   | (with_reducible exact fibre_Recipe.mono _ _ _)
   | (with_reducible exact fibre_sum.mono _ _)
   | (with_reducible exact LeO.refl _)
   | (with_reducible exact LeO.none _)
   | (with_reducible refine LeO.ite ?_ ?_)
   | (with_reducible refine LeO.bind ?_ (fun _ => ?_))
   | exact ih0 _ _ _ _
   | exact ih1 _ _ _ _ _ _
   | exact fibre_Parts.mono _ _ _
   | exact fibre_Recipe.mono _ _ _
   | exact fibre_sum.mono _ _
   | exact LeO.none _
   | refine LeO.ite ?_ ?_
   | refine LeO.bind ?_ (fun _ => ?_)
theorem fibre_Near.mono : ∀ a0 a1 a2 k, LeO (fibre_Near.f k a0 a1 a2) (fibre_Near.f (k + 1) a0 a1 a2) := by
 intro a0 a1 a2 k
 obtain ⟨ih0, ih1⟩ := fibre_Near.mono_l k
 unfold fibre_Near.f
 repeat' first
   | (with_reducible exact ih0 _ _ _ _)
   | (with_reducible exact ih1 _ _ _ _ _ _)
   | (with_reducible exact fibre_Parts.mono _ _ _)
   | (with_reducible exact fibre_Recipe.mono _ _ _)
   | (with_reducible exact fibre_sum.mono _ _)
   | (with_reducible exact LeO.refl _)
   | (with_reducible exact LeO.none _)
   | (with_reducible refine LeO.ite ?_ ?_)
   | (with_reducible refine LeO.bind ?_ (fun _ => ?_))
   | exact ih0 _ _ _ _
   | exact ih1 _ _ _ _ _ _
   | exact fibre_Parts.mono _ _ _
   | exact fibre_Recipe.mono _ _ _
   | exact fibre_sum.mono _ _
   | exact LeO.none _
   | refine LeO.ite ?_ ?_
   | refine LeO.bind ?_ (fun _ => ?_)
set_option maxHeartbeats 8000000 in
set_option maxRecDepth 100000 in
theorem fibre_Near.calls (k : Nat) (A0 : Option Addr) (c0 : Nat) (l0 : List Int) (A1 : Option Addr) (c1 : Nat) (l1 : List Int) (a2 : Int) (r1 : Bool) (r2 : Int) (w : World) (hr0 : Kd.C (Kd.int .i64) w A0 l0.length l0) (hc0 : l0.length ≤ c0) (hr1 : Kd.C (Kd.int .i64) w A1 l1.length l1) (hc1 : l1.length ≤ c1) (h : fibre_Near.f k l0 l1 a2 = some (r1, r2)) :
  Calls Try.prog 25 #[.slice A0 l0.length c0, .slice A1 l1.length c1, .int .i64 a2] w fun e w' => e = .returned (.tuple #[.bool r1, .int .i64 r2]) ∧ Below w.heap.size w w' := by
 have HR0 := Aside0.mk hr0
 have HC0 := Aside0.mk hc0
 clear hr0 hc0
 have HR1 := Aside0.mk hr1
 have HC1 := Aside0.mk hc1
 clear hr1 hc1
 have HB := Aside0.mk (Below.refl w.heap.size w)
 have H : ((fibre_Recipe.f k l1 (l1.length : Int)).bind fun t159 => (if t159 = 0 then ((fibre_Parts.f k l0 (l1.length : Int)).bind fun t160 => (if t160 = 0 then (if a2 < 0 then (fibre_Near.j0 k l0 l1 a2 true) else (fibre_Near.j0 k l0 l1 a2 (decide (a2 > 1000)))) else (some (false, t160)))) else (some (false, t159)))) = some (r1, r2) := h
 clear h
 replace H := Option.bind_eq_some_iff.mp H
 obtain ⟨t159, A40, H⟩ := H
 replace H : (if t159 = 0 then ((fibre_Parts.f k l0 (l1.length : Int)).bind fun t160 => (if t160 = 0 then (if a2 < 0 then (fibre_Near.j0 k l0 l1 a2 true) else (fibre_Near.j0 k l0 l1 a2 (decide (a2 > 1000)))) else (some (false, t160)))) else (some (false, t159))) = some (r1, r2) := H
 have A4 := Aside0.mk A40
 clear A40
 by_cases c5 : t159 = 0
 ·rw [if_pos c5] at H
  have c5b0 : (t159 == 0) = true := beq_iff_eq.mpr c5
  have c5b1 : (t159 != 0) = false := bne_eq_false_iff_eq.mpr c5
  clear c5
  replace H := Option.bind_eq_some_iff.mp H
  obtain ⟨t160, A60, H⟩ := H
  replace H : (if t160 = 0 then (if a2 < 0 then (fibre_Near.j0 k l0 l1 a2 true) else (fibre_Near.j0 k l0 l1 a2 (decide (a2 > 1000)))) else (some (false, t160))) = some (r1, r2) := H
  have A6 := Aside0.mk A60
  clear A60
  by_cases c7 : t160 = 0
  ·rw [if_pos c7] at H
   have c7b0 : (t160 == 0) = true := beq_iff_eq.mpr c7
   have c7b1 : (t160 != 0) = false := bne_eq_false_iff_eq.mpr c7
   clear c7
   have HC8 := Aside0.mk H
   clear H
   go_enter Try.func25, Try.ntmps25
   go_upto_region 7 with (first | ((with_reducible refine gate_callee (f := 16) rfl ?_); refine goesL_ (some 17) rfl rfl Try.func16 (by kernel_rfl) rfl #[.slice A1 l1.length c1, .int .i64 (l1.length : Int)] rfl mA ?_; (with_reducible refine (fibre_Recipe.calls k _ _ l1 (l1.length : Int) t159 _ ?side1 ?side2 A4.out).mono ?_); (case side1 => repeat (first | exact HR1.out | (with_reducible refine Kd.C_alloc ?_ _) | (with_reducible refine Kd.C_drewN ?_ _) | (with_reducible refine Kd.C_drew ?_))); (case side2 => exact HC1.out); rintro e w9 ⟨rfl, hb⟩; refine ⟨_, rfl, ?_⟩; replace HB := Aside0.mk (below_step pB hb); (try clear hb); (try clear hb2); (try clear hk); (try clear hi)) | ((with_reducible refine gate_callee (f := 18) rfl ?_); refine goesL_ (some 24) rfl rfl Try.func18 (by kernel_rfl) rfl #[.slice A0 l0.length c0, .int .i64 (l1.length : Int)] rfl mA ?_; (with_reducible refine (fibre_Parts.calls k _ _ l0 (l1.length : Int) t160 _ ?side1 ?side2 A6.out).mono ?_); (case side1 => repeat (first | exact (Kd.C_below HR0.out HB.out) | (with_reducible refine Kd.C_alloc ?_ _) | (with_reducible refine Kd.C_drewN ?_ _) | (with_reducible refine Kd.C_drew ?_))); (case side2 => exact HC0.out); rintro e w10 ⟨rfl, hb⟩; refine ⟨_, rfl, ?_⟩; replace HB := Aside0.mk (below_step pB hb); (try clear hb); (try clear hb2); (try clear hk); (try clear hi)))
   (try simp only [Act.put, List.setIfInBounds_toArray, List.set_cons_zero, List.set_cons_succ])
   go_cut [33] (fun v33 wc => ∃ (kq : Nat) (x33_7 : Bool), v33 = .bool x33_7 ∧ Aside0 (fibre_Near.j0 kq l0 l1 a2 x33_7 = some (r1, r2)) ∧ Aside0 (kq ≤ k) ∧ Aside0 (Below w.heap.size w wc))
   case first =>
    have H := HC8.out
    clear HC8
    by_cases c11 : a2 < 0
    ·rw [if_pos c11] at H
     have c11b0 : decide (a2 < 0) = true := decide_eq_true c11
     clear c11
     (first | rw [c11b0] | (simp only [i64_w, i32_w]; rw [c11b0]) | skip)
     have H' := Aside0.mk H
     clear H
     go_wp2
     go_meet
     case rel => exact ⟨_, (true), (by first | rfl | (simp; done) | (simp [*]; done)), H', ⟨by first | omega | exact Nat.le_refl _⟩, ⟨pB⟩⟩
    ·rw [if_neg c11] at H
     have c11b0 : decide (a2 < 0) = false := decide_eq_false c11
     clear c11
     (first | rw [c11b0] | (simp only [i64_w, i32_w]; rw [c11b0]) | skip)
     have H' := Aside0.mk H
     clear H
     go_wp2
     go_meet
     case rel => exact ⟨_, (decide (a2 > 1000)), (by first | rfl | (simp; done) | (simp [*]; done)), H', ⟨by first | omega | exact Nat.le_refl _⟩, ⟨pB⟩⟩
   case rest =>
    clear HC8
    try clear c1
    try clear c2
    try clear p2
    try clear c5
    try clear c5b0
    try clear c5b1
    try clear c7
    try clear c7b0
    try clear c7b1
    try clear c11
    try clear c11b0
    obtain ⟨kq, x33_7, rfl, HA, HJ7, HB⟩ := hcut
    cases kq with
    | zero => exact absurd HA.out (by simp [fibre_Near.j0])
    | succ kj7 =>
     have H := HA.out
     clear HA
     simp only [fibre_Near.j0] at H
     by_cases c12 : x33_7 = true
     ·subst c12
      have H1 : (some (false, 1)) = some (r1, r2) := by rw [if_pos rfl] at H; exact H
      clear H
      have H := H1
      clear H1
      simp only [Option.some.injEq, Prod.mk.injEq] at H
      obtain ⟨rfl, rfl⟩ := H
      go_wp2
      go_ret2
      exact ⟨by first | rfl | (simp [errW_none, errW_some] <;> rfl) | (simp [*, errW_none, errW_some] <;> rfl), pB⟩
     ·replace c12 := Bool.eq_false_iff.mpr c12
      subst c12
      have H1 : ((fibre_sum.f kj7 l0).bind fun t161 => (if t161 = 0 then (some (false, 10)) else (fibre_Near.l0 kj7 l1 a2 t161 l0 (l0.length : Int) 0))) = some (r1, r2) := by rw [if_neg (show ¬ (false = true) by decide)] at H; exact H
      clear H
      have H := H1
      clear H1
      replace H := Option.bind_eq_some_iff.mp H
      obtain ⟨t161, A130, H⟩ := H
      replace H : (if t161 = 0 then (some (false, 10)) else (fibre_Near.l0 kj7 l1 a2 t161 l0 (l0.length : Int) 0)) = some (r1, r2) := H
      have A13 := Aside0.mk A130
      clear A130
      by_cases c14 : t161 = 0
      ·rw [if_pos c14] at H
       have c14b0 : (t161 == 0) = true := beq_iff_eq.mpr c14
       have c14b1 : (t161 != 0) = false := bne_eq_false_iff_eq.mpr c14
       clear c14
       simp only [Option.some.injEq, Prod.mk.injEq] at H
       obtain ⟨rfl, rfl⟩ := H
       go_wp2_with (first | ((with_reducible refine gate_callee (f := 37) rfl ?_); refine goesL_ (some 35) rfl rfl Try.func37 (by kernel_rfl) rfl #[.slice A0 l0.length c0] rfl mA ?_; (with_reducible refine (fibre_sum.calls kj7 _ _ l0 t161 _ ?side1 ?side2 A13.out).mono ?_); (case side1 => repeat (first | exact (Kd.C_below HR0.out HB.out) | (with_reducible refine Kd.C_alloc ?_ _) | (with_reducible refine Kd.C_drewN ?_ _) | (with_reducible refine Kd.C_drew ?_))); (case side2 => exact HC0.out); rintro e w' ⟨rfl, ⟨nd, rfl⟩⟩; refine ⟨_, rfl, ?_⟩))
       go_ret2
       exact ⟨by first | rfl | (simp [errW_none, errW_some] <;> rfl) | (simp [*, errW_none, errW_some] <;> rfl), pB⟩
      ·rw [if_neg c14] at H
       have c14b0 : (t161 == 0) = false := beq_eq_false_iff_ne.mpr c14
       have c14b1 : (t161 != 0) = true := bne_iff_ne.mpr c14
       have H' := Aside0.mk H
       clear H
       go_wp2_with (first | ((with_reducible refine gate_callee (f := 37) rfl ?_); refine goesL_ (some 35) rfl rfl Try.func37 (by kernel_rfl) rfl #[.slice A0 l0.length c0] rfl mA ?_; (with_reducible refine (fibre_sum.calls kj7 _ _ l0 t161 _ ?side1 ?side2 A13.out).mono ?_); (case side1 => repeat (first | exact (Kd.C_below HR0.out HB.out) | (with_reducible refine Kd.C_alloc ?_ _) | (with_reducible refine Kd.C_drewN ?_ _) | (with_reducible refine Kd.C_drew ?_))); (case side2 => exact HC0.out); rintro e w' ⟨rfl, ⟨nd, rfl⟩⟩; refine ⟨_, rfl, ?_⟩))
       try simp only [Act.put, List.setIfInBounds_toArray, List.set_cons_zero, List.set_cons_succ]
       go_loopg [40] kj7 (fun kq v40 w' => ∃ (x40_2 : Int), v40 = .int .i64 x40_2 ∧ Aside0 (fibre_Near.l0 kq l1 a2 t161 l0 (l0.length : Int) x40_2 = some (r1, r2)) ∧ Aside0 (kq ≤ kj7) ∧ Aside0 (Below w.heap.size w w'))
       case atStart => exact ⟨(0), (by first | rfl | (simp; done) | (simp [*]; done)), H', ⟨Nat.le_refl _⟩, ⟨pB⟩⟩
       case round =>
        clear H'
        try clear c1
        try clear c2
        try clear p2
        try clear c3
        try clear c5
        try clear c5b0
        try clear c5b1
        try clear c7
        try clear c7b0
        try clear c7b1
        try clear c11
        try clear c11b0
        try clear c12
        try clear c14
        try clear c14b0
        try clear c14b1
        try clear p2
        obtain ⟨x40_2, rfl, HA, HK2, HB⟩ := hrel
        cases gk with
        | zero => exact absurd HA.out (by simp [fibre_Near.l0])
        | succ k2 =>
         have H := HA.out
         clear HA
         simp only [fibre_Near.l0] at H
         by_cases c15 : x40_2 < (l0.length : Int)
         ·rw [if_pos c15] at H
          have c15b0 : decide (x40_2 < (l0.length : Int)) = true := decide_eq_true c15
          clear c15
          by_cases c16 : 0 ≤ x40_2
          ·rw [if_pos c16] at H
           have c16b0 : decide (0 ≤ x40_2) = true := decide_eq_true c16
           clear c16
           by_cases c17 : x40_2 < (l0.length : Int)
           ·rw [if_pos c17] at H
            have c17b0 : decide (x40_2 < (l0.length : Int)) = true := decide_eq_true c17
            clear c17
            by_cases c18 : x40_2 < (l1.length : Int)
            ·rw [if_pos c18] at H
             have c18b0 : decide (x40_2 < (l1.length : Int)) = true := decide_eq_true c18
             clear c18
             obtain ⟨ji19, hji19⟩ : ∃ j_ : Int, (mx (wrap64 ((wrap64 (1000 * (rd l0 x40_2))) - (wrap64 ((rd l1 x40_2) * t161)))) (wrap64 (-(wrap64 ((wrap64 (1000 * (rd l0 x40_2))) - (wrap64 ((rd l1 x40_2) * t161))))))) = j_ := ⟨_, rfl⟩
             replace H : (if (ji19) > (wrap64 (a2 * t161)) then (some (false, 0)) else (fibre_Near.l0 k2 l1 a2 t161 l0 (l0.length : Int) (wrap64 (x40_2 + 1)))) = some (r1, r2) := by first | (rw [hji19] at H; exact H) | (simp only [hji19] at H ⊢; exact H)
             have hji19_ : (if (wrap64 ((wrap64 (1000 * (rd l0 x40_2))) - (wrap64 ((rd l1 x40_2) * t161)))) < (wrap64 (-(wrap64 ((wrap64 (1000 * (rd l0 x40_2))) - (wrap64 ((rd l1 x40_2) * t161)))))) then (wrap64 (-(wrap64 ((wrap64 (1000 * (rd l0 x40_2))) - (wrap64 ((rd l1 x40_2) * t161)))))) else (wrap64 ((wrap64 (1000 * (rd l0 x40_2))) - (wrap64 ((rd l1 x40_2) * t161))))) = ji19 := hji19
             by_cases c20 : (ji19) > (wrap64 (a2 * t161))
             ·rw [if_pos c20] at H
              have c20b0 : decide ((wrap64 (a2 * t161)) < (ji19)) = true := decide_eq_true c20
              have c20b0w : decide ((IntKind.i64.wrap (a2 * t161)) < (ji19)) = true := by have h_ := c20b0; first | exact h_ | (simp only [i64_w]; exact h_)
              clear c20
              simp only [Option.some.injEq, Prod.mk.injEq] at H
              obtain ⟨rfl, rfl⟩ := H
              have p162 : 0 ≤ (x40_2 : Int) := of_decide_eq_true (by first | (with_reducible assumption) | assumption)
              have q162 : x40_2 < (l0.length : Int) := of_decide_eq_true (by first | (with_reducible assumption) | assumption)
              obtain ⟨ad162, e162, hx162_0⟩ := Kd.at_int HR0.out x40_2 p162 q162
              cases e162
              replace hx162_0 := (HB.out.cell (World.block_lt_of_cell? w _ hx162_0)).trans hx162_0
              replace p162 := eq_true p162
              replace q162 := eq_true q162
              have p163 : 0 ≤ (x40_2 : Int) := of_decide_eq_true (by first | (with_reducible assumption) | assumption)
              have q163 : x40_2 < (l1.length : Int) := of_decide_eq_true (by first | (with_reducible assumption) | assumption)
              obtain ⟨ad163, e163, hx163_0⟩ := Kd.at_int HR1.out x40_2 p163 q163
              cases e163
              replace hx163_0 := (HB.out.cell (World.block_lt_of_cell? w _ hx163_0)).trans hx163_0
              replace p163 := eq_true p163
              replace q163 := eq_true q163
              go_wp2
              go_ret2
              exact ⟨by first | rfl | (simp [errW_none, errW_some] <;> rfl) | (simp only [← hji19]; first | rfl | (simp [errW_none, errW_some] <;> rfl)) | (simp [*, errW_none, errW_some] <;> rfl), pB⟩
             ·rw [if_neg c20] at H
              have c20b0 : decide ((wrap64 (a2 * t161)) < (ji19)) = false := decide_eq_false c20
              have c20b0w : decide ((IntKind.i64.wrap (a2 * t161)) < (ji19)) = false := by have h_ := c20b0; first | exact h_ | (simp only [i64_w]; exact h_)
              clear c20
              have H' := Aside0.mk H
              clear H
              have p162 : 0 ≤ (x40_2 : Int) := of_decide_eq_true (by first | (with_reducible assumption) | assumption)
              have q162 : x40_2 < (l0.length : Int) := of_decide_eq_true (by first | (with_reducible assumption) | assumption)
              obtain ⟨ad162, e162, hx162_0⟩ := Kd.at_int HR0.out x40_2 p162 q162
              cases e162
              replace hx162_0 := (HB.out.cell (World.block_lt_of_cell? w _ hx162_0)).trans hx162_0
              replace p162 := eq_true p162
              replace q162 := eq_true q162
              have p163 : 0 ≤ (x40_2 : Int) := of_decide_eq_true (by first | (with_reducible assumption) | assumption)
              have q163 : x40_2 < (l1.length : Int) := of_decide_eq_true (by first | (with_reducible assumption) | assumption)
              obtain ⟨ad163, e163, hx163_0⟩ := Kd.at_int HR1.out x40_2 p163 q163
              cases e163
              replace hx163_0 := (HB.out.cell (World.block_lt_of_cell? w _ hx163_0)).trans hx163_0
              replace p163 := eq_true p163
              replace q163 := eq_true q163
              go_wp2
              go_roundg k2
              case measure => have := HJ7.out; have := HK2.out; omega
              case rel => exact ⟨(wrap64 (x40_2 + 1)), (by first | rfl | (simp; done) | (simp [*]; done)), H', ⟨by have := HJ7.out; have := HK2.out; omega⟩, ⟨pB⟩⟩
            ·rw [if_neg c18] at H
             exact absurd H (by simp)
           ·rw [if_neg c17] at H
            exact absurd H (by simp)
          ·rw [if_neg c16] at H
           exact absurd H (by simp)
         ·rw [if_neg c15] at H
          have c15b0 : decide (x40_2 < (l0.length : Int)) = false := decide_eq_false c15
          clear c15
          simp only [Option.some.injEq, Prod.mk.injEq] at H
          obtain ⟨rfl, rfl⟩ := H
          go_wp2
          go_ret2
          exact ⟨by first | rfl | (simp [errW_none, errW_some] <;> rfl) | (simp [*, errW_none, errW_some] <;> rfl), pB⟩
  ·rw [if_neg c7] at H
   have c7b0 : (t160 == 0) = false := beq_eq_false_iff_ne.mpr c7
   have c7b1 : (t160 != 0) = true := bne_iff_ne.mpr c7
   simp only [Option.some.injEq, Prod.mk.injEq] at H
   obtain ⟨rfl, rfl⟩ := H
   go_enter Try.func25, Try.ntmps25
   go_wp2_with (first | ((with_reducible refine gate_callee (f := 16) rfl ?_); refine goesL_ (some 17) rfl rfl Try.func16 (by kernel_rfl) rfl #[.slice A1 l1.length c1, .int .i64 (l1.length : Int)] rfl mA ?_; (with_reducible refine (fibre_Recipe.calls k _ _ l1 (l1.length : Int) t159 _ ?side1 ?side2 A4.out).mono ?_); (case side1 => repeat (first | exact HR1.out | (with_reducible refine Kd.C_alloc ?_ _) | (with_reducible refine Kd.C_drewN ?_ _) | (with_reducible refine Kd.C_drew ?_))); (case side2 => exact HC1.out); rintro e w21 ⟨rfl, hb⟩; refine ⟨_, rfl, ?_⟩; replace HB := Aside0.mk (below_step pB hb); (try clear hb); (try clear hb2); (try clear hk); (try clear hi)) | ((with_reducible refine gate_callee (f := 18) rfl ?_); refine goesL_ (some 24) rfl rfl Try.func18 (by kernel_rfl) rfl #[.slice A0 l0.length c0, .int .i64 (l1.length : Int)] rfl mA ?_; (with_reducible refine (fibre_Parts.calls k _ _ l0 (l1.length : Int) t160 _ ?side1 ?side2 A6.out).mono ?_); (case side1 => repeat (first | exact (Kd.C_below HR0.out HB.out) | (with_reducible refine Kd.C_alloc ?_ _) | (with_reducible refine Kd.C_drewN ?_ _) | (with_reducible refine Kd.C_drew ?_))); (case side2 => exact HC0.out); rintro e w22 ⟨rfl, hb⟩; refine ⟨_, rfl, ?_⟩; replace HB := Aside0.mk (below_step pB hb); (try clear hb); (try clear hb2); (try clear hk); (try clear hi)))
   go_ret2
   exact ⟨by first | rfl | (simp [errW_none, errW_some] <;> rfl) | (simp [*, errW_none, errW_some] <;> rfl), pB⟩
 ·rw [if_neg c5] at H
  have c5b0 : (t159 == 0) = false := beq_eq_false_iff_ne.mpr c5
  have c5b1 : (t159 != 0) = true := bne_iff_ne.mpr c5
  simp only [Option.some.injEq, Prod.mk.injEq] at H
  obtain ⟨rfl, rfl⟩ := H
  go_enter Try.func25, Try.ntmps25
  go_wp2_with (first | ((with_reducible refine gate_callee (f := 16) rfl ?_); refine goesL_ (some 17) rfl rfl Try.func16 (by kernel_rfl) rfl #[.slice A1 l1.length c1, .int .i64 (l1.length : Int)] rfl mA ?_; (with_reducible refine (fibre_Recipe.calls k _ _ l1 (l1.length : Int) t159 _ ?side1 ?side2 A4.out).mono ?_); (case side1 => repeat (first | exact HR1.out | (with_reducible refine Kd.C_alloc ?_ _) | (with_reducible refine Kd.C_drewN ?_ _) | (with_reducible refine Kd.C_drew ?_))); (case side2 => exact HC1.out); rintro e w23 ⟨rfl, hb⟩; refine ⟨_, rfl, ?_⟩; replace HB := Aside0.mk (below_step pB hb); (try clear hb); (try clear hb2); (try clear hk); (try clear hi)))
  go_ret2
  exact ⟨by first | rfl | (simp [errW_none, errW_some] <;> rfl) | (simp [*, errW_none, errW_some] <;> rfl), pB⟩

-- NOT PRINTED: function 64 (slices_IndexFunc_int_int)

-- NOT PRINTED: function 60 (slices_ContainsFunc_int_int)

/-! ### share_check_1: function 61 -/
def share_check_1.f (a0 : Int) : Option (Bool) := if a0 < 0 then (some true) else (some (decide (a0 > 1125899906842624)))
set_option maxHeartbeats 8000000 in
set_option maxRecDepth 100000 in
theorem share_check_1.calls (a0 : Int) (r : Bool) (w : World) (h : share_check_1.f a0 = some r) :
  Calls Try.prog 61 #[.int .i64 a0] w fun e w' => e = .returned (.bool r) ∧ Drawn0 w w' := by
 have H : (if a0 < 0 then (some true) else (some (decide (a0 > 1125899906842624)))) = some r := h
 clear h
 by_cases c2 : a0 < 0
 ·rw [if_pos c2] at H
  have c2b0 : decide (a0 < 0) = true := decide_eq_true c2
  clear c2
  obtain rfl := Option.some.inj H
  go_enter Try.func61, Try.ntmps61
  go_wp2
  go_ret
  exact ⟨by first | rfl | (simp; done) | (simp [*]; done), by repeat (first | exact Drawn0.refl _ | apply Drawn0.step)⟩
 ·rw [if_neg c2] at H
  have c2b0 : decide (a0 < 0) = false := decide_eq_false c2
  clear c2
  obtain rfl := Option.some.inj H
  go_enter Try.func61, Try.ntmps61
  go_wp2
  go_ret
  exact ⟨by first | rfl | (simp; done) | (simp [*]; done), by repeat (first | exact Drawn0.refl _ | apply Drawn0.step)⟩

end Go.Proofs.Ytlnboodobmbcjaa.Print
