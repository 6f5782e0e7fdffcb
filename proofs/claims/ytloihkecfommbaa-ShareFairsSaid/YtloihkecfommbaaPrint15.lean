-- Written by wip/tools/myprint.py out of the translation. Not trusted: Lean checks it.
import Derived.Test.YtloihkecfommbaaPrint0
import Derived.Test.YtloihkecfommbaaPrint11
import Derived.Test.YtloihkecfommbaaPrint12
import Derived.Test.YtloihkecfommbaaPrint14
namespace Go.Proofs.Ytloihkecfommbaa.Print
open Go.RowKit Go.Proofs.YtloihkecfommbaaW.PrintWords Go.Proofs.YtloihkecfommbaaW.PrintLast Go.Proofs.YtloihkecfommbaaW.PrintMore
attribute [local go_sem] max2_int min2_int max_two min_two max_three min_three max_four min_four   -- for this text's walks alone
set_option linter.unusedVariables false
set_option linter.unusedSimpArgs false

/-! ### papermilllaw12_awake: function 9 -/
def papermilllaw12_awake.j0 : Nat → List Int → List Int → List Int → List Int → Bool → Option (Bool)
 | 0, _, _, _, _, _ => none
 | k + 1, x1, x3, x5, x7, x53 => if x53 = true then (none) else ((papermillref12_Same.f k x1 (([3, 1] : List Int))).bind fun t287 => (if t287 = true then ((papermillref12_Same.f k x3 (([4, 3, 3] : List Int))).bind fun t291 => (if t291 = true then ((papermillref12_Same.f k x5 (([3, 6, 10] : List Int))).bind fun t295 => (if t295 = true then ((papermillref12_Same.f k x7 (([0, 0] : List Int))).bind fun t299 => (if t299 = true then ((share_Fair.f k (([3, 1] : List Int)) (([10, 5] : List Int))).bind fun t306 => (if t306 = true then ((share_Fair.f k (([2, 2] : List Int)) (([10, 5] : List Int))).bind fun t313 => (some (!t313))) else (none))) else (none))) else (none))) else (none))) else (none)))
def papermilllaw12_awake.f (k : Nat)  : Option (Bool) := (share_Split.f k 4 (([10, 5] : List Int))).bind fun bt252 => ((share_Split.f k 10 (([1, 1, 1] : List Int))).bind fun bt259 => ((share_Bounds.f k 10 (([1, 1, 1] : List Int))).bind fun bt266 => ((share_Split.f k 0 (([0, 0] : List Int))).bind fun bt273 => ((share_Split.f k 1 (([0, 0] : List Int))).bind fun bt280 => (if bt252.2 = 0 then (if bt259.2 = 0 then (if bt266.2 = 0 then (if bt273.2 = 0 then (papermilllaw12_awake.j0 k bt252.1 bt259.1 bt266.1 bt273.1 (bt280.2 != 16)) else (papermilllaw12_awake.j0 k bt252.1 bt259.1 bt266.1 bt273.1 true)) else (papermilllaw12_awake.j0 k bt252.1 bt259.1 bt266.1 bt273.1 true)) else (papermilllaw12_awake.j0 k bt252.1 bt259.1 bt266.1 bt273.1 true)) else (papermilllaw12_awake.j0 k bt252.1 bt259.1 bt266.1 bt273.1 true))))))
theorem papermilllaw12_awake.mono_l : ∀ k, (∀ y0 y1 y2 y3 y4, LeO (papermilllaw12_awake.j0 k y0 y1 y2 y3 y4) (papermilllaw12_awake.j0 (k + 1) y0 y1 y2 y3 y4))
 | 0 => fun _ _ _ _ _ r h => by simp [papermilllaw12_awake.j0] at h
 | k + 1 => by
  have ih0 := papermilllaw12_awake.mono_l k
  ·intro y0 y1 y2 y3 y4
   unfold papermilllaw12_awake.j0
   repeat' first
   | (with_reducible exact ih0 _ _ _ _ _)
   | (with_reducible exact papermillref12_Same.mono _ _ _)
   | (with_reducible exact share_Bounds.mono _ _ _)
   | (with_reducible exact share_Fair.mono _ _ _)
   | (with_reducible exact share_Split.mono _ _ _)
   | (with_reducible exact LeO.refl _)
   | (with_reducible exact LeO.none _)
   | (with_reducible refine LeO.ite ?_ ?_)
   | (with_reducible refine LeO.bind ?_ (fun _ => ?_))
   | exact ih0 _ _ _ _ _
   | exact papermillref12_Same.mono _ _ _
   | exact share_Bounds.mono _ _ _
   | exact share_Fair.mono _ _ _
   | exact share_Split.mono _ _ _
   | exact LeO.none _
   | refine LeO.ite ?_ ?_
   | refine LeO.bind ?_ (fun _ => ?_)
theorem papermilllaw12_awake.mono : ∀ k, LeO (papermilllaw12_awake.f k ) (papermilllaw12_awake.f (k + 1) ) := by
 intro  k
 have ih0 := papermilllaw12_awake.mono_l k
 unfold papermilllaw12_awake.f
 repeat' first
   | (with_reducible exact ih0 _ _ _ _ _)
   | (with_reducible exact papermillref12_Same.mono _ _ _)
   | (with_reducible exact share_Bounds.mono _ _ _)
   | (with_reducible exact share_Fair.mono _ _ _)
   | (with_reducible exact share_Split.mono _ _ _)
   | (with_reducible exact LeO.refl _)
   | (with_reducible exact LeO.none _)
   | (with_reducible refine LeO.ite ?_ ?_)
   | (with_reducible refine LeO.bind ?_ (fun _ => ?_))
   | exact ih0 _ _ _ _ _
   | exact papermillref12_Same.mono _ _ _
   | exact share_Bounds.mono _ _ _
   | exact share_Fair.mono _ _ _
   | exact share_Split.mono _ _ _
   | exact LeO.none _
   | refine LeO.ite ?_ ?_
   | refine LeO.bind ?_ (fun _ => ?_)
set_option maxHeartbeats 8000000 in
set_option maxRecDepth 100000 in
theorem papermilllaw12_awake.calls (k : Nat)  (r : Bool) (w : World) (h : papermilllaw12_awake.f k  = some r) :
  Calls Try.prog 9 #[] w fun e w' => e = .returned (.bool r) ∧ Below w.heap.size w w' := by
 have HB := Aside0.mk (Below.refl w.heap.size w)
 have H : ((share_Split.f k 4 (([10, 5] : List Int))).bind fun bt252 => ((share_Split.f k 10 (([1, 1, 1] : List Int))).bind fun bt259 => ((share_Bounds.f k 10 (([1, 1, 1] : List Int))).bind fun bt266 => ((share_Split.f k 0 (([0, 0] : List Int))).bind fun bt273 => ((share_Split.f k 1 (([0, 0] : List Int))).bind fun bt280 => (if bt252.2 = 0 then (if bt259.2 = 0 then (if bt266.2 = 0 then (if bt273.2 = 0 then (papermilllaw12_awake.j0 k bt252.1 bt259.1 bt266.1 bt273.1 (bt280.2 != 16)) else (papermilllaw12_awake.j0 k bt252.1 bt259.1 bt266.1 bt273.1 true)) else (papermilllaw12_awake.j0 k bt252.1 bt259.1 bt266.1 bt273.1 true)) else (papermilllaw12_awake.j0 k bt252.1 bt259.1 bt266.1 bt273.1 true)) else (papermilllaw12_awake.j0 k bt252.1 bt259.1 bt266.1 bt273.1 true))))))) = some r := h
 clear h
 obtain ⟨y249, hy249⟩ : ∃ y_ : List Int, y_ = (([10, 5] : List Int)) := ⟨_, rfl⟩
 replace H : ((share_Split.f k 4 y249).bind fun bt252 => ((share_Split.f k 10 (([1, 1, 1] : List Int))).bind fun bt259 => ((share_Bounds.f k 10 (([1, 1, 1] : List Int))).bind fun bt266 => ((share_Split.f k 0 (([0, 0] : List Int))).bind fun bt273 => ((share_Split.f k 1 (([0, 0] : List Int))).bind fun bt280 => (if bt252.2 = 0 then (if bt259.2 = 0 then (if bt266.2 = 0 then (if bt273.2 = 0 then (papermilllaw12_awake.j0 k bt252.1 bt259.1 bt266.1 bt273.1 (bt280.2 != 16)) else (papermilllaw12_awake.j0 k bt252.1 bt259.1 bt266.1 bt273.1 true)) else (papermilllaw12_awake.j0 k bt252.1 bt259.1 bt266.1 bt273.1 true)) else (papermilllaw12_awake.j0 k bt252.1 bt259.1 bt266.1 bt273.1 true)) else (papermilllaw12_awake.j0 k bt252.1 bt259.1 bt266.1 bt273.1 true))))))) = some r := by first | (rw [hy249]; with_reducible exact H) | (have H2_ := (Option.bind_some _ _).symm.trans H; rw [hy249]; with_reducible exact H2_) | (have H2_ := (Option.bind_some _ _).symm.trans H; with_reducible exact H2_) | with_reducible exact H | (rw [hy249]; exact H) | exact H
 have Ny249 := Aside0.mk hy249
 clear hy249
 replace H := Option.bind_eq_some_iff.mp H
 obtain ⟨⟨t252, t253⟩, A10, H⟩ := H
 replace H : ((share_Split.f k 10 (([1, 1, 1] : List Int))).bind fun bt259 => ((share_Bounds.f k 10 (([1, 1, 1] : List Int))).bind fun bt266 => ((share_Split.f k 0 (([0, 0] : List Int))).bind fun bt273 => ((share_Split.f k 1 (([0, 0] : List Int))).bind fun bt280 => (if t253 = 0 then (if bt259.2 = 0 then (if bt266.2 = 0 then (if bt273.2 = 0 then (papermilllaw12_awake.j0 k t252 bt259.1 bt266.1 bt273.1 (bt280.2 != 16)) else (papermilllaw12_awake.j0 k t252 bt259.1 bt266.1 bt273.1 true)) else (papermilllaw12_awake.j0 k t252 bt259.1 bt266.1 bt273.1 true)) else (papermilllaw12_awake.j0 k t252 bt259.1 bt266.1 bt273.1 true)) else (papermilllaw12_awake.j0 k t252 bt259.1 bt266.1 bt273.1 true)))))) = some r := H
 have A1 := Aside0.mk A10
 clear A10
 obtain ⟨y256, hy256⟩ : ∃ y_ : List Int, y_ = (([1, 1, 1] : List Int)) := ⟨_, rfl⟩
 replace H : ((share_Split.f k 10 y256).bind fun bt259 => ((share_Bounds.f k 10 (([1, 1, 1] : List Int))).bind fun bt266 => ((share_Split.f k 0 (([0, 0] : List Int))).bind fun bt273 => ((share_Split.f k 1 (([0, 0] : List Int))).bind fun bt280 => (if t253 = 0 then (if bt259.2 = 0 then (if bt266.2 = 0 then (if bt273.2 = 0 then (papermilllaw12_awake.j0 k t252 bt259.1 bt266.1 bt273.1 (bt280.2 != 16)) else (papermilllaw12_awake.j0 k t252 bt259.1 bt266.1 bt273.1 true)) else (papermilllaw12_awake.j0 k t252 bt259.1 bt266.1 bt273.1 true)) else (papermilllaw12_awake.j0 k t252 bt259.1 bt266.1 bt273.1 true)) else (papermilllaw12_awake.j0 k t252 bt259.1 bt266.1 bt273.1 true)))))) = some r := by first | (rw [hy256]; with_reducible exact H) | (have H2_ := (Option.bind_some _ _).symm.trans H; rw [hy256]; with_reducible exact H2_) | (have H2_ := (Option.bind_some _ _).symm.trans H; with_reducible exact H2_) | with_reducible exact H | (rw [hy256]; exact H) | exact H
 have Ny256 := Aside0.mk hy256
 clear hy256
 replace H := Option.bind_eq_some_iff.mp H
 obtain ⟨⟨t259, t260⟩, A20, H⟩ := H
 replace H : ((share_Bounds.f k 10 (([1, 1, 1] : List Int))).bind fun bt266 => ((share_Split.f k 0 (([0, 0] : List Int))).bind fun bt273 => ((share_Split.f k 1 (([0, 0] : List Int))).bind fun bt280 => (if t253 = 0 then (if t260 = 0 then (if bt266.2 = 0 then (if bt273.2 = 0 then (papermilllaw12_awake.j0 k t252 t259 bt266.1 bt273.1 (bt280.2 != 16)) else (papermilllaw12_awake.j0 k t252 t259 bt266.1 bt273.1 true)) else (papermilllaw12_awake.j0 k t252 t259 bt266.1 bt273.1 true)) else (papermilllaw12_awake.j0 k t252 t259 bt266.1 bt273.1 true)) else (papermilllaw12_awake.j0 k t252 t259 bt266.1 bt273.1 true))))) = some r := H
 have A2 := Aside0.mk A20
 clear A20
 obtain ⟨y263, hy263⟩ : ∃ y_ : List Int, y_ = (([1, 1, 1] : List Int)) := ⟨_, rfl⟩
 replace H : ((share_Bounds.f k 10 y263).bind fun bt266 => ((share_Split.f k 0 (([0, 0] : List Int))).bind fun bt273 => ((share_Split.f k 1 (([0, 0] : List Int))).bind fun bt280 => (if t253 = 0 then (if t260 = 0 then (if bt266.2 = 0 then (if bt273.2 = 0 then (papermilllaw12_awake.j0 k t252 t259 bt266.1 bt273.1 (bt280.2 != 16)) else (papermilllaw12_awake.j0 k t252 t259 bt266.1 bt273.1 true)) else (papermilllaw12_awake.j0 k t252 t259 bt266.1 bt273.1 true)) else (papermilllaw12_awake.j0 k t252 t259 bt266.1 bt273.1 true)) else (papermilllaw12_awake.j0 k t252 t259 bt266.1 bt273.1 true))))) = some r := by first | (rw [hy263]; with_reducible exact H) | (have H2_ := (Option.bind_some _ _).symm.trans H; rw [hy263]; with_reducible exact H2_) | (have H2_ := (Option.bind_some _ _).symm.trans H; with_reducible exact H2_) | with_reducible exact H | (rw [hy263]; exact H) | exact H
 have Ny263 := Aside0.mk hy263
 clear hy263
 replace H := Option.bind_eq_some_iff.mp H
 obtain ⟨⟨t266, t267⟩, A30, H⟩ := H
 replace H : ((share_Split.f k 0 (([0, 0] : List Int))).bind fun bt273 => ((share_Split.f k 1 (([0, 0] : List Int))).bind fun bt280 => (if t253 = 0 then (if t260 = 0 then (if t267 = 0 then (if bt273.2 = 0 then (papermilllaw12_awake.j0 k t252 t259 t266 bt273.1 (bt280.2 != 16)) else (papermilllaw12_awake.j0 k t252 t259 t266 bt273.1 true)) else (papermilllaw12_awake.j0 k t252 t259 t266 bt273.1 true)) else (papermilllaw12_awake.j0 k t252 t259 t266 bt273.1 true)) else (papermilllaw12_awake.j0 k t252 t259 t266 bt273.1 true)))) = some r := H
 have A3 := Aside0.mk A30
 clear A30
 obtain ⟨y270, hy270⟩ : ∃ y_ : List Int, y_ = (([0, 0] : List Int)) := ⟨_, rfl⟩
 replace H : ((share_Split.f k 0 y270).bind fun bt273 => ((share_Split.f k 1 (([0, 0] : List Int))).bind fun bt280 => (if t253 = 0 then (if t260 = 0 then (if t267 = 0 then (if bt273.2 = 0 then (papermilllaw12_awake.j0 k t252 t259 t266 bt273.1 (bt280.2 != 16)) else (papermilllaw12_awake.j0 k t252 t259 t266 bt273.1 true)) else (papermilllaw12_awake.j0 k t252 t259 t266 bt273.1 true)) else (papermilllaw12_awake.j0 k t252 t259 t266 bt273.1 true)) else (papermilllaw12_awake.j0 k t252 t259 t266 bt273.1 true)))) = some r := by first | (rw [hy270]; with_reducible exact H) | (have H2_ := (Option.bind_some _ _).symm.trans H; rw [hy270]; with_reducible exact H2_) | (have H2_ := (Option.bind_some _ _).symm.trans H; with_reducible exact H2_) | with_reducible exact H | (rw [hy270]; exact H) | exact H
 have Ny270 := Aside0.mk hy270
 clear hy270
 replace H := Option.bind_eq_some_iff.mp H
 obtain ⟨⟨t273, t274⟩, A40, H⟩ := H
 replace H : ((share_Split.f k 1 (([0, 0] : List Int))).bind fun bt280 => (if t253 = 0 then (if t260 = 0 then (if t267 = 0 then (if t274 = 0 then (papermilllaw12_awake.j0 k t252 t259 t266 t273 (bt280.2 != 16)) else (papermilllaw12_awake.j0 k t252 t259 t266 t273 true)) else (papermilllaw12_awake.j0 k t252 t259 t266 t273 true)) else (papermilllaw12_awake.j0 k t252 t259 t266 t273 true)) else (papermilllaw12_awake.j0 k t252 t259 t266 t273 true))) = some r := H
 have A4 := Aside0.mk A40
 clear A40
 obtain ⟨y277, hy277⟩ : ∃ y_ : List Int, y_ = (([0, 0] : List Int)) := ⟨_, rfl⟩
 replace H : ((share_Split.f k 1 y277).bind fun bt280 => (if t253 = 0 then (if t260 = 0 then (if t267 = 0 then (if t274 = 0 then (papermilllaw12_awake.j0 k t252 t259 t266 t273 (bt280.2 != 16)) else (papermilllaw12_awake.j0 k t252 t259 t266 t273 true)) else (papermilllaw12_awake.j0 k t252 t259 t266 t273 true)) else (papermilllaw12_awake.j0 k t252 t259 t266 t273 true)) else (papermilllaw12_awake.j0 k t252 t259 t266 t273 true))) = some r := by first | (rw [hy277]; with_reducible exact H) | (have H2_ := (Option.bind_some _ _).symm.trans H; rw [hy277]; with_reducible exact H2_) | (have H2_ := (Option.bind_some _ _).symm.trans H; with_reducible exact H2_) | with_reducible exact H | (rw [hy277]; exact H) | exact H
 have Ny277 := Aside0.mk hy277
 clear hy277
 replace H := Option.bind_eq_some_iff.mp H
 obtain ⟨⟨t280, t281⟩, A50, H⟩ := H
 replace H : (if t253 = 0 then (if t260 = 0 then (if t267 = 0 then (if t274 = 0 then (papermilllaw12_awake.j0 k t252 t259 t266 t273 (t281 != 16)) else (papermilllaw12_awake.j0 k t252 t259 t266 t273 true)) else (papermilllaw12_awake.j0 k t252 t259 t266 t273 true)) else (papermilllaw12_awake.j0 k t252 t259 t266 t273 true)) else (papermilllaw12_awake.j0 k t252 t259 t266 t273 true)) = some r := H
 have A5 := Aside0.mk A50
 clear A50
 have HC6 := Aside0.mk H
 clear H
 go_enter Try.func9, Try.ntmps9
 go_upto_region 6 with (first | ((with_reducible refine gate_dst (N := 12) rfl ?_); (try (refine gate_guard (by rfl) ?_; dsimp only)); refine Kd.R_lit (Kd.int .i64) _ 3 ?hg (N := 12) ?hd (xs := ([10, 5] : List Int)) (inner := [.int .i64 10, .int .i64 5]) (ok := fun _ => True) (okp := fun _ => True) ?hr ?hp (fun _ hk => hk) trivial (Below.refl _ _) (Nat.le_refl _) (by simp) ?_; (case hd => rfl); (case hg => rfl); (case hr => first | (go_simp; done) | (go_simp; rfl)); (case hp => exact (Reps.one (show Kd.M (Kd.int .i64) _ _ _ 10 [.int .i64 10] from rfl) (Reps.one (show Kd.M (Kd.int .i64) _ _ _ 5 [.int .i64 5] from rfl) (Reps.none _ _)))); intro v250 w7 ho8 hb hg_ hnew_; clear hg_ hnew_; (first | rw [← Ny249.out] at ho8 | (simp only [Int.reduceToNat] at ho8; rw [← Ny249.out] at ho8)); have HO251 := Aside0.mk (Kd.R_lower ho8 (below_size pB)); replace HB := Aside0.mk (below_step pB hb); clear hb ho8; obtain ⟨Ao9, co9, eo9⟩ := Kd.R_slice HO251.out; subst eo9) | ((with_reducible refine gate_callee (f := 11) rfl ?_); refine goesL_ (some 13) rfl rfl Try.func11 (by kernel_rfl) rfl #[.int .i64 4, .slice Ao9 y249.length co9] rfl mA ?_; (with_reducible refine (share_Split.calls k 4 _ _ y249 t252 t253 _ ?side1 ?side2 A1.out).mono ?_); (case side1 => repeat (first | exact (Kd.R_reads' HO251.out).2.2 | (with_reducible refine Kd.C_alloc ?_ _) | (with_reducible refine Kd.C_drewN ?_ _) | (with_reducible refine Kd.C_drew ?_))); (case side2 => exact (Kd.R_reads' HO251.out).2.1); rintro e w10 ⟨v254, rfl, ho0, hb⟩; refine ⟨_, rfl, ?_⟩; have HO255 := Aside0.mk (Kd.R_lower (Kd.R_new' ho0 (Kd.R_lt (rX HO251.out))) (below_size pB)); replace HO251 := Aside0.mk (Kd.R_elder' (rX HO251.out) (Kd.R_base ho0) hb); replace HB := Aside0.mk (below_step pB hb); (try clear hb); (try clear hb2); (try clear hk); (try clear hi); (try clear ho0)) | ((with_reducible refine gate_dst (N := 17) rfl ?_); (try (refine gate_guard (by rfl) ?_; dsimp only)); refine Kd.R_lit (Kd.int .i64) _ 3 ?hg (N := 17) ?hd (xs := ([1, 1, 1] : List Int)) (inner := [.int .i64 1, .int .i64 1, .int .i64 1]) (ok := fun _ => True) (okp := fun _ => True) ?hr ?hp (fun _ hk => hk) trivial (Below.refl _ _) (Nat.le_refl _) (by simp) ?_; (case hd => rfl); (case hg => rfl); (case hr => first | (go_simp; done) | (go_simp; rfl)); (case hp => exact (Reps.one (show Kd.M (Kd.int .i64) _ _ _ 1 [.int .i64 1] from rfl) (Reps.one (show Kd.M (Kd.int .i64) _ _ _ 1 [.int .i64 1] from rfl) (Reps.one (show Kd.M (Kd.int .i64) _ _ _ 1 [.int .i64 1] from rfl) (Reps.none _ _))))); intro v257 w11 ho12 hb hg_ hnew_; clear hg_ hnew_; (first | rw [← Ny256.out] at ho12 | (simp only [Int.reduceToNat] at ho12; rw [← Ny256.out] at ho12)); have HO258 := Aside0.mk (Kd.R_lower (Kd.R_new' (Kd.R_new' ho12 (Kd.R_lt (rX HO251.out))) (Kd.R_lt (rX HO255.out))) (below_size pB)); replace HO251 := Aside0.mk (Kd.R_elder' (rX HO251.out) (Kd.R_base ho12) hb); replace HO255 := Aside0.mk (Kd.R_elder' (rX HO255.out) (Kd.R_base ho12) hb); replace HB := Aside0.mk (below_step pB hb); clear hb ho12; obtain ⟨Ao13, co13, eo13⟩ := Kd.R_slice HO258.out; subst eo13) | ((with_reducible refine gate_callee (f := 11) rfl ?_); refine goesL_ (some 18) rfl rfl Try.func11 (by kernel_rfl) rfl #[.int .i64 10, .slice Ao13 y256.length co13] rfl mA ?_; (with_reducible refine (share_Split.calls k 10 _ _ y256 t259 t260 _ ?side1 ?side2 A2.out).mono ?_); (case side1 => repeat (first | exact (Kd.R_reads' HO258.out).2.2 | (with_reducible refine Kd.C_alloc ?_ _) | (with_reducible refine Kd.C_drewN ?_ _) | (with_reducible refine Kd.C_drew ?_))); (case side2 => exact (Kd.R_reads' HO258.out).2.1); rintro e w14 ⟨v261, rfl, ho0, hb⟩; refine ⟨_, rfl, ?_⟩; have HO262 := Aside0.mk (Kd.R_lower (Kd.R_new' (Kd.R_new' (Kd.R_new' ho0 (Kd.R_lt (rX HO251.out))) (Kd.R_lt (rX HO255.out))) (Kd.R_lt (rX HO258.out))) (below_size pB)); replace HO251 := Aside0.mk (Kd.R_elder' (rX HO251.out) (Kd.R_base ho0) hb); replace HO255 := Aside0.mk (Kd.R_elder' (rX HO255.out) (Kd.R_base ho0) hb); replace HO258 := Aside0.mk (Kd.R_elder' (rX HO258.out) (Kd.R_base ho0) hb); replace HB := Aside0.mk (below_step pB hb); (try clear hb); (try clear hb2); (try clear hk); (try clear hi); (try clear ho0)) | ((with_reducible refine gate_dst (N := 22) rfl ?_); (try (refine gate_guard (by rfl) ?_; dsimp only)); refine Kd.R_lit (Kd.int .i64) _ 3 ?hg (N := 22) ?hd (xs := ([1, 1, 1] : List Int)) (inner := [.int .i64 1, .int .i64 1, .int .i64 1]) (ok := fun _ => True) (okp := fun _ => True) ?hr ?hp (fun _ hk => hk) trivial (Below.refl _ _) (Nat.le_refl _) (by simp) ?_; (case hd => rfl); (case hg => rfl); (case hr => first | (go_simp; done) | (go_simp; rfl)); (case hp => exact (Reps.one (show Kd.M (Kd.int .i64) _ _ _ 1 [.int .i64 1] from rfl) (Reps.one (show Kd.M (Kd.int .i64) _ _ _ 1 [.int .i64 1] from rfl) (Reps.one (show Kd.M (Kd.int .i64) _ _ _ 1 [.int .i64 1] from rfl) (Reps.none _ _))))); intro v264 w15 ho16 hb hg_ hnew_; clear hg_ hnew_; (first | rw [← Ny263.out] at ho16 | (simp only [Int.reduceToNat] at ho16; rw [← Ny263.out] at ho16)); have HO265 := Aside0.mk (Kd.R_lower (Kd.R_new' (Kd.R_new' (Kd.R_new' (Kd.R_new' ho16 (Kd.R_lt (rX HO251.out))) (Kd.R_lt (rX HO255.out))) (Kd.R_lt (rX HO258.out))) (Kd.R_lt (rX HO262.out))) (below_size pB)); replace HO251 := Aside0.mk (Kd.R_elder' (rX HO251.out) (Kd.R_base ho16) hb); replace HO255 := Aside0.mk (Kd.R_elder' (rX HO255.out) (Kd.R_base ho16) hb); replace HO258 := Aside0.mk (Kd.R_elder' (rX HO258.out) (Kd.R_base ho16) hb); replace HO262 := Aside0.mk (Kd.R_elder' (rX HO262.out) (Kd.R_base ho16) hb); replace HB := Aside0.mk (below_step pB hb); clear hb ho16; obtain ⟨Ao17, co17, eo17⟩ := Kd.R_slice HO265.out; subst eo17) | ((with_reducible refine gate_callee (f := 13) rfl ?_); refine goesL_ (some 23) rfl rfl Try.func13 (by kernel_rfl) rfl #[.int .i64 10, .slice Ao17 y263.length co17] rfl mA ?_; (with_reducible refine (share_Bounds.calls k 10 _ _ y263 t266 t267 _ ?side1 ?side2 A3.out).mono ?_); (case side1 => repeat (first | exact (Kd.R_reads' HO265.out).2.2 | (with_reducible refine Kd.C_alloc ?_ _) | (with_reducible refine Kd.C_drewN ?_ _) | (with_reducible refine Kd.C_drew ?_))); (case side2 => exact (Kd.R_reads' HO265.out).2.1); rintro e w18 ⟨v268, rfl, ho0, hb⟩; refine ⟨_, rfl, ?_⟩; have HO269 := Aside0.mk (Kd.R_lower (Kd.R_new' (Kd.R_new' (Kd.R_new' (Kd.R_new' (Kd.R_new' ho0 (Kd.R_lt (rX HO251.out))) (Kd.R_lt (rX HO255.out))) (Kd.R_lt (rX HO258.out))) (Kd.R_lt (rX HO262.out))) (Kd.R_lt (rX HO265.out))) (below_size pB)); replace HO251 := Aside0.mk (Kd.R_elder' (rX HO251.out) (Kd.R_base ho0) hb); replace HO255 := Aside0.mk (Kd.R_elder' (rX HO255.out) (Kd.R_base ho0) hb); replace HO258 := Aside0.mk (Kd.R_elder' (rX HO258.out) (Kd.R_base ho0) hb); replace HO262 := Aside0.mk (Kd.R_elder' (rX HO262.out) (Kd.R_base ho0) hb); replace HO265 := Aside0.mk (Kd.R_elder' (rX HO265.out) (Kd.R_base ho0) hb); replace HB := Aside0.mk (below_step pB hb); (try clear hb); (try clear hb2); (try clear hk); (try clear hi); (try clear ho0)) | ((with_reducible refine gate_dst (N := 27) rfl ?_); (try (refine gate_guard (by rfl) ?_; dsimp only)); refine Kd.R_lit (Kd.int .i64) _ 3 ?hg (N := 27) ?hd (xs := ([0, 0] : List Int)) (inner := [.int .i64 0, .int .i64 0]) (ok := fun _ => True) (okp := fun _ => True) ?hr ?hp (fun _ hk => hk) trivial (Below.refl _ _) (Nat.le_refl _) (by simp) ?_; (case hd => rfl); (case hg => rfl); (case hr => first | (go_simp; done) | (go_simp; rfl)); (case hp => exact (Reps.one (show Kd.M (Kd.int .i64) _ _ _ 0 [.int .i64 0] from rfl) (Reps.one (show Kd.M (Kd.int .i64) _ _ _ 0 [.int .i64 0] from rfl) (Reps.none _ _)))); intro v271 w19 ho20 hb hg_ hnew_; clear hg_ hnew_; (first | rw [← Ny270.out] at ho20 | (simp only [Int.reduceToNat] at ho20; rw [← Ny270.out] at ho20)); have HO272 := Aside0.mk (Kd.R_lower (Kd.R_new' (Kd.R_new' (Kd.R_new' (Kd.R_new' (Kd.R_new' (Kd.R_new' ho20 (Kd.R_lt (rX HO251.out))) (Kd.R_lt (rX HO255.out))) (Kd.R_lt (rX HO258.out))) (Kd.R_lt (rX HO262.out))) (Kd.R_lt (rX HO265.out))) (Kd.R_lt (rX HO269.out))) (below_size pB)); replace HO251 := Aside0.mk (Kd.R_elder' (rX HO251.out) (Kd.R_base ho20) hb); replace HO255 := Aside0.mk (Kd.R_elder' (rX HO255.out) (Kd.R_base ho20) hb); replace HO258 := Aside0.mk (Kd.R_elder' (rX HO258.out) (Kd.R_base ho20) hb); replace HO262 := Aside0.mk (Kd.R_elder' (rX HO262.out) (Kd.R_base ho20) hb); replace HO265 := Aside0.mk (Kd.R_elder' (rX HO265.out) (Kd.R_base ho20) hb); replace HO269 := Aside0.mk (Kd.R_elder' (rX HO269.out) (Kd.R_base ho20) hb); replace HB := Aside0.mk (below_step pB hb); clear hb ho20; obtain ⟨Ao21, co21, eo21⟩ := Kd.R_slice HO272.out; subst eo21) | ((with_reducible refine gate_callee (f := 11) rfl ?_); refine goesL_ (some 28) rfl rfl Try.func11 (by kernel_rfl) rfl #[.int .i64 0, .slice Ao21 y270.length co21] rfl mA ?_; (with_reducible refine (share_Split.calls k 0 _ _ y270 t273 t274 _ ?side1 ?side2 A4.out).mono ?_); (case side1 => repeat (first | exact (Kd.R_reads' HO272.out).2.2 | (with_reducible refine Kd.C_alloc ?_ _) | (with_reducible refine Kd.C_drewN ?_ _) | (with_reducible refine Kd.C_drew ?_))); (case side2 => exact (Kd.R_reads' HO272.out).2.1); rintro e w22 ⟨v275, rfl, ho0, hb⟩; refine ⟨_, rfl, ?_⟩; have HO276 := Aside0.mk (Kd.R_lower (Kd.R_new' (Kd.R_new' (Kd.R_new' (Kd.R_new' (Kd.R_new' (Kd.R_new' (Kd.R_new' ho0 (Kd.R_lt (rX HO251.out))) (Kd.R_lt (rX HO255.out))) (Kd.R_lt (rX HO258.out))) (Kd.R_lt (rX HO262.out))) (Kd.R_lt (rX HO265.out))) (Kd.R_lt (rX HO269.out))) (Kd.R_lt (rX HO272.out))) (below_size pB)); replace HO251 := Aside0.mk (Kd.R_elder' (rX HO251.out) (Kd.R_base ho0) hb); replace HO255 := Aside0.mk (Kd.R_elder' (rX HO255.out) (Kd.R_base ho0) hb); replace HO258 := Aside0.mk (Kd.R_elder' (rX HO258.out) (Kd.R_base ho0) hb); replace HO262 := Aside0.mk (Kd.R_elder' (rX HO262.out) (Kd.R_base ho0) hb); replace HO265 := Aside0.mk (Kd.R_elder' (rX HO265.out) (Kd.R_base ho0) hb); replace HO269 := Aside0.mk (Kd.R_elder' (rX HO269.out) (Kd.R_base ho0) hb); replace HO272 := Aside0.mk (Kd.R_elder' (rX HO272.out) (Kd.R_base ho0) hb); replace HB := Aside0.mk (below_step pB hb); (try clear hb); (try clear hb2); (try clear hk); (try clear hi); (try clear ho0)) | ((with_reducible refine gate_dst (N := 32) rfl ?_); (try (refine gate_guard (by rfl) ?_; dsimp only)); refine Kd.R_lit (Kd.int .i64) _ 3 ?hg (N := 32) ?hd (xs := ([0, 0] : List Int)) (inner := [.int .i64 0, .int .i64 0]) (ok := fun _ => True) (okp := fun _ => True) ?hr ?hp (fun _ hk => hk) trivial (Below.refl _ _) (Nat.le_refl _) (by simp) ?_; (case hd => rfl); (case hg => rfl); (case hr => first | (go_simp; done) | (go_simp; rfl)); (case hp => exact (Reps.one (show Kd.M (Kd.int .i64) _ _ _ 0 [.int .i64 0] from rfl) (Reps.one (show Kd.M (Kd.int .i64) _ _ _ 0 [.int .i64 0] from rfl) (Reps.none _ _)))); intro v278 w23 ho24 hb hg_ hnew_; clear hg_ hnew_; (first | rw [← Ny277.out] at ho24 | (simp only [Int.reduceToNat] at ho24; rw [← Ny277.out] at ho24)); have HO279 := Aside0.mk (Kd.R_lower (Kd.R_new' (Kd.R_new' (Kd.R_new' (Kd.R_new' (Kd.R_new' (Kd.R_new' (Kd.R_new' (Kd.R_new' ho24 (Kd.R_lt (rX HO251.out))) (Kd.R_lt (rX HO255.out))) (Kd.R_lt (rX HO258.out))) (Kd.R_lt (rX HO262.out))) (Kd.R_lt (rX HO265.out))) (Kd.R_lt (rX HO269.out))) (Kd.R_lt (rX HO272.out))) (Kd.R_lt (rX HO276.out))) (below_size pB)); replace HO251 := Aside0.mk (Kd.R_elder' (rX HO251.out) (Kd.R_base ho24) hb); replace HO255 := Aside0.mk (Kd.R_elder' (rX HO255.out) (Kd.R_base ho24) hb); replace HO258 := Aside0.mk (Kd.R_elder' (rX HO258.out) (Kd.R_base ho24) hb); replace HO262 := Aside0.mk (Kd.R_elder' (rX HO262.out) (Kd.R_base ho24) hb); replace HO265 := Aside0.mk (Kd.R_elder' (rX HO265.out) (Kd.R_base ho24) hb); replace HO269 := Aside0.mk (Kd.R_elder' (rX HO269.out) (Kd.R_base ho24) hb); replace HO272 := Aside0.mk (Kd.R_elder' (rX HO272.out) (Kd.R_base ho24) hb); replace HO276 := Aside0.mk (Kd.R_elder' (rX HO276.out) (Kd.R_base ho24) hb); replace HB := Aside0.mk (below_step pB hb); clear hb ho24; obtain ⟨Ao25, co25, eo25⟩ := Kd.R_slice HO279.out; subst eo25) | ((with_reducible refine gate_callee (f := 11) rfl ?_); refine goesL_ (some 33) rfl rfl Try.func11 (by kernel_rfl) rfl #[.int .i64 1, .slice Ao25 y277.length co25] rfl mA ?_; (with_reducible refine (share_Split.calls k 1 _ _ y277 t280 t281 _ ?side1 ?side2 A5.out).mono ?_); (case side1 => repeat (first | exact (Kd.R_reads' HO279.out).2.2 | (with_reducible refine Kd.C_alloc ?_ _) | (with_reducible refine Kd.C_drewN ?_ _) | (with_reducible refine Kd.C_drew ?_))); (case side2 => exact (Kd.R_reads' HO279.out).2.1); rintro e w26 ⟨v282, rfl, ho0, hb⟩; refine ⟨_, rfl, ?_⟩; have HO283 := Aside0.mk (Kd.R_lower (Kd.R_new' (Kd.R_new' (Kd.R_new' (Kd.R_new' (Kd.R_new' (Kd.R_new' (Kd.R_new' (Kd.R_new' (Kd.R_new' ho0 (Kd.R_lt (rX HO251.out))) (Kd.R_lt (rX HO255.out))) (Kd.R_lt (rX HO258.out))) (Kd.R_lt (rX HO262.out))) (Kd.R_lt (rX HO265.out))) (Kd.R_lt (rX HO269.out))) (Kd.R_lt (rX HO272.out))) (Kd.R_lt (rX HO276.out))) (Kd.R_lt (rX HO279.out))) (below_size pB)); replace HO251 := Aside0.mk (Kd.R_elder' (rX HO251.out) (Kd.R_base ho0) hb); replace HO255 := Aside0.mk (Kd.R_elder' (rX HO255.out) (Kd.R_base ho0) hb); replace HO258 := Aside0.mk (Kd.R_elder' (rX HO258.out) (Kd.R_base ho0) hb); replace HO262 := Aside0.mk (Kd.R_elder' (rX HO262.out) (Kd.R_base ho0) hb); replace HO265 := Aside0.mk (Kd.R_elder' (rX HO265.out) (Kd.R_base ho0) hb); replace HO269 := Aside0.mk (Kd.R_elder' (rX HO269.out) (Kd.R_base ho0) hb); replace HO272 := Aside0.mk (Kd.R_elder' (rX HO272.out) (Kd.R_base ho0) hb); replace HO276 := Aside0.mk (Kd.R_elder' (rX HO276.out) (Kd.R_base ho0) hb); replace HO279 := Aside0.mk (Kd.R_elder' (rX HO279.out) (Kd.R_base ho0) hb); replace HB := Aside0.mk (below_step pB hb); (try clear hb); (try clear hb2); (try clear hk); (try clear hi); (try clear ho0)))
 (try simp only [Act.put, List.setIfInBounds_toArray, List.set_cons_zero, List.set_cons_succ])
 go_cut [53] (fun v53 wc => ∃ (kq : Nat) (x53_5 : Bool), v53 = .bool x53_5 ∧ Aside0 (papermilllaw12_awake.j0 kq t252 t259 t266 t273 x53_5 = some r) ∧ Aside0 (kq ≤ k) ∧ Aside0 (Kd.R (Kd.int .i64) 3 wc w.heap.size (fun k_ => some k_ ≠ (v261 : Value).ownBlock ∧ some k_ ≠ (v268 : Value).ownBlock ∧ some k_ ≠ (v275 : Value).ownBlock) v254 t252) ∧ Aside0 (Kd.R (Kd.int .i64) 3 wc w.heap.size (fun k_ => some k_ ≠ (v254 : Value).ownBlock ∧ some k_ ≠ (v268 : Value).ownBlock ∧ some k_ ≠ (v275 : Value).ownBlock) v261 t259) ∧ Aside0 (Kd.R (Kd.int .i64) 3 wc w.heap.size (fun k_ => some k_ ≠ (v254 : Value).ownBlock ∧ some k_ ≠ (v261 : Value).ownBlock ∧ some k_ ≠ (v275 : Value).ownBlock) v268 t266) ∧ Aside0 (Kd.R (Kd.int .i64) 3 wc w.heap.size (fun k_ => some k_ ≠ (v254 : Value).ownBlock ∧ some k_ ≠ (v261 : Value).ownBlock ∧ some k_ ≠ (v268 : Value).ownBlock) v275 t273) ∧ Aside0 (Below w.heap.size w wc))
 case first =>
  have H := HC6.out
  clear HC6
  by_cases c27 : t253 = 0
  ·rw [if_pos c27] at H
   have c27b0 : (t253 == 0) = true := beq_iff_eq.mpr c27
   have c27b1 : (t253 != 0) = false := bne_eq_false_iff_eq.mpr c27
   clear c27
   (first | rw [c27b0] | (simp only [i64_w, i32_w]; rw [c27b0]) | skip)
   by_cases c28 : t260 = 0
   ·rw [if_pos c28] at H
    have c28b0 : (t260 == 0) = true := beq_iff_eq.mpr c28
    have c28b1 : (t260 != 0) = false := bne_eq_false_iff_eq.mpr c28
    clear c28
    by_cases c29 : t267 = 0
    ·rw [if_pos c29] at H
     have c29b0 : (t267 == 0) = true := beq_iff_eq.mpr c29
     have c29b1 : (t267 != 0) = false := bne_eq_false_iff_eq.mpr c29
     clear c29
     by_cases c30 : t274 = 0
     ·rw [if_pos c30] at H
      have c30b0 : (t274 == 0) = true := beq_iff_eq.mpr c30
      have c30b1 : (t274 != 0) = false := bne_eq_false_iff_eq.mpr c30
      clear c30
      have H' := Aside0.mk H
      clear H
      go_wp2
      go_meet
      case rel => exact ⟨_, ((t281 != 16)), (by first | rfl | (simp; done) | (simp [*]; done)), H', ⟨by first | omega | exact Nat.le_refl _⟩, ⟨by (with_reducible repeat (first | apply Kd.R_alloc | apply Kd.R_drewN | apply Kd.R_drew)); exact Kd.R_mono HO255.out (fun _ hk => ⟨hk.1.1.1.1.1.1.2, ⟨hk.1.1.1.1.2, hk.1.1.2⟩⟩)⟩, ⟨by (with_reducible repeat (first | apply Kd.R_alloc | apply Kd.R_drewN | apply Kd.R_drew)); exact Kd.R_mono HO262.out (fun _ hk => ⟨hk.1.1.1.1.1.1.1.2, ⟨hk.1.1.1.1.2, hk.1.1.2⟩⟩)⟩, ⟨by (with_reducible repeat (first | apply Kd.R_alloc | apply Kd.R_drewN | apply Kd.R_drew)); exact Kd.R_mono HO269.out (fun _ hk => ⟨hk.1.1.1.1.1.1.1.2, ⟨hk.1.1.1.1.1.2, hk.1.1.2⟩⟩)⟩, ⟨by (with_reducible repeat (first | apply Kd.R_alloc | apply Kd.R_drewN | apply Kd.R_drew)); exact Kd.R_mono HO276.out (fun _ hk => ⟨hk.1.1.1.1.1.1.1.2, ⟨hk.1.1.1.1.1.2, hk.1.1.1.2⟩⟩)⟩, ⟨pB⟩⟩
     ·rw [if_neg c30] at H
      have c30b0 : (t274 == 0) = false := beq_eq_false_iff_ne.mpr c30
      have c30b1 : (t274 != 0) = true := bne_iff_ne.mpr c30
      have H' := Aside0.mk H
      clear H
      go_wp2
      go_meet
      case rel => exact ⟨_, (true), (by first | rfl | (simp; done) | (simp [*]; done)), H', ⟨by first | omega | exact Nat.le_refl _⟩, ⟨by (with_reducible repeat (first | apply Kd.R_alloc | apply Kd.R_drewN | apply Kd.R_drew)); exact Kd.R_mono HO255.out (fun _ hk => ⟨hk.1.1.1.1.1.1.2, ⟨hk.1.1.1.1.2, hk.1.1.2⟩⟩)⟩, ⟨by (with_reducible repeat (first | apply Kd.R_alloc | apply Kd.R_drewN | apply Kd.R_drew)); exact Kd.R_mono HO262.out (fun _ hk => ⟨hk.1.1.1.1.1.1.1.2, ⟨hk.1.1.1.1.2, hk.1.1.2⟩⟩)⟩, ⟨by (with_reducible repeat (first | apply Kd.R_alloc | apply Kd.R_drewN | apply Kd.R_drew)); exact Kd.R_mono HO269.out (fun _ hk => ⟨hk.1.1.1.1.1.1.1.2, ⟨hk.1.1.1.1.1.2, hk.1.1.2⟩⟩)⟩, ⟨by (with_reducible repeat (first | apply Kd.R_alloc | apply Kd.R_drewN | apply Kd.R_drew)); exact Kd.R_mono HO276.out (fun _ hk => ⟨hk.1.1.1.1.1.1.1.2, ⟨hk.1.1.1.1.1.2, hk.1.1.1.2⟩⟩)⟩, ⟨pB⟩⟩
    ·rw [if_neg c29] at H
     have c29b0 : (t267 == 0) = false := beq_eq_false_iff_ne.mpr c29
     have c29b1 : (t267 != 0) = true := bne_iff_ne.mpr c29
     have H' := Aside0.mk H
     clear H
     go_wp2
     go_meet
     case rel => exact ⟨_, (true), (by first | rfl | (simp; done) | (simp [*]; done)), H', ⟨by first | omega | exact Nat.le_refl _⟩, ⟨by (with_reducible repeat (first | apply Kd.R_alloc | apply Kd.R_drewN | apply Kd.R_drew)); exact Kd.R_mono HO255.out (fun _ hk => ⟨hk.1.1.1.1.1.1.2, ⟨hk.1.1.1.1.2, hk.1.1.2⟩⟩)⟩, ⟨by (with_reducible repeat (first | apply Kd.R_alloc | apply Kd.R_drewN | apply Kd.R_drew)); exact Kd.R_mono HO262.out (fun _ hk => ⟨hk.1.1.1.1.1.1.1.2, ⟨hk.1.1.1.1.2, hk.1.1.2⟩⟩)⟩, ⟨by (with_reducible repeat (first | apply Kd.R_alloc | apply Kd.R_drewN | apply Kd.R_drew)); exact Kd.R_mono HO269.out (fun _ hk => ⟨hk.1.1.1.1.1.1.1.2, ⟨hk.1.1.1.1.1.2, hk.1.1.2⟩⟩)⟩, ⟨by (with_reducible repeat (first | apply Kd.R_alloc | apply Kd.R_drewN | apply Kd.R_drew)); exact Kd.R_mono HO276.out (fun _ hk => ⟨hk.1.1.1.1.1.1.1.2, ⟨hk.1.1.1.1.1.2, hk.1.1.1.2⟩⟩)⟩, ⟨pB⟩⟩
   ·rw [if_neg c28] at H
    have c28b0 : (t260 == 0) = false := beq_eq_false_iff_ne.mpr c28
    have c28b1 : (t260 != 0) = true := bne_iff_ne.mpr c28
    have H' := Aside0.mk H
    clear H
    go_wp2
    go_meet
    case rel => exact ⟨_, (true), (by first | rfl | (simp; done) | (simp [*]; done)), H', ⟨by first | omega | exact Nat.le_refl _⟩, ⟨by (with_reducible repeat (first | apply Kd.R_alloc | apply Kd.R_drewN | apply Kd.R_drew)); exact Kd.R_mono HO255.out (fun _ hk => ⟨hk.1.1.1.1.1.1.2, ⟨hk.1.1.1.1.2, hk.1.1.2⟩⟩)⟩, ⟨by (with_reducible repeat (first | apply Kd.R_alloc | apply Kd.R_drewN | apply Kd.R_drew)); exact Kd.R_mono HO262.out (fun _ hk => ⟨hk.1.1.1.1.1.1.1.2, ⟨hk.1.1.1.1.2, hk.1.1.2⟩⟩)⟩, ⟨by (with_reducible repeat (first | apply Kd.R_alloc | apply Kd.R_drewN | apply Kd.R_drew)); exact Kd.R_mono HO269.out (fun _ hk => ⟨hk.1.1.1.1.1.1.1.2, ⟨hk.1.1.1.1.1.2, hk.1.1.2⟩⟩)⟩, ⟨by (with_reducible repeat (first | apply Kd.R_alloc | apply Kd.R_drewN | apply Kd.R_drew)); exact Kd.R_mono HO276.out (fun _ hk => ⟨hk.1.1.1.1.1.1.1.2, ⟨hk.1.1.1.1.1.2, hk.1.1.1.2⟩⟩)⟩, ⟨pB⟩⟩
  ·rw [if_neg c27] at H
   have c27b0 : (t253 == 0) = false := beq_eq_false_iff_ne.mpr c27
   have c27b1 : (t253 != 0) = true := bne_iff_ne.mpr c27
   (first | rw [c27b0] | (simp only [i64_w, i32_w]; rw [c27b0]) | skip)
   have H' := Aside0.mk H
   clear H
   go_wp2
   go_meet
   case rel => exact ⟨_, (true), (by first | rfl | (simp; done) | (simp [*]; done)), H', ⟨by first | omega | exact Nat.le_refl _⟩, ⟨by (with_reducible repeat (first | apply Kd.R_alloc | apply Kd.R_drewN | apply Kd.R_drew)); exact Kd.R_mono HO255.out (fun _ hk => ⟨hk.1.1.1.1.1.1.2, ⟨hk.1.1.1.1.2, hk.1.1.2⟩⟩)⟩, ⟨by (with_reducible repeat (first | apply Kd.R_alloc | apply Kd.R_drewN | apply Kd.R_drew)); exact Kd.R_mono HO262.out (fun _ hk => ⟨hk.1.1.1.1.1.1.1.2, ⟨hk.1.1.1.1.2, hk.1.1.2⟩⟩)⟩, ⟨by (with_reducible repeat (first | apply Kd.R_alloc | apply Kd.R_drewN | apply Kd.R_drew)); exact Kd.R_mono HO269.out (fun _ hk => ⟨hk.1.1.1.1.1.1.1.2, ⟨hk.1.1.1.1.1.2, hk.1.1.2⟩⟩)⟩, ⟨by (with_reducible repeat (first | apply Kd.R_alloc | apply Kd.R_drewN | apply Kd.R_drew)); exact Kd.R_mono HO276.out (fun _ hk => ⟨hk.1.1.1.1.1.1.1.2, ⟨hk.1.1.1.1.1.2, hk.1.1.1.2⟩⟩)⟩, ⟨pB⟩⟩
 case rest =>
  clear HC6
  try clear c1
  try clear c2
  try clear p2
  try clear c3
  try clear c9
  try clear c11
  try clear c13
  try clear c27
  try clear c27b0
  try clear c27b1
  try clear c28
  try clear c28b0
  try clear c28b1
  try clear c29
  try clear c29b0
  try clear c29b1
  try clear c30
  try clear c30b0
  try clear c30b1
  obtain ⟨kq, x53_5, rfl, HA, HJ5, HO_1, HO_3, HO_5, HO_7, HB⟩ := hcut
  cases kq with
  | zero => exact absurd HA.out (by simp [papermilllaw12_awake.j0])
  | succ kj5 =>
   have H := HA.out
   clear HA
   simp only [papermilllaw12_awake.j0] at H
   by_cases c31 : x53_5 = true
   ·subst c31
    have H1 : (none) = some r := by rw [if_pos rfl] at H; exact H
    clear H
    have H := H1
    clear H1
    exact absurd H (by simp)
   ·replace c31 := Bool.eq_false_iff.mpr c31
    subst c31
    have H1 : ((papermillref12_Same.f kj5 t252 (([3, 1] : List Int))).bind fun t287 => (if t287 = true then ((papermillref12_Same.f kj5 t259 (([4, 3, 3] : List Int))).bind fun t291 => (if t291 = true then ((papermillref12_Same.f kj5 t266 (([3, 6, 10] : List Int))).bind fun t295 => (if t295 = true then ((papermillref12_Same.f kj5 t273 (([0, 0] : List Int))).bind fun t299 => (if t299 = true then ((share_Fair.f kj5 (([3, 1] : List Int)) (([10, 5] : List Int))).bind fun t306 => (if t306 = true then ((share_Fair.f kj5 (([2, 2] : List Int)) (([10, 5] : List Int))).bind fun t313 => (some (!t313))) else (none))) else (none))) else (none))) else (none))) else (none))) = some r := by rw [if_neg (show ¬ (false = true) by decide)] at H; exact H
    clear H
    have H := H1
    clear H1
    obtain ⟨y284, hy284⟩ : ∃ y_ : List Int, y_ = (([3, 1] : List Int)) := ⟨_, rfl⟩
    replace H : ((papermillref12_Same.f kj5 t252 y284).bind fun t287 => (if t287 = true then ((papermillref12_Same.f kj5 t259 (([4, 3, 3] : List Int))).bind fun t291 => (if t291 = true then ((papermillref12_Same.f kj5 t266 (([3, 6, 10] : List Int))).bind fun t295 => (if t295 = true then ((papermillref12_Same.f kj5 t273 (([0, 0] : List Int))).bind fun t299 => (if t299 = true then ((share_Fair.f kj5 (([3, 1] : List Int)) (([10, 5] : List Int))).bind fun t306 => (if t306 = true then ((share_Fair.f kj5 (([2, 2] : List Int)) (([10, 5] : List Int))).bind fun t313 => (some (!t313))) else (none))) else (none))) else (none))) else (none))) else (none))) = some r := by first | (rw [hy284]; with_reducible exact H) | (have H2_ := (Option.bind_some _ _).symm.trans H; rw [hy284]; with_reducible exact H2_) | (have H2_ := (Option.bind_some _ _).symm.trans H; with_reducible exact H2_) | with_reducible exact H | (rw [hy284]; exact H) | exact H
    have Ny284 := Aside0.mk hy284
    clear hy284
    replace H := Option.bind_eq_some_iff.mp H
    obtain ⟨t287, A320, H⟩ := H
    replace H : (if t287 = true then ((papermillref12_Same.f kj5 t259 (([4, 3, 3] : List Int))).bind fun t291 => (if t291 = true then ((papermillref12_Same.f kj5 t266 (([3, 6, 10] : List Int))).bind fun t295 => (if t295 = true then ((papermillref12_Same.f kj5 t273 (([0, 0] : List Int))).bind fun t299 => (if t299 = true then ((share_Fair.f kj5 (([3, 1] : List Int)) (([10, 5] : List Int))).bind fun t306 => (if t306 = true then ((share_Fair.f kj5 (([2, 2] : List Int)) (([10, 5] : List Int))).bind fun t313 => (some (!t313))) else (none))) else (none))) else (none))) else (none))) else (none)) = some r := H
    have A32 := Aside0.mk A320
    clear A320
    by_cases c33 : t287 = true
    ·subst c33
     have H1 : ((papermillref12_Same.f kj5 t259 (([4, 3, 3] : List Int))).bind fun t291 => (if t291 = true then ((papermillref12_Same.f kj5 t266 (([3, 6, 10] : List Int))).bind fun t295 => (if t295 = true then ((papermillref12_Same.f kj5 t273 (([0, 0] : List Int))).bind fun t299 => (if t299 = true then ((share_Fair.f kj5 (([3, 1] : List Int)) (([10, 5] : List Int))).bind fun t306 => (if t306 = true then ((share_Fair.f kj5 (([2, 2] : List Int)) (([10, 5] : List Int))).bind fun t313 => (some (!t313))) else (none))) else (none))) else (none))) else (none))) = some r := by rw [if_pos rfl] at H; exact H
     clear H
     have H := H1
     clear H1
     obtain ⟨y288, hy288⟩ : ∃ y_ : List Int, y_ = (([4, 3, 3] : List Int)) := ⟨_, rfl⟩
     replace H : ((papermillref12_Same.f kj5 t259 y288).bind fun t291 => (if t291 = true then ((papermillref12_Same.f kj5 t266 (([3, 6, 10] : List Int))).bind fun t295 => (if t295 = true then ((papermillref12_Same.f kj5 t273 (([0, 0] : List Int))).bind fun t299 => (if t299 = true then ((share_Fair.f kj5 (([3, 1] : List Int)) (([10, 5] : List Int))).bind fun t306 => (if t306 = true then ((share_Fair.f kj5 (([2, 2] : List Int)) (([10, 5] : List Int))).bind fun t313 => (some (!t313))) else (none))) else (none))) else (none))) else (none))) = some r := by first | (rw [hy288]; with_reducible exact H) | (have H2_ := (Option.bind_some _ _).symm.trans H; rw [hy288]; with_reducible exact H2_) | (have H2_ := (Option.bind_some _ _).symm.trans H; with_reducible exact H2_) | with_reducible exact H | (rw [hy288]; exact H) | exact H
     have Ny288 := Aside0.mk hy288
     clear hy288
     replace H := Option.bind_eq_some_iff.mp H
     obtain ⟨t291, A340, H⟩ := H
     replace H : (if t291 = true then ((papermillref12_Same.f kj5 t266 (([3, 6, 10] : List Int))).bind fun t295 => (if t295 = true then ((papermillref12_Same.f kj5 t273 (([0, 0] : List Int))).bind fun t299 => (if t299 = true then ((share_Fair.f kj5 (([3, 1] : List Int)) (([10, 5] : List Int))).bind fun t306 => (if t306 = true then ((share_Fair.f kj5 (([2, 2] : List Int)) (([10, 5] : List Int))).bind fun t313 => (some (!t313))) else (none))) else (none))) else (none))) else (none)) = some r := H
     have A34 := Aside0.mk A340
     clear A340
     by_cases c35 : t291 = true
     ·subst c35
      have H1 : ((papermillref12_Same.f kj5 t266 (([3, 6, 10] : List Int))).bind fun t295 => (if t295 = true then ((papermillref12_Same.f kj5 t273 (([0, 0] : List Int))).bind fun t299 => (if t299 = true then ((share_Fair.f kj5 (([3, 1] : List Int)) (([10, 5] : List Int))).bind fun t306 => (if t306 = true then ((share_Fair.f kj5 (([2, 2] : List Int)) (([10, 5] : List Int))).bind fun t313 => (some (!t313))) else (none))) else (none))) else (none))) = some r := by rw [if_pos rfl] at H; exact H
      clear H
      have H := H1
      clear H1
      obtain ⟨y292, hy292⟩ : ∃ y_ : List Int, y_ = (([3, 6, 10] : List Int)) := ⟨_, rfl⟩
      replace H : ((papermillref12_Same.f kj5 t266 y292).bind fun t295 => (if t295 = true then ((papermillref12_Same.f kj5 t273 (([0, 0] : List Int))).bind fun t299 => (if t299 = true then ((share_Fair.f kj5 (([3, 1] : List Int)) (([10, 5] : List Int))).bind fun t306 => (if t306 = true then ((share_Fair.f kj5 (([2, 2] : List Int)) (([10, 5] : List Int))).bind fun t313 => (some (!t313))) else (none))) else (none))) else (none))) = some r := by first | (rw [hy292]; with_reducible exact H) | (have H2_ := (Option.bind_some _ _).symm.trans H; rw [hy292]; with_reducible exact H2_) | (have H2_ := (Option.bind_some _ _).symm.trans H; with_reducible exact H2_) | with_reducible exact H | (rw [hy292]; exact H) | exact H
      have Ny292 := Aside0.mk hy292
      clear hy292
      replace H := Option.bind_eq_some_iff.mp H
      obtain ⟨t295, A360, H⟩ := H
      replace H : (if t295 = true then ((papermillref12_Same.f kj5 t273 (([0, 0] : List Int))).bind fun t299 => (if t299 = true then ((share_Fair.f kj5 (([3, 1] : List Int)) (([10, 5] : List Int))).bind fun t306 => (if t306 = true then ((share_Fair.f kj5 (([2, 2] : List Int)) (([10, 5] : List Int))).bind fun t313 => (some (!t313))) else (none))) else (none))) else (none)) = some r := H
      have A36 := Aside0.mk A360
      clear A360
      by_cases c37 : t295 = true
      ·subst c37
       have H1 : ((papermillref12_Same.f kj5 t273 (([0, 0] : List Int))).bind fun t299 => (if t299 = true then ((share_Fair.f kj5 (([3, 1] : List Int)) (([10, 5] : List Int))).bind fun t306 => (if t306 = true then ((share_Fair.f kj5 (([2, 2] : List Int)) (([10, 5] : List Int))).bind fun t313 => (some (!t313))) else (none))) else (none))) = some r := by rw [if_pos rfl] at H; exact H
       clear H
       have H := H1
       clear H1
       obtain ⟨y296, hy296⟩ : ∃ y_ : List Int, y_ = (([0, 0] : List Int)) := ⟨_, rfl⟩
       replace H : ((papermillref12_Same.f kj5 t273 y296).bind fun t299 => (if t299 = true then ((share_Fair.f kj5 (([3, 1] : List Int)) (([10, 5] : List Int))).bind fun t306 => (if t306 = true then ((share_Fair.f kj5 (([2, 2] : List Int)) (([10, 5] : List Int))).bind fun t313 => (some (!t313))) else (none))) else (none))) = some r := by first | (rw [hy296]; with_reducible exact H) | (have H2_ := (Option.bind_some _ _).symm.trans H; rw [hy296]; with_reducible exact H2_) | (have H2_ := (Option.bind_some _ _).symm.trans H; with_reducible exact H2_) | with_reducible exact H | (rw [hy296]; exact H) | exact H
       have Ny296 := Aside0.mk hy296
       clear hy296
       replace H := Option.bind_eq_some_iff.mp H
       obtain ⟨t299, A380, H⟩ := H
       replace H : (if t299 = true then ((share_Fair.f kj5 (([3, 1] : List Int)) (([10, 5] : List Int))).bind fun t306 => (if t306 = true then ((share_Fair.f kj5 (([2, 2] : List Int)) (([10, 5] : List Int))).bind fun t313 => (some (!t313))) else (none))) else (none)) = some r := H
       have A38 := Aside0.mk A380
       clear A380
       by_cases c39 : t299 = true
       ·subst c39
        have H1 : ((share_Fair.f kj5 (([3, 1] : List Int)) (([10, 5] : List Int))).bind fun t306 => (if t306 = true then ((share_Fair.f kj5 (([2, 2] : List Int)) (([10, 5] : List Int))).bind fun t313 => (some (!t313))) else (none))) = some r := by rw [if_pos rfl] at H; exact H
        clear H
        have H := H1
        clear H1
        obtain ⟨y300, hy300⟩ : ∃ y_ : List Int, y_ = (([3, 1] : List Int)) := ⟨_, rfl⟩
        replace H : ((share_Fair.f kj5 y300 (([10, 5] : List Int))).bind fun t306 => (if t306 = true then ((share_Fair.f kj5 (([2, 2] : List Int)) (([10, 5] : List Int))).bind fun t313 => (some (!t313))) else (none))) = some r := by first | (rw [hy300]; with_reducible exact H) | (have H2_ := (Option.bind_some _ _).symm.trans H; rw [hy300]; with_reducible exact H2_) | (have H2_ := (Option.bind_some _ _).symm.trans H; with_reducible exact H2_) | with_reducible exact H | (rw [hy300]; exact H) | exact H
        have Ny300 := Aside0.mk hy300
        clear hy300
        obtain ⟨y303, hy303⟩ : ∃ y_ : List Int, y_ = (([10, 5] : List Int)) := ⟨_, rfl⟩
        replace H : ((share_Fair.f kj5 y300 y303).bind fun t306 => (if t306 = true then ((share_Fair.f kj5 (([2, 2] : List Int)) (([10, 5] : List Int))).bind fun t313 => (some (!t313))) else (none))) = some r := by first | (rw [hy303]; with_reducible exact H) | (have H2_ := (Option.bind_some _ _).symm.trans H; rw [hy303]; with_reducible exact H2_) | (have H2_ := (Option.bind_some _ _).symm.trans H; with_reducible exact H2_) | with_reducible exact H | (rw [hy303]; exact H) | exact H
        have Ny303 := Aside0.mk hy303
        clear hy303
        replace H := Option.bind_eq_some_iff.mp H
        obtain ⟨t306, A400, H⟩ := H
        replace H : (if t306 = true then ((share_Fair.f kj5 (([2, 2] : List Int)) (([10, 5] : List Int))).bind fun t313 => (some (!t313))) else (none)) = some r := H
        have A40 := Aside0.mk A400
        clear A400
        by_cases c41 : t306 = true
        ·subst c41
         have H1 : ((share_Fair.f kj5 (([2, 2] : List Int)) (([10, 5] : List Int))).bind fun t313 => (some (!t313))) = some r := by rw [if_pos rfl] at H; exact H
         clear H
         have H := H1
         clear H1
         obtain ⟨y307, hy307⟩ : ∃ y_ : List Int, y_ = (([2, 2] : List Int)) := ⟨_, rfl⟩
         replace H : ((share_Fair.f kj5 y307 (([10, 5] : List Int))).bind fun t313 => (some (!t313))) = some r := by first | (rw [hy307]; with_reducible exact H) | (have H2_ := (Option.bind_some _ _).symm.trans H; rw [hy307]; with_reducible exact H2_) | (have H2_ := (Option.bind_some _ _).symm.trans H; with_reducible exact H2_) | with_reducible exact H | (rw [hy307]; exact H) | exact H
         have Ny307 := Aside0.mk hy307
         clear hy307
         obtain ⟨y310, hy310⟩ : ∃ y_ : List Int, y_ = (([10, 5] : List Int)) := ⟨_, rfl⟩
         replace H : ((share_Fair.f kj5 y307 y310).bind fun t313 => (some (!t313))) = some r := by first | (rw [hy310]; with_reducible exact H) | (have H2_ := (Option.bind_some _ _).symm.trans H; rw [hy310]; with_reducible exact H2_) | (have H2_ := (Option.bind_some _ _).symm.trans H; with_reducible exact H2_) | with_reducible exact H | (rw [hy310]; exact H) | exact H
         have Ny310 := Aside0.mk hy310
         clear hy310
         replace H := Option.bind_eq_some_iff.mp H
         obtain ⟨t313, A420, H⟩ := H
         replace H : (some (!t313)) = some r := H
         have A42 := Aside0.mk A420
         clear A420
         obtain rfl := Option.some.inj H
         go_wp2_with (first | ((with_reducible refine gate_dst (N := 55) rfl ?_); (try (refine gate_guard (by rfl) ?_; dsimp only)); refine Kd.R_lit (Kd.int .i64) _ 3 ?hg (N := 55) ?hd (xs := ([3, 1] : List Int)) (inner := [.int .i64 3, .int .i64 1]) (ok := fun _ => True) (okp := fun _ => True) ?hr ?hp (fun _ hk => hk) trivial (Below.refl _ _) (Nat.le_refl _) (by simp) ?_; (case hd => rfl); (case hg => rfl); (case hr => first | (go_simp; done) | (go_simp; rfl)); (case hp => exact (Reps.one (show Kd.M (Kd.int .i64) _ _ _ 3 [.int .i64 3] from rfl) (Reps.one (show Kd.M (Kd.int .i64) _ _ _ 1 [.int .i64 1] from rfl) (Reps.none _ _)))); intro v285 w43 ho44 hb hg_ hnew_; clear hg_ hnew_; (first | rw [← Ny284.out] at ho44 | (simp only [Int.reduceToNat] at ho44; rw [← Ny284.out] at ho44)); have HO286 := Aside0.mk (Kd.R_lower (Kd.R_new' (Kd.R_new' (Kd.R_new' (Kd.R_new' ho44 (Kd.R_lt (rX HO_1.out))) (Kd.R_lt (rX HO_3.out))) (Kd.R_lt (rX HO_5.out))) (Kd.R_lt (rX HO_7.out))) (below_size pB)); replace HO_1 := Aside0.mk (Kd.R_elder' (rX HO_1.out) (Kd.R_base ho44) hb); replace HO_3 := Aside0.mk (Kd.R_elder' (rX HO_3.out) (Kd.R_base ho44) hb); replace HO_5 := Aside0.mk (Kd.R_elder' (rX HO_5.out) (Kd.R_base ho44) hb); replace HO_7 := Aside0.mk (Kd.R_elder' (rX HO_7.out) (Kd.R_base ho44) hb); replace HB := Aside0.mk (below_step pB hb); clear hb ho44; obtain ⟨Ao45, co45, eo45⟩ := Kd.R_slice HO_1.out; subst eo45; obtain ⟨Ao46, co46, eo46⟩ := Kd.R_slice HO286.out; subst eo46) | ((with_reducible refine gate_callee (f := 15) rfl ?_); refine goesL_ (some 56) rfl rfl Try.func15 (by kernel_rfl) rfl #[.slice Ao45 t252.length co45, .slice Ao46 y284.length co46] rfl mA ?_; (with_reducible refine (papermillref12_Same.calls kj5 _ _ t252 _ _ y284 true _ ?side1 ?side2 ?side3 ?side4 A32.out).mono ?_); (case side1 => repeat (first | exact (Kd.R_reads' HO_1.out).2.2 | (with_reducible refine Kd.C_alloc ?_ _) | (with_reducible refine Kd.C_drewN ?_ _) | (with_reducible refine Kd.C_drew ?_))); (case side2 => exact (Kd.R_reads' HO_1.out).2.1); (case side3 => repeat (first | exact (Kd.R_reads' HO286.out).2.2 | (with_reducible refine Kd.C_alloc ?_ _) | (with_reducible refine Kd.C_drewN ?_ _) | (with_reducible refine Kd.C_drew ?_))); (case side4 => exact (Kd.R_reads' HO286.out).2.1); rintro e w' ⟨rfl, ⟨nd, rfl⟩⟩; refine ⟨_, rfl, ?_⟩) | ((with_reducible refine gate_dst (N := 59) rfl ?_); (try (refine gate_guard (by rfl) ?_; dsimp only)); refine Kd.R_lit (Kd.int .i64) _ 3 ?hg (N := 59) ?hd (xs := ([4, 3, 3] : List Int)) (inner := [.int .i64 4, .int .i64 3, .int .i64 3]) (ok := fun _ => True) (okp := fun _ => True) ?hr ?hp (fun _ hk => hk) trivial (Below.refl _ _) (Nat.le_refl _) (by simp) ?_; (case hd => rfl); (case hg => rfl); (case hr => first | (go_simp; done) | (go_simp; rfl)); (case hp => exact (Reps.one (show Kd.M (Kd.int .i64) _ _ _ 4 [.int .i64 4] from rfl) (Reps.one (show Kd.M (Kd.int .i64) _ _ _ 3 [.int .i64 3] from rfl) (Reps.one (show Kd.M (Kd.int .i64) _ _ _ 3 [.int .i64 3] from rfl) (Reps.none _ _))))); intro v289 w47 ho48 hb hg_ hnew_; clear hg_ hnew_; (first | rw [← Ny288.out] at ho48 | (simp only [Int.reduceToNat] at ho48; rw [← Ny288.out] at ho48)); have HO290 := Aside0.mk (Kd.R_lower (Kd.R_new' (Kd.R_new' (Kd.R_new' (Kd.R_new' (Kd.R_new' ho48 (Kd.R_lt (rX HO_1.out))) (Kd.R_lt (rX HO_3.out))) (Kd.R_lt (rX HO_5.out))) (Kd.R_lt (rX HO_7.out))) (Kd.R_lt (rX HO286.out))) (below_size pB)); replace HO_1 := Aside0.mk (Kd.R_elder' (rX HO_1.out) (Kd.R_base ho48) hb); replace HO_3 := Aside0.mk (Kd.R_elder' (rX HO_3.out) (Kd.R_base ho48) hb); replace HO_5 := Aside0.mk (Kd.R_elder' (rX HO_5.out) (Kd.R_base ho48) hb); replace HO_7 := Aside0.mk (Kd.R_elder' (rX HO_7.out) (Kd.R_base ho48) hb); replace HO286 := Aside0.mk (Kd.R_elder' (rX HO286.out) (Kd.R_base ho48) hb); replace HB := Aside0.mk (below_step pB hb); clear hb ho48; obtain ⟨Ao49, co49, eo49⟩ := Kd.R_slice HO_3.out; subst eo49; obtain ⟨Ao50, co50, eo50⟩ := Kd.R_slice HO290.out; subst eo50) | (go_at_call 15; (with_reducible refine (papermillref12_Same.calls kj5 _ _ t259 _ _ y288 true _ ?side1 ?side2 ?side3 ?side4 A34.out).mono ?_); (case side1 => repeat (first | exact (Kd.R_reads' HO_3.out).2.2 | (with_reducible refine Kd.C_alloc ?_ _) | (with_reducible refine Kd.C_drewN ?_ _) | (with_reducible refine Kd.C_drew ?_))); (case side2 => exact (Kd.R_reads' HO_3.out).2.1); (case side3 => repeat (first | exact (Kd.R_reads' HO290.out).2.2 | (with_reducible refine Kd.C_alloc ?_ _) | (with_reducible refine Kd.C_drewN ?_ _) | (with_reducible refine Kd.C_drew ?_))); (case side4 => exact (Kd.R_reads' HO290.out).2.1); rintro e w' ⟨rfl, ⟨nd, rfl⟩⟩) | ((with_reducible refine gate_dst (N := 64) rfl ?_); (try (refine gate_guard (by rfl) ?_; dsimp only)); refine Kd.R_lit (Kd.int .i64) _ 3 ?hg (N := 64) ?hd (xs := ([3, 6, 10] : List Int)) (inner := [.int .i64 3, .int .i64 6, .int .i64 10]) (ok := fun _ => True) (okp := fun _ => True) ?hr ?hp (fun _ hk => hk) trivial (Below.refl _ _) (Nat.le_refl _) (by simp) ?_; (case hd => rfl); (case hg => rfl); (case hr => first | (go_simp; done) | (go_simp; rfl)); (case hp => exact (Reps.one (show Kd.M (Kd.int .i64) _ _ _ 3 [.int .i64 3] from rfl) (Reps.one (show Kd.M (Kd.int .i64) _ _ _ 6 [.int .i64 6] from rfl) (Reps.one (show Kd.M (Kd.int .i64) _ _ _ 10 [.int .i64 10] from rfl) (Reps.none _ _))))); intro v293 w51 ho52 hb hg_ hnew_; clear hg_ hnew_; (first | rw [← Ny292.out] at ho52 | (simp only [Int.reduceToNat] at ho52; rw [← Ny292.out] at ho52)); have HO294 := Aside0.mk (Kd.R_lower (Kd.R_new' (Kd.R_new' (Kd.R_new' (Kd.R_new' (Kd.R_new' (Kd.R_new' ho52 (Kd.R_lt (rX HO_1.out))) (Kd.R_lt (rX HO_3.out))) (Kd.R_lt (rX HO_5.out))) (Kd.R_lt (rX HO_7.out))) (Kd.R_lt (rX HO286.out))) (Kd.R_lt (rX HO290.out))) (below_size pB)); replace HO_1 := Aside0.mk (Kd.R_elder' (rX HO_1.out) (Kd.R_base ho52) hb); replace HO_3 := Aside0.mk (Kd.R_elder' (rX HO_3.out) (Kd.R_base ho52) hb); replace HO_5 := Aside0.mk (Kd.R_elder' (rX HO_5.out) (Kd.R_base ho52) hb); replace HO_7 := Aside0.mk (Kd.R_elder' (rX HO_7.out) (Kd.R_base ho52) hb); replace HO286 := Aside0.mk (Kd.R_elder' (rX HO286.out) (Kd.R_base ho52) hb); replace HO290 := Aside0.mk (Kd.R_elder' (rX HO290.out) (Kd.R_base ho52) hb); replace HB := Aside0.mk (below_step pB hb); clear hb ho52; obtain ⟨Ao53, co53, eo53⟩ := Kd.R_slice HO_5.out; subst eo53; obtain ⟨Ao54, co54, eo54⟩ := Kd.R_slice HO294.out; subst eo54) | (go_at_call 15; (with_reducible refine (papermillref12_Same.calls kj5 _ _ t266 _ _ y292 true _ ?side1 ?side2 ?side3 ?side4 A36.out).mono ?_); (case side1 => repeat (first | exact (Kd.R_reads' HO_5.out).2.2 | (with_reducible refine Kd.C_alloc ?_ _) | (with_reducible refine Kd.C_drewN ?_ _) | (with_reducible refine Kd.C_drew ?_))); (case side2 => exact (Kd.R_reads' HO_5.out).2.1); (case side3 => repeat (first | exact (Kd.R_reads' HO294.out).2.2 | (with_reducible refine Kd.C_alloc ?_ _) | (with_reducible refine Kd.C_drewN ?_ _) | (with_reducible refine Kd.C_drew ?_))); (case side4 => exact (Kd.R_reads' HO294.out).2.1); rintro e w' ⟨rfl, ⟨nd, rfl⟩⟩) | ((with_reducible refine gate_dst (N := 69) rfl ?_); (try (refine gate_guard (by rfl) ?_; dsimp only)); refine Kd.R_lit (Kd.int .i64) _ 3 ?hg (N := 69) ?hd (xs := ([0, 0] : List Int)) (inner := [.int .i64 0, .int .i64 0]) (ok := fun _ => True) (okp := fun _ => True) ?hr ?hp (fun _ hk => hk) trivial (Below.refl _ _) (Nat.le_refl _) (by simp) ?_; (case hd => rfl); (case hg => rfl); (case hr => first | (go_simp; done) | (go_simp; rfl)); (case hp => exact (Reps.one (show Kd.M (Kd.int .i64) _ _ _ 0 [.int .i64 0] from rfl) (Reps.one (show Kd.M (Kd.int .i64) _ _ _ 0 [.int .i64 0] from rfl) (Reps.none _ _)))); intro v297 w55 ho56 hb hg_ hnew_; clear hg_ hnew_; (first | rw [← Ny296.out] at ho56 | (simp only [Int.reduceToNat] at ho56; rw [← Ny296.out] at ho56)); have HO298 := Aside0.mk (Kd.R_lower (Kd.R_new' (Kd.R_new' (Kd.R_new' (Kd.R_new' (Kd.R_new' (Kd.R_new' (Kd.R_new' ho56 (Kd.R_lt (rX HO_1.out))) (Kd.R_lt (rX HO_3.out))) (Kd.R_lt (rX HO_5.out))) (Kd.R_lt (rX HO_7.out))) (Kd.R_lt (rX HO286.out))) (Kd.R_lt (rX HO290.out))) (Kd.R_lt (rX HO294.out))) (below_size pB)); replace HO_1 := Aside0.mk (Kd.R_elder' (rX HO_1.out) (Kd.R_base ho56) hb); replace HO_3 := Aside0.mk (Kd.R_elder' (rX HO_3.out) (Kd.R_base ho56) hb); replace HO_5 := Aside0.mk (Kd.R_elder' (rX HO_5.out) (Kd.R_base ho56) hb); replace HO_7 := Aside0.mk (Kd.R_elder' (rX HO_7.out) (Kd.R_base ho56) hb); replace HO286 := Aside0.mk (Kd.R_elder' (rX HO286.out) (Kd.R_base ho56) hb); replace HO290 := Aside0.mk (Kd.R_elder' (rX HO290.out) (Kd.R_base ho56) hb); replace HO294 := Aside0.mk (Kd.R_elder' (rX HO294.out) (Kd.R_base ho56) hb); replace HB := Aside0.mk (below_step pB hb); clear hb ho56; obtain ⟨Ao57, co57, eo57⟩ := Kd.R_slice HO_7.out; subst eo57; obtain ⟨Ao58, co58, eo58⟩ := Kd.R_slice HO298.out; subst eo58) | (go_at_call 15; (with_reducible refine (papermillref12_Same.calls kj5 _ _ t273 _ _ y296 true _ ?side1 ?side2 ?side3 ?side4 A38.out).mono ?_); (case side1 => repeat (first | exact (Kd.R_reads' HO_7.out).2.2 | (with_reducible refine Kd.C_alloc ?_ _) | (with_reducible refine Kd.C_drewN ?_ _) | (with_reducible refine Kd.C_drew ?_))); (case side2 => exact (Kd.R_reads' HO_7.out).2.1); (case side3 => repeat (first | exact (Kd.R_reads' HO298.out).2.2 | (with_reducible refine Kd.C_alloc ?_ _) | (with_reducible refine Kd.C_drewN ?_ _) | (with_reducible refine Kd.C_drew ?_))); (case side4 => exact (Kd.R_reads' HO298.out).2.1); rintro e w' ⟨rfl, ⟨nd, rfl⟩⟩) | ((with_reducible refine gate_dst (N := 73) rfl ?_); (try (refine gate_guard (by rfl) ?_; dsimp only)); refine Kd.R_lit (Kd.int .i64) _ 3 ?hg (N := 73) ?hd (xs := ([3, 1] : List Int)) (inner := [.int .i64 3, .int .i64 1]) (ok := fun _ => True) (okp := fun _ => True) ?hr ?hp (fun _ hk => hk) trivial (Below.refl _ _) (Nat.le_refl _) (by simp) ?_; (case hd => rfl); (case hg => rfl); (case hr => first | (go_simp; done) | (go_simp; rfl)); (case hp => exact (Reps.one (show Kd.M (Kd.int .i64) _ _ _ 3 [.int .i64 3] from rfl) (Reps.one (show Kd.M (Kd.int .i64) _ _ _ 1 [.int .i64 1] from rfl) (Reps.none _ _)))); intro v301 w59 ho60 hb hg_ hnew_; clear hg_ hnew_; (first | rw [← Ny300.out] at ho60 | (simp only [Int.reduceToNat] at ho60; rw [← Ny300.out] at ho60)); have HO302 := Aside0.mk (Kd.R_lower (Kd.R_new' (Kd.R_new' (Kd.R_new' (Kd.R_new' (Kd.R_new' (Kd.R_new' (Kd.R_new' (Kd.R_new' ho60 (Kd.R_lt (rX HO_1.out))) (Kd.R_lt (rX HO_3.out))) (Kd.R_lt (rX HO_5.out))) (Kd.R_lt (rX HO_7.out))) (Kd.R_lt (rX HO286.out))) (Kd.R_lt (rX HO290.out))) (Kd.R_lt (rX HO294.out))) (Kd.R_lt (rX HO298.out))) (below_size pB)); replace HO_1 := Aside0.mk (Kd.R_elder' (rX HO_1.out) (Kd.R_base ho60) hb); replace HO_3 := Aside0.mk (Kd.R_elder' (rX HO_3.out) (Kd.R_base ho60) hb); replace HO_5 := Aside0.mk (Kd.R_elder' (rX HO_5.out) (Kd.R_base ho60) hb); replace HO_7 := Aside0.mk (Kd.R_elder' (rX HO_7.out) (Kd.R_base ho60) hb); replace HO286 := Aside0.mk (Kd.R_elder' (rX HO286.out) (Kd.R_base ho60) hb); replace HO290 := Aside0.mk (Kd.R_elder' (rX HO290.out) (Kd.R_base ho60) hb); replace HO294 := Aside0.mk (Kd.R_elder' (rX HO294.out) (Kd.R_base ho60) hb); replace HO298 := Aside0.mk (Kd.R_elder' (rX HO298.out) (Kd.R_base ho60) hb); replace HB := Aside0.mk (below_step pB hb); clear hb ho60) | ((with_reducible refine gate_dst (N := 74) rfl ?_); (try (refine gate_guard (by rfl) ?_; dsimp only)); refine Kd.R_lit (Kd.int .i64) _ 3 ?hg (N := 74) ?hd (xs := ([10, 5] : List Int)) (inner := [.int .i64 10, .int .i64 5]) (ok := fun _ => True) (okp := fun _ => True) ?hr ?hp (fun _ hk => hk) trivial (Below.refl _ _) (Nat.le_refl _) (by simp) ?_; (case hd => rfl); (case hg => rfl); (case hr => first | (go_simp; done) | (go_simp; rfl)); (case hp => exact (Reps.one (show Kd.M (Kd.int .i64) _ _ _ 10 [.int .i64 10] from rfl) (Reps.one (show Kd.M (Kd.int .i64) _ _ _ 5 [.int .i64 5] from rfl) (Reps.none _ _)))); intro v304 w61 ho62 hb hg_ hnew_; clear hg_ hnew_; (first | rw [← Ny303.out] at ho62 | (simp only [Int.reduceToNat] at ho62; rw [← Ny303.out] at ho62)); have HO305 := Aside0.mk (Kd.R_lower (Kd.R_new' (Kd.R_new' (Kd.R_new' (Kd.R_new' (Kd.R_new' (Kd.R_new' (Kd.R_new' (Kd.R_new' (Kd.R_new' ho62 (Kd.R_lt (rX HO_1.out))) (Kd.R_lt (rX HO_3.out))) (Kd.R_lt (rX HO_5.out))) (Kd.R_lt (rX HO_7.out))) (Kd.R_lt (rX HO286.out))) (Kd.R_lt (rX HO290.out))) (Kd.R_lt (rX HO294.out))) (Kd.R_lt (rX HO298.out))) (Kd.R_lt (rX HO302.out))) (below_size pB)); replace HO_1 := Aside0.mk (Kd.R_elder' (rX HO_1.out) (Kd.R_base ho62) hb); replace HO_3 := Aside0.mk (Kd.R_elder' (rX HO_3.out) (Kd.R_base ho62) hb); replace HO_5 := Aside0.mk (Kd.R_elder' (rX HO_5.out) (Kd.R_base ho62) hb); replace HO_7 := Aside0.mk (Kd.R_elder' (rX HO_7.out) (Kd.R_base ho62) hb); replace HO286 := Aside0.mk (Kd.R_elder' (rX HO286.out) (Kd.R_base ho62) hb); replace HO290 := Aside0.mk (Kd.R_elder' (rX HO290.out) (Kd.R_base ho62) hb); replace HO294 := Aside0.mk (Kd.R_elder' (rX HO294.out) (Kd.R_base ho62) hb); replace HO298 := Aside0.mk (Kd.R_elder' (rX HO298.out) (Kd.R_base ho62) hb); replace HO302 := Aside0.mk (Kd.R_elder' (rX HO302.out) (Kd.R_base ho62) hb); replace HB := Aside0.mk (below_step pB hb); clear hb ho62; obtain ⟨Ao63, co63, eo63⟩ := Kd.R_slice HO302.out; subst eo63; obtain ⟨Ao64, co64, eo64⟩ := Kd.R_slice HO305.out; subst eo64) | (go_at_call 16; (with_reducible refine (share_Fair.calls kj5 _ _ y300 _ _ y303 true _ ?side1 ?side2 ?side3 ?side4 A40.out).mono ?_); (case side1 => repeat (first | exact (Kd.R_reads' HO302.out).2.2 | (with_reducible refine Kd.C_alloc ?_ _) | (with_reducible refine Kd.C_drewN ?_ _) | (with_reducible refine Kd.C_drew ?_))); (case side2 => exact (Kd.R_reads' HO302.out).2.1); (case side3 => repeat (first | exact (Kd.R_reads' HO305.out).2.2 | (with_reducible refine Kd.C_alloc ?_ _) | (with_reducible refine Kd.C_drewN ?_ _) | (with_reducible refine Kd.C_drew ?_))); (case side4 => exact (Kd.R_reads' HO305.out).2.1); rintro e w65 ⟨rfl, hb⟩; replace HO_1 := Aside0.mk (Kd.R_below (rX HO_1.out) hb); replace HO_3 := Aside0.mk (Kd.R_below (rX HO_3.out) hb); replace HO_5 := Aside0.mk (Kd.R_below (rX HO_5.out) hb); replace HO_7 := Aside0.mk (Kd.R_below (rX HO_7.out) hb); replace HO286 := Aside0.mk (Kd.R_below (rX HO286.out) hb); replace HO290 := Aside0.mk (Kd.R_below (rX HO290.out) hb); replace HO294 := Aside0.mk (Kd.R_below (rX HO294.out) hb); replace HO298 := Aside0.mk (Kd.R_below (rX HO298.out) hb); replace HO302 := Aside0.mk (Kd.R_below (rX HO302.out) hb); replace HO305 := Aside0.mk (Kd.R_below (rX HO305.out) hb); replace HB := Aside0.mk (below_step pB hb); (try clear hb); (try clear hb2); (try clear hk); (try clear hi)) | ((with_reducible refine gate_dst (N := 78) rfl ?_); (try (refine gate_guard (by rfl) ?_; dsimp only)); refine Kd.R_lit (Kd.int .i64) _ 3 ?hg (N := 78) ?hd (xs := ([2, 2] : List Int)) (inner := [.int .i64 2, .int .i64 2]) (ok := fun _ => True) (okp := fun _ => True) ?hr ?hp (fun _ hk => hk) trivial (Below.refl _ _) (Nat.le_refl _) (by simp) ?_; (case hd => rfl); (case hg => rfl); (case hr => first | (go_simp; done) | (go_simp; rfl)); (case hp => exact (Reps.one (show Kd.M (Kd.int .i64) _ _ _ 2 [.int .i64 2] from rfl) (Reps.one (show Kd.M (Kd.int .i64) _ _ _ 2 [.int .i64 2] from rfl) (Reps.none _ _)))); intro v308 w66 ho67 hb hg_ hnew_; clear hg_ hnew_; (first | rw [← Ny307.out] at ho67 | (simp only [Int.reduceToNat] at ho67; rw [← Ny307.out] at ho67)); have HO309 := Aside0.mk (Kd.R_lower (Kd.R_new' (Kd.R_new' (Kd.R_new' (Kd.R_new' (Kd.R_new' (Kd.R_new' (Kd.R_new' (Kd.R_new' (Kd.R_new' (Kd.R_new' ho67 (Kd.R_lt (rX HO_1.out))) (Kd.R_lt (rX HO_3.out))) (Kd.R_lt (rX HO_5.out))) (Kd.R_lt (rX HO_7.out))) (Kd.R_lt (rX HO286.out))) (Kd.R_lt (rX HO290.out))) (Kd.R_lt (rX HO294.out))) (Kd.R_lt (rX HO298.out))) (Kd.R_lt (rX HO302.out))) (Kd.R_lt (rX HO305.out))) (below_size pB)); replace HO_1 := Aside0.mk (Kd.R_elder' (rX HO_1.out) (Kd.R_base ho67) hb); replace HO_3 := Aside0.mk (Kd.R_elder' (rX HO_3.out) (Kd.R_base ho67) hb); replace HO_5 := Aside0.mk (Kd.R_elder' (rX HO_5.out) (Kd.R_base ho67) hb); replace HO_7 := Aside0.mk (Kd.R_elder' (rX HO_7.out) (Kd.R_base ho67) hb); replace HO286 := Aside0.mk (Kd.R_elder' (rX HO286.out) (Kd.R_base ho67) hb); replace HO290 := Aside0.mk (Kd.R_elder' (rX HO290.out) (Kd.R_base ho67) hb); replace HO294 := Aside0.mk (Kd.R_elder' (rX HO294.out) (Kd.R_base ho67) hb); replace HO298 := Aside0.mk (Kd.R_elder' (rX HO298.out) (Kd.R_base ho67) hb); replace HO302 := Aside0.mk (Kd.R_elder' (rX HO302.out) (Kd.R_base ho67) hb); replace HO305 := Aside0.mk (Kd.R_elder' (rX HO305.out) (Kd.R_base ho67) hb); replace HB := Aside0.mk (below_step pB hb); clear hb ho67) | ((with_reducible refine gate_dst (N := 79) rfl ?_); (try (refine gate_guard (by rfl) ?_; dsimp only)); refine Kd.R_lit (Kd.int .i64) _ 3 ?hg (N := 79) ?hd (xs := ([10, 5] : List Int)) (inner := [.int .i64 10, .int .i64 5]) (ok := fun _ => True) (okp := fun _ => True) ?hr ?hp (fun _ hk => hk) trivial (Below.refl _ _) (Nat.le_refl _) (by simp) ?_; (case hd => rfl); (case hg => rfl); (case hr => first | (go_simp; done) | (go_simp; rfl)); (case hp => exact (Reps.one (show Kd.M (Kd.int .i64) _ _ _ 10 [.int .i64 10] from rfl) (Reps.one (show Kd.M (Kd.int .i64) _ _ _ 5 [.int .i64 5] from rfl) (Reps.none _ _)))); intro v311 w68 ho69 hb hg_ hnew_; clear hg_ hnew_; (first | rw [← Ny310.out] at ho69 | (simp only [Int.reduceToNat] at ho69; rw [← Ny310.out] at ho69)); have HO312 := Aside0.mk (Kd.R_lower (Kd.R_new' (Kd.R_new' (Kd.R_new' (Kd.R_new' (Kd.R_new' (Kd.R_new' (Kd.R_new' (Kd.R_new' (Kd.R_new' (Kd.R_new' (Kd.R_new' ho69 (Kd.R_lt (rX HO_1.out))) (Kd.R_lt (rX HO_3.out))) (Kd.R_lt (rX HO_5.out))) (Kd.R_lt (rX HO_7.out))) (Kd.R_lt (rX HO286.out))) (Kd.R_lt (rX HO290.out))) (Kd.R_lt (rX HO294.out))) (Kd.R_lt (rX HO298.out))) (Kd.R_lt (rX HO302.out))) (Kd.R_lt (rX HO305.out))) (Kd.R_lt (rX HO309.out))) (below_size pB)); replace HO_1 := Aside0.mk (Kd.R_elder' (rX HO_1.out) (Kd.R_base ho69) hb); replace HO_3 := Aside0.mk (Kd.R_elder' (rX HO_3.out) (Kd.R_base ho69) hb); replace HO_5 := Aside0.mk (Kd.R_elder' (rX HO_5.out) (Kd.R_base ho69) hb); replace HO_7 := Aside0.mk (Kd.R_elder' (rX HO_7.out) (Kd.R_base ho69) hb); replace HO286 := Aside0.mk (Kd.R_elder' (rX HO286.out) (Kd.R_base ho69) hb); replace HO290 := Aside0.mk (Kd.R_elder' (rX HO290.out) (Kd.R_base ho69) hb); replace HO294 := Aside0.mk (Kd.R_elder' (rX HO294.out) (Kd.R_base ho69) hb); replace HO298 := Aside0.mk (Kd.R_elder' (rX HO298.out) (Kd.R_base ho69) hb); replace HO302 := Aside0.mk (Kd.R_elder' (rX HO302.out) (Kd.R_base ho69) hb); replace HO305 := Aside0.mk (Kd.R_elder' (rX HO305.out) (Kd.R_base ho69) hb); replace HO309 := Aside0.mk (Kd.R_elder' (rX HO309.out) (Kd.R_base ho69) hb); replace HB := Aside0.mk (below_step pB hb); clear hb ho69; obtain ⟨Ao70, co70, eo70⟩ := Kd.R_slice HO309.out; subst eo70; obtain ⟨Ao71, co71, eo71⟩ := Kd.R_slice HO312.out; subst eo71) | (go_at_call 16; (with_reducible refine (share_Fair.calls kj5 _ _ y307 _ _ y310 t313 _ ?side1 ?side2 ?side3 ?side4 A42.out).mono ?_); (case side1 => repeat (first | exact (Kd.R_reads' HO309.out).2.2 | (with_reducible refine Kd.C_alloc ?_ _) | (with_reducible refine Kd.C_drewN ?_ _) | (with_reducible refine Kd.C_drew ?_))); (case side2 => exact (Kd.R_reads' HO309.out).2.1); (case side3 => repeat (first | exact (Kd.R_reads' HO312.out).2.2 | (with_reducible refine Kd.C_alloc ?_ _) | (with_reducible refine Kd.C_drewN ?_ _) | (with_reducible refine Kd.C_drew ?_))); (case side4 => exact (Kd.R_reads' HO312.out).2.1); rintro e w72 ⟨rfl, hb⟩; replace HO_1 := Aside0.mk (Kd.R_below (rX HO_1.out) hb); replace HO_3 := Aside0.mk (Kd.R_below (rX HO_3.out) hb); replace HO_5 := Aside0.mk (Kd.R_below (rX HO_5.out) hb); replace HO_7 := Aside0.mk (Kd.R_below (rX HO_7.out) hb); replace HO286 := Aside0.mk (Kd.R_below (rX HO286.out) hb); replace HO290 := Aside0.mk (Kd.R_below (rX HO290.out) hb); replace HO294 := Aside0.mk (Kd.R_below (rX HO294.out) hb); replace HO298 := Aside0.mk (Kd.R_below (rX HO298.out) hb); replace HO302 := Aside0.mk (Kd.R_below (rX HO302.out) hb); replace HO305 := Aside0.mk (Kd.R_below (rX HO305.out) hb); replace HO309 := Aside0.mk (Kd.R_below (rX HO309.out) hb); replace HO312 := Aside0.mk (Kd.R_below (rX HO312.out) hb); replace HB := Aside0.mk (below_step pB hb); (try clear hb); (try clear hb2); (try clear hk); (try clear hi)))
         go_ret
         exact ⟨by first | rfl | (simp [errW_none, errW_some] <;> rfl) | (simp [*, errW_none, errW_some] <;> rfl), pB⟩
        ·replace c41 := Bool.eq_false_iff.mpr c41
         subst c41
         have H1 : (none) = some r := by rw [if_neg (show ¬ (false = true) by decide)] at H; exact H
         clear H
         have H := H1
         clear H1
         exact absurd H (by simp)
       ·replace c39 := Bool.eq_false_iff.mpr c39
        subst c39
        have H1 : (none) = some r := by rw [if_neg (show ¬ (false = true) by decide)] at H; exact H
        clear H
        have H := H1
        clear H1
        exact absurd H (by simp)
      ·replace c37 := Bool.eq_false_iff.mpr c37
       subst c37
       have H1 : (none) = some r := by rw [if_neg (show ¬ (false = true) by decide)] at H; exact H
       clear H
       have H := H1
       clear H1
       exact absurd H (by simp)
     ·replace c35 := Bool.eq_false_iff.mpr c35
      subst c35
      have H1 : (none) = some r := by rw [if_neg (show ¬ (false = true) by decide)] at H; exact H
      clear H
      have H := H1
      clear H1
      exact absurd H (by simp)
    ·replace c33 := Bool.eq_false_iff.mpr c33
     subst c33
     have H1 : (none) = some r := by rw [if_neg (show ¬ (false = true) by decide)] at H; exact H
     clear H
     have H := H1
     clear H1
     exact absurd H (by simp)

end Go.Proofs.Ytloihkecfommbaa.Print
