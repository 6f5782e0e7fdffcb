-- Written by wip/tools/rowmore.py: the row of the law Azq, out of its Pure and the printed walk. Not trusted: Lean checks it.
import Derived.Test.YtbnpcplckcipfaaRows
import Derived.Test.YtbnpcplckcipfaaPrint54
import Derived.Test.YtbnpcplckcipfaaPureTankPoured
import Derived.Test.YtbnpcplckcipfaaRowLib
import Derived.WalkKit
import Derived.ProofKit
import Derived.OpenShut
import Derived.ShutString
import Derived.ChangeOld
import Derived.Below
import Derived.SizedLaws
import Derived.Test.YtbnpcplckcipfaaWSized
namespace Go.Proofs.Ytbnpcplckcipfaa.tankPoured
open Go.ChangeShapes Go.WideShapes Go.ChangeAt Go.RowKit Go.Proofs.Ytbnpcplckcipfaa.Print Go.Proofs.YtbnpcplckcipfaaW.PrintWords
open Go.ChangeMaps (open_string shut_string)
set_option linter.unusedVariables false
theorem own : ownKnob Try.prog.godebug = none := by kernel_rfl
theorem laidOut : laidOutB Try.prog = true := by kernel_rfl
set_option maxRecDepth 100000 in
theorem lifted (os : Os) (started : os.Started) (H : Type) (enc : TypeId × Value → H) :
    ReturnsInHanded {} Try.checked os 9 .any (Rows.tankPouredSpec.pre6 enc Try.prog Try.f9 Rows.tankPouredRow.domain false) (Rows.tankPouredSpec.post enc Try.prog Try.f9 false true false false) := by
  refine returnsInHanded_of_change_sized (C := Try.checked) own started (by kernel_rfl) Try.func9
    (ChangeSpec.witness6 (enc := enc) (C := Try.checked) false ⟨#[], #[.agg #[.int .i64 0, .slice none 0 0], .agg #[.int .i64 0, .slice none 0 0], .int .i64 0], []⟩ 8 (by kernel_rfl) (by kernel_rfl) (by kernel_rfl) (by kernel_rfl)) ?_
  intro W base args ds gs before hval0 hW hcnd hsz0 _
  have hsz : (DataW.weightsEach Try.prog (Try.f9.params.toList ++ Rows.tankPouredSpec.plain.varTypes Try.prog) (ds ++ gs)).all (· ≤ reachBytes) = true := hsz0
  have hval : ∀ (j : Nat) t v, Try.f9.params[j]? = some t → args[j]? = some v → Value.okWide Try.prog W .any base t v := hval0
  have hW' := hW
  obtain ⟨p, q, hA0, hV, rfl, hfz, hnd⟩ := hW
  have hA : DataW.TrodAll enc Try.prog W 0 (fun _ => true) true Try.f9.params.toList args.toList ds p := hA0
  rw [Try.params9] at hA hval hsz
  obtain ⟨v0, vs0, d0, ds0, p0, q0, hargs, rfl, rfl, h0, r0⟩ := trodAll_cons hA
  obtain ⟨v1, vs1, d1, ds1, p1, q1, rfl, rfl, rfl, h1, r1⟩ := trodAll_cons r0
  obtain ⟨v2, vs2, d2, ds2, p2, q2, rfl, rfl, rfl, h2, r2⟩ := trodAll_cons r1
  obtain ⟨rfl, rfl, rfl⟩ := trodAll_nil r2
  obtain rfl : args = #[v0, v1, v2] := by cases args; simp_all
  obtain ⟨rfl, rfl⟩ := trodVars_none hV
  have kk0 := h0
  obtain ⟨b0, rfl, _⟩ := okWide_struct Try.underlying24 (hval 0 24 v0 rfl rfl)
  have lt0 : ∀ x ∈ p0, x.block < W.heap.size := by obtain ⟨m, hm⟩ := kk0; exact DataW.trod_lt m _ _ _ hm
  obtain ⟨⟨a0_0, l0_1⟩, ⟨_, _, ee0, rfl, ⟨A0_1, c0_1, rfl, hc0_1, hr0_1⟩⟩, ⟨w0_0, ⟨hm0_1, hy0_1, hg0_1⟩⟩⟩ := RowLib.opened (t := 24) (RowLib.opens_struct Try.underlying24 (by kernel_rfl) (RowLib.fopens_cons rfl (RowLib.opens_int Try.underlying3 (by kernel_rfl)) (RowLib.fopens_last rfl (RowLib.opens_slice (E := 33) (b := 56) Try.underlying22 (by kernel_rfl) (by kernel_rfl) (RowLib.opens_iso (d' := k33) (fun y => ⟨y.1, y.2.1, y.2.2⟩) (fun y => rfl) rfl (RowLib.opens_struct Try.underlying33 (by kernel_rfl) (RowLib.fopens_cons rfl (RowLib.opens_bool Try.underlying4 (by kernel_rfl)) (RowLib.fopens_cons rfl (RowLib.opens_slice (E := 3) (b := 8) Try.underlying31 (by kernel_rfl) (by kernel_rfl) (RowLib.opens_int Try.underlying3 (by kernel_rfl))) (RowLib.fopens_last rfl (RowLib.opens_slice (E := 3) (b := 8) Try.underlying31 (by kernel_rfl) (by kernel_rfl) (RowLib.opens_int Try.underlying3 (by kernel_rfl)))))))))))) hsz (j := 0) rfl rfl h0
  obtain rfl : b0 = #[.int .i64 a0_0, .slice A0_1 l0_1.length c0_1] := Array.ext' ee0
  have kk1 := h1
  obtain ⟨b1, rfl, _⟩ := okWide_struct Try.underlying24 (hval 1 24 v1 rfl rfl)
  have lt1 : ∀ x ∈ p1, x.block < W.heap.size := by obtain ⟨m, hm⟩ := kk1; exact DataW.trod_lt m _ _ _ hm
  obtain ⟨⟨a1_0, l1_1⟩, ⟨_, _, ee1, rfl, ⟨A1_1, c1_1, rfl, hc1_1, hr1_1⟩⟩, ⟨w1_0, ⟨hm1_1, hy1_1, hg1_1⟩⟩⟩ := RowLib.opened (t := 24) (RowLib.opens_struct Try.underlying24 (by kernel_rfl) (RowLib.fopens_cons rfl (RowLib.opens_int Try.underlying3 (by kernel_rfl)) (RowLib.fopens_last rfl (RowLib.opens_slice (E := 33) (b := 56) Try.underlying22 (by kernel_rfl) (by kernel_rfl) (RowLib.opens_iso (d' := k33) (fun y => ⟨y.1, y.2.1, y.2.2⟩) (fun y => rfl) rfl (RowLib.opens_struct Try.underlying33 (by kernel_rfl) (RowLib.fopens_cons rfl (RowLib.opens_bool Try.underlying4 (by kernel_rfl)) (RowLib.fopens_cons rfl (RowLib.opens_slice (E := 3) (b := 8) Try.underlying31 (by kernel_rfl) (by kernel_rfl) (RowLib.opens_int Try.underlying3 (by kernel_rfl))) (RowLib.fopens_last rfl (RowLib.opens_slice (E := 3) (b := 8) Try.underlying31 (by kernel_rfl) (by kernel_rfl) (RowLib.opens_int Try.underlying3 (by kernel_rfl)))))))))))) hsz (j := 1) rfl rfl h1
  obtain rfl : b1 = #[.int .i64 a1_0, .slice A1_1 l1_1.length c1_1] := Array.ext' ee1
  obtain ⟨a2, rfl, rfl, rfl, w2⟩ := open_int Try.underlying3 (hval 2 3 v2 rfl rfl) h2
  clear hA0 hval0 hsz0 hsz
  obtain ⟨k, h⟩ := Pure.TankPoured a0_0 l0_1 a1_0 l1_1 a2 w0_0 hm0_1 hy0_1 hg0_1 w1_0 hm1_1 hy1_1 hg1_1 w2
  refine (Azq.calls k a0_0 A0_1 c0_1 l0_1 a1_0 A1_1 c1_1 l1_1 a2 true W hr0_1 hc0_1 hr1_1 hc1_1 h).mono fun e W' ⟨he, hd⟩ => ?_
  have bel := hd
  subst he
  exact ⟨_, rfl, _, _, _, [], _, [], hW', trodAll_mk1 (shut_bool Try.underlying4 _), (trodAll_cons_mk (Below.trod laidOut (by kernel_rfl) (of_decide_eq_true (by kernel_rfl)) kk0 bel lt0) (trodAll_cons_mk (Below.trod laidOut (by kernel_rfl) (of_decide_eq_true (by kernel_rfl)) kk1 bel lt1) (trodAll_cons_mk (shut_int Try.underlying3 w2) trodAll_mk0))), rfl, bel.frame _, fun h => by cases h⟩
theorem over : Rows.tankPouredRow.holds Try.pinned (OpenSpec.ofChange Rows.tankPouredSpec) :=
  OpenClaim.holds_of_wide 9 Try.f9 rfl rfl rfl rfl rfl rfl rfl ⟨rfl, rfl, rfl, rfl, rfl⟩ rfl rfl rfl rfl rfl (by kernel_rfl) Try.func9 (by kernel_rfl)
    (of_decide_eq_true (by kernel_rfl)) (by unfold Func.isWrapper; first | (rw [if_pos (by decide +kernel)]; kernel_rfl) | (rw [if_neg (by decide +kernel)]; exact ⟨rfl, rfl⟩))
    (fun os started H enc _ => lifted os started H enc)
theorem proved : Rows.TankPouredSaid := over
#print axioms proved
end Go.Proofs.Ytbnpcplckcipfaa.tankPoured
namespace Go.Proofs.Ytbnpcplckcipfaa
/-- The row, under a short name, for the claim. -/
theorem tankPoured_holds : Rows.TankPouredSaid := tankPoured.proved
end Go.Proofs.Ytbnpcplckcipfaa
