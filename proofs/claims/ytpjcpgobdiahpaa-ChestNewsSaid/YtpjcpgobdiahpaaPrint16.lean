-- Written by wip/tools/myprint.py out of the translation. Not trusted: Lean checks it.
import Derived.Test.YtpjcpgobdiahpaaPrint0
namespace Go.Proofs.Ytpjcpgobdiahpaa.Print
open Go.RowKit Go.Proofs.YtpjcpgobdiahpaaW.PrintWords Go.Proofs.YtpjcpgobdiahpaaW.PrintLast Go.Proofs.YtpjcpgobdiahpaaW.PrintMore
attribute [local go_sem] max2_int min2_int max_two min_two max_three min_three max_four min_four   -- for this text's walks alone
set_option linter.unusedVariables false
set_option linter.unusedSimpArgs false

/-! ### slices_symMergeCmpFunc_int__share_Split_1: function 109 (given) -/
/-- Not told (lists of at most 20 elements don't come here): no answer. -/
def slices_symMergeCmpFunc_int__share_Split_1.f (_k : Nat) (_l0 : List Int) (_a1 : Int) (_a2 : Int) (_a3 : Int) (_l4_0 : List (List Int)) : Option (List Int) := none
theorem slices_symMergeCmpFunc_int__share_Split_1.mono : ∀ a0 a1 a2 a3 a4 k, LeO (slices_symMergeCmpFunc_int__share_Split_1.f k a0 a1 a2 a3 a4) (slices_symMergeCmpFunc_int__share_Split_1.f (k + 1) a0 a1 a2 a3 a4) := fun _ _ _ _ _ _ => LeO.refl _
theorem slices_symMergeCmpFunc_int__share_Split_1.calls (k : Nat) (P0_ : Nat → Prop) (u9000_ : Value) (l0 : List Int) (a1 : Int) (a2 : Int) (a3 : Int) (A4_0 : Option Addr) (c4_0 : Nat) (l4_0 : List (List Int)) (r : List Int) (w0 w : World) (hB : Below w0.heap.size w0 w) (ho0 : Kd.R (Kd.int .i64) 3 w w0.heap.size P0_ u9000_ l0) (hr4_0 : ∀ W_, Kept w W_ (fun k_ => P0_ k_) → Kd.C (Kd.slice 3 (Kd.int .i64)) W_ A4_0 l4_0.length l4_0) (hc4_0 : l4_0.length ≤ c4_0) (h : slices_symMergeCmpFunc_int__share_Split_1.f k l0 a1 a2 a3 l4_0 = some r) :
  Calls Try.prog 109 #[u9000_, .int .i64 a1, .int .i64 a2, .int .i64 a3, .func (.func 69) #[] #[.pointer A4_0]] w fun e w' => e = .returned (.tuple #[]) ∧ Kd.R (Kd.int .i64) 3 w' w0.heap.size (fun k_ => (P0_ k_ ∨ w.heap.size ≤ k_)) u9000_ r ∧ Below w0.heap.size w0 w' ∧ Kept w w' (fun k_ => P0_ k_) := by
 simp [slices_symMergeCmpFunc_int__share_Split_1.f] at h

end Go.Proofs.Ytpjcpgobdiahpaa.Print
