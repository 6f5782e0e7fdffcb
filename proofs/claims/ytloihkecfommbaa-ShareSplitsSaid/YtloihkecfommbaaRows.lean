/-
  No cell of these rows narrows 'for every input' (looked for: loops, veiled, ifaces, maps, wideKeys, modest, calm, conditions, laid).
  DERIVED. THE GIVEN ROWS OF THIS SEAT. 6 by the template 'for every input the law returns true; each argument reads behind the call as it read before'; 0 by the template 'total and deterministic' (their statements: YtloihkecfommbaaTotals.lean).
  GIVEN WITH THE SEED: the statements are not yours to turn. If you find one false, say at which input.
  Laid BY PROGRAM, IN A SANDBOX (cutbox-rows.mjs): the forced cells as the released guide's own fill.sh prints them over the translation 115cd7fdfc95ec80… (all of the seat's roots in one cut). By AI agents, Wed Nov 11 2026. No macro, syntax, notation, axiom, sorry.
-/
import Derived.Test.YtloihkecfommbaaChecked
import GoSem.Claim
import GoSem.ClaimJoined
import GoSem.ClaimMapViews
import Derived.JoinedTies
import Derived.KernelRfl
namespace Go.Proofs.Ytloihkecfommbaa
/- THE CELL 'sum', in the pinned program and in every row, IS THE sha256 OF THE DUMP (.gsa) THAT YtloihkecfommbaaProg.lean LOADS. Nothing in Lean hashes anything: it is a label: what it is worth is what the hold of that sum in a sandbox is worth. -/
noncomputable def Try.pinned : Pinned := { name := "ytloihkecfommbaa", sum := "115cd7fdfc95ec80e68e2fd3a7195bc4a0c65ba4fb5f5af134a0a3325dddabfb", checked := Try.checked }
namespace Rows
def none {H : Type} : Left H := { results := [], args := [] }

/-- 'papermilllaw12.ShareSplits': WHATEVER THE INPUT: true; the input reads as it did. -/
def shareSplitsSpec : ChangeSpec := { name := "shareSplits", fn := fun _ => fun
  | [d1, d2, d3] => { results := [.lit (.bool true)], args := [d1, d2, d3] }
  | _ => none }
def shareSplitsRow : OpenClaim := { program := "ytloihkecfommbaa", sum := "115cd7fdfc95ec80e68e2fd3a7195bc4a0c65ba4fb5f5af134a0a3325dddabfb", func := "papermill/papermilllaw12.ShareSplits", spec := "shareSplits", unfollowed := true, recurses := true, apart := false }
def ShareSplitsSaid : Prop := shareSplitsRow.holds Try.pinned (OpenSpec.ofChange shareSplitsSpec)

/-- ITS FALSE NEIGHBOUR: 'it returns false'. Refute it at one input. -/
def shareSplitsWrong : ChangeSpec := { name := "shareSplits", fn := fun _ => fun
  | [d1, d2, d3] => { results := [.lit (.bool false)], args := [d1, d2, d3] }
  | _ => none }
def ShareSplitsWrongFalsely : Prop := shareSplitsRow.holds Try.pinned (OpenSpec.ofChange shareSplitsWrong)

/-- 'papermilllaw12.ShareFairs': WHATEVER THE INPUT: true; the input reads as it did. -/
def shareFairsSpec : ChangeSpec := { name := "shareFairs", fn := fun _ => fun
  | [d1, d2, d3] => { results := [.lit (.bool true)], args := [d1, d2, d3] }
  | _ => none }
def shareFairsRow : OpenClaim := { program := "ytloihkecfommbaa", sum := "115cd7fdfc95ec80e68e2fd3a7195bc4a0c65ba4fb5f5af134a0a3325dddabfb", func := "papermill/papermilllaw12.ShareFairs", spec := "shareFairs", unfollowed := true, recurses := true, apart := false }
def ShareFairsSaid : Prop := shareFairsRow.holds Try.pinned (OpenSpec.ofChange shareFairsSpec)

/-- ITS FALSE NEIGHBOUR: 'it returns false'. Refute it at one input. -/
def shareFairsWrong : ChangeSpec := { name := "shareFairs", fn := fun _ => fun
  | [d1, d2, d3] => { results := [.lit (.bool false)], args := [d1, d2, d3] }
  | _ => none }
def ShareFairsWrongFalsely : Prop := shareFairsRow.holds Try.pinned (OpenSpec.ofChange shareFairsWrong)

/-- 'papermilllaw12.ShareOrder': WHATEVER THE INPUT: true; the input reads as it did. -/
def shareOrderSpec : ChangeSpec := { name := "shareOrder", fn := fun _ => fun
  | [d1, d2] => { results := [.lit (.bool true)], args := [d1, d2] }
  | _ => none }
def shareOrderRow : OpenClaim := { program := "ytloihkecfommbaa", sum := "115cd7fdfc95ec80e68e2fd3a7195bc4a0c65ba4fb5f5af134a0a3325dddabfb", func := "papermill/papermilllaw12.ShareOrder", spec := "shareOrder", unfollowed := true, recurses := true, apart := false }
def ShareOrderSaid : Prop := shareOrderRow.holds Try.pinned (OpenSpec.ofChange shareOrderSpec)

/-- ITS FALSE NEIGHBOUR: 'it returns false'. Refute it at one input. -/
def shareOrderWrong : ChangeSpec := { name := "shareOrder", fn := fun _ => fun
  | [d1, d2] => { results := [.lit (.bool false)], args := [d1, d2] }
  | _ => none }
def ShareOrderWrongFalsely : Prop := shareOrderRow.holds Try.pinned (OpenSpec.ofChange shareOrderWrong)

/-- 'papermilllaw12.ShareScale': WHATEVER THE INPUT: true; the input reads as it did. -/
def shareScaleSpec : ChangeSpec := { name := "shareScale", fn := fun _ => fun
  | [d1, d2, d3] => { results := [.lit (.bool true)], args := [d1, d2, d3] }
  | _ => none }
def shareScaleRow : OpenClaim := { program := "ytloihkecfommbaa", sum := "115cd7fdfc95ec80e68e2fd3a7195bc4a0c65ba4fb5f5af134a0a3325dddabfb", func := "papermill/papermilllaw12.ShareScale", spec := "shareScale", unfollowed := true, recurses := true, apart := false }
def ShareScaleSaid : Prop := shareScaleRow.holds Try.pinned (OpenSpec.ofChange shareScaleSpec)

/-- ITS FALSE NEIGHBOUR: 'it returns false'. Refute it at one input. -/
def shareScaleWrong : ChangeSpec := { name := "shareScale", fn := fun _ => fun
  | [d1, d2, d3] => { results := [.lit (.bool false)], args := [d1, d2, d3] }
  | _ => none }
def ShareScaleWrongFalsely : Prop := shareScaleRow.holds Try.pinned (OpenSpec.ofChange shareScaleWrong)

/-- 'papermilllaw12.ShareEvens': WHATEVER THE INPUT: true; the input reads as it did. -/
def shareEvensSpec : ChangeSpec := { name := "shareEvens", fn := fun _ => fun
  | [d1, d2] => { results := [.lit (.bool true)], args := [d1, d2] }
  | _ => none }
def shareEvensRow : OpenClaim := { program := "ytloihkecfommbaa", sum := "115cd7fdfc95ec80e68e2fd3a7195bc4a0c65ba4fb5f5af134a0a3325dddabfb", func := "papermill/papermilllaw12.ShareEvens", spec := "shareEvens", unfollowed := true, recurses := true, apart := false }
def ShareEvensSaid : Prop := shareEvensRow.holds Try.pinned (OpenSpec.ofChange shareEvensSpec)

/-- ITS FALSE NEIGHBOUR: 'it returns false'. Refute it at one input. -/
def shareEvensWrong : ChangeSpec := { name := "shareEvens", fn := fun _ => fun
  | [d1, d2] => { results := [.lit (.bool false)], args := [d1, d2] }
  | _ => none }
def ShareEvensWrongFalsely : Prop := shareEvensRow.holds Try.pinned (OpenSpec.ofChange shareEvensWrong)

/-- 'papermilllaw12.ShareFair': WHATEVER THE INPUT: true; the input reads as it did. -/
def shareFairSpec : ChangeSpec := { name := "shareFair", fn := fun _ => fun
  | [d1, d2] => { results := [.lit (.bool true)], args := [d1, d2] }
  | _ => none }
def shareFairRow : OpenClaim := { program := "ytloihkecfommbaa", sum := "115cd7fdfc95ec80e68e2fd3a7195bc4a0c65ba4fb5f5af134a0a3325dddabfb", func := "papermill/papermilllaw12.ShareFair", spec := "shareFair", unfollowed := true, recurses := true, apart := false }
def ShareFairSaid : Prop := shareFairRow.holds Try.pinned (OpenSpec.ofChange shareFairSpec)

/-- ITS FALSE NEIGHBOUR: 'it returns false'. Refute it at one input. -/
def shareFairWrong : ChangeSpec := { name := "shareFair", fn := fun _ => fun
  | [d1, d2] => { results := [.lit (.bool false)], args := [d1, d2] }
  | _ => none }
def ShareFairWrongFalsely : Prop := shareFairRow.holds Try.pinned (OpenSpec.ofChange shareFairWrong)

/- THE SECOND FORM. 'bulk': how many values and letters a reading holds, each counted each time it is reached (what is shared counts as often as it is met; a slice's spare places count too). A statement '..UptoSaid' is the law's where the arguments, and the package variables that the reading takes, are together of bulk at most 1048576: NARROWER than '..Said'. Prove '..Said' where nothing that the law and all that it calls make is longer than what came in: it says more and counts as full. Else prove '..UptoSaid'. A law counts once. -/
mutual
def uptoBulk {H : Type} : DataW H → Nat
  | .lit (.string bytes) => bytes.length + 1
  | .lit _ => 1
  | .nil => 1
  | .ptr d => uptoBulk d + 1
  | .slice elems spare => uptoBulkAll elems + uptoBulkAll spare + 1
  | .agg parts => uptoBulkAll parts + 1
  | .iface _ d => uptoBulk d + 1
  | .map entries => uptoBulkEntries entries + 1
  | .held _ => 1
def uptoBulkAll {H : Type} : List (DataW H) → Nat
  | [] => 0
  | d :: r => uptoBulk d + uptoBulkAll r
def uptoBulkEntries {H : Type} : List (Lit × DataW H) → Nat
  | [] => 0
  | x :: r => uptoBulkEntry x + uptoBulkEntries r
def uptoBulkEntry {H : Type} : Lit × DataW H → Nat
  | (.string bytes, d) => bytes.length + uptoBulk d + 1
  | (_, d) => uptoBulk d + 1
 end
def uptoSmall : (H : Type) → List (DataW H) → Bool := fun _ ds => decide (uptoBulkAll ds ≤ 1048576)
def OpenSpec.upto (s : _root_.Go.ChangeSpec) : _root_.Go.OpenSpec := { _root_.Go.OpenSpec.ofChange s with cond := some uptoSmall }

/-- 'papermilllaw12.ShareSplits', WHERE WHAT IT READS IS OF BULK AT MOST 1048576: true; the input reads as it did. -/
def shareSplitsUptoRow : OpenClaim := { program := "ytloihkecfommbaa", sum := "115cd7fdfc95ec80e68e2fd3a7195bc4a0c65ba4fb5f5af134a0a3325dddabfb", func := "papermill/papermilllaw12.ShareSplits", spec := "shareSplits", unfollowed := true, recurses := true, apart := false, narrowed := true }
def ShareSplitsUptoSaid : Prop := shareSplitsUptoRow.holds Try.pinned (OpenSpec.upto shareSplitsSpec)

/-- 'papermilllaw12.ShareFairs', WHERE WHAT IT READS IS OF BULK AT MOST 1048576: true; the input reads as it did. -/
def shareFairsUptoRow : OpenClaim := { program := "ytloihkecfommbaa", sum := "115cd7fdfc95ec80e68e2fd3a7195bc4a0c65ba4fb5f5af134a0a3325dddabfb", func := "papermill/papermilllaw12.ShareFairs", spec := "shareFairs", unfollowed := true, recurses := true, apart := false, narrowed := true }
def ShareFairsUptoSaid : Prop := shareFairsUptoRow.holds Try.pinned (OpenSpec.upto shareFairsSpec)

/-- 'papermilllaw12.ShareOrder', WHERE WHAT IT READS IS OF BULK AT MOST 1048576: true; the input reads as it did. -/
def shareOrderUptoRow : OpenClaim := { program := "ytloihkecfommbaa", sum := "115cd7fdfc95ec80e68e2fd3a7195bc4a0c65ba4fb5f5af134a0a3325dddabfb", func := "papermill/papermilllaw12.ShareOrder", spec := "shareOrder", unfollowed := true, recurses := true, apart := false, narrowed := true }
def ShareOrderUptoSaid : Prop := shareOrderUptoRow.holds Try.pinned (OpenSpec.upto shareOrderSpec)

/-- 'papermilllaw12.ShareScale', WHERE WHAT IT READS IS OF BULK AT MOST 1048576: true; the input reads as it did. -/
def shareScaleUptoRow : OpenClaim := { program := "ytloihkecfommbaa", sum := "115cd7fdfc95ec80e68e2fd3a7195bc4a0c65ba4fb5f5af134a0a3325dddabfb", func := "papermill/papermilllaw12.ShareScale", spec := "shareScale", unfollowed := true, recurses := true, apart := false, narrowed := true }
def ShareScaleUptoSaid : Prop := shareScaleUptoRow.holds Try.pinned (OpenSpec.upto shareScaleSpec)

/-- 'papermilllaw12.ShareEvens', WHERE WHAT IT READS IS OF BULK AT MOST 1048576: true; the input reads as it did. -/
def shareEvensUptoRow : OpenClaim := { program := "ytloihkecfommbaa", sum := "115cd7fdfc95ec80e68e2fd3a7195bc4a0c65ba4fb5f5af134a0a3325dddabfb", func := "papermill/papermilllaw12.ShareEvens", spec := "shareEvens", unfollowed := true, recurses := true, apart := false, narrowed := true }
def ShareEvensUptoSaid : Prop := shareEvensUptoRow.holds Try.pinned (OpenSpec.upto shareEvensSpec)

/-- 'papermilllaw12.ShareFair', WHERE WHAT IT READS IS OF BULK AT MOST 1048576: true; the input reads as it did. -/
def shareFairUptoRow : OpenClaim := { program := "ytloihkecfommbaa", sum := "115cd7fdfc95ec80e68e2fd3a7195bc4a0c65ba4fb5f5af134a0a3325dddabfb", func := "papermill/papermilllaw12.ShareFair", spec := "shareFair", unfollowed := true, recurses := true, apart := false, narrowed := true }
def ShareFairUptoSaid : Prop := shareFairUptoRow.holds Try.pinned (OpenSpec.upto shareFairSpec)

end Rows
end Go.Proofs.Ytloihkecfommbaa
