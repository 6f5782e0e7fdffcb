/-
  No cell of these rows narrows 'for every input' (looked for: loops, veiled, ifaces, maps, wideKeys, modest, calm, conditions, laid).
  DERIVED. THE GIVEN ROWS OF THIS SEAT. 7 by the template 'for every input the law returns true; each argument reads behind the call as it read before'; 0 by the template 'total and deterministic' (their statements: YtnklckihalhlmaaTotals.lean).
  GIVEN WITH THE SEED: the statements are not yours to turn. If you find one false, say at which input.
  Laid BY PROGRAM, IN A SANDBOX (cutbox-rows.mjs): the forced cells as the released guide's own fill.sh prints them over the translation d81e33ebd58e50f7… (all of the seat's roots in one cut). By AI agents, Wed Nov 11 2026. No macro, syntax, notation, axiom, sorry.
-/
import Derived.Test.YtnklckihalhlmaaChecked
import GoSem.Claim
import GoSem.ClaimJoined
import GoSem.ClaimMapViews
import Derived.JoinedTies
import Derived.KernelRfl
namespace Go.Proofs.Ytnklckihalhlmaa
/- THE CELL 'sum', in the pinned program and in every row, IS THE sha256 OF THE DUMP (.gsa) THAT YtnklckihalhlmaaProg.lean LOADS. Nothing in Lean hashes anything: it is a label: what it is worth is what the hold of that sum in a sandbox is worth. -/
noncomputable def Try.pinned : Pinned := { name := "ytnklckihalhlmaa", sum := "d81e33ebd58e50f70ba1fd0f89c68a628985d1d5601b205181400723ad11480a", checked := Try.checked }
namespace Rows
def none {H : Type} : Left H := { results := [], args := [] }

/-- 'papermilllaw59.EnergyValues': WHATEVER THE INPUT: true; the input reads as it did. -/
def energyValuesSpec : ChangeSpec := { name := "energyValues", fn := fun _ => fun
  | [d1, d2] => { results := [.lit (.bool true)], args := [d1, d2] }
  | _ => none }
def energyValuesRow : OpenClaim := { program := "ytnklckihalhlmaa", sum := "d81e33ebd58e50f70ba1fd0f89c68a628985d1d5601b205181400723ad11480a", func := "papermill/papermilllaw59.EnergyValues", spec := "energyValues", unfollowed := true, recurses := true, apart := false }
def EnergyValuesSaid : Prop := energyValuesRow.holds Try.pinned (OpenSpec.ofChange energyValuesSpec)

/-- ITS FALSE NEIGHBOUR: 'it returns false'. Refute it at one input. -/
def energyValuesWrong : ChangeSpec := { name := "energyValues", fn := fun _ => fun
  | [d1, d2] => { results := [.lit (.bool false)], args := [d1, d2] }
  | _ => none }
def EnergyValuesWrongFalsely : Prop := energyValuesRow.holds Try.pinned (OpenSpec.ofChange energyValuesWrong)

/-- 'papermilllaw59.EnergyUses': WHATEVER THE INPUT: true; the input reads as it did. -/
def energyUsesSpec : ChangeSpec := { name := "energyUses", fn := fun _ => fun
  | [d1, d2] => { results := [.lit (.bool true)], args := [d1, d2] }
  | _ => none }
def energyUsesRow : OpenClaim := { program := "ytnklckihalhlmaa", sum := "d81e33ebd58e50f70ba1fd0f89c68a628985d1d5601b205181400723ad11480a", func := "papermill/papermilllaw59.EnergyUses", spec := "energyUses", unfollowed := true, recurses := true, apart := false }
def EnergyUsesSaid : Prop := energyUsesRow.holds Try.pinned (OpenSpec.ofChange energyUsesSpec)

/-- ITS FALSE NEIGHBOUR: 'it returns false'. Refute it at one input. -/
def energyUsesWrong : ChangeSpec := { name := "energyUses", fn := fun _ => fun
  | [d1, d2] => { results := [.lit (.bool false)], args := [d1, d2] }
  | _ => none }
def EnergyUsesWrongFalsely : Prop := energyUsesRow.holds Try.pinned (OpenSpec.ofChange energyUsesWrong)

/-- 'papermilllaw59.EnergyShares': WHATEVER THE INPUT: true; the input reads as it did. -/
def energySharesSpec : ChangeSpec := { name := "energyShares", fn := fun _ => fun
  | [d1, d2, d3] => { results := [.lit (.bool true)], args := [d1, d2, d3] }
  | _ => none }
def energySharesRow : OpenClaim := { program := "ytnklckihalhlmaa", sum := "d81e33ebd58e50f70ba1fd0f89c68a628985d1d5601b205181400723ad11480a", func := "papermill/papermilllaw59.EnergyShares", spec := "energyShares", unfollowed := true, recurses := true, apart := false }
def EnergySharesSaid : Prop := energySharesRow.holds Try.pinned (OpenSpec.ofChange energySharesSpec)

/-- ITS FALSE NEIGHBOUR: 'it returns false'. Refute it at one input. -/
def energySharesWrong : ChangeSpec := { name := "energyShares", fn := fun _ => fun
  | [d1, d2, d3] => { results := [.lit (.bool false)], args := [d1, d2, d3] }
  | _ => none }
def EnergySharesWrongFalsely : Prop := energySharesRow.holds Try.pinned (OpenSpec.ofChange energySharesWrong)

/-- 'papermilllaw59.EnergyReads': WHATEVER THE INPUT: true; the input reads as it did. -/
def energyReadsSpec : ChangeSpec := { name := "energyReads", fn := fun _ => fun
  | [d1, d2, d3] => { results := [.lit (.bool true)], args := [d1, d2, d3] }
  | _ => none }
def energyReadsRow : OpenClaim := { program := "ytnklckihalhlmaa", sum := "d81e33ebd58e50f70ba1fd0f89c68a628985d1d5601b205181400723ad11480a", func := "papermill/papermilllaw59.EnergyReads", spec := "energyReads", unfollowed := true, recurses := true, apart := false }
def EnergyReadsSaid : Prop := energyReadsRow.holds Try.pinned (OpenSpec.ofChange energyReadsSpec)

/-- ITS FALSE NEIGHBOUR: 'it returns false'. Refute it at one input. -/
def energyReadsWrong : ChangeSpec := { name := "energyReads", fn := fun _ => fun
  | [d1, d2, d3] => { results := [.lit (.bool false)], args := [d1, d2, d3] }
  | _ => none }
def EnergyReadsWrongFalsely : Prop := energyReadsRow.holds Try.pinned (OpenSpec.ofChange energyReadsWrong)

/-- 'papermilllaw59.EnergyRates': WHATEVER THE INPUT: true; the input reads as it did. -/
def energyRatesSpec : ChangeSpec := { name := "energyRates", fn := fun _ => fun
  | [d1, d2] => { results := [.lit (.bool true)], args := [d1, d2] }
  | _ => none }
def energyRatesRow : OpenClaim := { program := "ytnklckihalhlmaa", sum := "d81e33ebd58e50f70ba1fd0f89c68a628985d1d5601b205181400723ad11480a", func := "papermill/papermilllaw59.EnergyRates", spec := "energyRates", unfollowed := true, recurses := true, apart := false }
def EnergyRatesSaid : Prop := energyRatesRow.holds Try.pinned (OpenSpec.ofChange energyRatesSpec)

/-- ITS FALSE NEIGHBOUR: 'it returns false'. Refute it at one input. -/
def energyRatesWrong : ChangeSpec := { name := "energyRates", fn := fun _ => fun
  | [d1, d2] => { results := [.lit (.bool false)], args := [d1, d2] }
  | _ => none }
def EnergyRatesWrongFalsely : Prop := energyRatesRow.holds Try.pinned (OpenSpec.ofChange energyRatesWrong)

/-- 'papermilllaw59.EnergyWindows': WHATEVER THE INPUT: true; the input reads as it did. -/
def energyWindowsSpec : ChangeSpec := { name := "energyWindows", fn := fun _ => fun
  | [d1, d2] => { results := [.lit (.bool true)], args := [d1, d2] }
  | _ => none }
def energyWindowsRow : OpenClaim := { program := "ytnklckihalhlmaa", sum := "d81e33ebd58e50f70ba1fd0f89c68a628985d1d5601b205181400723ad11480a", func := "papermill/papermilllaw59.EnergyWindows", spec := "energyWindows", unfollowed := true, recurses := true, apart := false }
def EnergyWindowsSaid : Prop := energyWindowsRow.holds Try.pinned (OpenSpec.ofChange energyWindowsSpec)

/-- ITS FALSE NEIGHBOUR: 'it returns false'. Refute it at one input. -/
def energyWindowsWrong : ChangeSpec := { name := "energyWindows", fn := fun _ => fun
  | [d1, d2] => { results := [.lit (.bool false)], args := [d1, d2] }
  | _ => none }
def EnergyWindowsWrongFalsely : Prop := energyWindowsRow.holds Try.pinned (OpenSpec.ofChange energyWindowsWrong)

/-- 'papermilllaw59.EnergyAdds': WHATEVER THE INPUT: true; the input reads as it did. -/
def energyAddsSpec : ChangeSpec := { name := "energyAdds", fn := fun _ => fun
  | [d1, d2, d3] => { results := [.lit (.bool true)], args := [d1, d2, d3] }
  | _ => none }
def energyAddsRow : OpenClaim := { program := "ytnklckihalhlmaa", sum := "d81e33ebd58e50f70ba1fd0f89c68a628985d1d5601b205181400723ad11480a", func := "papermill/papermilllaw59.EnergyAdds", spec := "energyAdds", unfollowed := true, recurses := true, apart := false }
def EnergyAddsSaid : Prop := energyAddsRow.holds Try.pinned (OpenSpec.ofChange energyAddsSpec)

/-- ITS FALSE NEIGHBOUR: 'it returns false'. Refute it at one input. -/
def energyAddsWrong : ChangeSpec := { name := "energyAdds", fn := fun _ => fun
  | [d1, d2, d3] => { results := [.lit (.bool false)], args := [d1, d2, d3] }
  | _ => none }
def EnergyAddsWrongFalsely : Prop := energyAddsRow.holds Try.pinned (OpenSpec.ofChange energyAddsWrong)

/- THE SECOND FORM. 'bulk': how many values and letters a reading holds, each counted each time it is reached (what is shared counts as often as it is met; a slice's spare places count too). A statement '..UptoSaid' is the law's where the arguments, and the package variables that the reading takes, are together of bulk at most 1048576: NARROWER than '..Said'. Prove '..Said' where nothing that the law and all that it calls make is longer than what came in: it says more and counts as full. Else prove '..UptoSaid'. A law counts once. -/
mutual
def uptoBulk {H : Type} : DataW H → Nat
  | .lit (.string bytes) => bytes.length + 1
  | .lit _ => 1
  | .nil => 1
  | .ptr d => uptoBulk d + 1
  | .slice elems spare => uptoBulkAll elems + uptoBulkAll spare + 1
  | .agg parts => uptoBulkAll parts + 1
  | .iface _ d => uptoBulk d + 1
  | .map entries => uptoBulkEntries entries + 1
  | .held _ => 1
def uptoBulkAll {H : Type} : List (DataW H) → Nat
  | [] => 0
  | d :: r => uptoBulk d + uptoBulkAll r
def uptoBulkEntries {H : Type} : List (Lit × DataW H) → Nat
  | [] => 0
  | x :: r => uptoBulkEntry x + uptoBulkEntries r
def uptoBulkEntry {H : Type} : Lit × DataW H → Nat
  | (.string bytes, d) => bytes.length + uptoBulk d + 1
  | (_, d) => uptoBulk d + 1
 end
def uptoSmall : (H : Type) → List (DataW H) → Bool := fun _ ds => decide (uptoBulkAll ds ≤ 1048576)
def OpenSpec.upto (s : _root_.Go.ChangeSpec) : _root_.Go.OpenSpec := { _root_.Go.OpenSpec.ofChange s with cond := some uptoSmall }

/-- 'papermilllaw59.EnergyValues', WHERE WHAT IT READS IS OF BULK AT MOST 1048576: true; the input reads as it did. -/
def energyValuesUptoRow : OpenClaim := { program := "ytnklckihalhlmaa", sum := "d81e33ebd58e50f70ba1fd0f89c68a628985d1d5601b205181400723ad11480a", func := "papermill/papermilllaw59.EnergyValues", spec := "energyValues", unfollowed := true, recurses := true, apart := false, narrowed := true }
def EnergyValuesUptoSaid : Prop := energyValuesUptoRow.holds Try.pinned (OpenSpec.upto energyValuesSpec)

/-- 'papermilllaw59.EnergyUses', WHERE WHAT IT READS IS OF BULK AT MOST 1048576: true; the input reads as it did. -/
def energyUsesUptoRow : OpenClaim := { program := "ytnklckihalhlmaa", sum := "d81e33ebd58e50f70ba1fd0f89c68a628985d1d5601b205181400723ad11480a", func := "papermill/papermilllaw59.EnergyUses", spec := "energyUses", unfollowed := true, recurses := true, apart := false, narrowed := true }
def EnergyUsesUptoSaid : Prop := energyUsesUptoRow.holds Try.pinned (OpenSpec.upto energyUsesSpec)

/-- 'papermilllaw59.EnergyShares', WHERE WHAT IT READS IS OF BULK AT MOST 1048576: true; the input reads as it did. -/
def energySharesUptoRow : OpenClaim := { program := "ytnklckihalhlmaa", sum := "d81e33ebd58e50f70ba1fd0f89c68a628985d1d5601b205181400723ad11480a", func := "papermill/papermilllaw59.EnergyShares", spec := "energyShares", unfollowed := true, recurses := true, apart := false, narrowed := true }
def EnergySharesUptoSaid : Prop := energySharesUptoRow.holds Try.pinned (OpenSpec.upto energySharesSpec)

/-- 'papermilllaw59.EnergyReads', WHERE WHAT IT READS IS OF BULK AT MOST 1048576: true; the input reads as it did. -/
def energyReadsUptoRow : OpenClaim := { program := "ytnklckihalhlmaa", sum := "d81e33ebd58e50f70ba1fd0f89c68a628985d1d5601b205181400723ad11480a", func := "papermill/papermilllaw59.EnergyReads", spec := "energyReads", unfollowed := true, recurses := true, apart := false, narrowed := true }
def EnergyReadsUptoSaid : Prop := energyReadsUptoRow.holds Try.pinned (OpenSpec.upto energyReadsSpec)

/-- 'papermilllaw59.EnergyRates', WHERE WHAT IT READS IS OF BULK AT MOST 1048576: true; the input reads as it did. -/
def energyRatesUptoRow : OpenClaim := { program := "ytnklckihalhlmaa", sum := "d81e33ebd58e50f70ba1fd0f89c68a628985d1d5601b205181400723ad11480a", func := "papermill/papermilllaw59.EnergyRates", spec := "energyRates", unfollowed := true, recurses := true, apart := false, narrowed := true }
def EnergyRatesUptoSaid : Prop := energyRatesUptoRow.holds Try.pinned (OpenSpec.upto energyRatesSpec)

/-- 'papermilllaw59.EnergyWindows', WHERE WHAT IT READS IS OF BULK AT MOST 1048576: true; the input reads as it did. -/
def energyWindowsUptoRow : OpenClaim := { program := "ytnklckihalhlmaa", sum := "d81e33ebd58e50f70ba1fd0f89c68a628985d1d5601b205181400723ad11480a", func := "papermill/papermilllaw59.EnergyWindows", spec := "energyWindows", unfollowed := true, recurses := true, apart := false, narrowed := true }
def EnergyWindowsUptoSaid : Prop := energyWindowsUptoRow.holds Try.pinned (OpenSpec.upto energyWindowsSpec)

/-- 'papermilllaw59.EnergyAdds', WHERE WHAT IT READS IS OF BULK AT MOST 1048576: true; the input reads as it did. -/
def energyAddsUptoRow : OpenClaim := { program := "ytnklckihalhlmaa", sum := "d81e33ebd58e50f70ba1fd0f89c68a628985d1d5601b205181400723ad11480a", func := "papermill/papermilllaw59.EnergyAdds", spec := "energyAdds", unfollowed := true, recurses := true, apart := false, narrowed := true }
def EnergyAddsUptoSaid : Prop := energyAddsUptoRow.holds Try.pinned (OpenSpec.upto energyAddsSpec)

end Rows
end Go.Proofs.Ytnklckihalhlmaa
