/-
  No cell of these rows narrows 'for every input' (looked for: loops, veiled, ifaces, maps, wideKeys, modest, calm, conditions, laid).
  DERIVED. THE GIVEN ROWS OF THIS SEAT. 7 by the template 'for every input the law returns true; each argument reads behind the call as it read before'; 0 by the template 'total and deterministic' (their statements: YtokkiljkgejnhaaTotals.lean).
  GIVEN WITH THE SEED: the statements are not yours to turn. If you find one false, say at which input.
  Laid BY PROGRAM, IN A SANDBOX (cutbox-rows.mjs): the forced cells as the released guide's own fill.sh prints them over the translation c52b3095d82b0ad5… (all of the seat's roots in one cut). By AI agents, Wed Nov 11 2026. No macro, syntax, notation, axiom, sorry.
-/
import Derived.Test.YtokkiljkgejnhaaChecked
import GoSem.Claim
import GoSem.ClaimJoined
import GoSem.ClaimMapViews
import Derived.JoinedTies
import Derived.KernelRfl
namespace Go.Proofs.Ytokkiljkgejnhaa
/- THE CELL 'sum', in the pinned program and in every row, IS THE sha256 OF THE DUMP (.gsa) THAT YtokkiljkgejnhaaProg.lean LOADS. Nothing in Lean hashes anything: it is a label: what it is worth is what the hold of that sum in a sandbox is worth. -/
noncomputable def Try.pinned : Pinned := { name := "ytokkiljkgejnhaa", sum := "c52b3095d82b0ad5fe42fd031208fe27882845e59921cafee524c7fc2dec3ba4", checked := Try.checked }
namespace Rows
def none {H : Type} : Left H := { results := [], args := [] }

/-- 'papermilllaw60.StatsCounts': WHATEVER THE INPUT: true; the input reads as it did. -/
def statsCountsSpec : ChangeSpec := { name := "statsCounts", fn := fun _ => fun
  | [d1, d2, d3] => { results := [.lit (.bool true)], args := [d1, d2, d3] }
  | _ => none }
def statsCountsRow : OpenClaim := { program := "ytokkiljkgejnhaa", sum := "c52b3095d82b0ad5fe42fd031208fe27882845e59921cafee524c7fc2dec3ba4", func := "papermill/papermilllaw60.StatsCounts", spec := "statsCounts", unfollowed := true, recurses := true, apart := false }
def StatsCountsSaid : Prop := statsCountsRow.holds Try.pinned (OpenSpec.ofChange statsCountsSpec)

/-- ITS FALSE NEIGHBOUR: 'it returns false'. Refute it at one input. -/
def statsCountsWrong : ChangeSpec := { name := "statsCounts", fn := fun _ => fun
  | [d1, d2, d3] => { results := [.lit (.bool false)], args := [d1, d2, d3] }
  | _ => none }
def StatsCountsWrongFalsely : Prop := statsCountsRow.holds Try.pinned (OpenSpec.ofChange statsCountsWrong)

/-- 'papermilllaw60.StatsLists': WHATEVER THE INPUT: true; the input reads as it did. -/
def statsListsSpec : ChangeSpec := { name := "statsLists", fn := fun _ => fun
  | [d1, d2, d3] => { results := [.lit (.bool true)], args := [d1, d2, d3] }
  | _ => none }
def statsListsRow : OpenClaim := { program := "ytokkiljkgejnhaa", sum := "c52b3095d82b0ad5fe42fd031208fe27882845e59921cafee524c7fc2dec3ba4", func := "papermill/papermilllaw60.StatsLists", spec := "statsLists", unfollowed := true, recurses := true, apart := false }
def StatsListsSaid : Prop := statsListsRow.holds Try.pinned (OpenSpec.ofChange statsListsSpec)

/-- ITS FALSE NEIGHBOUR: 'it returns false'. Refute it at one input. -/
def statsListsWrong : ChangeSpec := { name := "statsLists", fn := fun _ => fun
  | [d1, d2, d3] => { results := [.lit (.bool false)], args := [d1, d2, d3] }
  | _ => none }
def StatsListsWrongFalsely : Prop := statsListsRow.holds Try.pinned (OpenSpec.ofChange statsListsWrong)

/-- 'papermilllaw60.StatsBounds': WHATEVER THE INPUT: true; the input reads as it did. -/
def statsBoundsSpec : ChangeSpec := { name := "statsBounds", fn := fun _ => fun
  | [d1, d2, d3] => { results := [.lit (.bool true)], args := [d1, d2, d3] }
  | _ => none }
def statsBoundsRow : OpenClaim := { program := "ytokkiljkgejnhaa", sum := "c52b3095d82b0ad5fe42fd031208fe27882845e59921cafee524c7fc2dec3ba4", func := "papermill/papermilllaw60.StatsBounds", spec := "statsBounds", unfollowed := true, recurses := true, apart := false }
def StatsBoundsSaid : Prop := statsBoundsRow.holds Try.pinned (OpenSpec.ofChange statsBoundsSpec)

/-- ITS FALSE NEIGHBOUR: 'it returns false'. Refute it at one input. -/
def statsBoundsWrong : ChangeSpec := { name := "statsBounds", fn := fun _ => fun
  | [d1, d2, d3] => { results := [.lit (.bool false)], args := [d1, d2, d3] }
  | _ => none }
def StatsBoundsWrongFalsely : Prop := statsBoundsRow.holds Try.pinned (OpenSpec.ofChange statsBoundsWrong)

/-- 'papermilllaw60.StatsClasses': WHATEVER THE INPUT: true; the input reads as it did. -/
def statsClassesSpec : ChangeSpec := { name := "statsClasses", fn := fun _ => fun
  | [d1, d2, d3] => { results := [.lit (.bool true)], args := [d1, d2, d3] }
  | _ => none }
def statsClassesRow : OpenClaim := { program := "ytokkiljkgejnhaa", sum := "c52b3095d82b0ad5fe42fd031208fe27882845e59921cafee524c7fc2dec3ba4", func := "papermill/papermilllaw60.StatsClasses", spec := "statsClasses", unfollowed := true, recurses := true, apart := false }
def StatsClassesSaid : Prop := statsClassesRow.holds Try.pinned (OpenSpec.ofChange statsClassesSpec)

/-- ITS FALSE NEIGHBOUR: 'it returns false'. Refute it at one input. -/
def statsClassesWrong : ChangeSpec := { name := "statsClasses", fn := fun _ => fun
  | [d1, d2, d3] => { results := [.lit (.bool false)], args := [d1, d2, d3] }
  | _ => none }
def StatsClassesWrongFalsely : Prop := statsClassesRow.holds Try.pinned (OpenSpec.ofChange statsClassesWrong)

/-- 'papermilllaw60.StatsSums': WHATEVER THE INPUT: true; the input reads as it did. -/
def statsSumsSpec : ChangeSpec := { name := "statsSums", fn := fun _ => fun
  | [d1, d2] => { results := [.lit (.bool true)], args := [d1, d2] }
  | _ => none }
def statsSumsRow : OpenClaim := { program := "ytokkiljkgejnhaa", sum := "c52b3095d82b0ad5fe42fd031208fe27882845e59921cafee524c7fc2dec3ba4", func := "papermill/papermilllaw60.StatsSums", spec := "statsSums", unfollowed := true, recurses := true, apart := false }
def StatsSumsSaid : Prop := statsSumsRow.holds Try.pinned (OpenSpec.ofChange statsSumsSpec)

/-- ITS FALSE NEIGHBOUR: 'it returns false'. Refute it at one input. -/
def statsSumsWrong : ChangeSpec := { name := "statsSums", fn := fun _ => fun
  | [d1, d2] => { results := [.lit (.bool false)], args := [d1, d2] }
  | _ => none }
def StatsSumsWrongFalsely : Prop := statsSumsRow.holds Try.pinned (OpenSpec.ofChange statsSumsWrong)

/-- 'papermilllaw60.StatsRuns': WHATEVER THE INPUT: true; the input reads as it did. -/
def statsRunsSpec : ChangeSpec := { name := "statsRuns", fn := fun _ => fun
  | [d1, d2] => { results := [.lit (.bool true)], args := [d1, d2] }
  | _ => none }
def statsRunsRow : OpenClaim := { program := "ytokkiljkgejnhaa", sum := "c52b3095d82b0ad5fe42fd031208fe27882845e59921cafee524c7fc2dec3ba4", func := "papermill/papermilllaw60.StatsRuns", spec := "statsRuns", unfollowed := true, recurses := true, apart := false }
def StatsRunsSaid : Prop := statsRunsRow.holds Try.pinned (OpenSpec.ofChange statsRunsSpec)

/-- ITS FALSE NEIGHBOUR: 'it returns false'. Refute it at one input. -/
def statsRunsWrong : ChangeSpec := { name := "statsRuns", fn := fun _ => fun
  | [d1, d2] => { results := [.lit (.bool false)], args := [d1, d2] }
  | _ => none }
def StatsRunsWrongFalsely : Prop := statsRunsRow.holds Try.pinned (OpenSpec.ofChange statsRunsWrong)

/-- 'papermilllaw60.StatsMoves': WHATEVER THE INPUT: true; the input reads as it did. -/
def statsMovesSpec : ChangeSpec := { name := "statsMoves", fn := fun _ => fun
  | [d1, d2] => { results := [.lit (.bool true)], args := [d1, d2] }
  | _ => none }
def statsMovesRow : OpenClaim := { program := "ytokkiljkgejnhaa", sum := "c52b3095d82b0ad5fe42fd031208fe27882845e59921cafee524c7fc2dec3ba4", func := "papermill/papermilllaw60.StatsMoves", spec := "statsMoves", unfollowed := true, recurses := true, apart := false }
def StatsMovesSaid : Prop := statsMovesRow.holds Try.pinned (OpenSpec.ofChange statsMovesSpec)

/-- ITS FALSE NEIGHBOUR: 'it returns false'. Refute it at one input. -/
def statsMovesWrong : ChangeSpec := { name := "statsMoves", fn := fun _ => fun
  | [d1, d2] => { results := [.lit (.bool false)], args := [d1, d2] }
  | _ => none }
def StatsMovesWrongFalsely : Prop := statsMovesRow.holds Try.pinned (OpenSpec.ofChange statsMovesWrong)

/- THE SECOND FORM. 'bulk': how many values and letters a reading holds, each counted each time it is reached (what is shared counts as often as it is met; a slice's spare places count too). A statement '..UptoSaid' is the law's where the arguments, and the package variables that the reading takes, are together of bulk at most 1048576: NARROWER than '..Said'. Prove '..Said' where nothing that the law and all that it calls make is longer than what came in: it says more and counts as full. Else prove '..UptoSaid'. A law counts once. -/
mutual
def uptoBulk {H : Type} : DataW H → Nat
  | .lit (.string bytes) => bytes.length + 1
  | .lit _ => 1
  | .nil => 1
  | .ptr d => uptoBulk d + 1
  | .slice elems spare => uptoBulkAll elems + uptoBulkAll spare + 1
  | .agg parts => uptoBulkAll parts + 1
  | .iface _ d => uptoBulk d + 1
  | .map entries => uptoBulkEntries entries + 1
  | .held _ => 1
def uptoBulkAll {H : Type} : List (DataW H) → Nat
  | [] => 0
  | d :: r => uptoBulk d + uptoBulkAll r
def uptoBulkEntries {H : Type} : List (Lit × DataW H) → Nat
  | [] => 0
  | x :: r => uptoBulkEntry x + uptoBulkEntries r
def uptoBulkEntry {H : Type} : Lit × DataW H → Nat
  | (.string bytes, d) => bytes.length + uptoBulk d + 1
  | (_, d) => uptoBulk d + 1
 end
def uptoSmall : (H : Type) → List (DataW H) → Bool := fun _ ds => decide (uptoBulkAll ds ≤ 1048576)
def OpenSpec.upto (s : _root_.Go.ChangeSpec) : _root_.Go.OpenSpec := { _root_.Go.OpenSpec.ofChange s with cond := some uptoSmall }

/-- 'papermilllaw60.StatsCounts', WHERE WHAT IT READS IS OF BULK AT MOST 1048576: true; the input reads as it did. -/
def statsCountsUptoRow : OpenClaim := { program := "ytokkiljkgejnhaa", sum := "c52b3095d82b0ad5fe42fd031208fe27882845e59921cafee524c7fc2dec3ba4", func := "papermill/papermilllaw60.StatsCounts", spec := "statsCounts", unfollowed := true, recurses := true, apart := false, narrowed := true }
def StatsCountsUptoSaid : Prop := statsCountsUptoRow.holds Try.pinned (OpenSpec.upto statsCountsSpec)

/-- 'papermilllaw60.StatsLists', WHERE WHAT IT READS IS OF BULK AT MOST 1048576: true; the input reads as it did. -/
def statsListsUptoRow : OpenClaim := { program := "ytokkiljkgejnhaa", sum := "c52b3095d82b0ad5fe42fd031208fe27882845e59921cafee524c7fc2dec3ba4", func := "papermill/papermilllaw60.StatsLists", spec := "statsLists", unfollowed := true, recurses := true, apart := false, narrowed := true }
def StatsListsUptoSaid : Prop := statsListsUptoRow.holds Try.pinned (OpenSpec.upto statsListsSpec)

/-- 'papermilllaw60.StatsBounds', WHERE WHAT IT READS IS OF BULK AT MOST 1048576: true; the input reads as it did. -/
def statsBoundsUptoRow : OpenClaim := { program := "ytokkiljkgejnhaa", sum := "c52b3095d82b0ad5fe42fd031208fe27882845e59921cafee524c7fc2dec3ba4", func := "papermill/papermilllaw60.StatsBounds", spec := "statsBounds", unfollowed := true, recurses := true, apart := false, narrowed := true }
def StatsBoundsUptoSaid : Prop := statsBoundsUptoRow.holds Try.pinned (OpenSpec.upto statsBoundsSpec)

/-- 'papermilllaw60.StatsClasses', WHERE WHAT IT READS IS OF BULK AT MOST 1048576: true; the input reads as it did. -/
def statsClassesUptoRow : OpenClaim := { program := "ytokkiljkgejnhaa", sum := "c52b3095d82b0ad5fe42fd031208fe27882845e59921cafee524c7fc2dec3ba4", func := "papermill/papermilllaw60.StatsClasses", spec := "statsClasses", unfollowed := true, recurses := true, apart := false, narrowed := true }
def StatsClassesUptoSaid : Prop := statsClassesUptoRow.holds Try.pinned (OpenSpec.upto statsClassesSpec)

/-- 'papermilllaw60.StatsSums', WHERE WHAT IT READS IS OF BULK AT MOST 1048576: true; the input reads as it did. -/
def statsSumsUptoRow : OpenClaim := { program := "ytokkiljkgejnhaa", sum := "c52b3095d82b0ad5fe42fd031208fe27882845e59921cafee524c7fc2dec3ba4", func := "papermill/papermilllaw60.StatsSums", spec := "statsSums", unfollowed := true, recurses := true, apart := false, narrowed := true }
def StatsSumsUptoSaid : Prop := statsSumsUptoRow.holds Try.pinned (OpenSpec.upto statsSumsSpec)

/-- 'papermilllaw60.StatsRuns', WHERE WHAT IT READS IS OF BULK AT MOST 1048576: true; the input reads as it did. -/
def statsRunsUptoRow : OpenClaim := { program := "ytokkiljkgejnhaa", sum := "c52b3095d82b0ad5fe42fd031208fe27882845e59921cafee524c7fc2dec3ba4", func := "papermill/papermilllaw60.StatsRuns", spec := "statsRuns", unfollowed := true, recurses := true, apart := false, narrowed := true }
def StatsRunsUptoSaid : Prop := statsRunsUptoRow.holds Try.pinned (OpenSpec.upto statsRunsSpec)

/-- 'papermilllaw60.StatsMoves', WHERE WHAT IT READS IS OF BULK AT MOST 1048576: true; the input reads as it did. -/
def statsMovesUptoRow : OpenClaim := { program := "ytokkiljkgejnhaa", sum := "c52b3095d82b0ad5fe42fd031208fe27882845e59921cafee524c7fc2dec3ba4", func := "papermill/papermilllaw60.StatsMoves", spec := "statsMoves", unfollowed := true, recurses := true, apart := false, narrowed := true }
def StatsMovesUptoSaid : Prop := statsMovesUptoRow.holds Try.pinned (OpenSpec.upto statsMovesSpec)

end Rows
end Go.Proofs.Ytokkiljkgejnhaa
