/-
  No cell of these rows narrows 'for every input' (looked for: loops, veiled, ifaces, maps, wideKeys, modest, calm, conditions, laid).
  DERIVED. THE GIVEN ROWS OF THIS SEAT. 7 by the template 'for every input the law returns true; each argument reads behind the call as it read before'; 0 by the template 'total and deterministic' (their statements: YtbnpcplckcipfaaTotals.lean).
  GIVEN WITH THE SEED: the statements are not yours to turn. If you find one false, say at which input.
  Laid BY PROGRAM, IN A SANDBOX (cutbox-rows.mjs): the forced cells as the released guide's own fill.sh prints them over the translation f4d846a97e5a27df… (all of the seat's roots in one cut). By AI agents, Wed Nov 11 2026. No macro, syntax, notation, axiom, sorry.
-/
import Derived.Test.YtbnpcplckcipfaaChecked
import GoSem.Claim
import GoSem.ClaimJoined
import GoSem.ClaimMapViews
import Derived.JoinedTies
import Derived.KernelRfl
namespace Go.Proofs.Ytbnpcplckcipfaa
/- THE CELL 'sum', in the pinned program and in every row, IS THE sha256 OF THE DUMP (.gsa) THAT YtbnpcplckcipfaaProg.lean LOADS. Nothing in Lean hashes anything: it is a label: what it is worth is what the hold of that sum in a sandbox is worth. -/
noncomputable def Try.pinned : Pinned := { name := "ytbnpcplckcipfaa", sum := "f4d846a97e5a27df6bb58f403331062450ba1118deb7d1ada4827a9d61ebb90b", checked := Try.checked }
namespace Rows
def none {H : Type} : Left H := { results := [], args := [] }

/-- 'papermilllaw17.TankMakes': WHATEVER THE INPUT: true; the input reads as it did. -/
def tankMakesSpec : ChangeSpec := { name := "tankMakes", fn := fun _ => fun
  | [d1, d2, d3] => { results := [.lit (.bool true)], args := [d1, d2, d3] }
  | _ => none }
def tankMakesRow : OpenClaim := { program := "ytbnpcplckcipfaa", sum := "f4d846a97e5a27df6bb58f403331062450ba1118deb7d1ada4827a9d61ebb90b", func := "papermill/papermilllaw17.TankMakes", spec := "tankMakes", unfollowed := true, recurses := true, apart := false }
def TankMakesSaid : Prop := tankMakesRow.holds Try.pinned (OpenSpec.ofChange tankMakesSpec)

/-- ITS FALSE NEIGHBOUR: 'it returns false'. Refute it at one input. -/
def tankMakesWrong : ChangeSpec := { name := "tankMakes", fn := fun _ => fun
  | [d1, d2, d3] => { results := [.lit (.bool false)], args := [d1, d2, d3] }
  | _ => none }
def TankMakesWrongFalsely : Prop := tankMakesRow.holds Try.pinned (OpenSpec.ofChange tankMakesWrong)

/-- 'papermilllaw17.TankFills': WHATEVER THE INPUT: true; the input reads as it did. -/
def tankFillsSpec : ChangeSpec := { name := "tankFills", fn := fun _ => fun
  | [d1, d2] => { results := [.lit (.bool true)], args := [d1, d2] }
  | _ => none }
def tankFillsRow : OpenClaim := { program := "ytbnpcplckcipfaa", sum := "f4d846a97e5a27df6bb58f403331062450ba1118deb7d1ada4827a9d61ebb90b", func := "papermill/papermilllaw17.TankFills", spec := "tankFills", unfollowed := true, recurses := true, apart := false }
def TankFillsSaid : Prop := tankFillsRow.holds Try.pinned (OpenSpec.ofChange tankFillsSpec)

/-- ITS FALSE NEIGHBOUR: 'it returns false'. Refute it at one input. -/
def tankFillsWrong : ChangeSpec := { name := "tankFills", fn := fun _ => fun
  | [d1, d2] => { results := [.lit (.bool false)], args := [d1, d2] }
  | _ => none }
def TankFillsWrongFalsely : Prop := tankFillsRow.holds Try.pinned (OpenSpec.ofChange tankFillsWrong)

/-- 'papermilllaw17.TankDraws': WHATEVER THE INPUT: true; the input reads as it did. -/
def tankDrawsSpec : ChangeSpec := { name := "tankDraws", fn := fun _ => fun
  | [d1, d2] => { results := [.lit (.bool true)], args := [d1, d2] }
  | _ => none }
def tankDrawsRow : OpenClaim := { program := "ytbnpcplckcipfaa", sum := "f4d846a97e5a27df6bb58f403331062450ba1118deb7d1ada4827a9d61ebb90b", func := "papermill/papermilllaw17.TankDraws", spec := "tankDraws", unfollowed := true, recurses := true, apart := false }
def TankDrawsSaid : Prop := tankDrawsRow.holds Try.pinned (OpenSpec.ofChange tankDrawsSpec)

/-- ITS FALSE NEIGHBOUR: 'it returns false'. Refute it at one input. -/
def tankDrawsWrong : ChangeSpec := { name := "tankDraws", fn := fun _ => fun
  | [d1, d2] => { results := [.lit (.bool false)], args := [d1, d2] }
  | _ => none }
def TankDrawsWrongFalsely : Prop := tankDrawsRow.holds Try.pinned (OpenSpec.ofChange tankDrawsWrong)

/-- 'papermilllaw17.TankShares': WHATEVER THE INPUT: true; the input reads as it did. -/
def tankSharesSpec : ChangeSpec := { name := "tankShares", fn := fun _ => fun
  | [d1, d2] => { results := [.lit (.bool true)], args := [d1, d2] }
  | _ => none }
def tankSharesRow : OpenClaim := { program := "ytbnpcplckcipfaa", sum := "f4d846a97e5a27df6bb58f403331062450ba1118deb7d1ada4827a9d61ebb90b", func := "papermill/papermilllaw17.TankShares", spec := "tankShares", unfollowed := true, recurses := true, apart := false }
def TankSharesSaid : Prop := tankSharesRow.holds Try.pinned (OpenSpec.ofChange tankSharesSpec)

/-- ITS FALSE NEIGHBOUR: 'it returns false'. Refute it at one input. -/
def tankSharesWrong : ChangeSpec := { name := "tankShares", fn := fun _ => fun
  | [d1, d2] => { results := [.lit (.bool false)], args := [d1, d2] }
  | _ => none }
def TankSharesWrongFalsely : Prop := tankSharesRow.holds Try.pinned (OpenSpec.ofChange tankSharesWrong)

/-- 'papermilllaw17.TankConserves': WHATEVER THE INPUT: true; the input reads as it did. -/
def tankConservesSpec : ChangeSpec := { name := "tankConserves", fn := fun _ => fun
  | [d1, d2] => { results := [.lit (.bool true)], args := [d1, d2] }
  | _ => none }
def tankConservesRow : OpenClaim := { program := "ytbnpcplckcipfaa", sum := "f4d846a97e5a27df6bb58f403331062450ba1118deb7d1ada4827a9d61ebb90b", func := "papermill/papermilllaw17.TankConserves", spec := "tankConserves", unfollowed := true, recurses := true, apart := false }
def TankConservesSaid : Prop := tankConservesRow.holds Try.pinned (OpenSpec.ofChange tankConservesSpec)

/-- ITS FALSE NEIGHBOUR: 'it returns false'. Refute it at one input. -/
def tankConservesWrong : ChangeSpec := { name := "tankConserves", fn := fun _ => fun
  | [d1, d2] => { results := [.lit (.bool false)], args := [d1, d2] }
  | _ => none }
def TankConservesWrongFalsely : Prop := tankConservesRow.holds Try.pinned (OpenSpec.ofChange tankConservesWrong)

/-- 'papermilllaw17.TankMixed': WHATEVER THE INPUT: true; the input reads as it did. -/
def tankMixedSpec : ChangeSpec := { name := "tankMixed", fn := fun _ => fun
  | [d1, d2, d3] => { results := [.lit (.bool true)], args := [d1, d2, d3] }
  | _ => none }
def tankMixedRow : OpenClaim := { program := "ytbnpcplckcipfaa", sum := "f4d846a97e5a27df6bb58f403331062450ba1118deb7d1ada4827a9d61ebb90b", func := "papermill/papermilllaw17.TankMixed", spec := "tankMixed", unfollowed := true, recurses := true, apart := false }
def TankMixedSaid : Prop := tankMixedRow.holds Try.pinned (OpenSpec.ofChange tankMixedSpec)

/-- ITS FALSE NEIGHBOUR: 'it returns false'. Refute it at one input. -/
def tankMixedWrong : ChangeSpec := { name := "tankMixed", fn := fun _ => fun
  | [d1, d2, d3] => { results := [.lit (.bool false)], args := [d1, d2, d3] }
  | _ => none }
def TankMixedWrongFalsely : Prop := tankMixedRow.holds Try.pinned (OpenSpec.ofChange tankMixedWrong)

/-- 'papermilllaw17.TankPoured': WHATEVER THE INPUT: true; the input reads as it did. -/
def tankPouredSpec : ChangeSpec := { name := "tankPoured", fn := fun _ => fun
  | [d1, d2, d3] => { results := [.lit (.bool true)], args := [d1, d2, d3] }
  | _ => none }
def tankPouredRow : OpenClaim := { program := "ytbnpcplckcipfaa", sum := "f4d846a97e5a27df6bb58f403331062450ba1118deb7d1ada4827a9d61ebb90b", func := "papermill/papermilllaw17.TankPoured", spec := "tankPoured", unfollowed := true, recurses := true, apart := false }
def TankPouredSaid : Prop := tankPouredRow.holds Try.pinned (OpenSpec.ofChange tankPouredSpec)

/-- ITS FALSE NEIGHBOUR: 'it returns false'. Refute it at one input. -/
def tankPouredWrong : ChangeSpec := { name := "tankPoured", fn := fun _ => fun
  | [d1, d2, d3] => { results := [.lit (.bool false)], args := [d1, d2, d3] }
  | _ => none }
def TankPouredWrongFalsely : Prop := tankPouredRow.holds Try.pinned (OpenSpec.ofChange tankPouredWrong)

/- THE SECOND FORM. 'bulk': how many values and letters a reading holds, each counted each time it is reached (what is shared counts as often as it is met; a slice's spare places count too). A statement '..UptoSaid' is the law's where the arguments, and the package variables that the reading takes, are together of bulk at most 1048576: NARROWER than '..Said'. Prove '..Said' where nothing that the law and all that it calls make is longer than what came in: it says more and counts as full. Else prove '..UptoSaid'. A law counts once. -/
mutual
def uptoBulk {H : Type} : DataW H → Nat
  | .lit (.string bytes) => bytes.length + 1
  | .lit _ => 1
  | .nil => 1
  | .ptr d => uptoBulk d + 1
  | .slice elems spare => uptoBulkAll elems + uptoBulkAll spare + 1
  | .agg parts => uptoBulkAll parts + 1
  | .iface _ d => uptoBulk d + 1
  | .map entries => uptoBulkEntries entries + 1
  | .held _ => 1
def uptoBulkAll {H : Type} : List (DataW H) → Nat
  | [] => 0
  | d :: r => uptoBulk d + uptoBulkAll r
def uptoBulkEntries {H : Type} : List (Lit × DataW H) → Nat
  | [] => 0
  | x :: r => uptoBulkEntry x + uptoBulkEntries r
def uptoBulkEntry {H : Type} : Lit × DataW H → Nat
  | (.string bytes, d) => bytes.length + uptoBulk d + 1
  | (_, d) => uptoBulk d + 1
 end
def uptoSmall : (H : Type) → List (DataW H) → Bool := fun _ ds => decide (uptoBulkAll ds ≤ 1048576)
def OpenSpec.upto (s : _root_.Go.ChangeSpec) : _root_.Go.OpenSpec := { _root_.Go.OpenSpec.ofChange s with cond := some uptoSmall }

/-- 'papermilllaw17.TankMakes', WHERE WHAT IT READS IS OF BULK AT MOST 1048576: true; the input reads as it did. -/
def tankMakesUptoRow : OpenClaim := { program := "ytbnpcplckcipfaa", sum := "f4d846a97e5a27df6bb58f403331062450ba1118deb7d1ada4827a9d61ebb90b", func := "papermill/papermilllaw17.TankMakes", spec := "tankMakes", unfollowed := true, recurses := true, apart := false, narrowed := true }
def TankMakesUptoSaid : Prop := tankMakesUptoRow.holds Try.pinned (OpenSpec.upto tankMakesSpec)

/-- 'papermilllaw17.TankFills', WHERE WHAT IT READS IS OF BULK AT MOST 1048576: true; the input reads as it did. -/
def tankFillsUptoRow : OpenClaim := { program := "ytbnpcplckcipfaa", sum := "f4d846a97e5a27df6bb58f403331062450ba1118deb7d1ada4827a9d61ebb90b", func := "papermill/papermilllaw17.TankFills", spec := "tankFills", unfollowed := true, recurses := true, apart := false, narrowed := true }
def TankFillsUptoSaid : Prop := tankFillsUptoRow.holds Try.pinned (OpenSpec.upto tankFillsSpec)

/-- 'papermilllaw17.TankDraws', WHERE WHAT IT READS IS OF BULK AT MOST 1048576: true; the input reads as it did. -/
def tankDrawsUptoRow : OpenClaim := { program := "ytbnpcplckcipfaa", sum := "f4d846a97e5a27df6bb58f403331062450ba1118deb7d1ada4827a9d61ebb90b", func := "papermill/papermilllaw17.TankDraws", spec := "tankDraws", unfollowed := true, recurses := true, apart := false, narrowed := true }
def TankDrawsUptoSaid : Prop := tankDrawsUptoRow.holds Try.pinned (OpenSpec.upto tankDrawsSpec)

/-- 'papermilllaw17.TankShares', WHERE WHAT IT READS IS OF BULK AT MOST 1048576: true; the input reads as it did. -/
def tankSharesUptoRow : OpenClaim := { program := "ytbnpcplckcipfaa", sum := "f4d846a97e5a27df6bb58f403331062450ba1118deb7d1ada4827a9d61ebb90b", func := "papermill/papermilllaw17.TankShares", spec := "tankShares", unfollowed := true, recurses := true, apart := false, narrowed := true }
def TankSharesUptoSaid : Prop := tankSharesUptoRow.holds Try.pinned (OpenSpec.upto tankSharesSpec)

/-- 'papermilllaw17.TankConserves', WHERE WHAT IT READS IS OF BULK AT MOST 1048576: true; the input reads as it did. -/
def tankConservesUptoRow : OpenClaim := { program := "ytbnpcplckcipfaa", sum := "f4d846a97e5a27df6bb58f403331062450ba1118deb7d1ada4827a9d61ebb90b", func := "papermill/papermilllaw17.TankConserves", spec := "tankConserves", unfollowed := true, recurses := true, apart := false, narrowed := true }
def TankConservesUptoSaid : Prop := tankConservesUptoRow.holds Try.pinned (OpenSpec.upto tankConservesSpec)

/-- 'papermilllaw17.TankMixed', WHERE WHAT IT READS IS OF BULK AT MOST 1048576: true; the input reads as it did. -/
def tankMixedUptoRow : OpenClaim := { program := "ytbnpcplckcipfaa", sum := "f4d846a97e5a27df6bb58f403331062450ba1118deb7d1ada4827a9d61ebb90b", func := "papermill/papermilllaw17.TankMixed", spec := "tankMixed", unfollowed := true, recurses := true, apart := false, narrowed := true }
def TankMixedUptoSaid : Prop := tankMixedUptoRow.holds Try.pinned (OpenSpec.upto tankMixedSpec)

/-- 'papermilllaw17.TankPoured', WHERE WHAT IT READS IS OF BULK AT MOST 1048576: true; the input reads as it did. -/
def tankPouredUptoRow : OpenClaim := { program := "ytbnpcplckcipfaa", sum := "f4d846a97e5a27df6bb58f403331062450ba1118deb7d1ada4827a9d61ebb90b", func := "papermill/papermilllaw17.TankPoured", spec := "tankPoured", unfollowed := true, recurses := true, apart := false, narrowed := true }
def TankPouredUptoSaid : Prop := tankPouredUptoRow.holds Try.pinned (OpenSpec.upto tankPouredSpec)

end Rows
end Go.Proofs.Ytbnpcplckcipfaa
