/-
  No cell of these rows narrows 'for every input' (looked for: loops, veiled, ifaces, maps, wideKeys, modest, calm, conditions, laid).
  DERIVED. THE GIVEN ROWS OF THIS SEAT. 8 by the template 'for every input the law returns true; each argument reads behind the call as it read before'; 0 by the template 'total and deterministic' (their statements: YtpnfdhhfdidlmaaTotals.lean).
  GIVEN WITH THE SEED: the statements are not yours to turn. If you find one false, say at which input.
  Laid BY PROGRAM, IN A SANDBOX (cutbox-rows.mjs): the forced cells as the released guide's own fill.sh prints them over the translation 1f21213e5fd581b5… (all of the seat's roots in one cut). By AI agents, Wed Nov 11 2026. No macro, syntax, notation, axiom, sorry.
-/
import Derived.Test.YtpnfdhhfdidlmaaChecked
import GoSem.Claim
import GoSem.ClaimJoined
import GoSem.ClaimMapViews
import Derived.JoinedTies
import Derived.KernelRfl
namespace Go.Proofs.Ytpnfdhhfdidlmaa
/- THE CELL 'sum', in the pinned program and in every row, IS THE sha256 OF THE DUMP (.gsa) THAT YtpnfdhhfdidlmaaProg.lean LOADS. Nothing in Lean hashes anything: it is a label: what it is worth is what the hold of that sum in a sandbox is worth. -/
noncomputable def Try.pinned : Pinned := { name := "ytpnfdhhfdidlmaa", sum := "1f21213e5fd581b5fb61abf930ad025b90df45df207f8abda4bb4c9859f7a3cb", checked := Try.checked }
namespace Rows
def none {H : Type} : Left H := { results := [], args := [] }

/-- 'papermilllaw19.PipeChecks': WHATEVER THE INPUT: true; the input reads as it did. -/
def pipeChecksSpec : ChangeSpec := { name := "pipeChecks", fn := fun _ => fun
  | [d] => { results := [.lit (.bool true)], args := [d] }
  | _ => none }
def pipeChecksRow : OpenClaim := { program := "ytpnfdhhfdidlmaa", sum := "1f21213e5fd581b5fb61abf930ad025b90df45df207f8abda4bb4c9859f7a3cb", func := "papermill/papermilllaw19.PipeChecks", spec := "pipeChecks", unfollowed := true, recurses := true, apart := false }
def PipeChecksSaid : Prop := pipeChecksRow.holds Try.pinned (OpenSpec.ofChange pipeChecksSpec)

/-- ITS FALSE NEIGHBOUR: 'it returns false'. Refute it at one input. -/
def pipeChecksWrong : ChangeSpec := { name := "pipeChecks", fn := fun _ => fun
  | [d] => { results := [.lit (.bool false)], args := [d] }
  | _ => none }
def PipeChecksWrongFalsely : Prop := pipeChecksRow.holds Try.pinned (OpenSpec.ofChange pipeChecksWrong)

/-- 'papermilllaw19.PipeNews': WHATEVER THE INPUT: true; the input reads as it did. -/
def pipeNewsSpec : ChangeSpec := { name := "pipeNews", fn := fun _ => fun
  | [d] => { results := [.lit (.bool true)], args := [d] }
  | _ => none }
def pipeNewsRow : OpenClaim := { program := "ytpnfdhhfdidlmaa", sum := "1f21213e5fd581b5fb61abf930ad025b90df45df207f8abda4bb4c9859f7a3cb", func := "papermill/papermilllaw19.PipeNews", spec := "pipeNews", unfollowed := true, recurses := true, apart := false }
def PipeNewsSaid : Prop := pipeNewsRow.holds Try.pinned (OpenSpec.ofChange pipeNewsSpec)

/-- ITS FALSE NEIGHBOUR: 'it returns false'. Refute it at one input. -/
def pipeNewsWrong : ChangeSpec := { name := "pipeNews", fn := fun _ => fun
  | [d] => { results := [.lit (.bool false)], args := [d] }
  | _ => none }
def PipeNewsWrongFalsely : Prop := pipeNewsRow.holds Try.pinned (OpenSpec.ofChange pipeNewsWrong)

/-- 'papermilllaw19.PipePushes': WHATEVER THE INPUT: true; the input reads as it did. -/
def pipePushesSpec : ChangeSpec := { name := "pipePushes", fn := fun _ => fun
  | [d1, d2] => { results := [.lit (.bool true)], args := [d1, d2] }
  | _ => none }
def pipePushesRow : OpenClaim := { program := "ytpnfdhhfdidlmaa", sum := "1f21213e5fd581b5fb61abf930ad025b90df45df207f8abda4bb4c9859f7a3cb", func := "papermill/papermilllaw19.PipePushes", spec := "pipePushes", unfollowed := true, recurses := true, apart := false }
def PipePushesSaid : Prop := pipePushesRow.holds Try.pinned (OpenSpec.ofChange pipePushesSpec)

/-- ITS FALSE NEIGHBOUR: 'it returns false'. Refute it at one input. -/
def pipePushesWrong : ChangeSpec := { name := "pipePushes", fn := fun _ => fun
  | [d1, d2] => { results := [.lit (.bool false)], args := [d1, d2] }
  | _ => none }
def PipePushesWrongFalsely : Prop := pipePushesRow.holds Try.pinned (OpenSpec.ofChange pipePushesWrong)

/-- 'papermilllaw19.PipeKinds': WHATEVER THE INPUT: true; the input reads as it did. -/
def pipeKindsSpec : ChangeSpec := { name := "pipeKinds", fn := fun _ => fun
  | [d1, d2, d3] => { results := [.lit (.bool true)], args := [d1, d2, d3] }
  | _ => none }
def pipeKindsRow : OpenClaim := { program := "ytpnfdhhfdidlmaa", sum := "1f21213e5fd581b5fb61abf930ad025b90df45df207f8abda4bb4c9859f7a3cb", func := "papermill/papermilllaw19.PipeKinds", spec := "pipeKinds", unfollowed := true, recurses := true, apart := false }
def PipeKindsSaid : Prop := pipeKindsRow.holds Try.pinned (OpenSpec.ofChange pipeKindsSpec)

/-- ITS FALSE NEIGHBOUR: 'it returns false'. Refute it at one input. -/
def pipeKindsWrong : ChangeSpec := { name := "pipeKinds", fn := fun _ => fun
  | [d1, d2, d3] => { results := [.lit (.bool false)], args := [d1, d2, d3] }
  | _ => none }
def PipeKindsWrongFalsely : Prop := pipeKindsRow.holds Try.pinned (OpenSpec.ofChange pipeKindsWrong)

/-- 'papermilllaw19.PipeAges': WHATEVER THE INPUT: true; the input reads as it did. -/
def pipeAgesSpec : ChangeSpec := { name := "pipeAges", fn := fun _ => fun
  | [d1, d2] => { results := [.lit (.bool true)], args := [d1, d2] }
  | _ => none }
def pipeAgesRow : OpenClaim := { program := "ytpnfdhhfdidlmaa", sum := "1f21213e5fd581b5fb61abf930ad025b90df45df207f8abda4bb4c9859f7a3cb", func := "papermill/papermilllaw19.PipeAges", spec := "pipeAges", unfollowed := true, recurses := true, apart := false }
def PipeAgesSaid : Prop := pipeAgesRow.holds Try.pinned (OpenSpec.ofChange pipeAgesSpec)

/-- ITS FALSE NEIGHBOUR: 'it returns false'. Refute it at one input. -/
def pipeAgesWrong : ChangeSpec := { name := "pipeAges", fn := fun _ => fun
  | [d1, d2] => { results := [.lit (.bool false)], args := [d1, d2] }
  | _ => none }
def PipeAgesWrongFalsely : Prop := pipeAgesRow.holds Try.pinned (OpenSpec.ofChange pipeAgesWrong)

/-- 'papermilllaw19.PipeContents': WHATEVER THE INPUT: true; the input reads as it did. -/
def pipeContentsSpec : ChangeSpec := { name := "pipeContents", fn := fun _ => fun
  | [d1, d2] => { results := [.lit (.bool true)], args := [d1, d2] }
  | _ => none }
def pipeContentsRow : OpenClaim := { program := "ytpnfdhhfdidlmaa", sum := "1f21213e5fd581b5fb61abf930ad025b90df45df207f8abda4bb4c9859f7a3cb", func := "papermill/papermilllaw19.PipeContents", spec := "pipeContents", unfollowed := true, recurses := true, apart := false }
def PipeContentsSaid : Prop := pipeContentsRow.holds Try.pinned (OpenSpec.ofChange pipeContentsSpec)

/-- ITS FALSE NEIGHBOUR: 'it returns false'. Refute it at one input. -/
def pipeContentsWrong : ChangeSpec := { name := "pipeContents", fn := fun _ => fun
  | [d1, d2] => { results := [.lit (.bool false)], args := [d1, d2] }
  | _ => none }
def PipeContentsWrongFalsely : Prop := pipeContentsRow.holds Try.pinned (OpenSpec.ofChange pipeContentsWrong)

/-- 'papermilllaw19.PipeFifo': WHATEVER THE INPUT: true; the input reads as it did. -/
def pipeFifoSpec : ChangeSpec := { name := "pipeFifo", fn := fun _ => fun
  | [d1, d2] => { results := [.lit (.bool true)], args := [d1, d2] }
  | _ => none }
def pipeFifoRow : OpenClaim := { program := "ytpnfdhhfdidlmaa", sum := "1f21213e5fd581b5fb61abf930ad025b90df45df207f8abda4bb4c9859f7a3cb", func := "papermill/papermilllaw19.PipeFifo", spec := "pipeFifo", unfollowed := true, recurses := true, apart := false }
def PipeFifoSaid : Prop := pipeFifoRow.holds Try.pinned (OpenSpec.ofChange pipeFifoSpec)

/-- ITS FALSE NEIGHBOUR: 'it returns false'. Refute it at one input. -/
def pipeFifoWrong : ChangeSpec := { name := "pipeFifo", fn := fun _ => fun
  | [d1, d2] => { results := [.lit (.bool false)], args := [d1, d2] }
  | _ => none }
def PipeFifoWrongFalsely : Prop := pipeFifoRow.holds Try.pinned (OpenSpec.ofChange pipeFifoWrong)

/-- 'papermilllaw19.PipeFlushed': WHATEVER THE INPUT: true; the input reads as it did. -/
def pipeFlushedSpec : ChangeSpec := { name := "pipeFlushed", fn := fun _ => fun
  | [d1, d2] => { results := [.lit (.bool true)], args := [d1, d2] }
  | _ => none }
def pipeFlushedRow : OpenClaim := { program := "ytpnfdhhfdidlmaa", sum := "1f21213e5fd581b5fb61abf930ad025b90df45df207f8abda4bb4c9859f7a3cb", func := "papermill/papermilllaw19.PipeFlushed", spec := "pipeFlushed", unfollowed := true, recurses := true, apart := false }
def PipeFlushedSaid : Prop := pipeFlushedRow.holds Try.pinned (OpenSpec.ofChange pipeFlushedSpec)

/-- ITS FALSE NEIGHBOUR: 'it returns false'. Refute it at one input. -/
def pipeFlushedWrong : ChangeSpec := { name := "pipeFlushed", fn := fun _ => fun
  | [d1, d2] => { results := [.lit (.bool false)], args := [d1, d2] }
  | _ => none }
def PipeFlushedWrongFalsely : Prop := pipeFlushedRow.holds Try.pinned (OpenSpec.ofChange pipeFlushedWrong)

/- THE SECOND FORM. 'bulk': how many values and letters a reading holds, each counted each time it is reached (what is shared counts as often as it is met; a slice's spare places count too). A statement '..UptoSaid' is the law's where the arguments, and the package variables that the reading takes, are together of bulk at most 1048576: NARROWER than '..Said'. Prove '..Said' where nothing that the law and all that it calls make is longer than what came in: it says more and counts as full. Else prove '..UptoSaid'. A law counts once. -/
mutual
def uptoBulk {H : Type} : DataW H → Nat
  | .lit (.string bytes) => bytes.length + 1
  | .lit _ => 1
  | .nil => 1
  | .ptr d => uptoBulk d + 1
  | .slice elems spare => uptoBulkAll elems + uptoBulkAll spare + 1
  | .agg parts => uptoBulkAll parts + 1
  | .iface _ d => uptoBulk d + 1
  | .map entries => uptoBulkEntries entries + 1
  | .held _ => 1
def uptoBulkAll {H : Type} : List (DataW H) → Nat
  | [] => 0
  | d :: r => uptoBulk d + uptoBulkAll r
def uptoBulkEntries {H : Type} : List (Lit × DataW H) → Nat
  | [] => 0
  | x :: r => uptoBulkEntry x + uptoBulkEntries r
def uptoBulkEntry {H : Type} : Lit × DataW H → Nat
  | (.string bytes, d) => bytes.length + uptoBulk d + 1
  | (_, d) => uptoBulk d + 1
 end
def uptoSmall : (H : Type) → List (DataW H) → Bool := fun _ ds => decide (uptoBulkAll ds ≤ 1048576)
def OpenSpec.upto (s : _root_.Go.ChangeSpec) : _root_.Go.OpenSpec := { _root_.Go.OpenSpec.ofChange s with cond := some uptoSmall }

/-- 'papermilllaw19.PipeChecks', WHERE WHAT IT READS IS OF BULK AT MOST 1048576: true; the input reads as it did. -/
def pipeChecksUptoRow : OpenClaim := { program := "ytpnfdhhfdidlmaa", sum := "1f21213e5fd581b5fb61abf930ad025b90df45df207f8abda4bb4c9859f7a3cb", func := "papermill/papermilllaw19.PipeChecks", spec := "pipeChecks", unfollowed := true, recurses := true, apart := false, narrowed := true }
def PipeChecksUptoSaid : Prop := pipeChecksUptoRow.holds Try.pinned (OpenSpec.upto pipeChecksSpec)

/-- 'papermilllaw19.PipeNews', WHERE WHAT IT READS IS OF BULK AT MOST 1048576: true; the input reads as it did. -/
def pipeNewsUptoRow : OpenClaim := { program := "ytpnfdhhfdidlmaa", sum := "1f21213e5fd581b5fb61abf930ad025b90df45df207f8abda4bb4c9859f7a3cb", func := "papermill/papermilllaw19.PipeNews", spec := "pipeNews", unfollowed := true, recurses := true, apart := false, narrowed := true }
def PipeNewsUptoSaid : Prop := pipeNewsUptoRow.holds Try.pinned (OpenSpec.upto pipeNewsSpec)

/-- 'papermilllaw19.PipePushes', WHERE WHAT IT READS IS OF BULK AT MOST 1048576: true; the input reads as it did. -/
def pipePushesUptoRow : OpenClaim := { program := "ytpnfdhhfdidlmaa", sum := "1f21213e5fd581b5fb61abf930ad025b90df45df207f8abda4bb4c9859f7a3cb", func := "papermill/papermilllaw19.PipePushes", spec := "pipePushes", unfollowed := true, recurses := true, apart := false, narrowed := true }
def PipePushesUptoSaid : Prop := pipePushesUptoRow.holds Try.pinned (OpenSpec.upto pipePushesSpec)

/-- 'papermilllaw19.PipeKinds', WHERE WHAT IT READS IS OF BULK AT MOST 1048576: true; the input reads as it did. -/
def pipeKindsUptoRow : OpenClaim := { program := "ytpnfdhhfdidlmaa", sum := "1f21213e5fd581b5fb61abf930ad025b90df45df207f8abda4bb4c9859f7a3cb", func := "papermill/papermilllaw19.PipeKinds", spec := "pipeKinds", unfollowed := true, recurses := true, apart := false, narrowed := true }
def PipeKindsUptoSaid : Prop := pipeKindsUptoRow.holds Try.pinned (OpenSpec.upto pipeKindsSpec)

/-- 'papermilllaw19.PipeAges', WHERE WHAT IT READS IS OF BULK AT MOST 1048576: true; the input reads as it did. -/
def pipeAgesUptoRow : OpenClaim := { program := "ytpnfdhhfdidlmaa", sum := "1f21213e5fd581b5fb61abf930ad025b90df45df207f8abda4bb4c9859f7a3cb", func := "papermill/papermilllaw19.PipeAges", spec := "pipeAges", unfollowed := true, recurses := true, apart := false, narrowed := true }
def PipeAgesUptoSaid : Prop := pipeAgesUptoRow.holds Try.pinned (OpenSpec.upto pipeAgesSpec)

/-- 'papermilllaw19.PipeContents', WHERE WHAT IT READS IS OF BULK AT MOST 1048576: true; the input reads as it did. -/
def pipeContentsUptoRow : OpenClaim := { program := "ytpnfdhhfdidlmaa", sum := "1f21213e5fd581b5fb61abf930ad025b90df45df207f8abda4bb4c9859f7a3cb", func := "papermill/papermilllaw19.PipeContents", spec := "pipeContents", unfollowed := true, recurses := true, apart := false, narrowed := true }
def PipeContentsUptoSaid : Prop := pipeContentsUptoRow.holds Try.pinned (OpenSpec.upto pipeContentsSpec)

/-- 'papermilllaw19.PipeFifo', WHERE WHAT IT READS IS OF BULK AT MOST 1048576: true; the input reads as it did. -/
def pipeFifoUptoRow : OpenClaim := { program := "ytpnfdhhfdidlmaa", sum := "1f21213e5fd581b5fb61abf930ad025b90df45df207f8abda4bb4c9859f7a3cb", func := "papermill/papermilllaw19.PipeFifo", spec := "pipeFifo", unfollowed := true, recurses := true, apart := false, narrowed := true }
def PipeFifoUptoSaid : Prop := pipeFifoUptoRow.holds Try.pinned (OpenSpec.upto pipeFifoSpec)

/-- 'papermilllaw19.PipeFlushed', WHERE WHAT IT READS IS OF BULK AT MOST 1048576: true; the input reads as it did. -/
def pipeFlushedUptoRow : OpenClaim := { program := "ytpnfdhhfdidlmaa", sum := "1f21213e5fd581b5fb61abf930ad025b90df45df207f8abda4bb4c9859f7a3cb", func := "papermill/papermilllaw19.PipeFlushed", spec := "pipeFlushed", unfollowed := true, recurses := true, apart := false, narrowed := true }
def PipeFlushedUptoSaid : Prop := pipeFlushedUptoRow.holds Try.pinned (OpenSpec.upto pipeFlushedSpec)

end Rows
end Go.Proofs.Ytpnfdhhfdidlmaa
