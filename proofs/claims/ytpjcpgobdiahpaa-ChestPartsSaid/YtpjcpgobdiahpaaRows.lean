/-
  No cell of these rows narrows 'for every input' (looked for: loops, veiled, ifaces, maps, wideKeys, modest, calm, conditions, laid).
  DERIVED. THE GIVEN ROWS OF THIS SEAT. 7 by the template 'for every input the law returns true; each argument reads behind the call as it read before'; 0 by the template 'total and deterministic' (their statements: YtpjcpgobdiahpaaTotals.lean).
  GIVEN WITH THE SEED: the statements are not yours to turn. If you find one false, say at which input.
  Laid BY PROGRAM, IN A SANDBOX (cutbox-rows.mjs): the forced cells as the released guide's own fill.sh prints them over the translation 2c9dca9c83027cbc… (all of the seat's roots in one cut). By AI agents, Wed Nov 11 2026. No macro, syntax, notation, axiom, sorry.
-/
import Derived.Test.YtpjcpgobdiahpaaChecked
import GoSem.Claim
import GoSem.ClaimJoined
import GoSem.ClaimMapViews
import Derived.JoinedTies
import Derived.KernelRfl
namespace Go.Proofs.Ytpjcpgobdiahpaa
/- THE CELL 'sum', in the pinned program and in every row, IS THE sha256 OF THE DUMP (.gsa) THAT YtpjcpgobdiahpaaProg.lean LOADS. Nothing in Lean hashes anything: it is a label: what it is worth is what the hold of that sum in a sandbox is worth. -/
noncomputable def Try.pinned : Pinned := { name := "ytpjcpgobdiahpaa", sum := "2c9dca9c83027cbc38b0d84d71703a5affac8aaf33527776643406a1100dd069", checked := Try.checked }
namespace Rows
def none {H : Type} : Left H := { results := [], args := [] }

/-- 'papermilllaw18.ChestChecks': WHATEVER THE INPUT: true; the input reads as it did. -/
def chestChecksSpec : ChangeSpec := { name := "chestChecks", fn := fun _ => fun
  | [d1, d2] => { results := [.lit (.bool true)], args := [d1, d2] }
  | _ => none }
def chestChecksRow : OpenClaim := { program := "ytpjcpgobdiahpaa", sum := "2c9dca9c83027cbc38b0d84d71703a5affac8aaf33527776643406a1100dd069", func := "papermill/papermilllaw18.ChestChecks", spec := "chestChecks", unfollowed := true, recurses := true, apart := false }
def ChestChecksSaid : Prop := chestChecksRow.holds Try.pinned (OpenSpec.ofChange chestChecksSpec)

/-- ITS FALSE NEIGHBOUR: 'it returns false'. Refute it at one input. -/
def chestChecksWrong : ChangeSpec := { name := "chestChecks", fn := fun _ => fun
  | [d1, d2] => { results := [.lit (.bool false)], args := [d1, d2] }
  | _ => none }
def ChestChecksWrongFalsely : Prop := chestChecksRow.holds Try.pinned (OpenSpec.ofChange chestChecksWrong)

/-- 'papermilllaw18.ChestMoves': WHATEVER THE INPUT: true; the input reads as it did. -/
def chestMovesSpec : ChangeSpec := { name := "chestMoves", fn := fun _ => fun
  | [d1, d2, d3] => { results := [.lit (.bool true)], args := [d1, d2, d3] }
  | _ => none }
def chestMovesRow : OpenClaim := { program := "ytpjcpgobdiahpaa", sum := "2c9dca9c83027cbc38b0d84d71703a5affac8aaf33527776643406a1100dd069", func := "papermill/papermilllaw18.ChestMoves", spec := "chestMoves", unfollowed := true, recurses := true, apart := false }
def ChestMovesSaid : Prop := chestMovesRow.holds Try.pinned (OpenSpec.ofChange chestMovesSpec)

/-- ITS FALSE NEIGHBOUR: 'it returns false'. Refute it at one input. -/
def chestMovesWrong : ChangeSpec := { name := "chestMoves", fn := fun _ => fun
  | [d1, d2, d3] => { results := [.lit (.bool false)], args := [d1, d2, d3] }
  | _ => none }
def ChestMovesWrongFalsely : Prop := chestMovesRow.holds Try.pinned (OpenSpec.ofChange chestMovesWrong)

/-- 'papermilllaw18.ChestNews': WHATEVER THE INPUT: true; the input reads as it did. -/
def chestNewsSpec : ChangeSpec := { name := "chestNews", fn := fun _ => fun
  | [d1, d2] => { results := [.lit (.bool true)], args := [d1, d2] }
  | _ => none }
def chestNewsRow : OpenClaim := { program := "ytpjcpgobdiahpaa", sum := "2c9dca9c83027cbc38b0d84d71703a5affac8aaf33527776643406a1100dd069", func := "papermill/papermilllaw18.ChestNews", spec := "chestNews", unfollowed := true, recurses := true, apart := false }
def ChestNewsSaid : Prop := chestNewsRow.holds Try.pinned (OpenSpec.ofChange chestNewsSpec)

/-- ITS FALSE NEIGHBOUR: 'it returns false'. Refute it at one input. -/
def chestNewsWrong : ChangeSpec := { name := "chestNews", fn := fun _ => fun
  | [d1, d2] => { results := [.lit (.bool false)], args := [d1, d2] }
  | _ => none }
def ChestNewsWrongFalsely : Prop := chestNewsRow.holds Try.pinned (OpenSpec.ofChange chestNewsWrong)

/-- 'papermilllaw18.ChestPours': WHATEVER THE INPUT: true; the input reads as it did. -/
def chestPoursSpec : ChangeSpec := { name := "chestPours", fn := fun _ => fun
  | [d1, d2, d3] => { results := [.lit (.bool true)], args := [d1, d2, d3] }
  | _ => none }
def chestPoursRow : OpenClaim := { program := "ytpjcpgobdiahpaa", sum := "2c9dca9c83027cbc38b0d84d71703a5affac8aaf33527776643406a1100dd069", func := "papermill/papermilllaw18.ChestPours", spec := "chestPours", unfollowed := true, recurses := true, apart := false }
def ChestPoursSaid : Prop := chestPoursRow.holds Try.pinned (OpenSpec.ofChange chestPoursSpec)

/-- ITS FALSE NEIGHBOUR: 'it returns false'. Refute it at one input. -/
def chestPoursWrong : ChangeSpec := { name := "chestPours", fn := fun _ => fun
  | [d1, d2, d3] => { results := [.lit (.bool false)], args := [d1, d2, d3] }
  | _ => none }
def ChestPoursWrongFalsely : Prop := chestPoursRow.holds Try.pinned (OpenSpec.ofChange chestPoursWrong)

/-- 'papermilllaw18.ChestKeeps': WHATEVER THE INPUT: true; the input reads as it did. -/
def chestKeepsSpec : ChangeSpec := { name := "chestKeeps", fn := fun _ => fun
  | [d1, d2, d3] => { results := [.lit (.bool true)], args := [d1, d2, d3] }
  | _ => none }
def chestKeepsRow : OpenClaim := { program := "ytpjcpgobdiahpaa", sum := "2c9dca9c83027cbc38b0d84d71703a5affac8aaf33527776643406a1100dd069", func := "papermill/papermilllaw18.ChestKeeps", spec := "chestKeeps", unfollowed := true, recurses := true, apart := false }
def ChestKeepsSaid : Prop := chestKeepsRow.holds Try.pinned (OpenSpec.ofChange chestKeepsSpec)

/-- ITS FALSE NEIGHBOUR: 'it returns false'. Refute it at one input. -/
def chestKeepsWrong : ChangeSpec := { name := "chestKeeps", fn := fun _ => fun
  | [d1, d2, d3] => { results := [.lit (.bool false)], args := [d1, d2, d3] }
  | _ => none }
def ChestKeepsWrongFalsely : Prop := chestKeepsRow.holds Try.pinned (OpenSpec.ofChange chestKeepsWrong)

/-- 'papermilllaw18.ChestParts': WHATEVER THE INPUT: true; the input reads as it did. -/
def chestPartsSpec : ChangeSpec := { name := "chestParts", fn := fun _ => fun
  | [d1, d2] => { results := [.lit (.bool true)], args := [d1, d2] }
  | _ => none }
def chestPartsRow : OpenClaim := { program := "ytpjcpgobdiahpaa", sum := "2c9dca9c83027cbc38b0d84d71703a5affac8aaf33527776643406a1100dd069", func := "papermill/papermilllaw18.ChestParts", spec := "chestParts", unfollowed := true, recurses := true, apart := false }
def ChestPartsSaid : Prop := chestPartsRow.holds Try.pinned (OpenSpec.ofChange chestPartsSpec)

/-- ITS FALSE NEIGHBOUR: 'it returns false'. Refute it at one input. -/
def chestPartsWrong : ChangeSpec := { name := "chestParts", fn := fun _ => fun
  | [d1, d2] => { results := [.lit (.bool false)], args := [d1, d2] }
  | _ => none }
def ChestPartsWrongFalsely : Prop := chestPartsRow.holds Try.pinned (OpenSpec.ofChange chestPartsWrong)

/-- 'papermilllaw18.ChestNear': WHATEVER THE INPUT: true; the input reads as it did. -/
def chestNearSpec : ChangeSpec := { name := "chestNear", fn := fun _ => fun
  | [d1, d2] => { results := [.lit (.bool true)], args := [d1, d2] }
  | _ => none }
def chestNearRow : OpenClaim := { program := "ytpjcpgobdiahpaa", sum := "2c9dca9c83027cbc38b0d84d71703a5affac8aaf33527776643406a1100dd069", func := "papermill/papermilllaw18.ChestNear", spec := "chestNear", unfollowed := true, recurses := true, apart := false }
def ChestNearSaid : Prop := chestNearRow.holds Try.pinned (OpenSpec.ofChange chestNearSpec)

/-- ITS FALSE NEIGHBOUR: 'it returns false'. Refute it at one input. -/
def chestNearWrong : ChangeSpec := { name := "chestNear", fn := fun _ => fun
  | [d1, d2] => { results := [.lit (.bool false)], args := [d1, d2] }
  | _ => none }
def ChestNearWrongFalsely : Prop := chestNearRow.holds Try.pinned (OpenSpec.ofChange chestNearWrong)

/- THE SECOND FORM. 'bulk': how many values and letters a reading holds, each counted each time it is reached (what is shared counts as often as it is met; a slice's spare places count too). A statement '..UptoSaid' is the law's where the arguments, and the package variables that the reading takes, are together of bulk at most 1048576: NARROWER than '..Said'. Prove '..Said' where nothing that the law and all that it calls make is longer than what came in: it says more and counts as full. Else prove '..UptoSaid'. A law counts once. -/
mutual
def uptoBulk {H : Type} : DataW H → Nat
  | .lit (.string bytes) => bytes.length + 1
  | .lit _ => 1
  | .nil => 1
  | .ptr d => uptoBulk d + 1
  | .slice elems spare => uptoBulkAll elems + uptoBulkAll spare + 1
  | .agg parts => uptoBulkAll parts + 1
  | .iface _ d => uptoBulk d + 1
  | .map entries => uptoBulkEntries entries + 1
  | .held _ => 1
def uptoBulkAll {H : Type} : List (DataW H) → Nat
  | [] => 0
  | d :: r => uptoBulk d + uptoBulkAll r
def uptoBulkEntries {H : Type} : List (Lit × DataW H) → Nat
  | [] => 0
  | x :: r => uptoBulkEntry x + uptoBulkEntries r
def uptoBulkEntry {H : Type} : Lit × DataW H → Nat
  | (.string bytes, d) => bytes.length + uptoBulk d + 1
  | (_, d) => uptoBulk d + 1
 end
def uptoSmall : (H : Type) → List (DataW H) → Bool := fun _ ds => decide (uptoBulkAll ds ≤ 1048576)
def OpenSpec.upto (s : _root_.Go.ChangeSpec) : _root_.Go.OpenSpec := { _root_.Go.OpenSpec.ofChange s with cond := some uptoSmall }

/-- 'papermilllaw18.ChestChecks', WHERE WHAT IT READS IS OF BULK AT MOST 1048576: true; the input reads as it did. -/
def chestChecksUptoRow : OpenClaim := { program := "ytpjcpgobdiahpaa", sum := "2c9dca9c83027cbc38b0d84d71703a5affac8aaf33527776643406a1100dd069", func := "papermill/papermilllaw18.ChestChecks", spec := "chestChecks", unfollowed := true, recurses := true, apart := false, narrowed := true }
def ChestChecksUptoSaid : Prop := chestChecksUptoRow.holds Try.pinned (OpenSpec.upto chestChecksSpec)

/-- 'papermilllaw18.ChestMoves', WHERE WHAT IT READS IS OF BULK AT MOST 1048576: true; the input reads as it did. -/
def chestMovesUptoRow : OpenClaim := { program := "ytpjcpgobdiahpaa", sum := "2c9dca9c83027cbc38b0d84d71703a5affac8aaf33527776643406a1100dd069", func := "papermill/papermilllaw18.ChestMoves", spec := "chestMoves", unfollowed := true, recurses := true, apart := false, narrowed := true }
def ChestMovesUptoSaid : Prop := chestMovesUptoRow.holds Try.pinned (OpenSpec.upto chestMovesSpec)

/-- 'papermilllaw18.ChestNews', WHERE WHAT IT READS IS OF BULK AT MOST 1048576: true; the input reads as it did. -/
def chestNewsUptoRow : OpenClaim := { program := "ytpjcpgobdiahpaa", sum := "2c9dca9c83027cbc38b0d84d71703a5affac8aaf33527776643406a1100dd069", func := "papermill/papermilllaw18.ChestNews", spec := "chestNews", unfollowed := true, recurses := true, apart := false, narrowed := true }
def ChestNewsUptoSaid : Prop := chestNewsUptoRow.holds Try.pinned (OpenSpec.upto chestNewsSpec)

/-- 'papermilllaw18.ChestPours', WHERE WHAT IT READS IS OF BULK AT MOST 1048576: true; the input reads as it did. -/
def chestPoursUptoRow : OpenClaim := { program := "ytpjcpgobdiahpaa", sum := "2c9dca9c83027cbc38b0d84d71703a5affac8aaf33527776643406a1100dd069", func := "papermill/papermilllaw18.ChestPours", spec := "chestPours", unfollowed := true, recurses := true, apart := false, narrowed := true }
def ChestPoursUptoSaid : Prop := chestPoursUptoRow.holds Try.pinned (OpenSpec.upto chestPoursSpec)

/-- 'papermilllaw18.ChestKeeps', WHERE WHAT IT READS IS OF BULK AT MOST 1048576: true; the input reads as it did. -/
def chestKeepsUptoRow : OpenClaim := { program := "ytpjcpgobdiahpaa", sum := "2c9dca9c83027cbc38b0d84d71703a5affac8aaf33527776643406a1100dd069", func := "papermill/papermilllaw18.ChestKeeps", spec := "chestKeeps", unfollowed := true, recurses := true, apart := false, narrowed := true }
def ChestKeepsUptoSaid : Prop := chestKeepsUptoRow.holds Try.pinned (OpenSpec.upto chestKeepsSpec)

/-- 'papermilllaw18.ChestParts', WHERE WHAT IT READS IS OF BULK AT MOST 1048576: true; the input reads as it did. -/
def chestPartsUptoRow : OpenClaim := { program := "ytpjcpgobdiahpaa", sum := "2c9dca9c83027cbc38b0d84d71703a5affac8aaf33527776643406a1100dd069", func := "papermill/papermilllaw18.ChestParts", spec := "chestParts", unfollowed := true, recurses := true, apart := false, narrowed := true }
def ChestPartsUptoSaid : Prop := chestPartsUptoRow.holds Try.pinned (OpenSpec.upto chestPartsSpec)

/-- 'papermilllaw18.ChestNear', WHERE WHAT IT READS IS OF BULK AT MOST 1048576: true; the input reads as it did. -/
def chestNearUptoRow : OpenClaim := { program := "ytpjcpgobdiahpaa", sum := "2c9dca9c83027cbc38b0d84d71703a5affac8aaf33527776643406a1100dd069", func := "papermill/papermilllaw18.ChestNear", spec := "chestNear", unfollowed := true, recurses := true, apart := false, narrowed := true }
def ChestNearUptoSaid : Prop := chestNearUptoRow.holds Try.pinned (OpenSpec.upto chestNearSpec)

end Rows
end Go.Proofs.Ytpjcpgobdiahpaa
