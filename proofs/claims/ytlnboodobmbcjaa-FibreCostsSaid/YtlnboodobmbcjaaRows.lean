/-
  No cell of these rows narrows 'for every input' (looked for: loops, veiled, ifaces, maps, wideKeys, modest, calm, conditions, laid).
  DERIVED. THE GIVEN ROWS OF THIS SEAT. 8 by the template 'for every input the law returns true; each argument reads behind the call as it read before'; 0 by the template 'total and deterministic' (their statements: YtlnboodobmbcjaaTotals.lean).
  GIVEN WITH THE SEED: the statements are not yours to turn. If you find one false, say at which input.
  Laid BY PROGRAM, IN A SANDBOX (cutbox-rows.mjs): the forced cells as the released guide's own fill.sh prints them over the translation f4226c02548a6301… (all of the seat's roots in one cut). By AI agents, Wed Nov 11 2026. No macro, syntax, notation, axiom, sorry.
-/
import Derived.Test.YtlnboodobmbcjaaChecked
import GoSem.Claim
import GoSem.ClaimJoined
import GoSem.ClaimMapViews
import Derived.JoinedTies
import Derived.KernelRfl
namespace Go.Proofs.Ytlnboodobmbcjaa
/- THE CELL 'sum', in the pinned program and in every row, IS THE sha256 OF THE DUMP (.gsa) THAT YtlnboodobmbcjaaProg.lean LOADS. Nothing in Lean hashes anything: it is a label: what it is worth is what the hold of that sum in a sandbox is worth. -/
noncomputable def Try.pinned : Pinned := { name := "ytlnboodobmbcjaa", sum := "f4226c02548a6301959088e35d75b74e3006b6883c700669e56decc031ee444e", checked := Try.checked }
namespace Rows
def none {H : Type} : Left H := { results := [], args := [] }

/-- 'papermilllaw16.FibreChecks': WHATEVER THE INPUT: true; the input reads as it did. -/
def fibreChecksSpec : ChangeSpec := { name := "fibreChecks", fn := fun _ => fun
  | [d] => { results := [.lit (.bool true)], args := [d] }
  | _ => none }
def fibreChecksRow : OpenClaim := { program := "ytlnboodobmbcjaa", sum := "f4226c02548a6301959088e35d75b74e3006b6883c700669e56decc031ee444e", func := "papermill/papermilllaw16.FibreChecks", spec := "fibreChecks", unfollowed := true, recurses := true, apart := false }
def FibreChecksSaid : Prop := fibreChecksRow.holds Try.pinned (OpenSpec.ofChange fibreChecksSpec)

/-- ITS FALSE NEIGHBOUR: 'it returns false'. Refute it at one input. -/
def fibreChecksWrong : ChangeSpec := { name := "fibreChecks", fn := fun _ => fun
  | [d] => { results := [.lit (.bool false)], args := [d] }
  | _ => none }
def FibreChecksWrongFalsely : Prop := fibreChecksRow.holds Try.pinned (OpenSpec.ofChange fibreChecksWrong)

/-- 'papermilllaw16.FibreRecipes': WHATEVER THE INPUT: true; the input reads as it did. -/
def fibreRecipesSpec : ChangeSpec := { name := "fibreRecipes", fn := fun _ => fun
  | [d1, d2] => { results := [.lit (.bool true)], args := [d1, d2] }
  | _ => none }
def fibreRecipesRow : OpenClaim := { program := "ytlnboodobmbcjaa", sum := "f4226c02548a6301959088e35d75b74e3006b6883c700669e56decc031ee444e", func := "papermill/papermilllaw16.FibreRecipes", spec := "fibreRecipes", unfollowed := true, recurses := true, apart := false }
def FibreRecipesSaid : Prop := fibreRecipesRow.holds Try.pinned (OpenSpec.ofChange fibreRecipesSpec)

/-- ITS FALSE NEIGHBOUR: 'it returns false'. Refute it at one input. -/
def fibreRecipesWrong : ChangeSpec := { name := "fibreRecipes", fn := fun _ => fun
  | [d1, d2] => { results := [.lit (.bool false)], args := [d1, d2] }
  | _ => none }
def FibreRecipesWrongFalsely : Prop := fibreRecipesRow.holds Try.pinned (OpenSpec.ofChange fibreRecipesWrong)

/-- 'papermilllaw16.FibreAdds': WHATEVER THE INPUT: true; the input reads as it did. -/
def fibreAddsSpec : ChangeSpec := { name := "fibreAdds", fn := fun _ => fun
  | [d1, d2] => { results := [.lit (.bool true)], args := [d1, d2] }
  | _ => none }
def fibreAddsRow : OpenClaim := { program := "ytlnboodobmbcjaa", sum := "f4226c02548a6301959088e35d75b74e3006b6883c700669e56decc031ee444e", func := "papermill/papermilllaw16.FibreAdds", spec := "fibreAdds", unfollowed := true, recurses := true, apart := false }
def FibreAddsSaid : Prop := fibreAddsRow.holds Try.pinned (OpenSpec.ofChange fibreAddsSpec)

/-- ITS FALSE NEIGHBOUR: 'it returns false'. Refute it at one input. -/
def fibreAddsWrong : ChangeSpec := { name := "fibreAdds", fn := fun _ => fun
  | [d1, d2] => { results := [.lit (.bool false)], args := [d1, d2] }
  | _ => none }
def FibreAddsWrongFalsely : Prop := fibreAddsRow.holds Try.pinned (OpenSpec.ofChange fibreAddsWrong)

/-- 'papermilllaw16.FibreCosts': WHATEVER THE INPUT: true; the input reads as it did. -/
def fibreCostsSpec : ChangeSpec := { name := "fibreCosts", fn := fun _ => fun
  | [d1, d2] => { results := [.lit (.bool true)], args := [d1, d2] }
  | _ => none }
def fibreCostsRow : OpenClaim := { program := "ytlnboodobmbcjaa", sum := "f4226c02548a6301959088e35d75b74e3006b6883c700669e56decc031ee444e", func := "papermill/papermilllaw16.FibreCosts", spec := "fibreCosts", unfollowed := true, recurses := true, apart := false }
def FibreCostsSaid : Prop := fibreCostsRow.holds Try.pinned (OpenSpec.ofChange fibreCostsSpec)

/-- ITS FALSE NEIGHBOUR: 'it returns false'. Refute it at one input. -/
def fibreCostsWrong : ChangeSpec := { name := "fibreCosts", fn := fun _ => fun
  | [d1, d2] => { results := [.lit (.bool false)], args := [d1, d2] }
  | _ => none }
def FibreCostsWrongFalsely : Prop := fibreCostsRow.holds Try.pinned (OpenSpec.ofChange fibreCostsWrong)

/-- 'papermilllaw16.FibreNears': WHATEVER THE INPUT: true; the input reads as it did. -/
def fibreNearsSpec : ChangeSpec := { name := "fibreNears", fn := fun _ => fun
  | [d1, d2, d3] => { results := [.lit (.bool true)], args := [d1, d2, d3] }
  | _ => none }
def fibreNearsRow : OpenClaim := { program := "ytlnboodobmbcjaa", sum := "f4226c02548a6301959088e35d75b74e3006b6883c700669e56decc031ee444e", func := "papermill/papermilllaw16.FibreNears", spec := "fibreNears", unfollowed := true, recurses := true, apart := false }
def FibreNearsSaid : Prop := fibreNearsRow.holds Try.pinned (OpenSpec.ofChange fibreNearsSpec)

/-- ITS FALSE NEIGHBOUR: 'it returns false'. Refute it at one input. -/
def fibreNearsWrong : ChangeSpec := { name := "fibreNears", fn := fun _ => fun
  | [d1, d2, d3] => { results := [.lit (.bool false)], args := [d1, d2, d3] }
  | _ => none }
def FibreNearsWrongFalsely : Prop := fibreNearsRow.holds Try.pinned (OpenSpec.ofChange fibreNearsWrong)

/-- 'papermilllaw16.FibreDivides': WHATEVER THE INPUT: true; the input reads as it did. -/
def fibreDividesSpec : ChangeSpec := { name := "fibreDivides", fn := fun _ => fun
  | [d1, d2] => { results := [.lit (.bool true)], args := [d1, d2] }
  | _ => none }
def fibreDividesRow : OpenClaim := { program := "ytlnboodobmbcjaa", sum := "f4226c02548a6301959088e35d75b74e3006b6883c700669e56decc031ee444e", func := "papermill/papermilllaw16.FibreDivides", spec := "fibreDivides", unfollowed := true, recurses := true, apart := false }
def FibreDividesSaid : Prop := fibreDividesRow.holds Try.pinned (OpenSpec.ofChange fibreDividesSpec)

/-- ITS FALSE NEIGHBOUR: 'it returns false'. Refute it at one input. -/
def fibreDividesWrong : ChangeSpec := { name := "fibreDivides", fn := fun _ => fun
  | [d1, d2] => { results := [.lit (.bool false)], args := [d1, d2] }
  | _ => none }
def FibreDividesWrongFalsely : Prop := fibreDividesRow.holds Try.pinned (OpenSpec.ofChange fibreDividesWrong)

/-- 'papermilllaw16.FibreMasses': WHATEVER THE INPUT: true; the input reads as it did. -/
def fibreMassesSpec : ChangeSpec := { name := "fibreMasses", fn := fun _ => fun
  | [d1, d2] => { results := [.lit (.bool true)], args := [d1, d2] }
  | _ => none }
def fibreMassesRow : OpenClaim := { program := "ytlnboodobmbcjaa", sum := "f4226c02548a6301959088e35d75b74e3006b6883c700669e56decc031ee444e", func := "papermill/papermilllaw16.FibreMasses", spec := "fibreMasses", unfollowed := true, recurses := true, apart := false }
def FibreMassesSaid : Prop := fibreMassesRow.holds Try.pinned (OpenSpec.ofChange fibreMassesSpec)

/-- ITS FALSE NEIGHBOUR: 'it returns false'. Refute it at one input. -/
def fibreMassesWrong : ChangeSpec := { name := "fibreMasses", fn := fun _ => fun
  | [d1, d2] => { results := [.lit (.bool false)], args := [d1, d2] }
  | _ => none }
def FibreMassesWrongFalsely : Prop := fibreMassesRow.holds Try.pinned (OpenSpec.ofChange fibreMassesWrong)

/-- 'papermilllaw16.FibreSums': WHATEVER THE INPUT: true; the input reads as it did. -/
def fibreSumsSpec : ChangeSpec := { name := "fibreSums", fn := fun _ => fun
  | [d1, d2] => { results := [.lit (.bool true)], args := [d1, d2] }
  | _ => none }
def fibreSumsRow : OpenClaim := { program := "ytlnboodobmbcjaa", sum := "f4226c02548a6301959088e35d75b74e3006b6883c700669e56decc031ee444e", func := "papermill/papermilllaw16.FibreSums", spec := "fibreSums", unfollowed := true, recurses := true, apart := false }
def FibreSumsSaid : Prop := fibreSumsRow.holds Try.pinned (OpenSpec.ofChange fibreSumsSpec)

/-- ITS FALSE NEIGHBOUR: 'it returns false'. Refute it at one input. -/
def fibreSumsWrong : ChangeSpec := { name := "fibreSums", fn := fun _ => fun
  | [d1, d2] => { results := [.lit (.bool false)], args := [d1, d2] }
  | _ => none }
def FibreSumsWrongFalsely : Prop := fibreSumsRow.holds Try.pinned (OpenSpec.ofChange fibreSumsWrong)

/- THE SECOND FORM. 'bulk': how many values and letters a reading holds, each counted each time it is reached (what is shared counts as often as it is met; a slice's spare places count too). A statement '..UptoSaid' is the law's where the arguments, and the package variables that the reading takes, are together of bulk at most 1048576: NARROWER than '..Said'. Prove '..Said' where nothing that the law and all that it calls make is longer than what came in: it says more and counts as full. Else prove '..UptoSaid'. A law counts once. -/
mutual
def uptoBulk {H : Type} : DataW H → Nat
  | .lit (.string bytes) => bytes.length + 1
  | .lit _ => 1
  | .nil => 1
  | .ptr d => uptoBulk d + 1
  | .slice elems spare => uptoBulkAll elems + uptoBulkAll spare + 1
  | .agg parts => uptoBulkAll parts + 1
  | .iface _ d => uptoBulk d + 1
  | .map entries => uptoBulkEntries entries + 1
  | .held _ => 1
def uptoBulkAll {H : Type} : List (DataW H) → Nat
  | [] => 0
  | d :: r => uptoBulk d + uptoBulkAll r
def uptoBulkEntries {H : Type} : List (Lit × DataW H) → Nat
  | [] => 0
  | x :: r => uptoBulkEntry x + uptoBulkEntries r
def uptoBulkEntry {H : Type} : Lit × DataW H → Nat
  | (.string bytes, d) => bytes.length + uptoBulk d + 1
  | (_, d) => uptoBulk d + 1
 end
def uptoSmall : (H : Type) → List (DataW H) → Bool := fun _ ds => decide (uptoBulkAll ds ≤ 1048576)
def OpenSpec.upto (s : _root_.Go.ChangeSpec) : _root_.Go.OpenSpec := { _root_.Go.OpenSpec.ofChange s with cond := some uptoSmall }

/-- 'papermilllaw16.FibreChecks', WHERE WHAT IT READS IS OF BULK AT MOST 1048576: true; the input reads as it did. -/
def fibreChecksUptoRow : OpenClaim := { program := "ytlnboodobmbcjaa", sum := "f4226c02548a6301959088e35d75b74e3006b6883c700669e56decc031ee444e", func := "papermill/papermilllaw16.FibreChecks", spec := "fibreChecks", unfollowed := true, recurses := true, apart := false, narrowed := true }
def FibreChecksUptoSaid : Prop := fibreChecksUptoRow.holds Try.pinned (OpenSpec.upto fibreChecksSpec)

/-- 'papermilllaw16.FibreRecipes', WHERE WHAT IT READS IS OF BULK AT MOST 1048576: true; the input reads as it did. -/
def fibreRecipesUptoRow : OpenClaim := { program := "ytlnboodobmbcjaa", sum := "f4226c02548a6301959088e35d75b74e3006b6883c700669e56decc031ee444e", func := "papermill/papermilllaw16.FibreRecipes", spec := "fibreRecipes", unfollowed := true, recurses := true, apart := false, narrowed := true }
def FibreRecipesUptoSaid : Prop := fibreRecipesUptoRow.holds Try.pinned (OpenSpec.upto fibreRecipesSpec)

/-- 'papermilllaw16.FibreAdds', WHERE WHAT IT READS IS OF BULK AT MOST 1048576: true; the input reads as it did. -/
def fibreAddsUptoRow : OpenClaim := { program := "ytlnboodobmbcjaa", sum := "f4226c02548a6301959088e35d75b74e3006b6883c700669e56decc031ee444e", func := "papermill/papermilllaw16.FibreAdds", spec := "fibreAdds", unfollowed := true, recurses := true, apart := false, narrowed := true }
def FibreAddsUptoSaid : Prop := fibreAddsUptoRow.holds Try.pinned (OpenSpec.upto fibreAddsSpec)

/-- 'papermilllaw16.FibreCosts', WHERE WHAT IT READS IS OF BULK AT MOST 1048576: true; the input reads as it did. -/
def fibreCostsUptoRow : OpenClaim := { program := "ytlnboodobmbcjaa", sum := "f4226c02548a6301959088e35d75b74e3006b6883c700669e56decc031ee444e", func := "papermill/papermilllaw16.FibreCosts", spec := "fibreCosts", unfollowed := true, recurses := true, apart := false, narrowed := true }
def FibreCostsUptoSaid : Prop := fibreCostsUptoRow.holds Try.pinned (OpenSpec.upto fibreCostsSpec)

/-- 'papermilllaw16.FibreNears', WHERE WHAT IT READS IS OF BULK AT MOST 1048576: true; the input reads as it did. -/
def fibreNearsUptoRow : OpenClaim := { program := "ytlnboodobmbcjaa", sum := "f4226c02548a6301959088e35d75b74e3006b6883c700669e56decc031ee444e", func := "papermill/papermilllaw16.FibreNears", spec := "fibreNears", unfollowed := true, recurses := true, apart := false, narrowed := true }
def FibreNearsUptoSaid : Prop := fibreNearsUptoRow.holds Try.pinned (OpenSpec.upto fibreNearsSpec)

/-- 'papermilllaw16.FibreDivides', WHERE WHAT IT READS IS OF BULK AT MOST 1048576: true; the input reads as it did. -/
def fibreDividesUptoRow : OpenClaim := { program := "ytlnboodobmbcjaa", sum := "f4226c02548a6301959088e35d75b74e3006b6883c700669e56decc031ee444e", func := "papermill/papermilllaw16.FibreDivides", spec := "fibreDivides", unfollowed := true, recurses := true, apart := false, narrowed := true }
def FibreDividesUptoSaid : Prop := fibreDividesUptoRow.holds Try.pinned (OpenSpec.upto fibreDividesSpec)

/-- 'papermilllaw16.FibreMasses', WHERE WHAT IT READS IS OF BULK AT MOST 1048576: true; the input reads as it did. -/
def fibreMassesUptoRow : OpenClaim := { program := "ytlnboodobmbcjaa", sum := "f4226c02548a6301959088e35d75b74e3006b6883c700669e56decc031ee444e", func := "papermill/papermilllaw16.FibreMasses", spec := "fibreMasses", unfollowed := true, recurses := true, apart := false, narrowed := true }
def FibreMassesUptoSaid : Prop := fibreMassesUptoRow.holds Try.pinned (OpenSpec.upto fibreMassesSpec)

/-- 'papermilllaw16.FibreSums', WHERE WHAT IT READS IS OF BULK AT MOST 1048576: true; the input reads as it did. -/
def fibreSumsUptoRow : OpenClaim := { program := "ytlnboodobmbcjaa", sum := "f4226c02548a6301959088e35d75b74e3006b6883c700669e56decc031ee444e", func := "papermill/papermilllaw16.FibreSums", spec := "fibreSums", unfollowed := true, recurses := true, apart := false, narrowed := true }
def FibreSumsUptoSaid : Prop := fibreSumsUptoRow.holds Try.pinned (OpenSpec.upto fibreSumsSpec)

end Rows
end Go.Proofs.Ytlnboodobmbcjaa
