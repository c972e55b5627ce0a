/-
  No cell of these rows narrows 'for every input' (looked for: loops, veiled, ifaces, maps, wideKeys, modest, calm, conditions, laid).
  DERIVED. THE GIVEN ROWS OF THIS SEAT. 6 by the template 'for every input the law returns true; each argument reads behind the call as it read before'; 0 by the template 'total and deterministic' (their statements: YtjimdhlmeebjeaaGreatTotals.lean).
  GIVEN WITH THE SEED: the statements are not yours to turn. If you find one false, say at which input.
  Laid BY PROGRAM, IN A SANDBOX (cutbox-rows.mjs): the forced cells as the released guide's own fill.sh prints them over the translation 58d487977ad674a5… (all of the seat's roots in one cut). By AI agents, Wed Nov 11 2026. No macro, syntax, notation, axiom, sorry.
-/
import Derived.Test.YtjimdhlmeebjeaaGreatChecked
import GoSem.Claim
import GoSem.ClaimJoined
import GoSem.ClaimMapViews
import Derived.JoinedTies
import Derived.KernelRfl
namespace Go.Proofs.YtjimdhlmeebjeaaGreat
/- THE CELL 'sum', in the pinned program and in every row, IS THE sha256 OF THE DUMP (.gsa) THAT YtjimdhlmeebjeaaGreatProg.lean LOADS. Nothing in Lean hashes anything: it is a label: what it is worth is what the hold of that sum in a sandbox is worth. -/
noncomputable def Tryz.pinned : Pinned := { name := "ytjimdhlmeebjeaagreat", sum := "58d487977ad674a59089e0376085e1d6751d6119e9bcd715d856179e7099f160", checked := Tryz.checked }
namespace Rows
def none {H : Type} : Left H := { results := [], args := [] }

/-- 'isochronelaw05.LinearSolves': WHATEVER THE INPUT: true; the input reads as it did. -/
def linearSolvesSpec : ChangeSpec := { name := "linearSolves", fn := fun _ => fun
  | [d1, d2] => { results := [.lit (.bool true)], args := [d1, d2] }
  | _ => none }
def linearSolvesRow : OpenClaim := { program := "ytjimdhlmeebjeaagreat", sum := "58d487977ad674a59089e0376085e1d6751d6119e9bcd715d856179e7099f160", func := "isochrone/isochronelaw05.LinearSolves", spec := "linearSolves", recurses := true, apart := false }
def LinearSolvesSaid : Prop := linearSolvesRow.holds Tryz.pinned (OpenSpec.ofChange linearSolvesSpec)

/-- ITS FALSE NEIGHBOUR: 'it returns false'. Refute it at one input. -/
def linearSolvesWrong : ChangeSpec := { name := "linearSolves", fn := fun _ => fun
  | [d1, d2] => { results := [.lit (.bool false)], args := [d1, d2] }
  | _ => none }
def LinearSolvesWrongFalsely : Prop := linearSolvesRow.holds Tryz.pinned (OpenSpec.ofChange linearSolvesWrong)

/-- 'isochronelaw05.LinearAdds': WHATEVER THE INPUT: true; the input reads as it did. -/
def linearAddsSpec : ChangeSpec := { name := "linearAdds", fn := fun _ => fun
  | [d1, d2, d3] => { results := [.lit (.bool true)], args := [d1, d2, d3] }
  | _ => none }
def linearAddsRow : OpenClaim := { program := "ytjimdhlmeebjeaagreat", sum := "58d487977ad674a59089e0376085e1d6751d6119e9bcd715d856179e7099f160", func := "isochrone/isochronelaw05.LinearAdds", spec := "linearAdds", recurses := true, apart := false }
def LinearAddsSaid : Prop := linearAddsRow.holds Tryz.pinned (OpenSpec.ofChange linearAddsSpec)

/-- ITS FALSE NEIGHBOUR: 'it returns false'. Refute it at one input. -/
def linearAddsWrong : ChangeSpec := { name := "linearAdds", fn := fun _ => fun
  | [d1, d2, d3] => { results := [.lit (.bool false)], args := [d1, d2, d3] }
  | _ => none }
def LinearAddsWrongFalsely : Prop := linearAddsRow.holds Tryz.pinned (OpenSpec.ofChange linearAddsWrong)

/-- 'isochronelaw05.LinearProjects': WHATEVER THE INPUT: true; the input reads as it did. -/
def linearProjectsSpec : ChangeSpec := { name := "linearProjects", fn := fun _ => fun
  | [d1, d2, d3, d4] => { results := [.lit (.bool true)], args := [d1, d2, d3, d4] }
  | _ => none }
def linearProjectsRow : OpenClaim := { program := "ytjimdhlmeebjeaagreat", sum := "58d487977ad674a59089e0376085e1d6751d6119e9bcd715d856179e7099f160", func := "isochrone/isochronelaw05.LinearProjects", spec := "linearProjects", recurses := true, apart := false }
def LinearProjectsSaid : Prop := linearProjectsRow.holds Tryz.pinned (OpenSpec.ofChange linearProjectsSpec)

/-- ITS FALSE NEIGHBOUR: 'it returns false'. Refute it at one input. -/
def linearProjectsWrong : ChangeSpec := { name := "linearProjects", fn := fun _ => fun
  | [d1, d2, d3, d4] => { results := [.lit (.bool false)], args := [d1, d2, d3, d4] }
  | _ => none }
def LinearProjectsWrongFalsely : Prop := linearProjectsRow.holds Tryz.pinned (OpenSpec.ofChange linearProjectsWrong)

/-- 'isochronelaw05.LinearWitnesses': WHATEVER THE INPUT: true; the input reads as it did. -/
def linearWitnessesSpec : ChangeSpec := { name := "linearWitnesses", fn := fun _ => fun
  | [d1, d2, d3, d4] => { results := [.lit (.bool true)], args := [d1, d2, d3, d4] }
  | _ => none }
def linearWitnessesRow : OpenClaim := { program := "ytjimdhlmeebjeaagreat", sum := "58d487977ad674a59089e0376085e1d6751d6119e9bcd715d856179e7099f160", func := "isochrone/isochronelaw05.LinearWitnesses", spec := "linearWitnesses", recurses := true, apart := false }
def LinearWitnessesSaid : Prop := linearWitnessesRow.holds Tryz.pinned (OpenSpec.ofChange linearWitnessesSpec)

/-- ITS FALSE NEIGHBOUR: 'it returns false'. Refute it at one input. -/
def linearWitnessesWrong : ChangeSpec := { name := "linearWitnesses", fn := fun _ => fun
  | [d1, d2, d3, d4] => { results := [.lit (.bool false)], args := [d1, d2, d3, d4] }
  | _ => none }
def LinearWitnessesWrongFalsely : Prop := linearWitnessesRow.holds Tryz.pinned (OpenSpec.ofChange linearWitnessesWrong)

/-- 'isochronelaw05.LinearMaxes': WHATEVER THE INPUT: true; the input reads as it did. -/
def linearMaxesSpec : ChangeSpec := { name := "linearMaxes", fn := fun _ => fun
  | [d1, d2, d3, d4, d5] => { results := [.lit (.bool true)], args := [d1, d2, d3, d4, d5] }
  | _ => none }
def linearMaxesRow : OpenClaim := { program := "ytjimdhlmeebjeaagreat", sum := "58d487977ad674a59089e0376085e1d6751d6119e9bcd715d856179e7099f160", func := "isochrone/isochronelaw05.LinearMaxes", spec := "linearMaxes", recurses := true, apart := false }
def LinearMaxesSaid : Prop := linearMaxesRow.holds Tryz.pinned (OpenSpec.ofChange linearMaxesSpec)

/-- ITS FALSE NEIGHBOUR: 'it returns false'. Refute it at one input. -/
def linearMaxesWrong : ChangeSpec := { name := "linearMaxes", fn := fun _ => fun
  | [d1, d2, d3, d4, d5] => { results := [.lit (.bool false)], args := [d1, d2, d3, d4, d5] }
  | _ => none }
def LinearMaxesWrongFalsely : Prop := linearMaxesRow.holds Tryz.pinned (OpenSpec.ofChange linearMaxesWrong)

/-- 'isochronelaw05.LinearForms': WHATEVER THE INPUT: true; the input reads as it did. -/
def linearFormsSpec : ChangeSpec := { name := "linearForms", fn := fun _ => fun
  | [d1, d2] => { results := [.lit (.bool true)], args := [d1, d2] }
  | _ => none }
def linearFormsRow : OpenClaim := { program := "ytjimdhlmeebjeaagreat", sum := "58d487977ad674a59089e0376085e1d6751d6119e9bcd715d856179e7099f160", func := "isochrone/isochronelaw05.LinearForms", spec := "linearForms", recurses := true, apart := false }
def LinearFormsSaid : Prop := linearFormsRow.holds Tryz.pinned (OpenSpec.ofChange linearFormsSpec)

/-- ITS FALSE NEIGHBOUR: 'it returns false'. Refute it at one input. -/
def linearFormsWrong : ChangeSpec := { name := "linearForms", fn := fun _ => fun
  | [d1, d2] => { results := [.lit (.bool false)], args := [d1, d2] }
  | _ => none }
def LinearFormsWrongFalsely : Prop := linearFormsRow.holds Tryz.pinned (OpenSpec.ofChange linearFormsWrong)

/- THE SECOND FORM. 'bulk': how many values and letters a reading holds, each counted each time it is reached (what is shared counts as often as it is met; a slice's spare places count too). A statement '..UptoSaid' is the law's where the arguments, and the package variables that the reading takes, are together of bulk at most 1048576: NARROWER than '..Said'. Prove '..Said' where nothing that the law and all that it calls make is longer than what came in: it says more and counts as full. Else prove '..UptoSaid'. A law counts once. -/
mutual
def uptoBulk {H : Type} : DataW H → Nat
  | .lit (.string bytes) => bytes.length + 1
  | .lit _ => 1
  | .nil => 1
  | .ptr d => uptoBulk d + 1
  | .slice elems spare => uptoBulkAll elems + uptoBulkAll spare + 1
  | .agg parts => uptoBulkAll parts + 1
  | .iface _ d => uptoBulk d + 1
  | .map entries => uptoBulkEntries entries + 1
  | .held _ => 1
def uptoBulkAll {H : Type} : List (DataW H) → Nat
  | [] => 0
  | d :: r => uptoBulk d + uptoBulkAll r
def uptoBulkEntries {H : Type} : List (Lit × DataW H) → Nat
  | [] => 0
  | x :: r => uptoBulkEntry x + uptoBulkEntries r
def uptoBulkEntry {H : Type} : Lit × DataW H → Nat
  | (.string bytes, d) => bytes.length + uptoBulk d + 1
  | (_, d) => uptoBulk d + 1
 end
def uptoSmall : (H : Type) → List (DataW H) → Bool := fun _ ds => decide (uptoBulkAll ds ≤ 1048576)
def OpenSpec.upto (s : _root_.Go.ChangeSpec) : _root_.Go.OpenSpec := { _root_.Go.OpenSpec.ofChange s with cond := some uptoSmall }

/-- 'isochronelaw05.LinearSolves', WHERE WHAT IT READS IS OF BULK AT MOST 1048576: true; the input reads as it did. -/
def linearSolvesUptoRow : OpenClaim := { program := "ytjimdhlmeebjeaagreat", sum := "58d487977ad674a59089e0376085e1d6751d6119e9bcd715d856179e7099f160", func := "isochrone/isochronelaw05.LinearSolves", spec := "linearSolves", recurses := true, apart := false, narrowed := true }
def LinearSolvesUptoSaid : Prop := linearSolvesUptoRow.holds Tryz.pinned (OpenSpec.upto linearSolvesSpec)

/-- 'isochronelaw05.LinearAdds', WHERE WHAT IT READS IS OF BULK AT MOST 1048576: true; the input reads as it did. -/
def linearAddsUptoRow : OpenClaim := { program := "ytjimdhlmeebjeaagreat", sum := "58d487977ad674a59089e0376085e1d6751d6119e9bcd715d856179e7099f160", func := "isochrone/isochronelaw05.LinearAdds", spec := "linearAdds", recurses := true, apart := false, narrowed := true }
def LinearAddsUptoSaid : Prop := linearAddsUptoRow.holds Tryz.pinned (OpenSpec.upto linearAddsSpec)

/-- 'isochronelaw05.LinearProjects', WHERE WHAT IT READS IS OF BULK AT MOST 1048576: true; the input reads as it did. -/
def linearProjectsUptoRow : OpenClaim := { program := "ytjimdhlmeebjeaagreat", sum := "58d487977ad674a59089e0376085e1d6751d6119e9bcd715d856179e7099f160", func := "isochrone/isochronelaw05.LinearProjects", spec := "linearProjects", recurses := true, apart := false, narrowed := true }
def LinearProjectsUptoSaid : Prop := linearProjectsUptoRow.holds Tryz.pinned (OpenSpec.upto linearProjectsSpec)

/-- 'isochronelaw05.LinearWitnesses', WHERE WHAT IT READS IS OF BULK AT MOST 1048576: true; the input reads as it did. -/
def linearWitnessesUptoRow : OpenClaim := { program := "ytjimdhlmeebjeaagreat", sum := "58d487977ad674a59089e0376085e1d6751d6119e9bcd715d856179e7099f160", func := "isochrone/isochronelaw05.LinearWitnesses", spec := "linearWitnesses", recurses := true, apart := false, narrowed := true }
def LinearWitnessesUptoSaid : Prop := linearWitnessesUptoRow.holds Tryz.pinned (OpenSpec.upto linearWitnessesSpec)

/-- 'isochronelaw05.LinearMaxes', WHERE WHAT IT READS IS OF BULK AT MOST 1048576: true; the input reads as it did. -/
def linearMaxesUptoRow : OpenClaim := { program := "ytjimdhlmeebjeaagreat", sum := "58d487977ad674a59089e0376085e1d6751d6119e9bcd715d856179e7099f160", func := "isochrone/isochronelaw05.LinearMaxes", spec := "linearMaxes", recurses := true, apart := false, narrowed := true }
def LinearMaxesUptoSaid : Prop := linearMaxesUptoRow.holds Tryz.pinned (OpenSpec.upto linearMaxesSpec)

/-- 'isochronelaw05.LinearForms', WHERE WHAT IT READS IS OF BULK AT MOST 1048576: true; the input reads as it did. -/
def linearFormsUptoRow : OpenClaim := { program := "ytjimdhlmeebjeaagreat", sum := "58d487977ad674a59089e0376085e1d6751d6119e9bcd715d856179e7099f160", func := "isochrone/isochronelaw05.LinearForms", spec := "linearForms", recurses := true, apart := false, narrowed := true }
def LinearFormsUptoSaid : Prop := linearFormsUptoRow.holds Tryz.pinned (OpenSpec.upto linearFormsSpec)

end Rows
end Go.Proofs.YtjimdhlmeebjeaaGreat
