/-
  No cell of these rows narrows 'for every input' (looked for: loops, veiled, ifaces, maps, wideKeys, modest, calm, conditions, laid).
  DERIVED. THE GIVEN ROWS OF THIS SEAT. 7 by the template 'for every input the law returns true; each argument reads behind the call as it read before'; 0 by the template 'total and deterministic' (their statements: YtfpolhoabfadnaaTotals.lean).
  GIVEN WITH THE SEED: the statements are not yours to turn. If you find one false, say at which input.
  Laid BY PROGRAM, IN A SANDBOX (cutbox-rows.mjs): the forced cells as the released guide's own fill.sh prints them over the translation 5925f89ecd91743c… (all of the seat's roots in one cut). By AI agents, Wed Nov 11 2026. No macro, syntax, notation, axiom, sorry.
-/
import Derived.Test.YtfpolhoabfadnaaChecked
import GoSem.Claim
import GoSem.ClaimJoined
import GoSem.ClaimMapViews
import Derived.JoinedTies
import Derived.KernelRfl
namespace Go.Proofs.Ytfpolhoabfadnaa
/- THE CELL 'sum', in the pinned program and in every row, IS THE sha256 OF THE DUMP (.gsa) THAT YtfpolhoabfadnaaProg.lean LOADS. Nothing in Lean hashes anything: it is a label: what it is worth is what the hold of that sum in a sandbox is worth. -/
noncomputable def Try.pinned : Pinned := { name := "ytfpolhoabfadnaa", sum := "5925f89ecd91743c9aa71db37be159fccc53f6a1d33103203036c9f25d5f198b", checked := Try.checked }
namespace Rows
def none {H : Type} : Left H := { results := [], args := [] }

/-- 'isochronelaw02.RatMakes': WHATEVER THE INPUT: true; the input reads as it did. -/
def ratMakesSpec : ChangeSpec := { name := "ratMakes", fn := fun _ => fun
  | [d1, d2, d3, d4] => { results := [.lit (.bool true)], args := [d1, d2, d3, d4] }
  | _ => none }
def ratMakesRow : OpenClaim := { program := "ytfpolhoabfadnaa", sum := "5925f89ecd91743c9aa71db37be159fccc53f6a1d33103203036c9f25d5f198b", func := "isochrone/isochronelaw02.RatMakes", spec := "ratMakes", inPlace := ["internal/abi.NoEscape"], unfollowed := true, recurses := true, apart := false }
def RatMakesSaid : Prop := ratMakesRow.holds Try.pinned (OpenSpec.ofChange ratMakesSpec)

/-- ITS FALSE NEIGHBOUR: 'it returns false'. Refute it at one input. -/
def ratMakesWrong : ChangeSpec := { name := "ratMakes", fn := fun _ => fun
  | [d1, d2, d3, d4] => { results := [.lit (.bool false)], args := [d1, d2, d3, d4] }
  | _ => none }
def RatMakesWrongFalsely : Prop := ratMakesRow.holds Try.pinned (OpenSpec.ofChange ratMakesWrong)

/-- 'isochronelaw02.RatRounds': WHATEVER THE INPUT: true; the input reads as it did. -/
def ratRoundsSpec : ChangeSpec := { name := "ratRounds", fn := fun _ => fun
  | [d1, d2] => { results := [.lit (.bool true)], args := [d1, d2] }
  | _ => none }
def ratRoundsRow : OpenClaim := { program := "ytfpolhoabfadnaa", sum := "5925f89ecd91743c9aa71db37be159fccc53f6a1d33103203036c9f25d5f198b", func := "isochrone/isochronelaw02.RatRounds", spec := "ratRounds", inPlace := ["internal/abi.NoEscape"], unfollowed := true, recurses := true, apart := false }
def RatRoundsSaid : Prop := ratRoundsRow.holds Try.pinned (OpenSpec.ofChange ratRoundsSpec)

/-- ITS FALSE NEIGHBOUR: 'it returns false'. Refute it at one input. -/
def ratRoundsWrong : ChangeSpec := { name := "ratRounds", fn := fun _ => fun
  | [d1, d2] => { results := [.lit (.bool false)], args := [d1, d2] }
  | _ => none }
def RatRoundsWrongFalsely : Prop := ratRoundsRow.holds Try.pinned (OpenSpec.ofChange ratRoundsWrong)

/-- 'isochronelaw02.RatPowers': WHATEVER THE INPUT: true; the input reads as it did. -/
def ratPowersSpec : ChangeSpec := { name := "ratPowers", fn := fun _ => fun
  | [d1, d2] => { results := [.lit (.bool true)], args := [d1, d2] }
  | _ => none }
def ratPowersRow : OpenClaim := { program := "ytfpolhoabfadnaa", sum := "5925f89ecd91743c9aa71db37be159fccc53f6a1d33103203036c9f25d5f198b", func := "isochrone/isochronelaw02.RatPowers", spec := "ratPowers", inPlace := ["internal/abi.NoEscape"], unfollowed := true, recurses := true, apart := false }
def RatPowersSaid : Prop := ratPowersRow.holds Try.pinned (OpenSpec.ofChange ratPowersSpec)

/-- ITS FALSE NEIGHBOUR: 'it returns false'. Refute it at one input. -/
def ratPowersWrong : ChangeSpec := { name := "ratPowers", fn := fun _ => fun
  | [d1, d2] => { results := [.lit (.bool false)], args := [d1, d2] }
  | _ => none }
def RatPowersWrongFalsely : Prop := ratPowersRow.holds Try.pinned (OpenSpec.ofChange ratPowersWrong)

/-- 'isochronelaw02.RatField': WHATEVER THE INPUT: true; the input reads as it did. -/
def ratFieldSpec : ChangeSpec := { name := "ratField", fn := fun _ => fun
  | [d1, d2] => { results := [.lit (.bool true)], args := [d1, d2] }
  | _ => none }
def ratFieldRow : OpenClaim := { program := "ytfpolhoabfadnaa", sum := "5925f89ecd91743c9aa71db37be159fccc53f6a1d33103203036c9f25d5f198b", func := "isochrone/isochronelaw02.RatField", spec := "ratField", inPlace := ["internal/abi.NoEscape"], unfollowed := true, recurses := true, apart := false }
def RatFieldSaid : Prop := ratFieldRow.holds Try.pinned (OpenSpec.ofChange ratFieldSpec)

/-- ITS FALSE NEIGHBOUR: 'it returns false'. Refute it at one input. -/
def ratFieldWrong : ChangeSpec := { name := "ratField", fn := fun _ => fun
  | [d1, d2] => { results := [.lit (.bool false)], args := [d1, d2] }
  | _ => none }
def RatFieldWrongFalsely : Prop := ratFieldRow.holds Try.pinned (OpenSpec.ofChange ratFieldWrong)

/-- 'isochronelaw02.RatSimplest': WHATEVER THE INPUT: true; the input reads as it did. -/
def ratSimplestSpec : ChangeSpec := { name := "ratSimplest", fn := fun _ => fun
  | [d1, d2, d3, d4] => { results := [.lit (.bool true)], args := [d1, d2, d3, d4] }
  | _ => none }
def ratSimplestRow : OpenClaim := { program := "ytfpolhoabfadnaa", sum := "5925f89ecd91743c9aa71db37be159fccc53f6a1d33103203036c9f25d5f198b", func := "isochrone/isochronelaw02.RatSimplest", spec := "ratSimplest", inPlace := ["internal/abi.NoEscape"], unfollowed := true, recurses := true, apart := false }
def RatSimplestSaid : Prop := ratSimplestRow.holds Try.pinned (OpenSpec.ofChange ratSimplestSpec)

/-- ITS FALSE NEIGHBOUR: 'it returns false'. Refute it at one input. -/
def ratSimplestWrong : ChangeSpec := { name := "ratSimplest", fn := fun _ => fun
  | [d1, d2, d3, d4] => { results := [.lit (.bool false)], args := [d1, d2, d3, d4] }
  | _ => none }
def RatSimplestWrongFalsely : Prop := ratSimplestRow.holds Try.pinned (OpenSpec.ofChange ratSimplestWrong)

/-- 'isochronelaw02.RatForms': WHATEVER THE INPUT: true; the input reads as it did. -/
def ratFormsSpec : ChangeSpec := { name := "ratForms", fn := fun _ => fun
  | [d1, d2] => { results := [.lit (.bool true)], args := [d1, d2] }
  | _ => none }
def ratFormsRow : OpenClaim := { program := "ytfpolhoabfadnaa", sum := "5925f89ecd91743c9aa71db37be159fccc53f6a1d33103203036c9f25d5f198b", func := "isochrone/isochronelaw02.RatForms", spec := "ratForms", inPlace := ["internal/abi.NoEscape"], unfollowed := true, recurses := true, apart := false }
def RatFormsSaid : Prop := ratFormsRow.holds Try.pinned (OpenSpec.ofChange ratFormsSpec)

/-- ITS FALSE NEIGHBOUR: 'it returns false'. Refute it at one input. -/
def ratFormsWrong : ChangeSpec := { name := "ratForms", fn := fun _ => fun
  | [d1, d2] => { results := [.lit (.bool false)], args := [d1, d2] }
  | _ => none }
def RatFormsWrongFalsely : Prop := ratFormsRow.holds Try.pinned (OpenSpec.ofChange ratFormsWrong)

/-- 'isochronelaw02.RatTexts': WHATEVER THE INPUT: true; the input reads as it did. -/
def ratTextsSpec : ChangeSpec := { name := "ratTexts", fn := fun _ => fun
  | [d1, d2] => { results := [.lit (.bool true)], args := [d1, d2] }
  | _ => none }
def ratTextsRow : OpenClaim := { program := "ytfpolhoabfadnaa", sum := "5925f89ecd91743c9aa71db37be159fccc53f6a1d33103203036c9f25d5f198b", func := "isochrone/isochronelaw02.RatTexts", spec := "ratTexts", inPlace := ["internal/abi.NoEscape", "internal/bytealg.IndexByteString", "internal/bytealg.IndexString"], unfollowed := true, recurses := true, named := ["internal/bytealg.MaxLen"], apart := false }
def RatTextsSaid : Prop := ratTextsRow.holds Try.pinned (OpenSpec.ofChange ratTextsSpec)

/-- ITS FALSE NEIGHBOUR: 'it returns false'. Refute it at one input. -/
def ratTextsWrong : ChangeSpec := { name := "ratTexts", fn := fun _ => fun
  | [d1, d2] => { results := [.lit (.bool false)], args := [d1, d2] }
  | _ => none }
def RatTextsWrongFalsely : Prop := ratTextsRow.holds Try.pinned (OpenSpec.ofChange ratTextsWrong)

/- THE SECOND FORM. 'bulk': how many values and letters a reading holds, each counted each time it is reached (what is shared counts as often as it is met; a slice's spare places count too). A statement '..UptoSaid' is the law's where the arguments, and the package variables that the reading takes, are together of bulk at most 1048576: NARROWER than '..Said'. Prove '..Said' where nothing that the law and all that it calls make is longer than what came in: it says more and counts as full. Else prove '..UptoSaid'. A law counts once. -/
mutual
def uptoBulk {H : Type} : DataW H → Nat
  | .lit (.string bytes) => bytes.length + 1
  | .lit _ => 1
  | .nil => 1
  | .ptr d => uptoBulk d + 1
  | .slice elems spare => uptoBulkAll elems + uptoBulkAll spare + 1
  | .agg parts => uptoBulkAll parts + 1
  | .iface _ d => uptoBulk d + 1
  | .map entries => uptoBulkEntries entries + 1
  | .held _ => 1
def uptoBulkAll {H : Type} : List (DataW H) → Nat
  | [] => 0
  | d :: r => uptoBulk d + uptoBulkAll r
def uptoBulkEntries {H : Type} : List (Lit × DataW H) → Nat
  | [] => 0
  | x :: r => uptoBulkEntry x + uptoBulkEntries r
def uptoBulkEntry {H : Type} : Lit × DataW H → Nat
  | (.string bytes, d) => bytes.length + uptoBulk d + 1
  | (_, d) => uptoBulk d + 1
 end
def uptoSmall : (H : Type) → List (DataW H) → Bool := fun _ ds => decide (uptoBulkAll ds ≤ 1048576)
def OpenSpec.upto (s : _root_.Go.ChangeSpec) : _root_.Go.OpenSpec := { _root_.Go.OpenSpec.ofChange s with cond := some uptoSmall }

/-- 'isochronelaw02.RatMakes', WHERE WHAT IT READS IS OF BULK AT MOST 1048576: true; the input reads as it did. -/
def ratMakesUptoRow : OpenClaim := { program := "ytfpolhoabfadnaa", sum := "5925f89ecd91743c9aa71db37be159fccc53f6a1d33103203036c9f25d5f198b", func := "isochrone/isochronelaw02.RatMakes", spec := "ratMakes", inPlace := ["internal/abi.NoEscape"], unfollowed := true, recurses := true, apart := false, narrowed := true }
def RatMakesUptoSaid : Prop := ratMakesUptoRow.holds Try.pinned (OpenSpec.upto ratMakesSpec)

/-- 'isochronelaw02.RatRounds', WHERE WHAT IT READS IS OF BULK AT MOST 1048576: true; the input reads as it did. -/
def ratRoundsUptoRow : OpenClaim := { program := "ytfpolhoabfadnaa", sum := "5925f89ecd91743c9aa71db37be159fccc53f6a1d33103203036c9f25d5f198b", func := "isochrone/isochronelaw02.RatRounds", spec := "ratRounds", inPlace := ["internal/abi.NoEscape"], unfollowed := true, recurses := true, apart := false, narrowed := true }
def RatRoundsUptoSaid : Prop := ratRoundsUptoRow.holds Try.pinned (OpenSpec.upto ratRoundsSpec)

/-- 'isochronelaw02.RatPowers', WHERE WHAT IT READS IS OF BULK AT MOST 1048576: true; the input reads as it did. -/
def ratPowersUptoRow : OpenClaim := { program := "ytfpolhoabfadnaa", sum := "5925f89ecd91743c9aa71db37be159fccc53f6a1d33103203036c9f25d5f198b", func := "isochrone/isochronelaw02.RatPowers", spec := "ratPowers", inPlace := ["internal/abi.NoEscape"], unfollowed := true, recurses := true, apart := false, narrowed := true }
def RatPowersUptoSaid : Prop := ratPowersUptoRow.holds Try.pinned (OpenSpec.upto ratPowersSpec)

/-- 'isochronelaw02.RatField', WHERE WHAT IT READS IS OF BULK AT MOST 1048576: true; the input reads as it did. -/
def ratFieldUptoRow : OpenClaim := { program := "ytfpolhoabfadnaa", sum := "5925f89ecd91743c9aa71db37be159fccc53f6a1d33103203036c9f25d5f198b", func := "isochrone/isochronelaw02.RatField", spec := "ratField", inPlace := ["internal/abi.NoEscape"], unfollowed := true, recurses := true, apart := false, narrowed := true }
def RatFieldUptoSaid : Prop := ratFieldUptoRow.holds Try.pinned (OpenSpec.upto ratFieldSpec)

/-- 'isochronelaw02.RatSimplest', WHERE WHAT IT READS IS OF BULK AT MOST 1048576: true; the input reads as it did. -/
def ratSimplestUptoRow : OpenClaim := { program := "ytfpolhoabfadnaa", sum := "5925f89ecd91743c9aa71db37be159fccc53f6a1d33103203036c9f25d5f198b", func := "isochrone/isochronelaw02.RatSimplest", spec := "ratSimplest", inPlace := ["internal/abi.NoEscape"], unfollowed := true, recurses := true, apart := false, narrowed := true }
def RatSimplestUptoSaid : Prop := ratSimplestUptoRow.holds Try.pinned (OpenSpec.upto ratSimplestSpec)

/-- 'isochronelaw02.RatForms', WHERE WHAT IT READS IS OF BULK AT MOST 1048576: true; the input reads as it did. -/
def ratFormsUptoRow : OpenClaim := { program := "ytfpolhoabfadnaa", sum := "5925f89ecd91743c9aa71db37be159fccc53f6a1d33103203036c9f25d5f198b", func := "isochrone/isochronelaw02.RatForms", spec := "ratForms", inPlace := ["internal/abi.NoEscape"], unfollowed := true, recurses := true, apart := false, narrowed := true }
def RatFormsUptoSaid : Prop := ratFormsUptoRow.holds Try.pinned (OpenSpec.upto ratFormsSpec)

/-- 'isochronelaw02.RatTexts', WHERE WHAT IT READS IS OF BULK AT MOST 1048576: true; the input reads as it did. -/
def ratTextsUptoRow : OpenClaim := { program := "ytfpolhoabfadnaa", sum := "5925f89ecd91743c9aa71db37be159fccc53f6a1d33103203036c9f25d5f198b", func := "isochrone/isochronelaw02.RatTexts", spec := "ratTexts", inPlace := ["internal/abi.NoEscape", "internal/bytealg.IndexByteString", "internal/bytealg.IndexString"], unfollowed := true, recurses := true, named := ["internal/bytealg.MaxLen"], apart := false, narrowed := true }
def RatTextsUptoSaid : Prop := ratTextsUptoRow.holds Try.pinned (OpenSpec.upto ratTextsSpec)

end Rows
end Go.Proofs.Ytfpolhoabfadnaa
