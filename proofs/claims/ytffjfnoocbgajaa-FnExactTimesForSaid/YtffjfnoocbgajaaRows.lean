/-
  No cell of these rows narrows 'for every input' (looked for: loops, veiled, ifaces, maps, wideKeys, modest, calm, conditions, laid).
  DERIVED. THE GIVEN ROWS OF THIS SEAT. 11 by the template 'for every input the law returns true; each argument reads behind the call as it read before'; 0 by the template 'total and deterministic' (their statements: YtffjfnoocbgajaaTotals.lean).
  GIVEN WITH THE SEED: the statements are not yours to turn. If you find one false, say at which input.
  Laid BY PROGRAM, IN A SANDBOX (cutbox-rows.mjs): the forced cells as the released guide's own fill.sh prints them over the translation ed339b26e8971915… (all of the seat's roots in one cut). By AI agents, Wed Nov 11 2026. No macro, syntax, notation, axiom, sorry.
-/
import Derived.Test.YtffjfnoocbgajaaChecked
import GoSem.Claim
import GoSem.ClaimJoined
import GoSem.ClaimMapViews
import Derived.JoinedTies
import Derived.KernelRfl
namespace Go.Proofs.Ytffjfnoocbgajaa
/- THE CELL 'sum', in the pinned program and in every row, IS THE sha256 OF THE DUMP (.gsa) THAT YtffjfnoocbgajaaProg.lean LOADS. Nothing in Lean hashes anything: it is a label: what it is worth is what the hold of that sum in a sandbox is worth. -/
noncomputable def Try.pinned : Pinned := { name := "ytffjfnoocbgajaa", sum := "ed339b26e897191551135731b1942fa5fe1d097eaa0fb4f1a0233d09bab03c18", checked := Try.checked }
namespace Rows
def none {H : Type} : Left H := { results := [], args := [] }

/-- 'laws.FnExactAreGears': WHATEVER THE INPUT: true; the input reads as it did. -/
def fnExactAreGearsSpec : ChangeSpec := { name := "fnExactAreGears", fn := fun _ => fun
  | [d] => { results := [.lit (.bool true)], args := [d] }
  | _ => none }
def fnExactAreGearsRow : OpenClaim := { program := "ytffjfnoocbgajaa", sum := "ed339b26e897191551135731b1942fa5fe1d097eaa0fb4f1a0233d09bab03c18", func := "loop.example/g01304/laws.FnExactAreGears", spec := "fnExactAreGears", apart := false }
def FnExactAreGearsSaid : Prop := fnExactAreGearsRow.holds Try.pinned (OpenSpec.ofChange fnExactAreGearsSpec)

/-- ITS FALSE NEIGHBOUR: 'it returns false'. Refute it at one input. -/
def fnExactAreGearsWrong : ChangeSpec := { name := "fnExactAreGears", fn := fun _ => fun
  | [d] => { results := [.lit (.bool false)], args := [d] }
  | _ => none }
def FnExactAreGearsWrongFalsely : Prop := fnExactAreGearsRow.holds Try.pinned (OpenSpec.ofChange fnExactAreGearsWrong)

/-- 'laws.FnExactSingleGears': WHATEVER THE INPUT: true; the input reads as it did. -/
def fnExactSingleGearsSpec : ChangeSpec := { name := "fnExactSingleGears", fn := fun _ => fun
  | [d] => { results := [.lit (.bool true)], args := [d] }
  | _ => none }
def fnExactSingleGearsRow : OpenClaim := { program := "ytffjfnoocbgajaa", sum := "ed339b26e897191551135731b1942fa5fe1d097eaa0fb4f1a0233d09bab03c18", func := "loop.example/g01304/laws.FnExactSingleGears", spec := "fnExactSingleGears", apart := false }
def FnExactSingleGearsSaid : Prop := fnExactSingleGearsRow.holds Try.pinned (OpenSpec.ofChange fnExactSingleGearsSpec)

/-- ITS FALSE NEIGHBOUR: 'it returns false'. Refute it at one input. -/
def fnExactSingleGearsWrong : ChangeSpec := { name := "fnExactSingleGears", fn := fun _ => fun
  | [d] => { results := [.lit (.bool false)], args := [d] }
  | _ => none }
def FnExactSingleGearsWrongFalsely : Prop := fnExactSingleGearsRow.holds Try.pinned (OpenSpec.ofChange fnExactSingleGearsWrong)

/-- 'laws.FnExactPeriodOfKnob': WHATEVER THE INPUT: true; the input reads as it did. -/
def fnExactPeriodOfKnobSpec : ChangeSpec := { name := "fnExactPeriodOfKnob", fn := fun _ => fun
  | [d1, d2] => { results := [.lit (.bool true)], args := [d1, d2] }
  | _ => none }
def fnExactPeriodOfKnobRow : OpenClaim := { program := "ytffjfnoocbgajaa", sum := "ed339b26e897191551135731b1942fa5fe1d097eaa0fb4f1a0233d09bab03c18", func := "loop.example/g01304/laws.FnExactPeriodOfKnob", spec := "fnExactPeriodOfKnob", recurses := true, apart := false }
def FnExactPeriodOfKnobSaid : Prop := fnExactPeriodOfKnobRow.holds Try.pinned (OpenSpec.ofChange fnExactPeriodOfKnobSpec)

/-- ITS FALSE NEIGHBOUR: 'it returns false'. Refute it at one input. -/
def fnExactPeriodOfKnobWrong : ChangeSpec := { name := "fnExactPeriodOfKnob", fn := fun _ => fun
  | [d1, d2] => { results := [.lit (.bool false)], args := [d1, d2] }
  | _ => none }
def FnExactPeriodOfKnobWrongFalsely : Prop := fnExactPeriodOfKnobRow.holds Try.pinned (OpenSpec.ofChange fnExactPeriodOfKnobWrong)

/-- 'laws.FnExactTurnKnob': WHATEVER THE INPUT: true; the input reads as it did. -/
def fnExactTurnKnobSpec : ChangeSpec := { name := "fnExactTurnKnob", fn := fun _ => fun
  | [d1, d2, d3, d4] => { results := [.lit (.bool true)], args := [d1, d2, d3, d4] }
  | _ => none }
def fnExactTurnKnobRow : OpenClaim := { program := "ytffjfnoocbgajaa", sum := "ed339b26e897191551135731b1942fa5fe1d097eaa0fb4f1a0233d09bab03c18", func := "loop.example/g01304/laws.FnExactTurnKnob", spec := "fnExactTurnKnob", recurses := true, apart := false }
def FnExactTurnKnobSaid : Prop := fnExactTurnKnobRow.holds Try.pinned (OpenSpec.ofChange fnExactTurnKnobSpec)

/-- ITS FALSE NEIGHBOUR: 'it returns false'. Refute it at one input. -/
def fnExactTurnKnobWrong : ChangeSpec := { name := "fnExactTurnKnob", fn := fun _ => fun
  | [d1, d2, d3, d4] => { results := [.lit (.bool false)], args := [d1, d2, d3, d4] }
  | _ => none }
def FnExactTurnKnobWrongFalsely : Prop := fnExactTurnKnobRow.holds Try.pinned (OpenSpec.ofChange fnExactTurnKnobWrong)

/-- 'laws.FnExactKnobsAfter': WHATEVER THE INPUT: true; the input reads as it did. -/
def fnExactKnobsAfterSpec : ChangeSpec := { name := "fnExactKnobsAfter", fn := fun _ => fun
  | [d1, d2, d3] => { results := [.lit (.bool true)], args := [d1, d2, d3] }
  | _ => none }
def fnExactKnobsAfterRow : OpenClaim := { program := "ytffjfnoocbgajaa", sum := "ed339b26e897191551135731b1942fa5fe1d097eaa0fb4f1a0233d09bab03c18", func := "loop.example/g01304/laws.FnExactKnobsAfter", spec := "fnExactKnobsAfter", recurses := true, apart := false }
def FnExactKnobsAfterSaid : Prop := fnExactKnobsAfterRow.holds Try.pinned (OpenSpec.ofChange fnExactKnobsAfterSpec)

/-- ITS FALSE NEIGHBOUR: 'it returns false'. Refute it at one input. -/
def fnExactKnobsAfterWrong : ChangeSpec := { name := "fnExactKnobsAfter", fn := fun _ => fun
  | [d1, d2, d3] => { results := [.lit (.bool false)], args := [d1, d2, d3] }
  | _ => none }
def FnExactKnobsAfterWrongFalsely : Prop := fnExactKnobsAfterRow.holds Try.pinned (OpenSpec.ofChange fnExactKnobsAfterWrong)

/-- 'laws.FnExactTimesFor': WHATEVER THE INPUT: true; the input reads as it did. -/
def fnExactTimesForSpec : ChangeSpec := { name := "fnExactTimesFor", fn := fun _ => fun
  | [d1, d2, d3] => { results := [.lit (.bool true)], args := [d1, d2, d3] }
  | _ => none }
def fnExactTimesForRow : OpenClaim := { program := "ytffjfnoocbgajaa", sum := "ed339b26e897191551135731b1942fa5fe1d097eaa0fb4f1a0233d09bab03c18", func := "loop.example/g01304/laws.FnExactTimesFor", spec := "fnExactTimesFor", unfollowed := true, recurses := true, apart := false }
def FnExactTimesForSaid : Prop := fnExactTimesForRow.holds Try.pinned (OpenSpec.ofChange fnExactTimesForSpec)

/-- ITS FALSE NEIGHBOUR: 'it returns false'. Refute it at one input. -/
def fnExactTimesForWrong : ChangeSpec := { name := "fnExactTimesFor", fn := fun _ => fun
  | [d1, d2, d3] => { results := [.lit (.bool false)], args := [d1, d2, d3] }
  | _ => none }
def FnExactTimesForWrongFalsely : Prop := fnExactTimesForRow.holds Try.pinned (OpenSpec.ofChange fnExactTimesForWrong)

/-- 'laws.FnExactCountClasses': WHATEVER THE INPUT: true; the input reads as it did. -/
def fnExactCountClassesSpec : ChangeSpec := { name := "fnExactCountClasses", fn := fun _ => fun
  | [d] => { results := [.lit (.bool true)], args := [d] }
  | _ => none }
def fnExactCountClassesRow : OpenClaim := { program := "ytffjfnoocbgajaa", sum := "ed339b26e897191551135731b1942fa5fe1d097eaa0fb4f1a0233d09bab03c18", func := "loop.example/g01304/laws.FnExactCountClasses", spec := "fnExactCountClasses", recurses := true, apart := false }
def FnExactCountClassesSaid : Prop := fnExactCountClassesRow.holds Try.pinned (OpenSpec.ofChange fnExactCountClassesSpec)

/-- ITS FALSE NEIGHBOUR: 'it returns false'. Refute it at one input. -/
def fnExactCountClassesWrong : ChangeSpec := { name := "fnExactCountClasses", fn := fun _ => fun
  | [d] => { results := [.lit (.bool false)], args := [d] }
  | _ => none }
def FnExactCountClassesWrongFalsely : Prop := fnExactCountClassesRow.holds Try.pinned (OpenSpec.ofChange fnExactCountClassesWrong)

/-- 'laws.FnExactCountKnobbed': WHATEVER THE INPUT: true; the input reads as it did. -/
def fnExactCountKnobbedSpec : ChangeSpec := { name := "fnExactCountKnobbed", fn := fun _ => fun
  | [d1, d2] => { results := [.lit (.bool true)], args := [d1, d2] }
  | _ => none }
def fnExactCountKnobbedRow : OpenClaim := { program := "ytffjfnoocbgajaa", sum := "ed339b26e897191551135731b1942fa5fe1d097eaa0fb4f1a0233d09bab03c18", func := "loop.example/g01304/laws.FnExactCountKnobbed", spec := "fnExactCountKnobbed", recurses := true, apart := false }
def FnExactCountKnobbedSaid : Prop := fnExactCountKnobbedRow.holds Try.pinned (OpenSpec.ofChange fnExactCountKnobbedSpec)

/-- ITS FALSE NEIGHBOUR: 'it returns false'. Refute it at one input. -/
def fnExactCountKnobbedWrong : ChangeSpec := { name := "fnExactCountKnobbed", fn := fun _ => fun
  | [d1, d2] => { results := [.lit (.bool false)], args := [d1, d2] }
  | _ => none }
def FnExactCountKnobbedWrongFalsely : Prop := fnExactCountKnobbedRow.holds Try.pinned (OpenSpec.ofChange fnExactCountKnobbedWrong)

/-- 'laws.FnExactFewestKnobs': WHATEVER THE INPUT: true; the input reads as it did. -/
def fnExactFewestKnobsSpec : ChangeSpec := { name := "fnExactFewestKnobs", fn := fun _ => fun
  | [d1, d2, d3] => { results := [.lit (.bool true)], args := [d1, d2, d3] }
  | _ => none }
def fnExactFewestKnobsRow : OpenClaim := { program := "ytffjfnoocbgajaa", sum := "ed339b26e897191551135731b1942fa5fe1d097eaa0fb4f1a0233d09bab03c18", func := "loop.example/g01304/laws.FnExactFewestKnobs", spec := "fnExactFewestKnobs", recurses := true, apart := false }
def FnExactFewestKnobsSaid : Prop := fnExactFewestKnobsRow.holds Try.pinned (OpenSpec.ofChange fnExactFewestKnobsSpec)

/-- ITS FALSE NEIGHBOUR: 'it returns false'. Refute it at one input. -/
def fnExactFewestKnobsWrong : ChangeSpec := { name := "fnExactFewestKnobs", fn := fun _ => fun
  | [d1, d2, d3] => { results := [.lit (.bool false)], args := [d1, d2, d3] }
  | _ => none }
def FnExactFewestKnobsWrongFalsely : Prop := fnExactFewestKnobsRow.holds Try.pinned (OpenSpec.ofChange fnExactFewestKnobsWrong)

/-- 'laws.FnExactFirstOfClass': WHATEVER THE INPUT: true; the input reads as it did. -/
def fnExactFirstOfClassSpec : ChangeSpec := { name := "fnExactFirstOfClass", fn := fun _ => fun
  | [d1, d2] => { results := [.lit (.bool true)], args := [d1, d2] }
  | _ => none }
def fnExactFirstOfClassRow : OpenClaim := { program := "ytffjfnoocbgajaa", sum := "ed339b26e897191551135731b1942fa5fe1d097eaa0fb4f1a0233d09bab03c18", func := "loop.example/g01304/laws.FnExactFirstOfClass", spec := "fnExactFirstOfClass", recurses := true, apart := false }
def FnExactFirstOfClassSaid : Prop := fnExactFirstOfClassRow.holds Try.pinned (OpenSpec.ofChange fnExactFirstOfClassSpec)

/-- ITS FALSE NEIGHBOUR: 'it returns false'. Refute it at one input. -/
def fnExactFirstOfClassWrong : ChangeSpec := { name := "fnExactFirstOfClass", fn := fun _ => fun
  | [d1, d2] => { results := [.lit (.bool false)], args := [d1, d2] }
  | _ => none }
def FnExactFirstOfClassWrongFalsely : Prop := fnExactFirstOfClassRow.holds Try.pinned (OpenSpec.ofChange fnExactFirstOfClassWrong)

/-- 'laws.FnExactFarthestKnobbed': WHATEVER THE INPUT: true; the input reads as it did. -/
def fnExactFarthestKnobbedSpec : ChangeSpec := { name := "fnExactFarthestKnobbed", fn := fun _ => fun
  | [d1, d2] => { results := [.lit (.bool true)], args := [d1, d2] }
  | _ => none }
def fnExactFarthestKnobbedRow : OpenClaim := { program := "ytffjfnoocbgajaa", sum := "ed339b26e897191551135731b1942fa5fe1d097eaa0fb4f1a0233d09bab03c18", func := "loop.example/g01304/laws.FnExactFarthestKnobbed", spec := "fnExactFarthestKnobbed", recurses := true, apart := false }
def FnExactFarthestKnobbedSaid : Prop := fnExactFarthestKnobbedRow.holds Try.pinned (OpenSpec.ofChange fnExactFarthestKnobbedSpec)

/-- ITS FALSE NEIGHBOUR: 'it returns false'. Refute it at one input. -/
def fnExactFarthestKnobbedWrong : ChangeSpec := { name := "fnExactFarthestKnobbed", fn := fun _ => fun
  | [d1, d2] => { results := [.lit (.bool false)], args := [d1, d2] }
  | _ => none }
def FnExactFarthestKnobbedWrongFalsely : Prop := fnExactFarthestKnobbedRow.holds Try.pinned (OpenSpec.ofChange fnExactFarthestKnobbedWrong)

/- THE SECOND FORM. 'bulk': how many values and letters a reading holds, each counted each time it is reached (what is shared counts as often as it is met; a slice's spare places count too). A statement '..UptoSaid' is the law's where the arguments, and the package variables that the reading takes, are together of bulk at most 1048576: NARROWER than '..Said'. Prove '..Said' where nothing that the law and all that it calls make is longer than what came in: it says more and counts as full. Else prove '..UptoSaid'. A law counts once. -/
mutual
def uptoBulk {H : Type} : DataW H → Nat
  | .lit (.string bytes) => bytes.length + 1
  | .lit _ => 1
  | .nil => 1
  | .ptr d => uptoBulk d + 1
  | .slice elems spare => uptoBulkAll elems + uptoBulkAll spare + 1
  | .agg parts => uptoBulkAll parts + 1
  | .iface _ d => uptoBulk d + 1
  | .map entries => uptoBulkEntries entries + 1
  | .held _ => 1
def uptoBulkAll {H : Type} : List (DataW H) → Nat
  | [] => 0
  | d :: r => uptoBulk d + uptoBulkAll r
def uptoBulkEntries {H : Type} : List (Lit × DataW H) → Nat
  | [] => 0
  | x :: r => uptoBulkEntry x + uptoBulkEntries r
def uptoBulkEntry {H : Type} : Lit × DataW H → Nat
  | (.string bytes, d) => bytes.length + uptoBulk d + 1
  | (_, d) => uptoBulk d + 1
 end
def uptoSmall : (H : Type) → List (DataW H) → Bool := fun _ ds => decide (uptoBulkAll ds ≤ 1048576)
def OpenSpec.upto (s : _root_.Go.ChangeSpec) : _root_.Go.OpenSpec := { _root_.Go.OpenSpec.ofChange s with cond := some uptoSmall }

/-- 'laws.FnExactAreGears', WHERE WHAT IT READS IS OF BULK AT MOST 1048576: true; the input reads as it did. -/
def fnExactAreGearsUptoRow : OpenClaim := { program := "ytffjfnoocbgajaa", sum := "ed339b26e897191551135731b1942fa5fe1d097eaa0fb4f1a0233d09bab03c18", func := "loop.example/g01304/laws.FnExactAreGears", spec := "fnExactAreGears", apart := false, narrowed := true }
def FnExactAreGearsUptoSaid : Prop := fnExactAreGearsUptoRow.holds Try.pinned (OpenSpec.upto fnExactAreGearsSpec)

/-- 'laws.FnExactSingleGears', WHERE WHAT IT READS IS OF BULK AT MOST 1048576: true; the input reads as it did. -/
def fnExactSingleGearsUptoRow : OpenClaim := { program := "ytffjfnoocbgajaa", sum := "ed339b26e897191551135731b1942fa5fe1d097eaa0fb4f1a0233d09bab03c18", func := "loop.example/g01304/laws.FnExactSingleGears", spec := "fnExactSingleGears", apart := false, narrowed := true }
def FnExactSingleGearsUptoSaid : Prop := fnExactSingleGearsUptoRow.holds Try.pinned (OpenSpec.upto fnExactSingleGearsSpec)

/-- 'laws.FnExactPeriodOfKnob', WHERE WHAT IT READS IS OF BULK AT MOST 1048576: true; the input reads as it did. -/
def fnExactPeriodOfKnobUptoRow : OpenClaim := { program := "ytffjfnoocbgajaa", sum := "ed339b26e897191551135731b1942fa5fe1d097eaa0fb4f1a0233d09bab03c18", func := "loop.example/g01304/laws.FnExactPeriodOfKnob", spec := "fnExactPeriodOfKnob", recurses := true, apart := false, narrowed := true }
def FnExactPeriodOfKnobUptoSaid : Prop := fnExactPeriodOfKnobUptoRow.holds Try.pinned (OpenSpec.upto fnExactPeriodOfKnobSpec)

/-- 'laws.FnExactTurnKnob', WHERE WHAT IT READS IS OF BULK AT MOST 1048576: true; the input reads as it did. -/
def fnExactTurnKnobUptoRow : OpenClaim := { program := "ytffjfnoocbgajaa", sum := "ed339b26e897191551135731b1942fa5fe1d097eaa0fb4f1a0233d09bab03c18", func := "loop.example/g01304/laws.FnExactTurnKnob", spec := "fnExactTurnKnob", recurses := true, apart := false, narrowed := true }
def FnExactTurnKnobUptoSaid : Prop := fnExactTurnKnobUptoRow.holds Try.pinned (OpenSpec.upto fnExactTurnKnobSpec)

/-- 'laws.FnExactKnobsAfter', WHERE WHAT IT READS IS OF BULK AT MOST 1048576: true; the input reads as it did. -/
def fnExactKnobsAfterUptoRow : OpenClaim := { program := "ytffjfnoocbgajaa", sum := "ed339b26e897191551135731b1942fa5fe1d097eaa0fb4f1a0233d09bab03c18", func := "loop.example/g01304/laws.FnExactKnobsAfter", spec := "fnExactKnobsAfter", recurses := true, apart := false, narrowed := true }
def FnExactKnobsAfterUptoSaid : Prop := fnExactKnobsAfterUptoRow.holds Try.pinned (OpenSpec.upto fnExactKnobsAfterSpec)

/-- 'laws.FnExactTimesFor', WHERE WHAT IT READS IS OF BULK AT MOST 1048576: true; the input reads as it did. -/
def fnExactTimesForUptoRow : OpenClaim := { program := "ytffjfnoocbgajaa", sum := "ed339b26e897191551135731b1942fa5fe1d097eaa0fb4f1a0233d09bab03c18", func := "loop.example/g01304/laws.FnExactTimesFor", spec := "fnExactTimesFor", unfollowed := true, recurses := true, apart := false, narrowed := true }
def FnExactTimesForUptoSaid : Prop := fnExactTimesForUptoRow.holds Try.pinned (OpenSpec.upto fnExactTimesForSpec)

/-- 'laws.FnExactCountClasses', WHERE WHAT IT READS IS OF BULK AT MOST 1048576: true; the input reads as it did. -/
def fnExactCountClassesUptoRow : OpenClaim := { program := "ytffjfnoocbgajaa", sum := "ed339b26e897191551135731b1942fa5fe1d097eaa0fb4f1a0233d09bab03c18", func := "loop.example/g01304/laws.FnExactCountClasses", spec := "fnExactCountClasses", recurses := true, apart := false, narrowed := true }
def FnExactCountClassesUptoSaid : Prop := fnExactCountClassesUptoRow.holds Try.pinned (OpenSpec.upto fnExactCountClassesSpec)

/-- 'laws.FnExactCountKnobbed', WHERE WHAT IT READS IS OF BULK AT MOST 1048576: true; the input reads as it did. -/
def fnExactCountKnobbedUptoRow : OpenClaim := { program := "ytffjfnoocbgajaa", sum := "ed339b26e897191551135731b1942fa5fe1d097eaa0fb4f1a0233d09bab03c18", func := "loop.example/g01304/laws.FnExactCountKnobbed", spec := "fnExactCountKnobbed", recurses := true, apart := false, narrowed := true }
def FnExactCountKnobbedUptoSaid : Prop := fnExactCountKnobbedUptoRow.holds Try.pinned (OpenSpec.upto fnExactCountKnobbedSpec)

/-- 'laws.FnExactFewestKnobs', WHERE WHAT IT READS IS OF BULK AT MOST 1048576: true; the input reads as it did. -/
def fnExactFewestKnobsUptoRow : OpenClaim := { program := "ytffjfnoocbgajaa", sum := "ed339b26e897191551135731b1942fa5fe1d097eaa0fb4f1a0233d09bab03c18", func := "loop.example/g01304/laws.FnExactFewestKnobs", spec := "fnExactFewestKnobs", recurses := true, apart := false, narrowed := true }
def FnExactFewestKnobsUptoSaid : Prop := fnExactFewestKnobsUptoRow.holds Try.pinned (OpenSpec.upto fnExactFewestKnobsSpec)

/-- 'laws.FnExactFirstOfClass', WHERE WHAT IT READS IS OF BULK AT MOST 1048576: true; the input reads as it did. -/
def fnExactFirstOfClassUptoRow : OpenClaim := { program := "ytffjfnoocbgajaa", sum := "ed339b26e897191551135731b1942fa5fe1d097eaa0fb4f1a0233d09bab03c18", func := "loop.example/g01304/laws.FnExactFirstOfClass", spec := "fnExactFirstOfClass", recurses := true, apart := false, narrowed := true }
def FnExactFirstOfClassUptoSaid : Prop := fnExactFirstOfClassUptoRow.holds Try.pinned (OpenSpec.upto fnExactFirstOfClassSpec)

/-- 'laws.FnExactFarthestKnobbed', WHERE WHAT IT READS IS OF BULK AT MOST 1048576: true; the input reads as it did. -/
def fnExactFarthestKnobbedUptoRow : OpenClaim := { program := "ytffjfnoocbgajaa", sum := "ed339b26e897191551135731b1942fa5fe1d097eaa0fb4f1a0233d09bab03c18", func := "loop.example/g01304/laws.FnExactFarthestKnobbed", spec := "fnExactFarthestKnobbed", recurses := true, apart := false, narrowed := true }
def FnExactFarthestKnobbedUptoSaid : Prop := fnExactFarthestKnobbedUptoRow.holds Try.pinned (OpenSpec.upto fnExactFarthestKnobbedSpec)

end Rows
end Go.Proofs.Ytffjfnoocbgajaa
