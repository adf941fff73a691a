/-
  No cell of these rows narrows 'for every input' (looked for: loops, veiled, ifaces, maps, wideKeys, modest, calm, conditions, laid).
  DERIVED. THE GIVEN ROWS OF THIS SEAT. 10 by the template 'for every input the law returns true; each argument reads behind the call as it read before'; 0 by the template 'total and deterministic' (their statements: YtoaekmghlmeflaaTotals.lean).
  GIVEN WITH THE SEED: the statements are not yours to turn. If you find one false, say at which input.
  Laid BY PROGRAM, IN A SANDBOX (cutbox-rows.mjs): the forced cells as the released guide's own fill.sh prints them over the translation 4a41885d499e7d7f… (all of the seat's roots in one cut). By AI agents, Wed Nov 11 2026. No macro, syntax, notation, axiom, sorry.
-/
import Derived.Test.YtoaekmghlmeflaaChecked
import GoSem.Claim
import GoSem.ClaimJoined
import GoSem.ClaimMapViews
import Derived.JoinedTies
import Derived.KernelRfl
namespace Go.Proofs.Ytoaekmghlmeflaa
/- THE CELL 'sum', in the pinned program and in every row, IS THE sha256 OF THE DUMP (.gsa) THAT YtoaekmghlmeflaaProg.lean LOADS. Nothing in Lean hashes anything: it is a label: what it is worth is what the hold of that sum in a sandbox is worth. -/
noncomputable def Try.pinned : Pinned := { name := "ytoaekmghlmeflaa", sum := "4a41885d499e7d7f162903afdcf71c3aff2805e6ce5373de035c5c35b8cfe575", checked := Try.checked }
namespace Rows
def none {H : Type} : Left H := { results := [], args := [] }

/-- 'laws.FnWheelsTurn': WHATEVER THE INPUT: true; the input reads as it did. -/
def fnWheelsTurnSpec : ChangeSpec := { name := "fnWheelsTurn", fn := fun _ => fun
  | [d1, d2] => { results := [.lit (.bool true)], args := [d1, d2] }
  | _ => none }
def fnWheelsTurnRow : OpenClaim := { program := "ytoaekmghlmeflaa", sum := "4a41885d499e7d7f162903afdcf71c3aff2805e6ce5373de035c5c35b8cfe575", func := "loop.example/g01304/laws.FnWheelsTurn", spec := "fnWheelsTurn", unfollowed := true, recurses := true, apart := false }
def FnWheelsTurnSaid : Prop := fnWheelsTurnRow.holds Try.pinned (OpenSpec.ofChange fnWheelsTurnSpec)

/-- ITS FALSE NEIGHBOUR: 'it returns false'. Refute it at one input. -/
def fnWheelsTurnWrong : ChangeSpec := { name := "fnWheelsTurn", fn := fun _ => fun
  | [d1, d2] => { results := [.lit (.bool false)], args := [d1, d2] }
  | _ => none }
def FnWheelsTurnWrongFalsely : Prop := fnWheelsTurnRow.holds Try.pinned (OpenSpec.ofChange fnWheelsTurnWrong)

/-- 'laws.FnWheelsTurnOfAll': WHATEVER THE INPUT: true; the input reads as it did. -/
def fnWheelsTurnOfAllSpec : ChangeSpec := { name := "fnWheelsTurnOfAll", fn := fun _ => fun
  | [d1, d2, d3, d4, d5, d6, d7, d8, d9, d10, d11] => { results := [.lit (.bool true)], args := [d1, d2, d3, d4, d5, d6, d7, d8, d9, d10, d11] }
  | _ => none }
def fnWheelsTurnOfAllRow : OpenClaim := { program := "ytoaekmghlmeflaa", sum := "4a41885d499e7d7f162903afdcf71c3aff2805e6ce5373de035c5c35b8cfe575", func := "loop.example/g01304/laws.FnWheelsTurnOfAll", spec := "fnWheelsTurnOfAll", unfollowed := true, recurses := true, apart := false }
def FnWheelsTurnOfAllSaid : Prop := fnWheelsTurnOfAllRow.holds Try.pinned (OpenSpec.ofChange fnWheelsTurnOfAllSpec)

/-- ITS FALSE NEIGHBOUR: 'it returns false'. Refute it at one input. -/
def fnWheelsTurnOfAllWrong : ChangeSpec := { name := "fnWheelsTurnOfAll", fn := fun _ => fun
  | [d1, d2, d3, d4, d5, d6, d7, d8, d9, d10, d11] => { results := [.lit (.bool false)], args := [d1, d2, d3, d4, d5, d6, d7, d8, d9, d10, d11] }
  | _ => none }
def FnWheelsTurnOfAllWrongFalsely : Prop := fnWheelsTurnOfAllRow.holds Try.pinned (OpenSpec.ofChange fnWheelsTurnOfAllWrong)

/-- 'laws.FnExactNextCodes': WHATEVER THE INPUT: true; the input reads as it did. -/
def fnExactNextCodesSpec : ChangeSpec := { name := "fnExactNextCodes", fn := fun _ => fun
  | [d1, d2] => { results := [.lit (.bool true)], args := [d1, d2] }
  | _ => none }
def fnExactNextCodesRow : OpenClaim := { program := "ytoaekmghlmeflaa", sum := "4a41885d499e7d7f162903afdcf71c3aff2805e6ce5373de035c5c35b8cfe575", func := "loop.example/g01304/laws.FnExactNextCodes", spec := "fnExactNextCodes", recurses := true, apart := false }
def FnExactNextCodesSaid : Prop := fnExactNextCodesRow.holds Try.pinned (OpenSpec.ofChange fnExactNextCodesSpec)

/-- ITS FALSE NEIGHBOUR: 'it returns false'. Refute it at one input. -/
def fnExactNextCodesWrong : ChangeSpec := { name := "fnExactNextCodes", fn := fun _ => fun
  | [d1, d2] => { results := [.lit (.bool false)], args := [d1, d2] }
  | _ => none }
def FnExactNextCodesWrongFalsely : Prop := fnExactNextCodesRow.holds Try.pinned (OpenSpec.ofChange fnExactNextCodesWrong)

/-- 'laws.FnExactCountFewest': WHATEVER THE INPUT: true; the input reads as it did. -/
def fnExactCountFewestSpec : ChangeSpec := { name := "fnExactCountFewest", fn := fun _ => fun
  | [d1, d2, d3] => { results := [.lit (.bool true)], args := [d1, d2, d3] }
  | _ => none }
def fnExactCountFewestRow : OpenClaim := { program := "ytoaekmghlmeflaa", sum := "4a41885d499e7d7f162903afdcf71c3aff2805e6ce5373de035c5c35b8cfe575", func := "loop.example/g01304/laws.FnExactCountFewest", spec := "fnExactCountFewest", apart := false }
def FnExactCountFewestSaid : Prop := fnExactCountFewestRow.holds Try.pinned (OpenSpec.ofChange fnExactCountFewestSpec)

/-- ITS FALSE NEIGHBOUR: 'it returns false'. Refute it at one input. -/
def fnExactCountFewestWrong : ChangeSpec := { name := "fnExactCountFewest", fn := fun _ => fun
  | [d1, d2, d3] => { results := [.lit (.bool false)], args := [d1, d2, d3] }
  | _ => none }
def FnExactCountFewestWrongFalsely : Prop := fnExactCountFewestRow.holds Try.pinned (OpenSpec.ofChange fnExactCountFewestWrong)

/-- 'laws.FnExactBackTurns': WHATEVER THE INPUT: true; the input reads as it did. -/
def fnExactBackTurnsSpec : ChangeSpec := { name := "fnExactBackTurns", fn := fun _ => fun
  | [d1, d2] => { results := [.lit (.bool true)], args := [d1, d2] }
  | _ => none }
def fnExactBackTurnsRow : OpenClaim := { program := "ytoaekmghlmeflaa", sum := "4a41885d499e7d7f162903afdcf71c3aff2805e6ce5373de035c5c35b8cfe575", func := "loop.example/g01304/laws.FnExactBackTurns", spec := "fnExactBackTurns", unfollowed := true, recurses := true, apart := false }
def FnExactBackTurnsSaid : Prop := fnExactBackTurnsRow.holds Try.pinned (OpenSpec.ofChange fnExactBackTurnsSpec)

/-- ITS FALSE NEIGHBOUR: 'it returns false'. Refute it at one input. -/
def fnExactBackTurnsWrong : ChangeSpec := { name := "fnExactBackTurns", fn := fun _ => fun
  | [d1, d2] => { results := [.lit (.bool false)], args := [d1, d2] }
  | _ => none }
def FnExactBackTurnsWrongFalsely : Prop := fnExactBackTurnsRow.holds Try.pinned (OpenSpec.ofChange fnExactBackTurnsWrong)

/-- 'laws.FnExactTurnWheel': WHATEVER THE INPUT: true; the input reads as it did. -/
def fnExactTurnWheelSpec : ChangeSpec := { name := "fnExactTurnWheel", fn := fun _ => fun
  | [d1, d2, d3] => { results := [.lit (.bool true)], args := [d1, d2, d3] }
  | _ => none }
def fnExactTurnWheelRow : OpenClaim := { program := "ytoaekmghlmeflaa", sum := "4a41885d499e7d7f162903afdcf71c3aff2805e6ce5373de035c5c35b8cfe575", func := "loop.example/g01304/laws.FnExactTurnWheel", spec := "fnExactTurnWheel", recurses := true, apart := false }
def FnExactTurnWheelSaid : Prop := fnExactTurnWheelRow.holds Try.pinned (OpenSpec.ofChange fnExactTurnWheelSpec)

/-- ITS FALSE NEIGHBOUR: 'it returns false'. Refute it at one input. -/
def fnExactTurnWheelWrong : ChangeSpec := { name := "fnExactTurnWheel", fn := fun _ => fun
  | [d1, d2, d3] => { results := [.lit (.bool false)], args := [d1, d2, d3] }
  | _ => none }
def FnExactTurnWheelWrongFalsely : Prop := fnExactTurnWheelRow.holds Try.pinned (OpenSpec.ofChange fnExactTurnWheelWrong)

/-- 'laws.FnExactTurnWheels': WHATEVER THE INPUT: true; the input reads as it did. -/
def fnExactTurnWheelsSpec : ChangeSpec := { name := "fnExactTurnWheels", fn := fun _ => fun
  | [d1, d2, d3] => { results := [.lit (.bool true)], args := [d1, d2, d3] }
  | _ => none }
def fnExactTurnWheelsRow : OpenClaim := { program := "ytoaekmghlmeflaa", sum := "4a41885d499e7d7f162903afdcf71c3aff2805e6ce5373de035c5c35b8cfe575", func := "loop.example/g01304/laws.FnExactTurnWheels", spec := "fnExactTurnWheels", recurses := true, apart := false }
def FnExactTurnWheelsSaid : Prop := fnExactTurnWheelsRow.holds Try.pinned (OpenSpec.ofChange fnExactTurnWheelsSpec)

/-- ITS FALSE NEIGHBOUR: 'it returns false'. Refute it at one input. -/
def fnExactTurnWheelsWrong : ChangeSpec := { name := "fnExactTurnWheels", fn := fun _ => fun
  | [d1, d2, d3] => { results := [.lit (.bool false)], args := [d1, d2, d3] }
  | _ => none }
def FnExactTurnWheelsWrongFalsely : Prop := fnExactTurnWheelsRow.holds Try.pinned (OpenSpec.ofChange fnExactTurnWheelsWrong)

/-- 'laws.FnExactFarthestCodes': WHATEVER THE INPUT: true; the input reads as it did. -/
def fnExactFarthestCodesSpec : ChangeSpec := { name := "fnExactFarthestCodes", fn := fun _ => fun
  | [d1, d2] => { results := [.lit (.bool true)], args := [d1, d2] }
  | _ => none }
def fnExactFarthestCodesRow : OpenClaim := { program := "ytoaekmghlmeflaa", sum := "4a41885d499e7d7f162903afdcf71c3aff2805e6ce5373de035c5c35b8cfe575", func := "loop.example/g01304/laws.FnExactFarthestCodes", spec := "fnExactFarthestCodes", recurses := true, apart := false }
def FnExactFarthestCodesSaid : Prop := fnExactFarthestCodesRow.holds Try.pinned (OpenSpec.ofChange fnExactFarthestCodesSpec)

/-- ITS FALSE NEIGHBOUR: 'it returns false'. Refute it at one input. -/
def fnExactFarthestCodesWrong : ChangeSpec := { name := "fnExactFarthestCodes", fn := fun _ => fun
  | [d1, d2] => { results := [.lit (.bool false)], args := [d1, d2] }
  | _ => none }
def FnExactFarthestCodesWrongFalsely : Prop := fnExactFarthestCodesRow.holds Try.pinned (OpenSpec.ofChange fnExactFarthestCodesWrong)

/-- 'laws.FnExactFirstTurns': WHATEVER THE INPUT: true; the input reads as it did. -/
def fnExactFirstTurnsSpec : ChangeSpec := { name := "fnExactFirstTurns", fn := fun _ => fun
  | [d1, d2, d3] => { results := [.lit (.bool true)], args := [d1, d2, d3] }
  | _ => none }
def fnExactFirstTurnsRow : OpenClaim := { program := "ytoaekmghlmeflaa", sum := "4a41885d499e7d7f162903afdcf71c3aff2805e6ce5373de035c5c35b8cfe575", func := "loop.example/g01304/laws.FnExactFirstTurns", spec := "fnExactFirstTurns", apart := false }
def FnExactFirstTurnsSaid : Prop := fnExactFirstTurnsRow.holds Try.pinned (OpenSpec.ofChange fnExactFirstTurnsSpec)

/-- ITS FALSE NEIGHBOUR: 'it returns false'. Refute it at one input. -/
def fnExactFirstTurnsWrong : ChangeSpec := { name := "fnExactFirstTurns", fn := fun _ => fun
  | [d1, d2, d3] => { results := [.lit (.bool false)], args := [d1, d2, d3] }
  | _ => none }
def FnExactFirstTurnsWrongFalsely : Prop := fnExactFirstTurnsRow.holds Try.pinned (OpenSpec.ofChange fnExactFirstTurnsWrong)

/-- 'laws.FnExactAreDead': WHATEVER THE INPUT: true; the input reads as it did. -/
def fnExactAreDeadSpec : ChangeSpec := { name := "fnExactAreDead", fn := fun _ => fun
  | [d1, d2] => { results := [.lit (.bool true)], args := [d1, d2] }
  | _ => none }
def fnExactAreDeadRow : OpenClaim := { program := "ytoaekmghlmeflaa", sum := "4a41885d499e7d7f162903afdcf71c3aff2805e6ce5373de035c5c35b8cfe575", func := "loop.example/g01304/laws.FnExactAreDead", spec := "fnExactAreDead", apart := false }
def FnExactAreDeadSaid : Prop := fnExactAreDeadRow.holds Try.pinned (OpenSpec.ofChange fnExactAreDeadSpec)

/-- ITS FALSE NEIGHBOUR: 'it returns false'. Refute it at one input. -/
def fnExactAreDeadWrong : ChangeSpec := { name := "fnExactAreDead", fn := fun _ => fun
  | [d1, d2] => { results := [.lit (.bool false)], args := [d1, d2] }
  | _ => none }
def FnExactAreDeadWrongFalsely : Prop := fnExactAreDeadRow.holds Try.pinned (OpenSpec.ofChange fnExactAreDeadWrong)

/- THE SECOND FORM. 'bulk': how many values and letters a reading holds, each counted each time it is reached (what is shared counts as often as it is met; a slice's spare places count too). A statement '..UptoSaid' is the law's where the arguments, and the package variables that the reading takes, are together of bulk at most 1048576: NARROWER than '..Said'. Prove '..Said' where nothing that the law and all that it calls make is longer than what came in: it says more and counts as full. Else prove '..UptoSaid'. A law counts once. -/
mutual
def uptoBulk {H : Type} : DataW H → Nat
  | .lit (.string bytes) => bytes.length + 1
  | .lit _ => 1
  | .nil => 1
  | .ptr d => uptoBulk d + 1
  | .slice elems spare => uptoBulkAll elems + uptoBulkAll spare + 1
  | .agg parts => uptoBulkAll parts + 1
  | .iface _ d => uptoBulk d + 1
  | .map entries => uptoBulkEntries entries + 1
  | .held _ => 1
def uptoBulkAll {H : Type} : List (DataW H) → Nat
  | [] => 0
  | d :: r => uptoBulk d + uptoBulkAll r
def uptoBulkEntries {H : Type} : List (Lit × DataW H) → Nat
  | [] => 0
  | x :: r => uptoBulkEntry x + uptoBulkEntries r
def uptoBulkEntry {H : Type} : Lit × DataW H → Nat
  | (.string bytes, d) => bytes.length + uptoBulk d + 1
  | (_, d) => uptoBulk d + 1
 end
def uptoSmall : (H : Type) → List (DataW H) → Bool := fun _ ds => decide (uptoBulkAll ds ≤ 1048576)
def OpenSpec.upto (s : _root_.Go.ChangeSpec) : _root_.Go.OpenSpec := { _root_.Go.OpenSpec.ofChange s with cond := some uptoSmall }

/-- 'laws.FnWheelsTurn', WHERE WHAT IT READS IS OF BULK AT MOST 1048576: true; the input reads as it did. -/
def fnWheelsTurnUptoRow : OpenClaim := { program := "ytoaekmghlmeflaa", sum := "4a41885d499e7d7f162903afdcf71c3aff2805e6ce5373de035c5c35b8cfe575", func := "loop.example/g01304/laws.FnWheelsTurn", spec := "fnWheelsTurn", unfollowed := true, recurses := true, apart := false, narrowed := true }
def FnWheelsTurnUptoSaid : Prop := fnWheelsTurnUptoRow.holds Try.pinned (OpenSpec.upto fnWheelsTurnSpec)

/-- 'laws.FnWheelsTurnOfAll', WHERE WHAT IT READS IS OF BULK AT MOST 1048576: true; the input reads as it did. -/
def fnWheelsTurnOfAllUptoRow : OpenClaim := { program := "ytoaekmghlmeflaa", sum := "4a41885d499e7d7f162903afdcf71c3aff2805e6ce5373de035c5c35b8cfe575", func := "loop.example/g01304/laws.FnWheelsTurnOfAll", spec := "fnWheelsTurnOfAll", unfollowed := true, recurses := true, apart := false, narrowed := true }
def FnWheelsTurnOfAllUptoSaid : Prop := fnWheelsTurnOfAllUptoRow.holds Try.pinned (OpenSpec.upto fnWheelsTurnOfAllSpec)

/-- 'laws.FnExactNextCodes', WHERE WHAT IT READS IS OF BULK AT MOST 1048576: true; the input reads as it did. -/
def fnExactNextCodesUptoRow : OpenClaim := { program := "ytoaekmghlmeflaa", sum := "4a41885d499e7d7f162903afdcf71c3aff2805e6ce5373de035c5c35b8cfe575", func := "loop.example/g01304/laws.FnExactNextCodes", spec := "fnExactNextCodes", recurses := true, apart := false, narrowed := true }
def FnExactNextCodesUptoSaid : Prop := fnExactNextCodesUptoRow.holds Try.pinned (OpenSpec.upto fnExactNextCodesSpec)

/-- 'laws.FnExactCountFewest', WHERE WHAT IT READS IS OF BULK AT MOST 1048576: true; the input reads as it did. -/
def fnExactCountFewestUptoRow : OpenClaim := { program := "ytoaekmghlmeflaa", sum := "4a41885d499e7d7f162903afdcf71c3aff2805e6ce5373de035c5c35b8cfe575", func := "loop.example/g01304/laws.FnExactCountFewest", spec := "fnExactCountFewest", apart := false, narrowed := true }
def FnExactCountFewestUptoSaid : Prop := fnExactCountFewestUptoRow.holds Try.pinned (OpenSpec.upto fnExactCountFewestSpec)

/-- 'laws.FnExactBackTurns', WHERE WHAT IT READS IS OF BULK AT MOST 1048576: true; the input reads as it did. -/
def fnExactBackTurnsUptoRow : OpenClaim := { program := "ytoaekmghlmeflaa", sum := "4a41885d499e7d7f162903afdcf71c3aff2805e6ce5373de035c5c35b8cfe575", func := "loop.example/g01304/laws.FnExactBackTurns", spec := "fnExactBackTurns", unfollowed := true, recurses := true, apart := false, narrowed := true }
def FnExactBackTurnsUptoSaid : Prop := fnExactBackTurnsUptoRow.holds Try.pinned (OpenSpec.upto fnExactBackTurnsSpec)

/-- 'laws.FnExactTurnWheel', WHERE WHAT IT READS IS OF BULK AT MOST 1048576: true; the input reads as it did. -/
def fnExactTurnWheelUptoRow : OpenClaim := { program := "ytoaekmghlmeflaa", sum := "4a41885d499e7d7f162903afdcf71c3aff2805e6ce5373de035c5c35b8cfe575", func := "loop.example/g01304/laws.FnExactTurnWheel", spec := "fnExactTurnWheel", recurses := true, apart := false, narrowed := true }
def FnExactTurnWheelUptoSaid : Prop := fnExactTurnWheelUptoRow.holds Try.pinned (OpenSpec.upto fnExactTurnWheelSpec)

/-- 'laws.FnExactTurnWheels', WHERE WHAT IT READS IS OF BULK AT MOST 1048576: true; the input reads as it did. -/
def fnExactTurnWheelsUptoRow : OpenClaim := { program := "ytoaekmghlmeflaa", sum := "4a41885d499e7d7f162903afdcf71c3aff2805e6ce5373de035c5c35b8cfe575", func := "loop.example/g01304/laws.FnExactTurnWheels", spec := "fnExactTurnWheels", recurses := true, apart := false, narrowed := true }
def FnExactTurnWheelsUptoSaid : Prop := fnExactTurnWheelsUptoRow.holds Try.pinned (OpenSpec.upto fnExactTurnWheelsSpec)

/-- 'laws.FnExactFarthestCodes', WHERE WHAT IT READS IS OF BULK AT MOST 1048576: true; the input reads as it did. -/
def fnExactFarthestCodesUptoRow : OpenClaim := { program := "ytoaekmghlmeflaa", sum := "4a41885d499e7d7f162903afdcf71c3aff2805e6ce5373de035c5c35b8cfe575", func := "loop.example/g01304/laws.FnExactFarthestCodes", spec := "fnExactFarthestCodes", recurses := true, apart := false, narrowed := true }
def FnExactFarthestCodesUptoSaid : Prop := fnExactFarthestCodesUptoRow.holds Try.pinned (OpenSpec.upto fnExactFarthestCodesSpec)

/-- 'laws.FnExactFirstTurns', WHERE WHAT IT READS IS OF BULK AT MOST 1048576: true; the input reads as it did. -/
def fnExactFirstTurnsUptoRow : OpenClaim := { program := "ytoaekmghlmeflaa", sum := "4a41885d499e7d7f162903afdcf71c3aff2805e6ce5373de035c5c35b8cfe575", func := "loop.example/g01304/laws.FnExactFirstTurns", spec := "fnExactFirstTurns", apart := false, narrowed := true }
def FnExactFirstTurnsUptoSaid : Prop := fnExactFirstTurnsUptoRow.holds Try.pinned (OpenSpec.upto fnExactFirstTurnsSpec)

/-- 'laws.FnExactAreDead', WHERE WHAT IT READS IS OF BULK AT MOST 1048576: true; the input reads as it did. -/
def fnExactAreDeadUptoRow : OpenClaim := { program := "ytoaekmghlmeflaa", sum := "4a41885d499e7d7f162903afdcf71c3aff2805e6ce5373de035c5c35b8cfe575", func := "loop.example/g01304/laws.FnExactAreDead", spec := "fnExactAreDead", apart := false, narrowed := true }
def FnExactAreDeadUptoSaid : Prop := fnExactAreDeadUptoRow.holds Try.pinned (OpenSpec.upto fnExactAreDeadSpec)

end Rows
end Go.Proofs.Ytoaekmghlmeflaa
