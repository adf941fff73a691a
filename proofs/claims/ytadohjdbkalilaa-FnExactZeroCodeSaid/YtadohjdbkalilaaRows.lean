/-
  No cell of these rows narrows 'for every input' (looked for: loops, veiled, ifaces, maps, wideKeys, modest, calm, conditions, laid).
  DERIVED. THE GIVEN ROWS OF THIS SEAT. 12 by the template 'for every input the law returns true; each argument reads behind the call as it read before'; 0 by the template 'total and deterministic' (their statements: YtadohjdbkalilaaTotals.lean).
  GIVEN WITH THE SEED: the statements are not yours to turn. If you find one false, say at which input.
  Laid BY PROGRAM, IN A SANDBOX (cutbox-rows.mjs): the forced cells as the released guide's own fill.sh prints them over the translation 94409e4c361dbe72… (all of the seat's roots in one cut). By AI agents, Wed Nov 11 2026. No macro, syntax, notation, axiom, sorry.
-/
import Derived.Test.YtadohjdbkalilaaChecked
import GoSem.Claim
import GoSem.ClaimJoined
import GoSem.ClaimMapViews
import Derived.JoinedTies
import Derived.KernelRfl
namespace Go.Proofs.Ytadohjdbkalilaa
/- THE CELL 'sum', in the pinned program and in every row, IS THE sha256 OF THE DUMP (.gsa) THAT YtadohjdbkalilaaProg.lean LOADS. Nothing in Lean hashes anything: it is a label: what it is worth is what the hold of that sum in a sandbox is worth. -/
noncomputable def Try.pinned : Pinned := { name := "ytadohjdbkalilaa", sum := "94409e4c361dbe72718ec8c5e7259cfb345e1e8219b576fff470a5f188351138", checked := Try.checked }
namespace Rows
def none {H : Type} : Left H := { results := [], args := [] }

/-- 'laws.FnExactConstants': WHATEVER THE INPUT: true; the input reads as it did. -/
def fnExactConstantsSpec : ChangeSpec := { name := "fnExactConstants", fn := fun _ => fun
  | [] => { results := [.lit (.bool true)], args := [] }
  | _ => none }
def fnExactConstantsRow : OpenClaim := { program := "ytadohjdbkalilaa", sum := "94409e4c361dbe72718ec8c5e7259cfb345e1e8219b576fff470a5f188351138", func := "loop.example/g01304/laws.FnExactConstants", spec := "fnExactConstants", apart := false }
def FnExactConstantsSaid : Prop := fnExactConstantsRow.holds Try.pinned (OpenSpec.ofChange fnExactConstantsSpec)

/-- ITS FALSE NEIGHBOUR: 'it returns false'. Refute it at one input. -/
def fnExactConstantsWrong : ChangeSpec := { name := "fnExactConstants", fn := fun _ => fun
  | [] => { results := [.lit (.bool false)], args := [] }
  | _ => none }
def FnExactConstantsWrongFalsely : Prop := fnExactConstantsRow.holds Try.pinned (OpenSpec.ofChange fnExactConstantsWrong)

/-- 'laws.FnExactIsLock': WHATEVER THE INPUT: true; the input reads as it did. -/
def fnExactIsLockSpec : ChangeSpec := { name := "fnExactIsLock", fn := fun _ => fun
  | [d] => { results := [.lit (.bool true)], args := [d] }
  | _ => none }
def fnExactIsLockRow : OpenClaim := { program := "ytadohjdbkalilaa", sum := "94409e4c361dbe72718ec8c5e7259cfb345e1e8219b576fff470a5f188351138", func := "loop.example/g01304/laws.FnExactIsLock", spec := "fnExactIsLock", apart := false }
def FnExactIsLockSaid : Prop := fnExactIsLockRow.holds Try.pinned (OpenSpec.ofChange fnExactIsLockSpec)

/-- ITS FALSE NEIGHBOUR: 'it returns false'. Refute it at one input. -/
def fnExactIsLockWrong : ChangeSpec := { name := "fnExactIsLock", fn := fun _ => fun
  | [d] => { results := [.lit (.bool false)], args := [d] }
  | _ => none }
def FnExactIsLockWrongFalsely : Prop := fnExactIsLockRow.holds Try.pinned (OpenSpec.ofChange fnExactIsLockWrong)

/-- 'laws.FnExactCountCodes': WHATEVER THE INPUT: true; the input reads as it did. -/
def fnExactCountCodesSpec : ChangeSpec := { name := "fnExactCountCodes", fn := fun _ => fun
  | [d] => { results := [.lit (.bool true)], args := [d] }
  | _ => none }
def fnExactCountCodesRow : OpenClaim := { program := "ytadohjdbkalilaa", sum := "94409e4c361dbe72718ec8c5e7259cfb345e1e8219b576fff470a5f188351138", func := "loop.example/g01304/laws.FnExactCountCodes", spec := "fnExactCountCodes", apart := false }
def FnExactCountCodesSaid : Prop := fnExactCountCodesRow.holds Try.pinned (OpenSpec.ofChange fnExactCountCodesSpec)

/-- ITS FALSE NEIGHBOUR: 'it returns false'. Refute it at one input. -/
def fnExactCountCodesWrong : ChangeSpec := { name := "fnExactCountCodes", fn := fun _ => fun
  | [d] => { results := [.lit (.bool false)], args := [d] }
  | _ => none }
def FnExactCountCodesWrongFalsely : Prop := fnExactCountCodesRow.holds Try.pinned (OpenSpec.ofChange fnExactCountCodesWrong)

/-- 'laws.FnExactIsCode': WHATEVER THE INPUT: true; the input reads as it did. -/
def fnExactIsCodeSpec : ChangeSpec := { name := "fnExactIsCode", fn := fun _ => fun
  | [d1, d2] => { results := [.lit (.bool true)], args := [d1, d2] }
  | _ => none }
def fnExactIsCodeRow : OpenClaim := { program := "ytadohjdbkalilaa", sum := "94409e4c361dbe72718ec8c5e7259cfb345e1e8219b576fff470a5f188351138", func := "loop.example/g01304/laws.FnExactIsCode", spec := "fnExactIsCode", apart := false }
def FnExactIsCodeSaid : Prop := fnExactIsCodeRow.holds Try.pinned (OpenSpec.ofChange fnExactIsCodeSpec)

/-- ITS FALSE NEIGHBOUR: 'it returns false'. Refute it at one input. -/
def fnExactIsCodeWrong : ChangeSpec := { name := "fnExactIsCode", fn := fun _ => fun
  | [d1, d2] => { results := [.lit (.bool false)], args := [d1, d2] }
  | _ => none }
def FnExactIsCodeWrongFalsely : Prop := fnExactIsCodeRow.holds Try.pinned (OpenSpec.ofChange fnExactIsCodeWrong)

/-- 'laws.FnExactZeroCode': WHATEVER THE INPUT: true; the input reads as it did. -/
def fnExactZeroCodeSpec : ChangeSpec := { name := "fnExactZeroCode", fn := fun _ => fun
  | [d] => { results := [.lit (.bool true)], args := [d] }
  | _ => none }
def fnExactZeroCodeRow : OpenClaim := { program := "ytadohjdbkalilaa", sum := "94409e4c361dbe72718ec8c5e7259cfb345e1e8219b576fff470a5f188351138", func := "loop.example/g01304/laws.FnExactZeroCode", spec := "fnExactZeroCode", recurses := true, apart := false }
def FnExactZeroCodeSaid : Prop := fnExactZeroCodeRow.holds Try.pinned (OpenSpec.ofChange fnExactZeroCodeSpec)

/-- ITS FALSE NEIGHBOUR: 'it returns false'. Refute it at one input. -/
def fnExactZeroCodeWrong : ChangeSpec := { name := "fnExactZeroCode", fn := fun _ => fun
  | [d] => { results := [.lit (.bool false)], args := [d] }
  | _ => none }
def FnExactZeroCodeWrongFalsely : Prop := fnExactZeroCodeRow.holds Try.pinned (OpenSpec.ofChange fnExactZeroCodeWrong)

/-- 'laws.FnExactCountAtDistance': WHATEVER THE INPUT: true; the input reads as it did. -/
def fnExactCountAtDistanceSpec : ChangeSpec := { name := "fnExactCountAtDistance", fn := fun _ => fun
  | [d1, d2] => { results := [.lit (.bool true)], args := [d1, d2] }
  | _ => none }
def fnExactCountAtDistanceRow : OpenClaim := { program := "ytadohjdbkalilaa", sum := "94409e4c361dbe72718ec8c5e7259cfb345e1e8219b576fff470a5f188351138", func := "loop.example/g01304/laws.FnExactCountAtDistance", spec := "fnExactCountAtDistance", apart := false }
def FnExactCountAtDistanceSaid : Prop := fnExactCountAtDistanceRow.holds Try.pinned (OpenSpec.ofChange fnExactCountAtDistanceSpec)

/-- ITS FALSE NEIGHBOUR: 'it returns false'. Refute it at one input. -/
def fnExactCountAtDistanceWrong : ChangeSpec := { name := "fnExactCountAtDistance", fn := fun _ => fun
  | [d1, d2] => { results := [.lit (.bool false)], args := [d1, d2] }
  | _ => none }
def FnExactCountAtDistanceWrongFalsely : Prop := fnExactCountAtDistanceRow.holds Try.pinned (OpenSpec.ofChange fnExactCountAtDistanceWrong)

/-- 'laws.FnExactCodeOfNumber': WHATEVER THE INPUT: true; the input reads as it did. -/
def fnExactCodeOfNumberSpec : ChangeSpec := { name := "fnExactCodeOfNumber", fn := fun _ => fun
  | [d1, d2] => { results := [.lit (.bool true)], args := [d1, d2] }
  | _ => none }
def fnExactCodeOfNumberRow : OpenClaim := { program := "ytadohjdbkalilaa", sum := "94409e4c361dbe72718ec8c5e7259cfb345e1e8219b576fff470a5f188351138", func := "loop.example/g01304/laws.FnExactCodeOfNumber", spec := "fnExactCodeOfNumber", recurses := true, apart := false }
def FnExactCodeOfNumberSaid : Prop := fnExactCodeOfNumberRow.holds Try.pinned (OpenSpec.ofChange fnExactCodeOfNumberSpec)

/-- ITS FALSE NEIGHBOUR: 'it returns false'. Refute it at one input. -/
def fnExactCodeOfNumberWrong : ChangeSpec := { name := "fnExactCodeOfNumber", fn := fun _ => fun
  | [d1, d2] => { results := [.lit (.bool false)], args := [d1, d2] }
  | _ => none }
def FnExactCodeOfNumberWrongFalsely : Prop := fnExactCodeOfNumberRow.holds Try.pinned (OpenSpec.ofChange fnExactCodeOfNumberWrong)

/-- 'laws.FnExactMeanDistance': WHATEVER THE INPUT: true; the input reads as it did. -/
def fnExactMeanDistanceSpec : ChangeSpec := { name := "fnExactMeanDistance", fn := fun _ => fun
  | [d] => { results := [.lit (.bool true)], args := [d] }
  | _ => none }
def fnExactMeanDistanceRow : OpenClaim := { program := "ytadohjdbkalilaa", sum := "94409e4c361dbe72718ec8c5e7259cfb345e1e8219b576fff470a5f188351138", func := "loop.example/g01304/laws.FnExactMeanDistance", spec := "fnExactMeanDistance", apart := false }
def FnExactMeanDistanceSaid : Prop := fnExactMeanDistanceRow.holds Try.pinned (OpenSpec.ofChange fnExactMeanDistanceSpec)

/-- ITS FALSE NEIGHBOUR: 'it returns false'. Refute it at one input. -/
def fnExactMeanDistanceWrong : ChangeSpec := { name := "fnExactMeanDistance", fn := fun _ => fun
  | [d] => { results := [.lit (.bool false)], args := [d] }
  | _ => none }
def FnExactMeanDistanceWrongFalsely : Prop := fnExactMeanDistanceRow.holds Try.pinned (OpenSpec.ofChange fnExactMeanDistanceWrong)

/-- 'laws.FnExactNumberOfCode': WHATEVER THE INPUT: true; the input reads as it did. -/
def fnExactNumberOfCodeSpec : ChangeSpec := { name := "fnExactNumberOfCode", fn := fun _ => fun
  | [d1, d2] => { results := [.lit (.bool true)], args := [d1, d2] }
  | _ => none }
def fnExactNumberOfCodeRow : OpenClaim := { program := "ytadohjdbkalilaa", sum := "94409e4c361dbe72718ec8c5e7259cfb345e1e8219b576fff470a5f188351138", func := "loop.example/g01304/laws.FnExactNumberOfCode", spec := "fnExactNumberOfCode", apart := false }
def FnExactNumberOfCodeSaid : Prop := fnExactNumberOfCodeRow.holds Try.pinned (OpenSpec.ofChange fnExactNumberOfCodeSpec)

/-- ITS FALSE NEIGHBOUR: 'it returns false'. Refute it at one input. -/
def fnExactNumberOfCodeWrong : ChangeSpec := { name := "fnExactNumberOfCode", fn := fun _ => fun
  | [d1, d2] => { results := [.lit (.bool false)], args := [d1, d2] }
  | _ => none }
def FnExactNumberOfCodeWrongFalsely : Prop := fnExactNumberOfCodeRow.holds Try.pinned (OpenSpec.ofChange fnExactNumberOfCodeWrong)

/-- 'laws.FnExactFewestTurns': WHATEVER THE INPUT: true; the input reads as it did. -/
def fnExactFewestTurnsSpec : ChangeSpec := { name := "fnExactFewestTurns", fn := fun _ => fun
  | [d1, d2, d3] => { results := [.lit (.bool true)], args := [d1, d2, d3] }
  | _ => none }
def fnExactFewestTurnsRow : OpenClaim := { program := "ytadohjdbkalilaa", sum := "94409e4c361dbe72718ec8c5e7259cfb345e1e8219b576fff470a5f188351138", func := "loop.example/g01304/laws.FnExactFewestTurns", spec := "fnExactFewestTurns", apart := false }
def FnExactFewestTurnsSaid : Prop := fnExactFewestTurnsRow.holds Try.pinned (OpenSpec.ofChange fnExactFewestTurnsSpec)

/-- ITS FALSE NEIGHBOUR: 'it returns false'. Refute it at one input. -/
def fnExactFewestTurnsWrong : ChangeSpec := { name := "fnExactFewestTurns", fn := fun _ => fun
  | [d1, d2, d3] => { results := [.lit (.bool false)], args := [d1, d2, d3] }
  | _ => none }
def FnExactFewestTurnsWrongFalsely : Prop := fnExactFewestTurnsRow.holds Try.pinned (OpenSpec.ofChange fnExactFewestTurnsWrong)

/-- 'laws.FnExactOppositeCode': WHATEVER THE INPUT: true; the input reads as it did. -/
def fnExactOppositeCodeSpec : ChangeSpec := { name := "fnExactOppositeCode", fn := fun _ => fun
  | [d1, d2] => { results := [.lit (.bool true)], args := [d1, d2] }
  | _ => none }
def fnExactOppositeCodeRow : OpenClaim := { program := "ytadohjdbkalilaa", sum := "94409e4c361dbe72718ec8c5e7259cfb345e1e8219b576fff470a5f188351138", func := "loop.example/g01304/laws.FnExactOppositeCode", spec := "fnExactOppositeCode", recurses := true, apart := false }
def FnExactOppositeCodeSaid : Prop := fnExactOppositeCodeRow.holds Try.pinned (OpenSpec.ofChange fnExactOppositeCodeSpec)

/-- ITS FALSE NEIGHBOUR: 'it returns false'. Refute it at one input. -/
def fnExactOppositeCodeWrong : ChangeSpec := { name := "fnExactOppositeCode", fn := fun _ => fun
  | [d1, d2] => { results := [.lit (.bool false)], args := [d1, d2] }
  | _ => none }
def FnExactOppositeCodeWrongFalsely : Prop := fnExactOppositeCodeRow.holds Try.pinned (OpenSpec.ofChange fnExactOppositeCodeWrong)

/-- 'laws.FnExactAddCodes': WHATEVER THE INPUT: true; the input reads as it did. -/
def fnExactAddCodesSpec : ChangeSpec := { name := "fnExactAddCodes", fn := fun _ => fun
  | [d1, d2, d3] => { results := [.lit (.bool true)], args := [d1, d2, d3] }
  | _ => none }
def fnExactAddCodesRow : OpenClaim := { program := "ytadohjdbkalilaa", sum := "94409e4c361dbe72718ec8c5e7259cfb345e1e8219b576fff470a5f188351138", func := "loop.example/g01304/laws.FnExactAddCodes", spec := "fnExactAddCodes", recurses := true, apart := false }
def FnExactAddCodesSaid : Prop := fnExactAddCodesRow.holds Try.pinned (OpenSpec.ofChange fnExactAddCodesSpec)

/-- ITS FALSE NEIGHBOUR: 'it returns false'. Refute it at one input. -/
def fnExactAddCodesWrong : ChangeSpec := { name := "fnExactAddCodes", fn := fun _ => fun
  | [d1, d2, d3] => { results := [.lit (.bool false)], args := [d1, d2, d3] }
  | _ => none }
def FnExactAddCodesWrongFalsely : Prop := fnExactAddCodesRow.holds Try.pinned (OpenSpec.ofChange fnExactAddCodesWrong)

/- THE SECOND FORM. 'bulk': how many values and letters a reading holds, each counted each time it is reached (what is shared counts as often as it is met; a slice's spare places count too). A statement '..UptoSaid' is the law's where the arguments, and the package variables that the reading takes, are together of bulk at most 1048576: NARROWER than '..Said'. Prove '..Said' where nothing that the law and all that it calls make is longer than what came in: it says more and counts as full. Else prove '..UptoSaid'. A law counts once. -/
mutual
def uptoBulk {H : Type} : DataW H → Nat
  | .lit (.string bytes) => bytes.length + 1
  | .lit _ => 1
  | .nil => 1
  | .ptr d => uptoBulk d + 1
  | .slice elems spare => uptoBulkAll elems + uptoBulkAll spare + 1
  | .agg parts => uptoBulkAll parts + 1
  | .iface _ d => uptoBulk d + 1
  | .map entries => uptoBulkEntries entries + 1
  | .held _ => 1
def uptoBulkAll {H : Type} : List (DataW H) → Nat
  | [] => 0
  | d :: r => uptoBulk d + uptoBulkAll r
def uptoBulkEntries {H : Type} : List (Lit × DataW H) → Nat
  | [] => 0
  | x :: r => uptoBulkEntry x + uptoBulkEntries r
def uptoBulkEntry {H : Type} : Lit × DataW H → Nat
  | (.string bytes, d) => bytes.length + uptoBulk d + 1
  | (_, d) => uptoBulk d + 1
 end
def uptoSmall : (H : Type) → List (DataW H) → Bool := fun _ ds => decide (uptoBulkAll ds ≤ 1048576)
def OpenSpec.upto (s : _root_.Go.ChangeSpec) : _root_.Go.OpenSpec := { _root_.Go.OpenSpec.ofChange s with cond := some uptoSmall }

/-- 'laws.FnExactConstants', WHERE WHAT IT READS IS OF BULK AT MOST 1048576: true; the input reads as it did. -/
def fnExactConstantsUptoRow : OpenClaim := { program := "ytadohjdbkalilaa", sum := "94409e4c361dbe72718ec8c5e7259cfb345e1e8219b576fff470a5f188351138", func := "loop.example/g01304/laws.FnExactConstants", spec := "fnExactConstants", apart := false, narrowed := true }
def FnExactConstantsUptoSaid : Prop := fnExactConstantsUptoRow.holds Try.pinned (OpenSpec.upto fnExactConstantsSpec)

/-- 'laws.FnExactIsLock', WHERE WHAT IT READS IS OF BULK AT MOST 1048576: true; the input reads as it did. -/
def fnExactIsLockUptoRow : OpenClaim := { program := "ytadohjdbkalilaa", sum := "94409e4c361dbe72718ec8c5e7259cfb345e1e8219b576fff470a5f188351138", func := "loop.example/g01304/laws.FnExactIsLock", spec := "fnExactIsLock", apart := false, narrowed := true }
def FnExactIsLockUptoSaid : Prop := fnExactIsLockUptoRow.holds Try.pinned (OpenSpec.upto fnExactIsLockSpec)

/-- 'laws.FnExactCountCodes', WHERE WHAT IT READS IS OF BULK AT MOST 1048576: true; the input reads as it did. -/
def fnExactCountCodesUptoRow : OpenClaim := { program := "ytadohjdbkalilaa", sum := "94409e4c361dbe72718ec8c5e7259cfb345e1e8219b576fff470a5f188351138", func := "loop.example/g01304/laws.FnExactCountCodes", spec := "fnExactCountCodes", apart := false, narrowed := true }
def FnExactCountCodesUptoSaid : Prop := fnExactCountCodesUptoRow.holds Try.pinned (OpenSpec.upto fnExactCountCodesSpec)

/-- 'laws.FnExactIsCode', WHERE WHAT IT READS IS OF BULK AT MOST 1048576: true; the input reads as it did. -/
def fnExactIsCodeUptoRow : OpenClaim := { program := "ytadohjdbkalilaa", sum := "94409e4c361dbe72718ec8c5e7259cfb345e1e8219b576fff470a5f188351138", func := "loop.example/g01304/laws.FnExactIsCode", spec := "fnExactIsCode", apart := false, narrowed := true }
def FnExactIsCodeUptoSaid : Prop := fnExactIsCodeUptoRow.holds Try.pinned (OpenSpec.upto fnExactIsCodeSpec)

/-- 'laws.FnExactZeroCode', WHERE WHAT IT READS IS OF BULK AT MOST 1048576: true; the input reads as it did. -/
def fnExactZeroCodeUptoRow : OpenClaim := { program := "ytadohjdbkalilaa", sum := "94409e4c361dbe72718ec8c5e7259cfb345e1e8219b576fff470a5f188351138", func := "loop.example/g01304/laws.FnExactZeroCode", spec := "fnExactZeroCode", recurses := true, apart := false, narrowed := true }
def FnExactZeroCodeUptoSaid : Prop := fnExactZeroCodeUptoRow.holds Try.pinned (OpenSpec.upto fnExactZeroCodeSpec)

/-- 'laws.FnExactCountAtDistance', WHERE WHAT IT READS IS OF BULK AT MOST 1048576: true; the input reads as it did. -/
def fnExactCountAtDistanceUptoRow : OpenClaim := { program := "ytadohjdbkalilaa", sum := "94409e4c361dbe72718ec8c5e7259cfb345e1e8219b576fff470a5f188351138", func := "loop.example/g01304/laws.FnExactCountAtDistance", spec := "fnExactCountAtDistance", apart := false, narrowed := true }
def FnExactCountAtDistanceUptoSaid : Prop := fnExactCountAtDistanceUptoRow.holds Try.pinned (OpenSpec.upto fnExactCountAtDistanceSpec)

/-- 'laws.FnExactCodeOfNumber', WHERE WHAT IT READS IS OF BULK AT MOST 1048576: true; the input reads as it did. -/
def fnExactCodeOfNumberUptoRow : OpenClaim := { program := "ytadohjdbkalilaa", sum := "94409e4c361dbe72718ec8c5e7259cfb345e1e8219b576fff470a5f188351138", func := "loop.example/g01304/laws.FnExactCodeOfNumber", spec := "fnExactCodeOfNumber", recurses := true, apart := false, narrowed := true }
def FnExactCodeOfNumberUptoSaid : Prop := fnExactCodeOfNumberUptoRow.holds Try.pinned (OpenSpec.upto fnExactCodeOfNumberSpec)

/-- 'laws.FnExactMeanDistance', WHERE WHAT IT READS IS OF BULK AT MOST 1048576: true; the input reads as it did. -/
def fnExactMeanDistanceUptoRow : OpenClaim := { program := "ytadohjdbkalilaa", sum := "94409e4c361dbe72718ec8c5e7259cfb345e1e8219b576fff470a5f188351138", func := "loop.example/g01304/laws.FnExactMeanDistance", spec := "fnExactMeanDistance", apart := false, narrowed := true }
def FnExactMeanDistanceUptoSaid : Prop := fnExactMeanDistanceUptoRow.holds Try.pinned (OpenSpec.upto fnExactMeanDistanceSpec)

/-- 'laws.FnExactNumberOfCode', WHERE WHAT IT READS IS OF BULK AT MOST 1048576: true; the input reads as it did. -/
def fnExactNumberOfCodeUptoRow : OpenClaim := { program := "ytadohjdbkalilaa", sum := "94409e4c361dbe72718ec8c5e7259cfb345e1e8219b576fff470a5f188351138", func := "loop.example/g01304/laws.FnExactNumberOfCode", spec := "fnExactNumberOfCode", apart := false, narrowed := true }
def FnExactNumberOfCodeUptoSaid : Prop := fnExactNumberOfCodeUptoRow.holds Try.pinned (OpenSpec.upto fnExactNumberOfCodeSpec)

/-- 'laws.FnExactFewestTurns', WHERE WHAT IT READS IS OF BULK AT MOST 1048576: true; the input reads as it did. -/
def fnExactFewestTurnsUptoRow : OpenClaim := { program := "ytadohjdbkalilaa", sum := "94409e4c361dbe72718ec8c5e7259cfb345e1e8219b576fff470a5f188351138", func := "loop.example/g01304/laws.FnExactFewestTurns", spec := "fnExactFewestTurns", apart := false, narrowed := true }
def FnExactFewestTurnsUptoSaid : Prop := fnExactFewestTurnsUptoRow.holds Try.pinned (OpenSpec.upto fnExactFewestTurnsSpec)

/-- 'laws.FnExactOppositeCode', WHERE WHAT IT READS IS OF BULK AT MOST 1048576: true; the input reads as it did. -/
def fnExactOppositeCodeUptoRow : OpenClaim := { program := "ytadohjdbkalilaa", sum := "94409e4c361dbe72718ec8c5e7259cfb345e1e8219b576fff470a5f188351138", func := "loop.example/g01304/laws.FnExactOppositeCode", spec := "fnExactOppositeCode", recurses := true, apart := false, narrowed := true }
def FnExactOppositeCodeUptoSaid : Prop := fnExactOppositeCodeUptoRow.holds Try.pinned (OpenSpec.upto fnExactOppositeCodeSpec)

/-- 'laws.FnExactAddCodes', WHERE WHAT IT READS IS OF BULK AT MOST 1048576: true; the input reads as it did. -/
def fnExactAddCodesUptoRow : OpenClaim := { program := "ytadohjdbkalilaa", sum := "94409e4c361dbe72718ec8c5e7259cfb345e1e8219b576fff470a5f188351138", func := "loop.example/g01304/laws.FnExactAddCodes", spec := "fnExactAddCodes", recurses := true, apart := false, narrowed := true }
def FnExactAddCodesUptoSaid : Prop := fnExactAddCodesUptoRow.holds Try.pinned (OpenSpec.upto fnExactAddCodesSpec)

end Rows
end Go.Proofs.Ytadohjdbkalilaa
