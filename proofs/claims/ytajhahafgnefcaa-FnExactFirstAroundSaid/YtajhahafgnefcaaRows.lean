/-
  No cell of these rows narrows 'for every input' (looked for: loops, veiled, ifaces, maps, wideKeys, modest, calm, conditions, laid).
  DERIVED. THE GIVEN ROWS OF THIS SEAT. 12 by the template 'for every input the law returns true; each argument reads behind the call as it read before'; 0 by the template 'total and deterministic' (their statements: YtajhahafgnefcaaTotals.lean).
  GIVEN WITH THE SEED: the statements are not yours to turn. If you find one false, say at which input.
  Laid BY PROGRAM, IN A SANDBOX (cutbox-rows.mjs): the forced cells as the released guide's own fill.sh prints them over the translation dd35a3016841b126… (all of the seat's roots in one cut). By AI agents, Wed Nov 11 2026. No macro, syntax, notation, axiom, sorry.
-/
import Derived.Test.YtajhahafgnefcaaChecked
import GoSem.Claim
import GoSem.ClaimJoined
import GoSem.ClaimMapViews
import Derived.JoinedTies
import Derived.KernelRfl
namespace Go.Proofs.Ytajhahafgnefcaa
/- THE CELL 'sum', in the pinned program and in every row, IS THE sha256 OF THE DUMP (.gsa) THAT YtajhahafgnefcaaProg.lean LOADS. Nothing in Lean hashes anything: it is a label: what it is worth is what the hold of that sum in a sandbox is worth. -/
noncomputable def Try.pinned : Pinned := { name := "ytajhahafgnefcaa", sum := "dd35a3016841b126083e023e0999406d14f5da15782a5cc85c7fba3820e4568c", checked := Try.checked }
namespace Rows
def none {H : Type} : Left H := { results := [], args := [] }

/-- 'laws.FnExactTurnThatMeets': WHATEVER THE INPUT: true; the input reads as it did. -/
def fnExactTurnThatMeetsSpec : ChangeSpec := { name := "fnExactTurnThatMeets", fn := fun _ => fun
  | [d1, d2, d3, d4] => { results := [.lit (.bool true)], args := [d1, d2, d3, d4] }
  | _ => none }
def fnExactTurnThatMeetsRow : OpenClaim := { program := "ytajhahafgnefcaa", sum := "dd35a3016841b126083e023e0999406d14f5da15782a5cc85c7fba3820e4568c", func := "loop.example/g01304/laws.FnExactTurnThatMeets", spec := "fnExactTurnThatMeets", unfollowed := true, recurses := true, apart := false }
def FnExactTurnThatMeetsSaid : Prop := fnExactTurnThatMeetsRow.holds Try.pinned (OpenSpec.ofChange fnExactTurnThatMeetsSpec)

/-- ITS FALSE NEIGHBOUR: 'it returns false'. Refute it at one input. -/
def fnExactTurnThatMeetsWrong : ChangeSpec := { name := "fnExactTurnThatMeets", fn := fun _ => fun
  | [d1, d2, d3, d4] => { results := [.lit (.bool false)], args := [d1, d2, d3, d4] }
  | _ => none }
def FnExactTurnThatMeetsWrongFalsely : Prop := fnExactTurnThatMeetsRow.holds Try.pinned (OpenSpec.ofChange fnExactTurnThatMeetsWrong)

/-- 'laws.FnExactWalkAround': WHATEVER THE INPUT: true; the input reads as it did. -/
def fnExactWalkAroundSpec : ChangeSpec := { name := "fnExactWalkAround", fn := fun _ => fun
  | [d1, d2, d3, d4] => { results := [.lit (.bool true)], args := [d1, d2, d3, d4] }
  | _ => none }
def fnExactWalkAroundRow : OpenClaim := { program := "ytajhahafgnefcaa", sum := "dd35a3016841b126083e023e0999406d14f5da15782a5cc85c7fba3820e4568c", func := "loop.example/g01304/laws.FnExactWalkAround", spec := "fnExactWalkAround", unfollowed := true, recurses := true, apart := false }
def FnExactWalkAroundSaid : Prop := fnExactWalkAroundRow.holds Try.pinned (OpenSpec.ofChange fnExactWalkAroundSpec)

/-- ITS FALSE NEIGHBOUR: 'it returns false'. Refute it at one input. -/
def fnExactWalkAroundWrong : ChangeSpec := { name := "fnExactWalkAround", fn := fun _ => fun
  | [d1, d2, d3, d4] => { results := [.lit (.bool false)], args := [d1, d2, d3, d4] }
  | _ => none }
def FnExactWalkAroundWrongFalsely : Prop := fnExactWalkAroundRow.holds Try.pinned (OpenSpec.ofChange fnExactWalkAroundWrong)

/-- 'laws.FnExactFewestAround': WHATEVER THE INPUT: true; the input reads as it did. -/
def fnExactFewestAroundSpec : ChangeSpec := { name := "fnExactFewestAround", fn := fun _ => fun
  | [d1, d2, d3, d4] => { results := [.lit (.bool true)], args := [d1, d2, d3, d4] }
  | _ => none }
def fnExactFewestAroundRow : OpenClaim := { program := "ytajhahafgnefcaa", sum := "dd35a3016841b126083e023e0999406d14f5da15782a5cc85c7fba3820e4568c", func := "loop.example/g01304/laws.FnExactFewestAround", spec := "fnExactFewestAround", unfollowed := true, recurses := true, apart := false }
def FnExactFewestAroundSaid : Prop := fnExactFewestAroundRow.holds Try.pinned (OpenSpec.ofChange fnExactFewestAroundSpec)

/-- ITS FALSE NEIGHBOUR: 'it returns false'. Refute it at one input. -/
def fnExactFewestAroundWrong : ChangeSpec := { name := "fnExactFewestAround", fn := fun _ => fun
  | [d1, d2, d3, d4] => { results := [.lit (.bool false)], args := [d1, d2, d3, d4] }
  | _ => none }
def FnExactFewestAroundWrongFalsely : Prop := fnExactFewestAroundRow.holds Try.pinned (OpenSpec.ofChange fnExactFewestAroundWrong)

/-- 'laws.FnExactPartsOfLock': WHATEVER THE INPUT: true; the input reads as it did. -/
def fnExactPartsOfLockSpec : ChangeSpec := { name := "fnExactPartsOfLock", fn := fun _ => fun
  | [d1, d2] => { results := [.lit (.bool true)], args := [d1, d2] }
  | _ => none }
def fnExactPartsOfLockRow : OpenClaim := { program := "ytajhahafgnefcaa", sum := "dd35a3016841b126083e023e0999406d14f5da15782a5cc85c7fba3820e4568c", func := "loop.example/g01304/laws.FnExactPartsOfLock", spec := "fnExactPartsOfLock", recurses := true, apart := false }
def FnExactPartsOfLockSaid : Prop := fnExactPartsOfLockRow.holds Try.pinned (OpenSpec.ofChange fnExactPartsOfLockSpec)

/-- ITS FALSE NEIGHBOUR: 'it returns false'. Refute it at one input. -/
def fnExactPartsOfLockWrong : ChangeSpec := { name := "fnExactPartsOfLock", fn := fun _ => fun
  | [d1, d2] => { results := [.lit (.bool false)], args := [d1, d2] }
  | _ => none }
def FnExactPartsOfLockWrongFalsely : Prop := fnExactPartsOfLockRow.holds Try.pinned (OpenSpec.ofChange fnExactPartsOfLockWrong)

/-- 'laws.FnExactCountReached': WHATEVER THE INPUT: true; the input reads as it did. -/
def fnExactCountReachedSpec : ChangeSpec := { name := "fnExactCountReached", fn := fun _ => fun
  | [d1, d2, d3] => { results := [.lit (.bool true)], args := [d1, d2, d3] }
  | _ => none }
def fnExactCountReachedRow : OpenClaim := { program := "ytajhahafgnefcaa", sum := "dd35a3016841b126083e023e0999406d14f5da15782a5cc85c7fba3820e4568c", func := "loop.example/g01304/laws.FnExactCountReached", spec := "fnExactCountReached", unfollowed := true, recurses := true, apart := false }
def FnExactCountReachedSaid : Prop := fnExactCountReachedRow.holds Try.pinned (OpenSpec.ofChange fnExactCountReachedSpec)

/-- ITS FALSE NEIGHBOUR: 'it returns false'. Refute it at one input. -/
def fnExactCountReachedWrong : ChangeSpec := { name := "fnExactCountReached", fn := fun _ => fun
  | [d1, d2, d3] => { results := [.lit (.bool false)], args := [d1, d2, d3] }
  | _ => none }
def FnExactCountReachedWrongFalsely : Prop := fnExactCountReachedRow.holds Try.pinned (OpenSpec.ofChange fnExactCountReachedWrong)

/-- 'laws.FnExactCountAround': WHATEVER THE INPUT: true; the input reads as it did. -/
def fnExactCountAroundSpec : ChangeSpec := { name := "fnExactCountAround", fn := fun _ => fun
  | [d1, d2, d3, d4] => { results := [.lit (.bool true)], args := [d1, d2, d3, d4] }
  | _ => none }
def fnExactCountAroundRow : OpenClaim := { program := "ytajhahafgnefcaa", sum := "dd35a3016841b126083e023e0999406d14f5da15782a5cc85c7fba3820e4568c", func := "loop.example/g01304/laws.FnExactCountAround", spec := "fnExactCountAround", unfollowed := true, recurses := true, apart := false }
def FnExactCountAroundSaid : Prop := fnExactCountAroundRow.holds Try.pinned (OpenSpec.ofChange fnExactCountAroundSpec)

/-- ITS FALSE NEIGHBOUR: 'it returns false'. Refute it at one input. -/
def fnExactCountAroundWrong : ChangeSpec := { name := "fnExactCountAround", fn := fun _ => fun
  | [d1, d2, d3, d4] => { results := [.lit (.bool false)], args := [d1, d2, d3, d4] }
  | _ => none }
def FnExactCountAroundWrongFalsely : Prop := fnExactCountAroundRow.holds Try.pinned (OpenSpec.ofChange fnExactCountAroundWrong)

/-- 'laws.FnExactCountCutOff': WHATEVER THE INPUT: true; the input reads as it did. -/
def fnExactCountCutOffSpec : ChangeSpec := { name := "fnExactCountCutOff", fn := fun _ => fun
  | [d1, d2, d3] => { results := [.lit (.bool true)], args := [d1, d2, d3] }
  | _ => none }
def fnExactCountCutOffRow : OpenClaim := { program := "ytajhahafgnefcaa", sum := "dd35a3016841b126083e023e0999406d14f5da15782a5cc85c7fba3820e4568c", func := "loop.example/g01304/laws.FnExactCountCutOff", spec := "fnExactCountCutOff", unfollowed := true, recurses := true, apart := false }
def FnExactCountCutOffSaid : Prop := fnExactCountCutOffRow.holds Try.pinned (OpenSpec.ofChange fnExactCountCutOffSpec)

/-- ITS FALSE NEIGHBOUR: 'it returns false'. Refute it at one input. -/
def fnExactCountCutOffWrong : ChangeSpec := { name := "fnExactCountCutOff", fn := fun _ => fun
  | [d1, d2, d3] => { results := [.lit (.bool false)], args := [d1, d2, d3] }
  | _ => none }
def FnExactCountCutOffWrongFalsely : Prop := fnExactCountCutOffRow.holds Try.pinned (OpenSpec.ofChange fnExactCountCutOffWrong)

/-- 'laws.FnExactFirstCutOff': WHATEVER THE INPUT: true; the input reads as it did. -/
def fnExactFirstCutOffSpec : ChangeSpec := { name := "fnExactFirstCutOff", fn := fun _ => fun
  | [d1, d2, d3] => { results := [.lit (.bool true)], args := [d1, d2, d3] }
  | _ => none }
def fnExactFirstCutOffRow : OpenClaim := { program := "ytajhahafgnefcaa", sum := "dd35a3016841b126083e023e0999406d14f5da15782a5cc85c7fba3820e4568c", func := "loop.example/g01304/laws.FnExactFirstCutOff", spec := "fnExactFirstCutOff", unfollowed := true, recurses := true, apart := false }
def FnExactFirstCutOffSaid : Prop := fnExactFirstCutOffRow.holds Try.pinned (OpenSpec.ofChange fnExactFirstCutOffSpec)

/-- ITS FALSE NEIGHBOUR: 'it returns false'. Refute it at one input. -/
def fnExactFirstCutOffWrong : ChangeSpec := { name := "fnExactFirstCutOff", fn := fun _ => fun
  | [d1, d2, d3] => { results := [.lit (.bool false)], args := [d1, d2, d3] }
  | _ => none }
def FnExactFirstCutOffWrongFalsely : Prop := fnExactFirstCutOffRow.holds Try.pinned (OpenSpec.ofChange fnExactFirstCutOffWrong)

/-- 'laws.FnExactFarthestAround': WHATEVER THE INPUT: true; the input reads as it did. -/
def fnExactFarthestAroundSpec : ChangeSpec := { name := "fnExactFarthestAround", fn := fun _ => fun
  | [d1, d2, d3] => { results := [.lit (.bool true)], args := [d1, d2, d3] }
  | _ => none }
def fnExactFarthestAroundRow : OpenClaim := { program := "ytajhahafgnefcaa", sum := "dd35a3016841b126083e023e0999406d14f5da15782a5cc85c7fba3820e4568c", func := "loop.example/g01304/laws.FnExactFarthestAround", spec := "fnExactFarthestAround", unfollowed := true, recurses := true, apart := false }
def FnExactFarthestAroundSaid : Prop := fnExactFarthestAroundRow.holds Try.pinned (OpenSpec.ofChange fnExactFarthestAroundSpec)

/-- ITS FALSE NEIGHBOUR: 'it returns false'. Refute it at one input. -/
def fnExactFarthestAroundWrong : ChangeSpec := { name := "fnExactFarthestAround", fn := fun _ => fun
  | [d1, d2, d3] => { results := [.lit (.bool false)], args := [d1, d2, d3] }
  | _ => none }
def FnExactFarthestAroundWrongFalsely : Prop := fnExactFarthestAroundRow.holds Try.pinned (OpenSpec.ofChange fnExactFarthestAroundWrong)

/-- 'laws.FnExactDetourOf': WHATEVER THE INPUT: true; the input reads as it did. -/
def fnExactDetourOfSpec : ChangeSpec := { name := "fnExactDetourOf", fn := fun _ => fun
  | [d1, d2, d3, d4] => { results := [.lit (.bool true)], args := [d1, d2, d3, d4] }
  | _ => none }
def fnExactDetourOfRow : OpenClaim := { program := "ytajhahafgnefcaa", sum := "dd35a3016841b126083e023e0999406d14f5da15782a5cc85c7fba3820e4568c", func := "loop.example/g01304/laws.FnExactDetourOf", spec := "fnExactDetourOf", unfollowed := true, recurses := true, apart := false }
def FnExactDetourOfSaid : Prop := fnExactDetourOfRow.holds Try.pinned (OpenSpec.ofChange fnExactDetourOfSpec)

/-- ITS FALSE NEIGHBOUR: 'it returns false'. Refute it at one input. -/
def fnExactDetourOfWrong : ChangeSpec := { name := "fnExactDetourOf", fn := fun _ => fun
  | [d1, d2, d3, d4] => { results := [.lit (.bool false)], args := [d1, d2, d3, d4] }
  | _ => none }
def FnExactDetourOfWrongFalsely : Prop := fnExactDetourOfRow.holds Try.pinned (OpenSpec.ofChange fnExactDetourOfWrong)

/-- 'laws.FnExactIsCutting': WHATEVER THE INPUT: true; the input reads as it did. -/
def fnExactIsCuttingSpec : ChangeSpec := { name := "fnExactIsCutting", fn := fun _ => fun
  | [d1, d2, d3] => { results := [.lit (.bool true)], args := [d1, d2, d3] }
  | _ => none }
def fnExactIsCuttingRow : OpenClaim := { program := "ytajhahafgnefcaa", sum := "dd35a3016841b126083e023e0999406d14f5da15782a5cc85c7fba3820e4568c", func := "loop.example/g01304/laws.FnExactIsCutting", spec := "fnExactIsCutting", unfollowed := true, recurses := true, apart := false }
def FnExactIsCuttingSaid : Prop := fnExactIsCuttingRow.holds Try.pinned (OpenSpec.ofChange fnExactIsCuttingSpec)

/-- ITS FALSE NEIGHBOUR: 'it returns false'. Refute it at one input. -/
def fnExactIsCuttingWrong : ChangeSpec := { name := "fnExactIsCutting", fn := fun _ => fun
  | [d1, d2, d3] => { results := [.lit (.bool false)], args := [d1, d2, d3] }
  | _ => none }
def FnExactIsCuttingWrongFalsely : Prop := fnExactIsCuttingRow.holds Try.pinned (OpenSpec.ofChange fnExactIsCuttingWrong)

/-- 'laws.FnExactFirstAround': WHATEVER THE INPUT: true; the input reads as it did. -/
def fnExactFirstAroundSpec : ChangeSpec := { name := "fnExactFirstAround", fn := fun _ => fun
  | [d1, d2, d3, d4] => { results := [.lit (.bool true)], args := [d1, d2, d3, d4] }
  | _ => none }
def fnExactFirstAroundRow : OpenClaim := { program := "ytajhahafgnefcaa", sum := "dd35a3016841b126083e023e0999406d14f5da15782a5cc85c7fba3820e4568c", func := "loop.example/g01304/laws.FnExactFirstAround", spec := "fnExactFirstAround", unfollowed := true, recurses := true, apart := false }
def FnExactFirstAroundSaid : Prop := fnExactFirstAroundRow.holds Try.pinned (OpenSpec.ofChange fnExactFirstAroundSpec)

/-- ITS FALSE NEIGHBOUR: 'it returns false'. Refute it at one input. -/
def fnExactFirstAroundWrong : ChangeSpec := { name := "fnExactFirstAround", fn := fun _ => fun
  | [d1, d2, d3, d4] => { results := [.lit (.bool false)], args := [d1, d2, d3, d4] }
  | _ => none }
def FnExactFirstAroundWrongFalsely : Prop := fnExactFirstAroundRow.holds Try.pinned (OpenSpec.ofChange fnExactFirstAroundWrong)

/- THE SECOND FORM. 'bulk': how many values and letters a reading holds, each counted each time it is reached (what is shared counts as often as it is met; a slice's spare places count too). A statement '..UptoSaid' is the law's where the arguments, and the package variables that the reading takes, are together of bulk at most 1048576: NARROWER than '..Said'. Prove '..Said' where nothing that the law and all that it calls make is longer than what came in: it says more and counts as full. Else prove '..UptoSaid'. A law counts once. -/
mutual
def uptoBulk {H : Type} : DataW H → Nat
  | .lit (.string bytes) => bytes.length + 1
  | .lit _ => 1
  | .nil => 1
  | .ptr d => uptoBulk d + 1
  | .slice elems spare => uptoBulkAll elems + uptoBulkAll spare + 1
  | .agg parts => uptoBulkAll parts + 1
  | .iface _ d => uptoBulk d + 1
  | .map entries => uptoBulkEntries entries + 1
  | .held _ => 1
def uptoBulkAll {H : Type} : List (DataW H) → Nat
  | [] => 0
  | d :: r => uptoBulk d + uptoBulkAll r
def uptoBulkEntries {H : Type} : List (Lit × DataW H) → Nat
  | [] => 0
  | x :: r => uptoBulkEntry x + uptoBulkEntries r
def uptoBulkEntry {H : Type} : Lit × DataW H → Nat
  | (.string bytes, d) => bytes.length + uptoBulk d + 1
  | (_, d) => uptoBulk d + 1
 end
def uptoSmall : (H : Type) → List (DataW H) → Bool := fun _ ds => decide (uptoBulkAll ds ≤ 1048576)
def OpenSpec.upto (s : _root_.Go.ChangeSpec) : _root_.Go.OpenSpec := { _root_.Go.OpenSpec.ofChange s with cond := some uptoSmall }

/-- 'laws.FnExactTurnThatMeets', WHERE WHAT IT READS IS OF BULK AT MOST 1048576: true; the input reads as it did. -/
def fnExactTurnThatMeetsUptoRow : OpenClaim := { program := "ytajhahafgnefcaa", sum := "dd35a3016841b126083e023e0999406d14f5da15782a5cc85c7fba3820e4568c", func := "loop.example/g01304/laws.FnExactTurnThatMeets", spec := "fnExactTurnThatMeets", unfollowed := true, recurses := true, apart := false, narrowed := true }
def FnExactTurnThatMeetsUptoSaid : Prop := fnExactTurnThatMeetsUptoRow.holds Try.pinned (OpenSpec.upto fnExactTurnThatMeetsSpec)

/-- 'laws.FnExactWalkAround', WHERE WHAT IT READS IS OF BULK AT MOST 1048576: true; the input reads as it did. -/
def fnExactWalkAroundUptoRow : OpenClaim := { program := "ytajhahafgnefcaa", sum := "dd35a3016841b126083e023e0999406d14f5da15782a5cc85c7fba3820e4568c", func := "loop.example/g01304/laws.FnExactWalkAround", spec := "fnExactWalkAround", unfollowed := true, recurses := true, apart := false, narrowed := true }
def FnExactWalkAroundUptoSaid : Prop := fnExactWalkAroundUptoRow.holds Try.pinned (OpenSpec.upto fnExactWalkAroundSpec)

/-- 'laws.FnExactFewestAround', WHERE WHAT IT READS IS OF BULK AT MOST 1048576: true; the input reads as it did. -/
def fnExactFewestAroundUptoRow : OpenClaim := { program := "ytajhahafgnefcaa", sum := "dd35a3016841b126083e023e0999406d14f5da15782a5cc85c7fba3820e4568c", func := "loop.example/g01304/laws.FnExactFewestAround", spec := "fnExactFewestAround", unfollowed := true, recurses := true, apart := false, narrowed := true }
def FnExactFewestAroundUptoSaid : Prop := fnExactFewestAroundUptoRow.holds Try.pinned (OpenSpec.upto fnExactFewestAroundSpec)

/-- 'laws.FnExactPartsOfLock', WHERE WHAT IT READS IS OF BULK AT MOST 1048576: true; the input reads as it did. -/
def fnExactPartsOfLockUptoRow : OpenClaim := { program := "ytajhahafgnefcaa", sum := "dd35a3016841b126083e023e0999406d14f5da15782a5cc85c7fba3820e4568c", func := "loop.example/g01304/laws.FnExactPartsOfLock", spec := "fnExactPartsOfLock", recurses := true, apart := false, narrowed := true }
def FnExactPartsOfLockUptoSaid : Prop := fnExactPartsOfLockUptoRow.holds Try.pinned (OpenSpec.upto fnExactPartsOfLockSpec)

/-- 'laws.FnExactCountReached', WHERE WHAT IT READS IS OF BULK AT MOST 1048576: true; the input reads as it did. -/
def fnExactCountReachedUptoRow : OpenClaim := { program := "ytajhahafgnefcaa", sum := "dd35a3016841b126083e023e0999406d14f5da15782a5cc85c7fba3820e4568c", func := "loop.example/g01304/laws.FnExactCountReached", spec := "fnExactCountReached", unfollowed := true, recurses := true, apart := false, narrowed := true }
def FnExactCountReachedUptoSaid : Prop := fnExactCountReachedUptoRow.holds Try.pinned (OpenSpec.upto fnExactCountReachedSpec)

/-- 'laws.FnExactCountAround', WHERE WHAT IT READS IS OF BULK AT MOST 1048576: true; the input reads as it did. -/
def fnExactCountAroundUptoRow : OpenClaim := { program := "ytajhahafgnefcaa", sum := "dd35a3016841b126083e023e0999406d14f5da15782a5cc85c7fba3820e4568c", func := "loop.example/g01304/laws.FnExactCountAround", spec := "fnExactCountAround", unfollowed := true, recurses := true, apart := false, narrowed := true }
def FnExactCountAroundUptoSaid : Prop := fnExactCountAroundUptoRow.holds Try.pinned (OpenSpec.upto fnExactCountAroundSpec)

/-- 'laws.FnExactCountCutOff', WHERE WHAT IT READS IS OF BULK AT MOST 1048576: true; the input reads as it did. -/
def fnExactCountCutOffUptoRow : OpenClaim := { program := "ytajhahafgnefcaa", sum := "dd35a3016841b126083e023e0999406d14f5da15782a5cc85c7fba3820e4568c", func := "loop.example/g01304/laws.FnExactCountCutOff", spec := "fnExactCountCutOff", unfollowed := true, recurses := true, apart := false, narrowed := true }
def FnExactCountCutOffUptoSaid : Prop := fnExactCountCutOffUptoRow.holds Try.pinned (OpenSpec.upto fnExactCountCutOffSpec)

/-- 'laws.FnExactFirstCutOff', WHERE WHAT IT READS IS OF BULK AT MOST 1048576: true; the input reads as it did. -/
def fnExactFirstCutOffUptoRow : OpenClaim := { program := "ytajhahafgnefcaa", sum := "dd35a3016841b126083e023e0999406d14f5da15782a5cc85c7fba3820e4568c", func := "loop.example/g01304/laws.FnExactFirstCutOff", spec := "fnExactFirstCutOff", unfollowed := true, recurses := true, apart := false, narrowed := true }
def FnExactFirstCutOffUptoSaid : Prop := fnExactFirstCutOffUptoRow.holds Try.pinned (OpenSpec.upto fnExactFirstCutOffSpec)

/-- 'laws.FnExactFarthestAround', WHERE WHAT IT READS IS OF BULK AT MOST 1048576: true; the input reads as it did. -/
def fnExactFarthestAroundUptoRow : OpenClaim := { program := "ytajhahafgnefcaa", sum := "dd35a3016841b126083e023e0999406d14f5da15782a5cc85c7fba3820e4568c", func := "loop.example/g01304/laws.FnExactFarthestAround", spec := "fnExactFarthestAround", unfollowed := true, recurses := true, apart := false, narrowed := true }
def FnExactFarthestAroundUptoSaid : Prop := fnExactFarthestAroundUptoRow.holds Try.pinned (OpenSpec.upto fnExactFarthestAroundSpec)

/-- 'laws.FnExactDetourOf', WHERE WHAT IT READS IS OF BULK AT MOST 1048576: true; the input reads as it did. -/
def fnExactDetourOfUptoRow : OpenClaim := { program := "ytajhahafgnefcaa", sum := "dd35a3016841b126083e023e0999406d14f5da15782a5cc85c7fba3820e4568c", func := "loop.example/g01304/laws.FnExactDetourOf", spec := "fnExactDetourOf", unfollowed := true, recurses := true, apart := false, narrowed := true }
def FnExactDetourOfUptoSaid : Prop := fnExactDetourOfUptoRow.holds Try.pinned (OpenSpec.upto fnExactDetourOfSpec)

/-- 'laws.FnExactIsCutting', WHERE WHAT IT READS IS OF BULK AT MOST 1048576: true; the input reads as it did. -/
def fnExactIsCuttingUptoRow : OpenClaim := { program := "ytajhahafgnefcaa", sum := "dd35a3016841b126083e023e0999406d14f5da15782a5cc85c7fba3820e4568c", func := "loop.example/g01304/laws.FnExactIsCutting", spec := "fnExactIsCutting", unfollowed := true, recurses := true, apart := false, narrowed := true }
def FnExactIsCuttingUptoSaid : Prop := fnExactIsCuttingUptoRow.holds Try.pinned (OpenSpec.upto fnExactIsCuttingSpec)

/-- 'laws.FnExactFirstAround', WHERE WHAT IT READS IS OF BULK AT MOST 1048576: true; the input reads as it did. -/
def fnExactFirstAroundUptoRow : OpenClaim := { program := "ytajhahafgnefcaa", sum := "dd35a3016841b126083e023e0999406d14f5da15782a5cc85c7fba3820e4568c", func := "loop.example/g01304/laws.FnExactFirstAround", spec := "fnExactFirstAround", unfollowed := true, recurses := true, apart := false, narrowed := true }
def FnExactFirstAroundUptoSaid : Prop := fnExactFirstAroundUptoRow.holds Try.pinned (OpenSpec.upto fnExactFirstAroundSpec)

end Rows
end Go.Proofs.Ytajhahafgnefcaa
