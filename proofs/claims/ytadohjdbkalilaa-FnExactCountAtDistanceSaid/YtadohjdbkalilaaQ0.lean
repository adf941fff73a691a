-- Written by a program of this session (p2.sh: a patched copy of the kit's printer) out of the translation; not by print.sh. Lean checks it.
import Derived.Test.YtadohjdbkalilaaProg
import Derived.Below
import Derived.Deep.Draws
import Derived.Deep.AppendLies
import Derived.Maps.AppendAt
import Derived.OwnWalk
import Derived.Laws.BytesArg
import Derived.Laws.MakeOwn
import Derived.Laws.OwnMore
import Derived.Deep.OwnRows
import Derived.Tactics
import Derived.Lib.ConvBytes
import Derived.Laws.Slices
import Derived.WalkKit
import Derived.KernelRfl
import Derived.RowKit3
import Derived.Deep.LoopGhost
import Derived.Deep.QuietTactic
import Derived.BigQuiet
import Derived.WideLaws
import Derived.Deep.DeepCutAuto
import Derived.Deep.CutBlock
import Derived.Deep.RegionHeld3
import Derived.Laws.Rows
import Derived.Lib.AppendStr
import Derived.ArgAppend
import Derived.Laws.IdiomCopy
import Derived.OrdersHeld
import Derived.Laws.BitsLemmas
import Derived.RowKit
import Derived.Test.YtadohjdbkalilaaWWords
import Derived.Test.YtadohjdbkalilaaWLast
import Derived.Test.YtadohjdbkalilaaWTab
import Derived.Test.YtadohjdbkalilaaWFour
import Derived.Test.YtadohjdbkalilaaWQPut
import Derived.Test.YtadohjdbkalilaaWApart
import Derived.Test.YtadohjdbkalilaaWArr
import Derived.Test.YtadohjdbkalilaaWZeros
import Derived.Test.YtadohjdbkalilaaWFoot
import Derived.Test.YtadohjdbkalilaaWKept
import Derived.Test.YtadohjdbkalilaaWShare
import Derived.Test.YtadohjdbkalilaaWN
import Derived.Test.YtadohjdbkalilaaWFootNe
import Derived.Test.YtadohjdbkalilaaWAt
import Derived.Test.YtadohjdbkalilaaWEqStruct
import Derived.Test.YtadohjdbkalilaaWRepsOne
import Derived.Test.YtadohjdbkalilaaWInv
import Derived.Test.YtadohjdbkalilaaWInvWords
import Derived.Test.YtadohjdbkalilaaWGuard
import Derived.Test.YtadohjdbkalilaaWNEv
import Derived.Test.YtadohjdbkalilaaWMore
namespace Go.Proofs.Ytadohjdbkalilaa.Q
open Go.RowKit Go.Proofs.YtadohjdbkalilaaW.PrintWords Go.Proofs.YtadohjdbkalilaaW.PrintLast Go.Proofs.YtadohjdbkalilaaW.PrintMore
attribute [local go_sem] max2_int min2_int max_two min_two max_three min_three max_four min_four   -- for this text's walks alone
set_option linter.unusedVariables false
set_option linter.unusedSimpArgs false



def errW : Option Int → Value
  | none => .nilIface
  | some c => .iface 0 (.int .i64 c)
theorem errW_none : errW none = .nilIface := rfl
theorem errW_some (c : Int) : errW (some c) = .iface 0 (.int .i64 c) := rfl

theorem info3 : (Try.prog.info? 3).map (fun i => (i.zero, i.size, i.bytes)) = some (some (.int .i64 0), 1, 8) := by kernel_rfl
theorem info5 : (Try.prog.info? 5).map (fun i => (i.zero, i.size, i.bytes)) = some (some (.int .u8 0), 1, 1) := by kernel_rfl
theorem info9 : (Try.prog.info? 9).map (fun i => (i.zero, i.size, i.bytes)) = some (some (.string ⟨#[]⟩), 1, 16) := by kernel_rfl
-- the values' own types

end Go.Proofs.Ytadohjdbkalilaa.Q
