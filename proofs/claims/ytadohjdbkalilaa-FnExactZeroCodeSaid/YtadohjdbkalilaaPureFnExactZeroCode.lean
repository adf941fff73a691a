/- FnExactZeroCode's plain law: the program's ZeroCode and the reference's answer alike at every lock. -/
import Derived.Test.YtadohjdbkalilaaLFnExactZeroCode
import Derived.Test.YtadohjdbkalilaaR6
namespace Go.Proofs.Ytadohjdbkalilaa.Pure
open Go.RowKit Go.Proofs.YtadohjdbkalilaaW.PrintWords Go.Proofs.YtadohjdbkalilaaW.PrintMore Go.Proofs.Ytadohjdbkalilaa.M Go.Proofs.Ytadohjdbkalilaa.L Go.Proofs.Ytadohjdbkalilaa.R
set_option linter.unusedVariables false
set_option linter.unusedSimpArgs false
theorem FnExactZeroCode (W D : Int) : ∃ k, laws_FnExactZeroCode.f k W D = some true := by
  refine Ev.rounds (r := true) ?_
  unfold laws_FnExactZeroCode.f
  refine Ev.bind0 rfl (Ev.bind (ZeroCode_s W D) (Ev.bind0 rfl (Ev.bind (ZeroCode_i W D) ?_)))
  exact Ev.pos rfl (Ev.neg (by simp) (Ev.now _))
end Go.Proofs.Ytadohjdbkalilaa.Pure
