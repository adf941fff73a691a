/- FnExactCodeOfNumber's plain law: the program's CodeOfNumber and the reference's answer alike at every lock and number. -/
import Derived.Test.YtadohjdbkalilaaLFnExactCodeOfNumber
import Derived.Test.YtadohjdbkalilaaR10
namespace Go.Proofs.Ytadohjdbkalilaa.Pure
open Go.RowKit Go.Proofs.YtadohjdbkalilaaW.PrintWords Go.Proofs.YtadohjdbkalilaaW.PrintMore Go.Proofs.Ytadohjdbkalilaa.M Go.Proofs.Ytadohjdbkalilaa.L Go.Proofs.Ytadohjdbkalilaa.R
set_option linter.unusedVariables false
set_option linter.unusedSimpArgs false
theorem FnExactCodeOfNumber (W D n : Int) : ∃ k, laws_FnExactCodeOfNumber.f k W D n = some true := by
  refine Ev.rounds (r := true) ?_
  unfold laws_FnExactCodeOfNumber.f
  refine Ev.bind0 rfl (Ev.bind (CodeOfNumber_s W D n) (Ev.bind0 rfl (Ev.bind (CodeOfNumber_i W D n) ?_)))
  exact Ev.pos rfl (Ev.neg (by simp) (Ev.now _))
end Go.Proofs.Ytadohjdbkalilaa.Pure
