/- FnExactCountCodes' plain law: the program's CountCodes and the reference's answer alike at every lock. -/
import Derived.Test.YtadohjdbkalilaaMath
import Derived.Test.YtadohjdbkalilaaWhl1
import Derived.Test.YtadohjdbkalilaaQ1
namespace Go.Proofs.Ytadohjdbkalilaa.Pure
open Go.RowKit Go.Proofs.YtadohjdbkalilaaW.PrintWords Go.Proofs.YtadohjdbkalilaaW.PrintMore Go.Proofs.Ytadohjdbkalilaa.M Go.Proofs.Ytadohjdbkalilaa.L Go.Proofs.Ytadohjdbkalilaa.Q
set_option linter.unusedVariables false
set_option linter.unusedSimpArgs false
theorem FnExactCountCodes (W D : Int) : ∃ k, laws_FnExactCountCodes.f k W D = some true := by
  refine Ev.rounds (r := true) ?_
  unfold laws_FnExactCountCodes.f
  refine Ev.bind0 rfl (Ev.bind (CountCodes_s W D) (Ev.bind0 rfl (Ev.bind (CountCodes_i W D) ?_)))
  exact Ev.pos rfl (Ev.neg (by simp) (Ev.now _))
end Go.Proofs.Ytadohjdbkalilaa.Pure
