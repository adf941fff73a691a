/- FnExactOppositeCode's plain law: the program's OppositeCode and the reference's answer alike at every lock and text. -/
import Derived.Test.YtadohjdbkalilaaMath
import Derived.Test.YtadohjdbkalilaaWhl1
import Derived.Test.YtadohjdbkalilaaWhl2
import Derived.Test.YtadohjdbkalilaaWhl3
import Derived.Test.YtadohjdbkalilaaWhl4
import Derived.Test.YtadohjdbkalilaaWhl5
import Derived.Test.YtadohjdbkalilaaQ9
namespace Go.Proofs.Ytadohjdbkalilaa.Pure
open Go.RowKit Go.Proofs.YtadohjdbkalilaaW.PrintWords Go.Proofs.YtadohjdbkalilaaW.PrintMore Go.Proofs.Ytadohjdbkalilaa.M Go.Proofs.Ytadohjdbkalilaa.L Go.Proofs.Ytadohjdbkalilaa.Q
set_option linter.unusedVariables false
set_option linter.unusedSimpArgs false
theorem FnExactOppositeCode (W D : Int) (s : ByteArray) (_ : s.size ≤ 140737488351232) : ∃ k, laws_FnExactOppositeCode.f k W D s = some true := by
  refine Ev.rounds (r := true) ?_
  unfold laws_FnExactOppositeCode.f
  by_cases h : (s.size : Int) > 1048576
  · exact Ev.pos h (Ev.now _)
  refine Ev.neg h (Ev.bind0 rfl (Ev.bind (OppositeCode_s W D s (by omega)) (Ev.bind0 rfl (Ev.bind (OppositeCode_i W D s (by omega)) ?_))))
  exact Ev.pos rfl (Ev.neg (by simp) (Ev.now _))
end Go.Proofs.Ytadohjdbkalilaa.Pure
