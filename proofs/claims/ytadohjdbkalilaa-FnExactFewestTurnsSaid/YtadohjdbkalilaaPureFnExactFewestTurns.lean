/- FnExactFewestTurns's plain law: the program's FewestTurns and the reference's answer alike at every lock and two texts. -/
import Derived.Test.YtadohjdbkalilaaMath
import Derived.Test.YtadohjdbkalilaaWhl1
import Derived.Test.YtadohjdbkalilaaWhl2
import Derived.Test.YtadohjdbkalilaaWhl3
import Derived.Test.YtadohjdbkalilaaWhl4
import Derived.Test.YtadohjdbkalilaaWhl5
import Derived.Test.YtadohjdbkalilaaQ8
namespace Go.Proofs.Ytadohjdbkalilaa.Pure
open Go.RowKit Go.Proofs.YtadohjdbkalilaaW.PrintWords Go.Proofs.YtadohjdbkalilaaW.PrintMore Go.Proofs.Ytadohjdbkalilaa.M Go.Proofs.Ytadohjdbkalilaa.L Go.Proofs.Ytadohjdbkalilaa.Q
set_option linter.unusedVariables false
set_option linter.unusedSimpArgs false
theorem FnExactFewestTurns (W D : Int) (s : ByteArray) (_ : s.size ≤ 140737488351232) (t : ByteArray) (_ : t.size ≤ 140737488351232) : ∃ k, laws_FnExactFewestTurns.f k W D s t = some true := by
  refine Ev.rounds (r := true) ?_
  unfold laws_FnExactFewestTurns.f
  by_cases h : (s.size : Int) > 1048576
  · exact Ev.pos h (Ev.now _)
  by_cases h2 : (t.size : Int) > 1048576
  · exact Ev.neg h (Ev.pos h2 (Ev.now _))
  refine Ev.neg h (Ev.neg h2 (Ev.bind0 rfl (Ev.bind (FewestTurns_s W D s t (by omega) (by omega)) (Ev.bind0 rfl (Ev.bind (FewestTurns_i W D s t (by omega) (by omega)) ?_)))))
  exact Ev.pos rfl (Ev.neg (by simp) (Ev.now _))
end Go.Proofs.Ytadohjdbkalilaa.Pure
