/- FnExactIsLock's plain law: the program's IsLock and the reference's answer alike at every lock. -/
import Derived.Test.YtadohjdbkalilaaMath
import Derived.Test.YtadohjdbkalilaaWhl1
import Derived.Test.YtadohjdbkalilaaQ1
namespace Go.Proofs.Ytadohjdbkalilaa.Pure
open Go.RowKit Go.Proofs.YtadohjdbkalilaaW.PrintWords Go.Proofs.YtadohjdbkalilaaW.PrintMore Go.Proofs.Ytadohjdbkalilaa.M Go.Proofs.Ytadohjdbkalilaa.L Go.Proofs.Ytadohjdbkalilaa.Q
set_option linter.unusedVariables false
set_option linter.unusedSimpArgs false
theorem FnExactIsLock (W D : Int) : laws_FnExactIsLock.f W D = some true := by
  simp only [laws_FnExactIsLock.f, laws_toLock.f, IsLock_s, IsLock_i, Option.bind_some, bne_self', if_false, Bool.false_eq_true]
end Go.Proofs.Ytadohjdbkalilaa.Pure
