/- FnExactConstants' plain law: every constant of the program is the reference's. -/
import Derived.Test.YtadohjdbkalilaaPFnExactConstantsx1
namespace Go.Proofs.Ytadohjdbkalilaa.Pure
open Go.RowKit Go.Proofs.Ytadohjdbkalilaa.PFnExactConstants Go.Proofs.YtadohjdbkalilaaW.PrintWords Go.Proofs.YtadohjdbkalilaaW.PrintLast

theorem FnExactConstants : laws_FnExactConstants.Pure := rfl

end Go.Proofs.Ytadohjdbkalilaa.Pure
