/- FnExactTurnWheel's plain law: the program's TurnWheel and the reference's answer alike at every lock, text and turn. -/
import Derived.Test.YtoaekmghlmeflaaLFnExactTurnWheel
import Derived.Test.YtoaekmghlmeflaaQ22
namespace Go.Proofs.Ytoaekmghlmeflaa.Pure
open Go.RowKit Go.Proofs.YtoaekmghlmeflaaW.PrintWords Go.Proofs.YtoaekmghlmeflaaW.PrintMore Go.Proofs.Ytoaekmghlmeflaa.M Go.Proofs.Ytoaekmghlmeflaa.L Go.Proofs.Ytoaekmghlmeflaa.Q
set_option linter.unusedVariables false
set_option linter.unusedSimpArgs false
theorem FnExactTurnWheel (W D : Int) (s : ByteArray) (_ : s.size ≤ 140737488351232) (i b : Int) : ∃ k, laws_FnExactTurnWheel.f k W D s i b = some true := by
  refine Ev.rounds (r := true) ?_
  unfold laws_FnExactTurnWheel.f
  by_cases h : (s.size : Int) > 1048576
  · exact Ev.pos h (Ev.now _)
  refine Ev.neg h (Ev.bind0 rfl (Ev.bind0 rfl (Ev.bind (TurnWheel_s W D s i b (by omega)) (Ev.bind0 rfl (Ev.bind0 rfl (Ev.bind (TurnWheel_i W D s i b (by omega)) ?_))))))
  exact Ev.pos rfl (Ev.neg (by simp) (Ev.now _))
end Go.Proofs.Ytoaekmghlmeflaa.Pure
