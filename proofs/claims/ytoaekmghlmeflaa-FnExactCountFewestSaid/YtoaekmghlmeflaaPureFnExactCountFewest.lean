/- FnExactCountFewest's plain law: the program's CountFewest and the reference's answer alike at every lock and two texts. -/
import Derived.Test.YtoaekmghlmeflaaLFnExactCountFewest
import Derived.Test.YtoaekmghlmeflaaQ11
namespace Go.Proofs.Ytoaekmghlmeflaa.Pure
open Go.RowKit Go.Proofs.YtoaekmghlmeflaaW.PrintWords Go.Proofs.YtoaekmghlmeflaaW.PrintMore Go.Proofs.Ytoaekmghlmeflaa.M Go.Proofs.Ytoaekmghlmeflaa.L Go.Proofs.Ytoaekmghlmeflaa.Q
set_option linter.unusedVariables false
set_option linter.unusedSimpArgs false
theorem FnExactCountFewest (W D : Int) (s : ByteArray) (_ : s.size ≤ 140737488351232) (t : ByteArray) (_ : t.size ≤ 140737488351232) : ∃ k, laws_FnExactCountFewest.f k W D s t = some true := by
  refine Ev.rounds (r := true) ?_
  unfold laws_FnExactCountFewest.f
  by_cases h : (s.size : Int) > 1048576
  · exact Ev.pos h (Ev.now _)
  by_cases h2 : (t.size : Int) > 1048576
  · exact Ev.neg h (Ev.pos h2 (Ev.now _))
  refine Ev.neg h (Ev.neg h2 (Ev.bind0 rfl (Ev.bind (CountFewest_s W D s t (by omega) (by omega)) (Ev.bind0 rfl (Ev.bind (CountFewest_i W D s t (by omega) (by omega)) ?_)))))
  exact Ev.pos rfl (Ev.neg (by simp) (Ev.now _))
end Go.Proofs.Ytoaekmghlmeflaa.Pure
