/- FnExactFirstTurns' plain law: the program's FirstTurns and the reference's answer alike at every lock and codes. -/
import Derived.Test.YtoaekmghlmeflaaLFnExactFirstTurns
import Derived.Test.YtoaekmghlmeflaaQ15
namespace Go.Proofs.Ytoaekmghlmeflaa.Pure
open Go.RowKit Go.Proofs.YtoaekmghlmeflaaW.PrintWords Go.Proofs.YtoaekmghlmeflaaW.PrintMore Go.Proofs.Ytoaekmghlmeflaa.M Go.Proofs.Ytoaekmghlmeflaa.L Go.Proofs.Ytoaekmghlmeflaa.Q
set_option linter.unusedVariables false
set_option linter.unusedSimpArgs false
theorem FnExactFirstTurns (W D : Int) (s : ByteArray) (_ : s.size ≤ 140737488351232) (t : ByteArray) (_ : t.size ≤ 140737488351232) : ∃ k, laws_FnExactFirstTurns.f k W D s t = some true := by
  refine Ev.rounds (r := true) ?_
  unfold laws_FnExactFirstTurns.f
  by_cases hs : (s.size : Int) > 1048576
  · exact Ev.pos hs (Ev.now _)
  refine Ev.neg hs ?_
  by_cases ht : (t.size : Int) > 1048576
  · exact Ev.pos ht (Ev.now _)
  have hlen := FirstTurns_len W D s t
  obtain ⟨m1, m2⟩ := markTurnS_ev (FirstTurnsM W D s t).1 (by omega)
  have fi := FirstTurns_i W D s t (by omega) (by omega)
  refine Ev.neg ht (Ev.bind0 rfl (Ev.bind (FirstTurns_s W D s t (by omega) (by omega)) (Ev.bind0 rfl (Ev.bind fi (Ev.bind (eqTurnS_ev _ (by omega)) (Ev.pos rfl (Ev.succ ?_)))))))
  simp only [laws_FnExactFirstTurns.j0]
  refine Ev.neg (by simp) (Ev.bind m1 (Ev.bind m2 (Ev.neg (by omega) (Ev.pos rfl (Ev.bind0 rfl (Ev.bind fi (Ev.bind (eqTurnS_ev _ (by omega)) (Ev.pos rfl (Ev.succ ?_)))))))))
  simp only [laws_FnExactFirstTurns.j1]
  exact Ev.neg (by simp) (Ev.bind m2 (Ev.neg (by omega) (Ev.pos rfl (Ev.now _))))
end Go.Proofs.Ytoaekmghlmeflaa.Pure
