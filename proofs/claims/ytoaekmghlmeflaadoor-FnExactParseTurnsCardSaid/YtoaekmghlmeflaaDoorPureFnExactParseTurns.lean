/- FnExactParseTurns' plain law: the program's ParseTurns and the reference's answer alike at every text, twice, and the first answer stays as it was marked. -/
import Derived.Test.YtoaekmghlmeflaaDoorLFnExactParseTurns
import Derived.Test.YtoaekmghlmeflaaDoorT18
namespace Go.Proofs.YtoaekmghlmeflaaDoor.Pure
open Go.RowKit Go.Proofs.YtoaekmghlmeflaaDoorW.PrintWords Go.Proofs.YtoaekmghlmeflaaDoorW.PrintMore Go.Proofs.YtoaekmghlmeflaaDoor.M Go.Proofs.YtoaekmghlmeflaaDoor.L Go.Proofs.YtoaekmghlmeflaaDoor.T
set_option linter.unusedVariables false
set_option linter.unusedSimpArgs false
theorem FnExactParseTurns (s : ByteArray) (_ : s.size ≤ 140737488351232) : ∃ k, laws_FnExactParseTurns.f k s = some true := by
  refine Ev.rounds (r := true) ?_
  unfold laws_FnExactParseTurns.f
  by_cases hs : (s.size : Int) > 1048576
  · exact Ev.pos hs (Ev.now _)
  have hlen := ParseTurnsM_len s
  have es := ParseTurns_s s (by omega)
  have fi := ParseTurns_i s (by omega)
  generalize ParseTurnsM s = r at hlen es fi
  obtain ⟨m1, m2⟩ := markTurnS_ev r.1 (by omega)
  have eq1 := eqTurnS_ev r.1 (by omega)
  refine Ev.neg hs (Ev.bind es (Ev.bind fi (Ev.bind eq1 (Ev.pos rfl (Ev.succ ?_)))))
  simp only [laws_FnExactParseTurns.j0]
  refine Ev.neg (by simp) (Ev.bind m1 (Ev.bind m2 (Ev.neg (by omega) (Ev.pos rfl (Ev.bind fi (Ev.bind eq1 (Ev.pos rfl (Ev.succ ?_))))))))
  simp only [laws_FnExactParseTurns.j1]
  exact Ev.neg (by simp) (Ev.bind m2 (Ev.neg (by omega) (Ev.pos rfl (Ev.now _))))
end Go.Proofs.YtoaekmghlmeflaaDoor.Pure
