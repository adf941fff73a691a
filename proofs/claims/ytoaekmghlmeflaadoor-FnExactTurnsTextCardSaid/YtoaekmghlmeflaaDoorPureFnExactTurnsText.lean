/- FnExactTurnsText's plain law: the program's TurnsText and the reference's answer alike at every list of turns, which stays. -/
import Derived.Test.YtoaekmghlmeflaaDoorLFnExactTurnsText
import Derived.Test.YtoaekmghlmeflaaDoorT0
import Derived.Test.YtoaekmghlmeflaaDoorT12
namespace Go.Proofs.YtoaekmghlmeflaaDoor.Pure
open Go.RowKit Go.Proofs.YtoaekmghlmeflaaDoorW.PrintWords Go.Proofs.YtoaekmghlmeflaaDoorW.PrintMore Go.Proofs.YtoaekmghlmeflaaDoor.M Go.Proofs.YtoaekmghlmeflaaDoor.L Go.Proofs.YtoaekmghlmeflaaDoor.T
set_option linter.unusedVariables false
set_option linter.unusedSimpArgs false
theorem FnExactTurnsText (l : List S43) (hl : l.length ≤ 9223372036854775807 ∧ ∀ x ∈ l, (Lit.int .i64 x.f0).wf = true ∧ (Lit.int .i64 x.f1).wf = true) : ∃ k, laws_FnExactTurnsText.f k l = some true := by
  refine Ev.rounds (r := true) ?_
  unfold laws_FnExactTurnsText.f
  obtain ⟨r, hr, hr2⟩ := szTurnS_f l hl.1
  refine Ev.bind0 hr ?_
  by_cases h0 : r < 0
  · exact Ev.pos h0 (Ev.now _)
  have h1 : l.length ≤ 1048576 := by omega
  have tq := toTurnS_ev l h1
  have hm : (l.map toT).length ≤ 1048576 := by simpa using h1
  refine Ev.neg h0 (Ev.bind tq (Ev.bind (TurnsText_s _ hm) (Ev.bind tq (Ev.bind (TurnsText_i _ hm) (Ev.pos rfl (Ev.succ ?_))))))
  simp only [laws_FnExactTurnsText.j0]
  exact Ev.neg (by simp) (Ev.bind tq (Ev.bind (eqTurnS_ev _ (by omega)) (Ev.pos rfl (Ev.now _))))
end Go.Proofs.YtoaekmghlmeflaaDoor.Pure
