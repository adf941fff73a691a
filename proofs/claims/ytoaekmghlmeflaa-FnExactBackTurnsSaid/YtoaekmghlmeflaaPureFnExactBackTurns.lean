/- FnExactBackTurns' plain law: the program's BackTurns and the reference's answer alike at every lock and list of turns, twice; the argument and the first answer stay. -/
import Derived.Test.YtoaekmghlmeflaaLFnExactBackTurns
import Derived.Test.YtoaekmghlmeflaaB0
import Derived.Test.YtoaekmghlmeflaaB12
namespace Go.Proofs.Ytoaekmghlmeflaa.Pure
open Go.RowKit Go.Proofs.YtoaekmghlmeflaaW.PrintWords Go.Proofs.YtoaekmghlmeflaaW.PrintMore Go.Proofs.Ytoaekmghlmeflaa.M Go.Proofs.Ytoaekmghlmeflaa.L Go.Proofs.Ytoaekmghlmeflaa.B
set_option linter.unusedVariables false
set_option linter.unusedSimpArgs false
theorem FnExactBackTurns (W D : Int) (l : List S69) (hl : l.length ≤ 9223372036854775807 ∧ ∀ x ∈ l, (Lit.int .i64 x.f0).wf = true ∧ (Lit.int .i64 x.f1).wf = true) : ∃ k, laws_FnExactBackTurns.f k W D l = some true := by
  refine Ev.rounds (r := true) ?_
  unfold laws_FnExactBackTurns.f
  obtain ⟨r, hr, hr2⟩ := szTurnS_f l hl.1
  refine Ev.bind0 hr ?_
  by_cases h0 : r < 0
  · exact Ev.pos h0 (Ev.now _)
  have h1 : l.length ≤ 1048576 := by omega
  have to_ := toTurnS_ev l h1
  have hm : (l.map toT).length ≤ 1048576 := by simpa using h1
  have es := BackTurns_s W D (l.map toT) hm
  have ei := BackTurns_i W D (l.map toT) hm
  have hlen := BackTurnsM_len W D (l.map toT)
  generalize BackTurnsM W D (l.map toT) = r2 at es ei hlen
  obtain ⟨m1, m2⟩ := markTurnS_ev r2.1 (by omega)
  obtain ⟨q1, q2⟩ := markTurnS_ev (l.map toT) (by omega)
  have eq1 := eqTurnS_ev r2.1 (by omega)
  have eq2 := eqTurnS_ev (l.map toT) (by omega)
  refine Ev.neg h0 (Ev.bind0 rfl (Ev.bind to_ (Ev.bind es (Ev.bind to_ (Ev.bind0 rfl (Ev.bind ei (Ev.bind eq1 (Ev.pos rfl (Ev.succ ?_)))))))))
  simp only [laws_FnExactBackTurns.j0]
  refine Ev.neg (by simp) (Ev.bind to_ (Ev.bind eq2 (Ev.pos rfl (Ev.bind q1 (Ev.neg (by omega) (Ev.bind eq1 (Ev.pos rfl (Ev.succ ?_))))))))
  simp only [laws_FnExactBackTurns.j1]
  refine Ev.neg (by simp) (Ev.bind m1 (Ev.bind m2 (Ev.neg (by omega) (Ev.pos rfl (Ev.bind0 rfl (Ev.bind to_ (Ev.bind ei (Ev.bind eq1 (Ev.pos rfl (Ev.succ ?_))))))))))
  simp only [laws_FnExactBackTurns.j2]
  exact Ev.neg (by simp) (Ev.bind m2 (Ev.neg (by omega) (Ev.pos rfl (Ev.now _))))
end Go.Proofs.Ytoaekmghlmeflaa.Pure
