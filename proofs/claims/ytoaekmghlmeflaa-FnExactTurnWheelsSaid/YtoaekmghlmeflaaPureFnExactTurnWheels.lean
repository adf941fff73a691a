/- FnExactTurnWheels' plain law: the program's TurnWheels and the reference's answer alike at every lock, text and list of turns. -/
import Derived.Test.YtoaekmghlmeflaaLFnExactTurnWheels
import Derived.Test.YtoaekmghlmeflaaQ0
import Derived.Test.YtoaekmghlmeflaaQ28
namespace Go.Proofs.Ytoaekmghlmeflaa.Pure
open Go.RowKit Go.Proofs.YtoaekmghlmeflaaW.PrintWords Go.Proofs.YtoaekmghlmeflaaW.PrintMore Go.Proofs.Ytoaekmghlmeflaa.M Go.Proofs.Ytoaekmghlmeflaa.L Go.Proofs.Ytoaekmghlmeflaa.Q
set_option linter.unusedVariables false
set_option linter.unusedSimpArgs false
theorem FnExactTurnWheels (W D : Int) (s : ByteArray) (_ : s.size ≤ 140737488351232) (l : List S69) (hl : l.length ≤ 9223372036854775807 ∧ ∀ x ∈ l, (Lit.int .i64 x.f0).wf = true ∧ (Lit.int .i64 x.f1).wf = true) : ∃ k, laws_FnExactTurnWheels.f k W D s l = some true := by
  refine Ev.rounds (r := true) ?_
  unfold laws_FnExactTurnWheels.f
  by_cases h : (s.size : Int) > 1048576
  · exact Ev.pos h (Ev.now _)
  obtain ⟨r, hr, hr2⟩ := szTurnS_f l hl.1
  refine Ev.neg h (Ev.bind0 hr ?_)
  by_cases h0 : r < 0
  · exact Ev.pos h0 (Ev.now _)
  have h1 : l.length ≤ 1048576 := by omega
  refine Ev.neg h0 (Ev.bind0 rfl (Ev.bind (toTurnS_ev l h1) (Ev.bind (TurnWheels_s W D s _ (by omega) (by simpa using h1)) (Ev.bind (toTurnS_ev l h1) (Ev.bind0 rfl (Ev.bind (TurnWheels_i W D s _ (by omega) (by simpa using h1)) ?_))))))
  refine Ev.pos rfl (Ev.succ ?_)
  simp only [laws_FnExactTurnWheels.j0]
  exact Ev.neg (by simp) (Ev.bind (toTurnS_ev l h1) (Ev.bind (eqTurnS_ev _ (by simp; omega)) (Ev.pos rfl (Ev.now _))))
end Go.Proofs.Ytoaekmghlmeflaa.Pure
