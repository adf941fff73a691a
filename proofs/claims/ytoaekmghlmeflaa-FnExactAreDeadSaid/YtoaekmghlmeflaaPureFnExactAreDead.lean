/- FnExactAreDead's plain law: the program's AreDead and the reference's answer alike at every lock and list of texts. -/
import Derived.Test.YtoaekmghlmeflaaLFnExactAreDead
import Derived.Test.YtoaekmghlmeflaaQ43
namespace Go.Proofs.Ytoaekmghlmeflaa.Pure
open Go.RowKit Go.Proofs.YtoaekmghlmeflaaW.PrintWords Go.Proofs.YtoaekmghlmeflaaW.PrintMore Go.Proofs.Ytoaekmghlmeflaa.M Go.Proofs.Ytoaekmghlmeflaa.L Go.Proofs.Ytoaekmghlmeflaa.Q
set_option linter.unusedVariables false
set_option linter.unusedSimpArgs false
theorem FnExactAreDead (W D : Int) (l : List ByteArray) (hl : l.length ≤ 9223372036854775807 ∧ ∀ x ∈ l, x.size ≤ 9223372036854775807) : ∃ k, laws_FnExactAreDead.f k W D l = some true := by
  refine Ev.rounds (r := true) ?_
  unfold laws_FnExactAreDead.f
  obtain ⟨r, hr, hr2⟩ := szStringS_ev l hl.1 hl.2
  refine Ev.bind hr ?_
  by_cases h0 : r < 0
  · exact Ev.pos h0 (Ev.now _)
  obtain ⟨h1, h2⟩ : l.length ≤ 1048576 ∧ ∀ s ∈ l, s.size ≤ 1048576 := hr2.resolve_left h0
  refine Ev.neg h0 (Ev.bind0 rfl (Ev.bind (toStringS_ev l h1) (Ev.bind (AreDead_s W D l h1 h2) (Ev.bind (toStringS_ev l h1) (Ev.bind0 rfl (Ev.bind (AreDead_i W D l h1 h2) ?_))))))
  refine Ev.neg (by simp) (Ev.succ ?_)
  simp only [laws_FnExactAreDead.j0]
  exact Ev.neg (by simp) (Ev.bind (toStringS_ev l h1) (Ev.bind (eqStringS_ev l (by omega)) (Ev.pos rfl (Ev.now _))))
end Go.Proofs.Ytoaekmghlmeflaa.Pure
