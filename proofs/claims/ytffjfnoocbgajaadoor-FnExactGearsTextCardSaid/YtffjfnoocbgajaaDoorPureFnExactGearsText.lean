/- FnExactGearsText's plain law: the program's GearsText and the reference's answer alike at all gears, which stay. -/
import Derived.Test.YtffjfnoocbgajaaDoorLFnExactGearsText
import Derived.Test.YtffjfnoocbgajaaDoorG20
namespace Go.Proofs.YtffjfnoocbgajaaDoor.Pure
open Go.RowKit Go.Proofs.YtffjfnoocbgajaaDoorW.PrintWords Go.Proofs.YtffjfnoocbgajaaDoorW.PrintMore Go.Proofs.YtffjfnoocbgajaaDoor.M Go.Proofs.YtffjfnoocbgajaaDoor.L Go.Proofs.YtffjfnoocbgajaaDoor.G
set_option linter.unusedVariables false
set_option linter.unusedSimpArgs false
theorem FnExactGearsText (W D : Int) (ks : List (List Int)) (hq : ks.length ≤ 9223372036854775807 ∧ ∀ x ∈ ks, x.length ≤ 9223372036854775807 ∧ ∀ y ∈ x, (Lit.int .i64 y).wf = true) : ∃ k, laws_FnExactGearsText.f k W D ks = some true := by
  refine Ev.rounds (r := true) ?_
  unfold laws_FnExactGearsText.f
  obtain ⟨r, hr, hr2⟩ := szGears_ev W D ks hq.1 (fun s h => (hq.2 s h).1)
  refine Ev.bind hr ?_
  by_cases h0 : r < 0
  · exact Ev.pos h0 (Ev.now _)
  obtain ⟨h1, h2⟩ := hr2.resolve_left h0
  refine Ev.neg h0 (Ev.bind (toGears_ev W D ks h1 h2) (Ev.bind (GearsText_s W D ks h1 h2) (Ev.bind (toGears_ev W D ks h1 h2) (Ev.bind (GearsText_i W D ks h1 h2) (Ev.pos rfl (Ev.succ ?_))))))
  simp only [laws_FnExactGearsText.j0]
  exact Ev.neg (by simp) (Ev.bind (toGears_ev W D ks h1 h2) (Ev.bind (eqGears_ev W D ks h1 h2) (Ev.pos rfl (Ev.now _))))
end Go.Proofs.YtffjfnoocbgajaaDoor.Pure
