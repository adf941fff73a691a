/- FnExactCountClasses's plain law: the program's CountClasses and the reference's answer alike at all gears. -/
import Derived.Test.YtffjfnoocbgajaaLFnExactCountClasses
import Derived.Test.YtffjfnoocbgajaaR34
namespace Go.Proofs.Ytffjfnoocbgajaa.Pure
open Go.RowKit Go.Proofs.YtffjfnoocbgajaaW.PrintWords Go.Proofs.YtffjfnoocbgajaaW.PrintMore Go.Proofs.Ytffjfnoocbgajaa.M Go.Proofs.Ytffjfnoocbgajaa.L Go.Proofs.Ytffjfnoocbgajaa.R
set_option linter.unusedVariables false
set_option linter.unusedSimpArgs false
theorem FnExactCountClasses (W D : Int) (ks : List (List Int)) (hq : ks.length ≤ 9223372036854775807 ∧ ∀ x ∈ ks, x.length ≤ 9223372036854775807 ∧ ∀ y ∈ x, (Lit.int .i64 y).wf = true) : ∃ k, laws_FnExactCountClasses.f k W D ks = some true := by
  refine Ev.rounds (r := true) ?_
  unfold laws_FnExactCountClasses.f
  obtain ⟨r, hr, hr2⟩ := szGears_ev W D ks hq.1 (fun s h => (hq.2 s h).1)
  refine Ev.bind hr ?_
  by_cases h0 : r < 0
  · exact Ev.pos h0 (Ev.now _)
  obtain ⟨h1, h2⟩ := hr2.resolve_left h0
  refine Ev.neg h0 (Ev.bind (toGears_ev W D ks h1 h2) (Ev.bind (CountClasses_s W D ks h1 h2) (Ev.bind (toGears_ev W D ks h1 h2) (Ev.bind (CountClasses_i W D ks h1 h2) (Ev.pos rfl (Ev.succ ?_))))))
  simp only [laws_FnExactCountClasses.j0]
  exact Ev.neg (by simp) (Ev.bind (toGears_ev W D ks h1 h2) (Ev.bind (eqGears_ev W D ks h1 h2) (Ev.pos rfl (Ev.now _))))
end Go.Proofs.Ytffjfnoocbgajaa.Pure
