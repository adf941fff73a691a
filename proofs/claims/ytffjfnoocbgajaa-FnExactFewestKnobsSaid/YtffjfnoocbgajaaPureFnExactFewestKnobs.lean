/- FnExactFewestKnobs's plain law: the program's FewestKnobs and the reference's answer alike at all gears and texts. -/
import Derived.Test.YtffjfnoocbgajaaLFnExactFewestKnobs
import Derived.Test.YtffjfnoocbgajaaR45
namespace Go.Proofs.Ytffjfnoocbgajaa.Pure
open Go.RowKit Go.Proofs.YtffjfnoocbgajaaW.PrintWords Go.Proofs.YtffjfnoocbgajaaW.PrintMore Go.Proofs.Ytffjfnoocbgajaa.M Go.Proofs.Ytffjfnoocbgajaa.L Go.Proofs.Ytffjfnoocbgajaa.R
set_option linter.unusedVariables false
set_option linter.unusedSimpArgs false
theorem FnExactFewestKnobs (W D : Int) (ks : List (List Int)) (hq : ks.length ≤ 9223372036854775807 ∧ ∀ x ∈ ks, x.length ≤ 9223372036854775807 ∧ ∀ y ∈ x, (Lit.int .i64 y).wf = true) (s : ByteArray) (_ : s.size ≤ 140737488351232) (t : ByteArray) (_ : t.size ≤ 140737488351232) : ∃ k, laws_FnExactFewestKnobs.f k W D ks s t = some true := by
  refine Ev.rounds (r := true) ?_
  unfold laws_FnExactFewestKnobs.f
  by_cases hs : (s.size : Int) > 1048576
  · exact Ev.pos hs (Ev.now _)
  refine Ev.neg hs ?_
  by_cases ht : (t.size : Int) > 1048576
  · exact Ev.pos ht (Ev.now _)
  refine Ev.neg ht ?_
  obtain ⟨r, hr, hr2⟩ := szGears_ev W D ks hq.1 (fun s h => (hq.2 s h).1)
  refine Ev.bind hr ?_
  by_cases h0 : r < 0
  · exact Ev.pos h0 (Ev.now _)
  obtain ⟨h1, h2⟩ := hr2.resolve_left h0
  refine Ev.neg h0 (Ev.bind (toGears_ev W D ks h1 h2) (Ev.bind (FewestKnobs_s W D ks s t h1 h2 (by omega) (by omega)) (Ev.bind (toGears_ev W D ks h1 h2) (Ev.bind (FewestKnobs_i W D ks s t h1 h2 (by omega) (by omega)) (Ev.pos rfl (Ev.succ ?_))))))
  simp only [laws_FnExactFewestKnobs.j0]
  exact Ev.neg (by simp) (Ev.bind (toGears_ev W D ks h1 h2) (Ev.bind (eqGears_ev W D ks h1 h2) (Ev.pos rfl (Ev.now _))))
end Go.Proofs.Ytffjfnoocbgajaa.Pure
