/- FnExactCountKnobbed's plain law: the program's CountKnobbed and the reference's answer alike at all gears and texts. -/
import Derived.Test.YtffjfnoocbgajaaLFnExactCountKnobbed
import Derived.Test.YtffjfnoocbgajaaR40
namespace Go.Proofs.Ytffjfnoocbgajaa.Pure
open Go.RowKit Go.Proofs.YtffjfnoocbgajaaW.PrintWords Go.Proofs.YtffjfnoocbgajaaW.PrintMore Go.Proofs.Ytffjfnoocbgajaa.M Go.Proofs.Ytffjfnoocbgajaa.L Go.Proofs.Ytffjfnoocbgajaa.R
set_option linter.unusedVariables false
set_option linter.unusedSimpArgs false
theorem FnExactCountKnobbed (W D : Int) (ks : List (List Int)) (hq : ks.length ≤ 9223372036854775807 ∧ ∀ x ∈ ks, x.length ≤ 9223372036854775807 ∧ ∀ y ∈ x, (Lit.int .i64 y).wf = true) (s : ByteArray) (_ : s.size ≤ 140737488351232) : ∃ k, laws_FnExactCountKnobbed.f k W D ks s = some true := by
  refine Ev.rounds (r := true) ?_
  unfold laws_FnExactCountKnobbed.f
  by_cases hs : (s.size : Int) > 1048576
  · exact Ev.pos hs (Ev.now _)
  refine Ev.neg hs ?_
  obtain ⟨r, hr, hr2⟩ := szGears_ev W D ks hq.1 (fun s h => (hq.2 s h).1)
  refine Ev.bind hr ?_
  by_cases h0 : r < 0
  · exact Ev.pos h0 (Ev.now _)
  obtain ⟨h1, h2⟩ := hr2.resolve_left h0
  refine Ev.neg h0 (Ev.bind (toGears_ev W D ks h1 h2) (Ev.bind (CountKnobbed_s W D ks s h1 h2 (by omega)) (Ev.bind (toGears_ev W D ks h1 h2) (Ev.bind (CountKnobbed_i W D ks s h1 h2 (by omega)) (Ev.pos rfl (Ev.succ ?_))))))
  simp only [laws_FnExactCountKnobbed.j0]
  exact Ev.neg (by simp) (Ev.bind (toGears_ev W D ks h1 h2) (Ev.bind (eqGears_ev W D ks h1 h2) (Ev.pos rfl (Ev.now _))))
end Go.Proofs.Ytffjfnoocbgajaa.Pure
