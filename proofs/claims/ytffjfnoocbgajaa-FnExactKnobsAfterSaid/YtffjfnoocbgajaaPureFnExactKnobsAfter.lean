/- FnExactKnobsAfter's plain law: the program's KnobsAfter and the reference's answer alike at all gears, texts and lists of numbers. -/
import Derived.Test.YtffjfnoocbgajaaLFnExactKnobsAfter
import Derived.Test.YtffjfnoocbgajaaQ32
namespace Go.Proofs.Ytffjfnoocbgajaa.Pure
open Go.RowKit Go.Proofs.YtffjfnoocbgajaaW.PrintWords Go.Proofs.YtffjfnoocbgajaaW.PrintMore Go.Proofs.Ytffjfnoocbgajaa.M Go.Proofs.Ytffjfnoocbgajaa.L Go.Proofs.Ytffjfnoocbgajaa.Q
set_option linter.unusedVariables false
set_option linter.unusedSimpArgs false
theorem FnExactKnobsAfter (W D : Int) (ks : List (List Int)) (hq : ks.length ≤ 9223372036854775807 ∧ ∀ x ∈ ks, x.length ≤ 9223372036854775807 ∧ ∀ y ∈ x, (Lit.int .i64 y).wf = true) (s : ByteArray) (_ : s.size ≤ 140737488351232) (l : List Int) (hl : l.length ≤ 9223372036854775807 ∧ ∀ y ∈ l, (Lit.int .i64 y).wf = true) : ∃ k, laws_FnExactKnobsAfter.f k W D ks s l = some true := by
  refine Ev.rounds (r := true) ?_
  unfold laws_FnExactKnobsAfter.f
  by_cases h : (s.size : Int) > 1048576
  · exact Ev.pos h (Ev.now _)
  by_cases h' : (l.length : Int) > 1048576
  · exact Ev.neg h (Ev.pos h' (Ev.now _))
  obtain ⟨r, hr, hr2⟩ := szGears_ev W D ks hq.1 (fun s h => (hq.2 s h).1)
  refine Ev.neg h (Ev.neg h' (Ev.bind hr ?_))
  by_cases h0 : r < 0
  · exact Ev.pos h0 (Ev.now _)
  obtain ⟨h1, h2⟩ := hr2.resolve_left h0
  have hl' : l.length ≤ 1048576 := by omega
  refine Ev.neg h0 (Ev.bind (toGears_ev W D ks h1 h2) (Ev.bind (toIntS_ev l hl') (Ev.bind (KnobsAfter_s W D ks s l h1 h2 (by omega) hl') (Ev.bind (toGears_ev W D ks h1 h2) (Ev.bind (toIntS_ev l hl') (Ev.bind (KnobsAfter_i W D ks s l h1 h2 (by omega) hl') (Ev.pos rfl (Ev.succ ?_))))))))
  simp only [laws_FnExactKnobsAfter.j0]
  exact Ev.neg (by simp) (Ev.bind (toGears_ev W D ks h1 h2) (Ev.bind (eqGears_ev W D ks h1 h2) (Ev.pos rfl (Ev.bind (toIntS_ev l hl') (Ev.bind (eqIntS_ev l (by omega)) (Ev.pos rfl (Ev.now _)))))))
end Go.Proofs.Ytffjfnoocbgajaa.Pure
