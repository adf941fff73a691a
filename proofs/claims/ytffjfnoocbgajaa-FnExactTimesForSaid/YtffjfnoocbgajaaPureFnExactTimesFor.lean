/- FnExactTimesFor's plain law: the program's TimesFor and the reference's answer alike at all gears and texts. -/
import Derived.Test.YtffjfnoocbgajaaLFnExactTimesFor
import Derived.Test.YtffjfnoocbgajaaM35
namespace Go.Proofs.Ytffjfnoocbgajaa.Pure
open Go.RowKit Go.Proofs.YtffjfnoocbgajaaW.PrintWords Go.Proofs.YtffjfnoocbgajaaW.PrintMore Go.Proofs.Ytffjfnoocbgajaa.M Go.Proofs.Ytffjfnoocbgajaa.L Go.Proofs.Ytffjfnoocbgajaa.M
set_option linter.unusedVariables false
set_option linter.unusedSimpArgs false
theorem FnExactTimesFor (W D : Int) (ks : List (List Int)) (hq : ks.length ≤ 9223372036854775807 ∧ ∀ x ∈ ks, x.length ≤ 9223372036854775807 ∧ ∀ y ∈ x, (Lit.int .i64 y).wf = true) (s : ByteArray) (_ : s.size ≤ 140737488351232) (t : ByteArray) (_ : t.size ≤ 140737488351232) : ∃ k, laws_FnExactTimesFor.f k W D ks s t = some true := by
  refine Ev.rounds (r := true) ?_
  unfold laws_FnExactTimesFor.f
  by_cases h : (1048576 : Int) < (s.size : Int)
  · exact Ev.pos h (Ev.now _)
  by_cases h' : (1048576 : Int) < (t.size : Int)
  · exact Ev.neg h (Ev.pos h' (Ev.now _))
  obtain ⟨r, hr, hr2⟩ := szGears_c W D ks hq.1 (fun s h => (hq.2 s h).1)
  refine Ev.neg h (Ev.neg h' (Ev.bind hr ?_))
  by_cases h0 : r < 0
  · exact Ev.pos h0 (Ev.now _)
  obtain ⟨h1, h3⟩ := hr2.resolve_left h0
  have h2 : ∀ k ∈ ks, k.length ≤ 1048576 := fun k hk => Nat.le_trans (cellsS_mem hk) h3
  have hm := TimesForM_len W D ks s t
  refine Ev.neg h0 (Ev.bind (toGears_ev W D ks h1 h2) (Ev.bind (TimesFor_s W D ks s t h1 h2 (by omega) (by omega)) (Ev.bind (TimesFor_i W D ks s t h1 h2 (by omega) (by omega)) (Ev.bind (eqIntS_ev (TimesForM W D ks s t).1 (by omega)) (Ev.pos rfl (Ev.pos rfl ?_))))))
  have hmk := markIntS_ev (TimesForM W D ks s t).1 1 (by omega) (by omega)
  refine Ev.bind (eqGears_ev W D ks h1 h2) (Ev.pos rfl (Ev.bind (markGears1_ev W D ks (by omega) (by omega)) (Ev.neg (by simp only; omega) (Ev.bind hmk.1 (Ev.bind hmk.2 (Ev.neg (by omega) (Ev.pos rfl (Ev.now _))))))))
end Go.Proofs.Ytffjfnoocbgajaa.Pure
