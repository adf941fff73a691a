/- FnExactSingleGears' plain law: the program's SingleGears and the reference's answer alike at every lock. -/
import Derived.Test.YtffjfnoocbgajaaLFnExactSingleGears
import Derived.Test.YtffjfnoocbgajaaS12
namespace Go.Proofs.Ytffjfnoocbgajaa.Pure
open Go.RowKit Go.Proofs.YtffjfnoocbgajaaW.PrintWords Go.Proofs.YtffjfnoocbgajaaW.PrintMore Go.Proofs.Ytffjfnoocbgajaa.M Go.Proofs.Ytffjfnoocbgajaa.L Go.Proofs.Ytffjfnoocbgajaa.S
set_option linter.unusedVariables false
set_option linter.unusedSimpArgs false
theorem FnExactSingleGears (W D : Int) : ∃ k, laws_FnExactSingleGears.f k W D = some true := by
  refine Ev.rounds (r := true) ?_
  unfold laws_FnExactSingleGears.f
  obtain ⟨hl, hs⟩ := single_small W D
  have hc := cellsS_le 5 _ hs
  obtain ⟨m1, m2⟩ := markGears_ev (SingleM W D).1 (SingleM W D).2.1 (SingleM W D).2.2.1 (by omega) (by omega)
  have fi := SingleGears_i W D
  have eg := eqGears_ev (SingleM W D).1 (SingleM W D).2.1 (SingleM W D).2.2.1 (by omega) (fun s h => by have := hs s h; omega)
  refine Ev.bind0 rfl (Ev.bind (SingleGears_s W D) (Ev.bind0 rfl (Ev.bind fi (Ev.bind eg (Ev.pos rfl (Ev.succ ?_))))))
  simp only [laws_FnExactSingleGears.j0]
  refine Ev.neg (by simp) (Ev.bind m1 (Ev.bind m2 (Ev.neg (by omega) (Ev.pos rfl (Ev.bind0 rfl (Ev.bind fi (Ev.bind eg (Ev.pos rfl (Ev.succ ?_)))))))))
  simp only [laws_FnExactSingleGears.j1]
  exact Ev.neg (by simp) (Ev.bind m2 (Ev.neg (by omega) (Ev.pos rfl (Ev.now _))))
end Go.Proofs.Ytffjfnoocbgajaa.Pure
