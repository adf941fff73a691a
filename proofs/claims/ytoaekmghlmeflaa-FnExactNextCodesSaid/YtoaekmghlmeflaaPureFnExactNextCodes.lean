/- FnExactNextCodes' plain law: the program's NextCodes and the reference's answer alike at every lock and text, twice, and the first answer stays as it was marked. -/
import Derived.Test.YtoaekmghlmeflaaLFnExactNextCodes
import Derived.Test.YtoaekmghlmeflaaZ22
namespace Go.Proofs.Ytoaekmghlmeflaa.Pure
open Go.RowKit Go.Proofs.YtoaekmghlmeflaaW.PrintWords Go.Proofs.YtoaekmghlmeflaaW.PrintMore Go.Proofs.Ytoaekmghlmeflaa.M Go.Proofs.Ytoaekmghlmeflaa.L Go.Proofs.Ytoaekmghlmeflaa.Z
set_option linter.unusedVariables false
set_option linter.unusedSimpArgs false
theorem FnExactNextCodes (W D : Int) (s : ByteArray) (_ : s.size ≤ 140737488351232) : ∃ k, laws_FnExactNextCodes.f k W D s = some true := by
  refine Ev.rounds (r := true) ?_
  unfold laws_FnExactNextCodes.f
  by_cases h : (s.size : Int) > 1048576
  · exact Ev.pos h (Ev.now _)
  have hl := NextCodesM_len W D s
  have es := NextCodes_s W D s (by omega)
  have ei := NextCodes_i W D s (by omega)
  generalize NextCodesM W D s = r at hl es ei
  obtain ⟨l', m1, m2⟩ := markStringS_ev r.1 (by omega)
  refine Ev.neg h (Ev.bind0 rfl (Ev.bind es (Ev.bind0 rfl (Ev.bind ei (Ev.bind (eqStringS_ev _ (by omega)) (Ev.pos rfl (Ev.succ ?_)))))))
  simp only [laws_FnExactNextCodes.j0]
  refine Ev.neg (by simp) (Ev.bind m1 (Ev.bind m2 (Ev.neg (by omega) (Ev.pos (by simp) (Ev.bind0 rfl (Ev.bind ei (Ev.bind (eqStringS_ev _ (by omega)) (Ev.pos rfl (Ev.succ ?_)))))))))
  simp only [laws_FnExactNextCodes.j1]
  exact Ev.neg (by simp) (Ev.bind m2 (Ev.neg (by omega) (Ev.pos (by simp) (Ev.now _))))
end Go.Proofs.Ytoaekmghlmeflaa.Pure
