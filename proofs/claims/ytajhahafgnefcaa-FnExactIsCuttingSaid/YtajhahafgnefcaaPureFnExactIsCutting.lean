/- FnExactIsCutting's plain law: the program's IsCutting and the reference's answer alike at every lock, dead codes and codes. -/
import Derived.Test.YtajhahafgnefcaaLFnExactIsCutting
import Derived.Test.YtajhahafgnefcaaR81
namespace Go.Proofs.Ytajhahafgnefcaa.Pure
open Go.RowKit Go.Proofs.YtajhahafgnefcaaW.PrintWords Go.Proofs.YtajhahafgnefcaaW.PrintMore Go.Proofs.Ytajhahafgnefcaa.M Go.Proofs.Ytajhahafgnefcaa.L Go.Proofs.Ytajhahafgnefcaa.R
set_option linter.unusedVariables false
set_option linter.unusedSimpArgs false
theorem FnExactIsCutting (W D : Int) (dead : List ByteArray) (hdd : dead.length ≤ 9223372036854775807 ∧ ∀ x ∈ dead, x.size ≤ 9223372036854775807) (s : ByteArray) (_ : s.size ≤ 140737488351232) : ∃ k, laws_FnExactIsCutting.f k W D dead s = some true := by
  refine Ev.rounds (r := true) ?_
  unfold laws_FnExactIsCutting.f
  by_cases hs : (s.size : Int) > 1048576
  · exact Ev.pos hs (Ev.now _)
  refine Ev.neg hs ?_
  obtain ⟨r, hr, hr2⟩ := szStringS_ev dead hdd.1 hdd.2
  refine Ev.bind hr ?_
  by_cases h0 : r < 0
  · exact Ev.pos h0 (Ev.now _)
  obtain ⟨d1, d2⟩ : dead.length ≤ 1048576 ∧ ∀ s ∈ dead, s.size ≤ 1048576 := hr2.resolve_left h0
  refine Ev.neg h0 (Ev.bind0 rfl (Ev.bind (toStringS_ev dead d1) (Ev.bind (IsCutting_s W D dead s d1 d2 (by omega)) (Ev.bind (toStringS_ev dead d1) (Ev.bind0 rfl (Ev.bind (IsCutting_i W D dead s d1 d2 (by omega)) (Ev.neg (by simp) (Ev.succ ?_))))))))
  simp only [laws_FnExactIsCutting.j0]
  exact Ev.neg (by simp) (Ev.bind (toStringS_ev dead d1) (Ev.bind (eqStringS_ev dead (by omega)) (Ev.pos rfl (Ev.now _))))
end Go.Proofs.Ytajhahafgnefcaa.Pure
