/- FnExactFirstAround's plain law: the program's FirstAround and the reference's answer alike at every lock, dead codes and codes. -/
import Derived.Test.YtajhahafgnefcaaLFnExactFirstAround
import Derived.Test.YtajhahafgnefcaaR89
namespace Go.Proofs.Ytajhahafgnefcaa.Pure
open Go.RowKit Go.Proofs.YtajhahafgnefcaaW.PrintWords Go.Proofs.YtajhahafgnefcaaW.PrintMore Go.Proofs.Ytajhahafgnefcaa.M Go.Proofs.Ytajhahafgnefcaa.L Go.Proofs.Ytajhahafgnefcaa.R
set_option linter.unusedVariables false
set_option linter.unusedSimpArgs false
theorem FnExactFirstAround (W D : Int) (dead : List ByteArray) (hdd : dead.length ≤ 9223372036854775807 ∧ ∀ x ∈ dead, x.size ≤ 9223372036854775807) (s : ByteArray) (_ : s.size ≤ 140737488351232) (t : ByteArray) (_ : t.size ≤ 140737488351232) : ∃ k, Fa.f k W D dead s t = some true := by
  refine Ev.rounds (r := true) ?_
  unfold Fa.f
  by_cases hs : (s.size : Int) > 1048576
  · exact Ev.pos hs (Ev.now _)
  refine Ev.neg hs ?_
  by_cases ht : (t.size : Int) > 1048576
  · exact Ev.pos ht (Ev.now _)
  refine Ev.neg ht ?_
  obtain ⟨r, hr, hr2⟩ := szStringS_ev dead hdd.1 hdd.2
  refine Ev.bind hr ?_
  by_cases h0 : r < 0
  · exact Ev.pos h0 (Ev.now _)
  obtain ⟨d1, d2⟩ : dead.length ≤ 1048576 ∧ ∀ s ∈ dead, s.size ≤ 1048576 := hr2.resolve_left h0
  have hlen := FirstAround_len W D dead s t
  obtain ⟨l', hm⟩ := markS1_ev dead (by omega)
  obtain ⟨m1, m2⟩ := markTurnS_ev (FirstAroundM W D dead s t).1 (by omega)
  have fi := FirstAround_i W D dead s t d1 d2 (by omega) (by omega)
  refine Ev.neg h0 (Ev.bind0 rfl (Ev.bind (toStringS_ev dead d1) (Ev.bind (FirstAround_s W D dead s t d1 d2 (by omega) (by omega)) (Ev.bind (toStringS_ev dead d1) (Ev.bind0 rfl (Ev.bind fi (Ev.bind (eqTurnS_ev _ (by omega)) (Ev.pos rfl (Ev.succ ?_)))))))))
  simp only [Fa.j0]
  refine Ev.neg (by simp) (Ev.bind (toStringS_ev dead d1) (Ev.bind (eqStringS_ev dead (by omega)) (Ev.pos rfl (Ev.bind hm (Ev.neg (by simp only; omega) (Ev.bind (eqTurnS_ev _ (by omega)) (Ev.pos rfl (Ev.succ ?_))))))))
  simp only [Fa.j1]
  refine Ev.neg (by simp) (Ev.bind m1 (Ev.bind m2 (Ev.neg (by omega) (Ev.pos rfl (Ev.bind0 rfl (Ev.bind (toStringS_ev dead d1) (Ev.bind fi (Ev.bind (eqTurnS_ev _ (by omega)) (Ev.pos rfl (Ev.succ ?_))))))))))
  simp only [Fa.j2]
  exact Ev.neg (by simp) (Ev.bind m2 (Ev.neg (by omega) (Ev.pos rfl (Ev.now _))))
end Go.Proofs.Ytajhahafgnefcaa.Pure
