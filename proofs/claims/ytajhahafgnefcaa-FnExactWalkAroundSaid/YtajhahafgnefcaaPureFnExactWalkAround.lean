/- FnExactWalkAround's plain law: the program's WalkAround and the reference's answer alike at every lock, dead codes, code and list of turns. -/
import Derived.Test.YtajhahafgnefcaaLFnExactWalkAround
import Derived.Test.YtajhahafgnefcaaR0
import Derived.Test.YtajhahafgnefcaaR35
namespace Go.Proofs.Ytajhahafgnefcaa.Pure
open Go.RowKit Go.Proofs.YtajhahafgnefcaaW.PrintWords Go.Proofs.YtajhahafgnefcaaW.PrintMore Go.Proofs.Ytajhahafgnefcaa.M Go.Proofs.Ytajhahafgnefcaa.L Go.Proofs.Ytajhahafgnefcaa.R
set_option linter.unusedVariables false
set_option linter.unusedSimpArgs false
theorem FnExactWalkAround (W D : Int) (dead : List ByteArray) (hdd : dead.length ≤ 9223372036854775807 ∧ ∀ x ∈ dead, x.size ≤ 9223372036854775807) (s : ByteArray) (_ : s.size ≤ 140737488351232) (l : List S61) (hl : l.length ≤ 9223372036854775807 ∧ ∀ x ∈ l, (Lit.int .i64 x.f0).wf = true ∧ (Lit.int .i64 x.f1).wf = true) : ∃ k, laws_FnExactWalkAround.f k W D dead s l = some true := by
  refine Ev.rounds (r := true) ?_
  unfold laws_FnExactWalkAround.f
  by_cases h : (s.size : Int) > 1048576
  · exact Ev.pos h (Ev.now _)
  obtain ⟨r, hr, hrc, hr2⟩ := szStringT_ev dead hdd.1 hdd.2
  refine Ev.neg h (Ev.bind hr ?_)
  by_cases h0 : r < 0
  · exact Ev.pos h0 (Ev.now _)
  obtain ⟨d1, d2⟩ : dead.length ≤ 1048576 ∧ ∀ s ∈ dead, s.size ≤ 1048576 := hr2.resolve_left h0
  obtain ⟨q, hq, hq2⟩ := szTurnT_f l (c := r) (by omega) hrc hl.1
  refine Ev.neg h0 (Ev.bind0 hq ?_)
  by_cases h1 : q < 0
  · exact Ev.pos h1 (Ev.now _)
  have hll : l.length ≤ 1048576 := hq2.resolve_left h1
  refine Ev.neg h1 (Ev.bind0 rfl (Ev.bind (toStringS_ev dead d1) (Ev.bind (toTurnS_ev l hll) (Ev.bind (WalkAround_s W D dead s _ d1 d2 (by omega) (by simpa using hll)) (Ev.bind (toStringS_ev dead d1) (Ev.bind (toTurnS_ev l hll) (Ev.bind0 rfl (Ev.bind (WalkAround_i W D dead s _ d1 d2 (by omega) (by simpa using hll)) (Ev.pos rfl (Ev.succ ?_))))))))))
  simp only [laws_FnExactWalkAround.j0]
  exact Ev.neg (by simp) (Ev.bind (toStringS_ev dead d1) (Ev.bind (eqStringS_ev dead (by omega)) (Ev.pos rfl (Ev.bind (toTurnS_ev l hll) (Ev.bind (eqTurnS_ev _ (by simp; omega)) (Ev.pos rfl (Ev.now _)))))))
end Go.Proofs.Ytajhahafgnefcaa.Pure
