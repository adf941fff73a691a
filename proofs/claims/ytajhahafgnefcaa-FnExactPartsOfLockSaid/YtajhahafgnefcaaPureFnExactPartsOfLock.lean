/- FnExactPartsOfLock's plain law: the program's PartsOfLock and the reference's answer alike at every lock, dead codes. -/
import Derived.Test.YtajhahafgnefcaaLFnExactPartsOfLock
import Derived.Test.YtajhahafgnefcaaR52
namespace Go.Proofs.Ytajhahafgnefcaa.Pure
open Go.RowKit Go.Proofs.YtajhahafgnefcaaW.PrintWords Go.Proofs.YtajhahafgnefcaaW.PrintMore Go.Proofs.Ytajhahafgnefcaa.M Go.Proofs.Ytajhahafgnefcaa.L Go.Proofs.Ytajhahafgnefcaa.R
set_option linter.unusedVariables false
set_option linter.unusedSimpArgs false
theorem FnExactPartsOfLock (W D : Int) (dead : List ByteArray) (hdd : dead.length ≤ 9223372036854775807 ∧ ∀ x ∈ dead, x.size ≤ 9223372036854775807) : ∃ k, laws_FnExactPartsOfLock.f k W D dead = some true := by
  refine Ev.rounds (r := true) ?_
  unfold laws_FnExactPartsOfLock.f
  obtain ⟨r, hr, hr2⟩ := szStringS_ev dead hdd.1 hdd.2
  refine Ev.bind hr ?_
  by_cases h0 : r < 0
  · exact Ev.pos h0 (Ev.now _)
  obtain ⟨d1, d2⟩ : dead.length ≤ 1048576 ∧ ∀ s ∈ dead, s.size ≤ 1048576 := hr2.resolve_left h0
  refine Ev.neg h0 (Ev.bind0 rfl (Ev.bind (toStringS_ev dead d1) (Ev.bind (PartsOfLock_s W D dead d1 d2) (Ev.bind (toStringS_ev dead d1) (Ev.bind0 rfl (Ev.bind (PartsOfLock_i W D dead d1 d2) (Ev.pos rfl (Ev.succ ?_))))))))
  simp only [laws_FnExactPartsOfLock.j0]
  exact Ev.neg (by simp) (Ev.bind (toStringS_ev dead d1) (Ev.bind (eqStringS_ev dead (by omega)) (Ev.pos rfl (Ev.now _))))
end Go.Proofs.Ytajhahafgnefcaa.Pure
