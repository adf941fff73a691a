/- FnExactMeanDistance's plain law: the program's MeanDistance and the reference's answer alike at every lock: the 54 locks are reckoned by the kernel. -/
import Derived.Test.YtadohjdbkalilaaMath
import Derived.Test.YtadohjdbkalilaaWhl1
import Derived.Test.YtadohjdbkalilaaQ5
import Derived.Test.YtadohjdbkalilaaQ6
namespace Go.Proofs.Ytadohjdbkalilaa.Pure
open Go.RowKit Go.Proofs.YtadohjdbkalilaaW.PrintWords Go.Proofs.YtadohjdbkalilaaW.PrintMore Go.Proofs.Ytadohjdbkalilaa.M Go.Proofs.Ytadohjdbkalilaa.L Go.Proofs.Ytadohjdbkalilaa.Q
set_option linter.unusedVariables false
set_option linter.unusedSimpArgs false
set_option maxRecDepth 100000 in
theorem mean54 : ∀ w : Fin 6, ∀ d : Fin 9, laws_FnExactMeanDistance.f 4000 ((w.val : Int) + 1) ((d.val : Int) + 2) = some true := by decide +kernel
theorem FnExactMeanDistance (W D : Int) : ∃ k, laws_FnExactMeanDistance.f k W D = some true := by
  by_cases h : good W D = true
  · obtain ⟨a, b, c, d⟩ := good_iff.1 h
    have := mean54 ⟨(W - 1).toNat, by omega⟩ ⟨(D - 2).toNat, by omega⟩
    simp only at this
    rw [show (((W - 1).toNat : Nat) : Int) + 1 = W by omega, show (((D - 2).toNat : Nat) : Int) + 2 = D by omega] at this
    exact ⟨_, this⟩
  · refine Ev.rounds (r := true) ?_
    unfold laws_FnExactMeanDistance.f spec_MeanDistance.f impl_MeanDistance.f
    refine Ev.bind0 rfl (Ev.bind (a := (0, 0, false)) (Ev.bind0 (whGood_f W D) (Ev.neg h (Ev.now _))) (Ev.bind0 rfl (Ev.bind (a := (0, 0, false)) (Ev.bind0 (IsLock_i W D) (Ev.neg h (Ev.now _))) ?_)))
    exact Ev.pos rfl (Ev.pos rfl (Ev.neg (by simp) (Ev.now _)))
end Go.Proofs.Ytadohjdbkalilaa.Pure
