/- FnExactParseGears' plain law: the program's ParseGears and the reference's answer alike at every text. -/
import Derived.Test.YtnejhcfimgeoeaaDoorLFnExactParseGears
import Derived.Test.YtnejhcfimgeoeaaDoorP24
namespace Go.Proofs.YtnejhcfimgeoeaaDoor.Pure
open Go.RowKit Go.Proofs.YtnejhcfimgeoeaaDoorW.PrintWords Go.Proofs.YtnejhcfimgeoeaaDoorW.PrintMore Go.Proofs.YtnejhcfimgeoeaaDoor.M Go.Proofs.YtnejhcfimgeoeaaDoor.L Go.Proofs.YtnejhcfimgeoeaaDoor.P
set_option linter.unusedVariables false
set_option linter.unusedSimpArgs false
theorem FnExactParseGears (s : ByteArray) (_ : s.size ≤ 140737488351232) : ∃ k, laws_FnExactParseGears.f k s = some true := by
  refine Ev.rounds (r := true) ?_
  unfold laws_FnExactParseGears.f
  by_cases hs : (s.size : Int) > 1048576
  · exact Ev.pos hs (Ev.now _)
  obtain ⟨hl, hk⟩ := parseGM_small s
  have hc := cellsS_le6 _ hk
  obtain ⟨m1, m2⟩ := markGears_ev (ParseGM s).1 (ParseGM s).2.1 (ParseGM s).2.2.1 (by omega) (by omega)
  have fi := ParseGears_i s
  have eg := eqGears_ev (ParseGM s).1 (ParseGM s).2.1 (ParseGM s).2.2.1 (by omega) (fun x h => by have := hk x h; omega)
  refine Ev.neg hs (Ev.bind (ParseGears_s s (by omega)) (Ev.bind fi (Ev.bind eg (Ev.pos rfl (Ev.succ ?_)))))
  simp only [laws_FnExactParseGears.j0]
  refine Ev.neg (by simp) (Ev.bind m1 (Ev.bind m2 (Ev.neg (by omega) (Ev.pos rfl (Ev.bind fi (Ev.bind eg (Ev.pos rfl (Ev.succ ?_))))))))
  simp only [laws_FnExactParseGears.j1]
  exact Ev.neg (by simp) (Ev.bind m2 (Ev.neg (by omega) (Ev.pos rfl (Ev.now _))))
end Go.Proofs.YtnejhcfimgeoeaaDoor.Pure
