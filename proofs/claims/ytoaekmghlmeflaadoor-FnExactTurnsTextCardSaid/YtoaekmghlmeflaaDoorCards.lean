/-
  DERIVED. GIVEN WITH THE SEED: THE CARDS: each row of YtoaekmghlmeflaaDoorRows.lean that lists a variable, with what it lists TIED to the program's text (the seventh form; the later family's looks); each row that meets fmt, with fmt's text TOLD by the authors' own Lean function (tested against real Go, not proved from fmt's source: count such statements apart). THE CARD IS WHAT COUNTS. Prove the row's statement (the work); the ties are given (YtoaekmghlmeflaaDoorTie.lean); close each card by the builder's one call (the guide's Derived/Test/ToyasCard.lean, 'card_holds'). Laid BY PROGRAM, IN A SANDBOX (cutbox-door.mjs). By AI agents, Wed Nov 11 2026. No macro, syntax, notation, axiom, sorry.
-/
import Derived.Test.YtoaekmghlmeflaaDoorRows
import GoSem.ClaimSeven
namespace Go.Proofs.YtoaekmghlmeflaaDoor
namespace Rows

/-- THE TIED CARD OF 'laws.FnExactParseTurns'. -/
def fnExactParseTurnsCard : Claim7 := { stood := { row := fnExactParseTurnsRow, standIns := [], harness := (true, "21c25c11b9731a8b92aecb14e91f4a8604e0fce5daf7470a031429289db57be3"), looks := false }, kinds := [], alts := [], laidByText := true, laidKinds := [.data, .data, .data], laidTests := true, laidLooks := .later }
def FnExactParseTurnsCardSaid : Prop := Claim7.holds Tryd.pinned (.plain (OpenSpec.ofChange fnExactParseTurnsSpec)) fnExactParseTurnsCard

/-- THE TIED CARD OF 'laws.FnExactTurnsText'. -/
def fnExactTurnsTextCard : Claim7 := { stood := { row := fnExactTurnsTextRow, standIns := [], harness := (true, "21c25c11b9731a8b92aecb14e91f4a8604e0fce5daf7470a031429289db57be3"), looks := false }, kinds := [], alts := [], laidByText := true, laidKinds := [.data, .data, .data], laidTests := true, laidLooks := .later }
def FnExactTurnsTextCardSaid : Prop := Claim7.holds Tryd.pinned (.plain (OpenSpec.ofChange fnExactTurnsTextSpec)) fnExactTurnsTextCard

/-- THE SECOND FORM's CARD OF 'laws.FnExactParseTurns'. -/
def fnExactParseTurnsUptoCard : Claim7 := { stood := { row := fnExactParseTurnsUptoRow, standIns := [], harness := (true, "21c25c11b9731a8b92aecb14e91f4a8604e0fce5daf7470a031429289db57be3"), looks := false }, kinds := [], alts := [], laidByText := true, laidKinds := [.data, .data, .data], laidTests := true, laidLooks := .later }
def FnExactParseTurnsUptoCardSaid : Prop := Claim7.holds Tryd.pinned (.plain (OpenSpec.upto fnExactParseTurnsSpec)) fnExactParseTurnsUptoCard

/-- THE SECOND FORM's CARD OF 'laws.FnExactTurnsText'. -/
def fnExactTurnsTextUptoCard : Claim7 := { stood := { row := fnExactTurnsTextUptoRow, standIns := [], harness := (true, "21c25c11b9731a8b92aecb14e91f4a8604e0fce5daf7470a031429289db57be3"), looks := false }, kinds := [], alts := [], laidByText := true, laidKinds := [.data, .data, .data], laidTests := true, laidLooks := .later }
def FnExactTurnsTextUptoCardSaid : Prop := Claim7.holds Tryd.pinned (.plain (OpenSpec.upto fnExactTurnsTextSpec)) fnExactTurnsTextUptoCard
end Rows
end Go.Proofs.YtoaekmghlmeflaaDoor
