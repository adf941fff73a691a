/-
  DERIVED. GIVEN WITH THE SEED: THE CARDS: each row of YtffjfnoocbgajaaDoorRows.lean that lists a variable, with what it lists TIED to the program's text (the seventh form; the later family's looks); each row that meets fmt, with fmt's text TOLD by the authors' own Lean function (tested against real Go, not proved from fmt's source: count such statements apart). THE CARD IS WHAT COUNTS. Prove the row's statement (the work); the ties are given (YtffjfnoocbgajaaDoorTie.lean); close each card by the builder's one call (the guide's Derived/Test/ToyasCard.lean, 'card_holds'). Laid BY PROGRAM, IN A SANDBOX (cutbox-door.mjs). By AI agents, Wed Nov 11 2026. No macro, syntax, notation, axiom, sorry.
-/
import Derived.Test.YtffjfnoocbgajaaDoorRows
import GoSem.ClaimSeven
namespace Go.Proofs.YtffjfnoocbgajaaDoor
namespace Rows

/-- THE TIED CARD OF 'laws.FnExactGearsText'. -/
def fnExactGearsTextCard : Claim7 := { stood := { row := fnExactGearsTextRow, standIns := [], harness := (true, "d594e3be73546fd6a9000865bdf36815b3ae473bad520624c0a3eb397a375b99"), looks := false }, kinds := [], alts := [], laidByText := true, laidKinds := [.data, .data, .data], laidTests := true, laidLooks := .later }
def FnExactGearsTextCardSaid : Prop := Claim7.holds Tryd.pinned (.plain (OpenSpec.ofChange fnExactGearsTextSpec)) fnExactGearsTextCard

/-- THE SECOND FORM's CARD OF 'laws.FnExactGearsText'. -/
def fnExactGearsTextUptoCard : Claim7 := { stood := { row := fnExactGearsTextUptoRow, standIns := [], harness := (true, "d594e3be73546fd6a9000865bdf36815b3ae473bad520624c0a3eb397a375b99"), looks := false }, kinds := [], alts := [], laidByText := true, laidKinds := [.data, .data, .data], laidTests := true, laidLooks := .later }
def FnExactGearsTextUptoCardSaid : Prop := Claim7.holds Tryd.pinned (.plain (OpenSpec.upto fnExactGearsTextSpec)) fnExactGearsTextUptoCard
end Rows
end Go.Proofs.YtffjfnoocbgajaaDoor
