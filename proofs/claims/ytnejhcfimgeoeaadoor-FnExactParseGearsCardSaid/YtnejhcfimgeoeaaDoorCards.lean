/-
  DERIVED. GIVEN WITH THE SEED: THE CARDS: each row of YtnejhcfimgeoeaaDoorRows.lean that lists a variable, with what it lists TIED to the program's text (the seventh form; the later family's looks); each row that meets fmt, with fmt's text TOLD by the authors' own Lean function (tested against real Go, not proved from fmt's source: count such statements apart). THE CARD IS WHAT COUNTS. Prove the row's statement (the work); the ties are given (YtnejhcfimgeoeaaDoorTie.lean); close each card by the builder's one call (the guide's Derived/Test/ToyasCard.lean, 'card_holds'). Laid BY PROGRAM, IN A SANDBOX (cutbox-door.mjs). By AI agents, Wed Nov 11 2026. No macro, syntax, notation, axiom, sorry.
-/
import Derived.Test.YtnejhcfimgeoeaaDoorRows
import GoSem.ClaimSeven
namespace Go.Proofs.YtnejhcfimgeoeaaDoor
namespace Rows

/-- THE TIED CARD OF 'laws.FnExactParseGears'. -/
def fnExactParseGearsCard : Claim7 := { stood := { row := fnExactParseGearsRow, standIns := [], harness := (true, "51cfd58a5c2daf838e28e98029e7905c43ef8a267dd5119982b0ee4eb5578544"), looks := true }, kinds := [], alts := [], laidByText := true, laidKinds := [.data, .data, .data, .data, .sentinel, .sentinel, .pinned], laidTests := true, laidLooks := .later }
def FnExactParseGearsCardSaid : Prop := Claim7.holds Tryd.pinned (.plain (OpenSpec.ofChange fnExactParseGearsSpec)) fnExactParseGearsCard

/-- THE SECOND FORM's CARD OF 'laws.FnExactParseGears'. -/
def fnExactParseGearsUptoCard : Claim7 := { stood := { row := fnExactParseGearsUptoRow, standIns := [], harness := (true, "51cfd58a5c2daf838e28e98029e7905c43ef8a267dd5119982b0ee4eb5578544"), looks := true }, kinds := [], alts := [], laidByText := true, laidKinds := [.data, .data, .data, .data, .sentinel, .sentinel, .pinned], laidTests := true, laidLooks := .later }
def FnExactParseGearsUptoCardSaid : Prop := Claim7.holds Tryd.pinned (.plain (OpenSpec.upto fnExactParseGearsSpec)) fnExactParseGearsUptoCard
end Rows
end Go.Proofs.YtnejhcfimgeoeaaDoor
