/-
  DERIVED. GIVEN WITH THE SEED: THE CARDS: each row of YtlidpmhmchbilaaDoorRows.lean that lists a variable, with what it lists TIED to the program's text (the seventh form; the later family's looks); each row that meets fmt, with fmt's text TOLD by the authors' own Lean function (tested against real Go, not proved from fmt's source: count such statements apart). THE CARD IS WHAT COUNTS. Prove the row's statement (the work); the ties are given (YtlidpmhmchbilaaDoorTie.lean); close each card by the builder's one call (the guide's Derived/Test/ToyasCard.lean, 'card_holds'). Laid BY PROGRAM, IN A SANDBOX (cutbox-door.mjs). By AI agents, Wed Nov 11 2026. No macro, syntax, notation, axiom, sorry.
-/
import Derived.Test.YtlidpmhmchbilaaDoorRows
import GoSem.ClaimSeven
namespace Go.Proofs.YtlidpmhmchbilaaDoor
namespace Rows

/-- THE TIED CARD OF 'laws.FnExactRead'. -/
def fnExactReadCard : Claim7 := { stood := { row := fnExactReadRow, standIns := [], harness := (true, "55e3dee431c15f1cc3347397b980eb4c0336b7c0bc6adfdbf257a69cdd66ce9e"), looks := true }, kinds := [], alts := [], laidByText := true, laidKinds := [.data, .data, .data, .data, .sentinel, .sentinel, .pinned], laidTests := true, laidLooks := .later }
def FnExactReadCardSaid : Prop := Claim7.holds Tryd.pinned (.plain (OpenSpec.ofChange fnExactReadSpec)) fnExactReadCard

/-- THE SECOND FORM's CARD OF 'laws.FnExactRead'. -/
def fnExactReadUptoCard : Claim7 := { stood := { row := fnExactReadUptoRow, standIns := [], harness := (true, "55e3dee431c15f1cc3347397b980eb4c0336b7c0bc6adfdbf257a69cdd66ce9e"), looks := true }, kinds := [], alts := [], laidByText := true, laidKinds := [.data, .data, .data, .data, .sentinel, .sentinel, .pinned], laidTests := true, laidLooks := .later }
def FnExactReadUptoCardSaid : Prop := Claim7.holds Tryd.pinned (.plain (OpenSpec.upto fnExactReadSpec)) fnExactReadUptoCard
end Rows
end Go.Proofs.YtlidpmhmchbilaaDoor
