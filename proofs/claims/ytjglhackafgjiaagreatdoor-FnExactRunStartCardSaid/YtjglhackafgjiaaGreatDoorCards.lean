/-
  DERIVED. GIVEN WITH THE SEED: THE CARDS: each row of YtjglhackafgjiaaGreatDoorRows.lean that lists a variable, with what it lists TIED to the program's text (the seventh form; the later family's looks); each row that meets fmt, with fmt's text TOLD by the authors' own Lean function (tested against real Go, not proved from fmt's source: count such statements apart). THE CARD IS WHAT COUNTS. Prove the row's statement (the work); the ties are given (YtjglhackafgjiaaGreatDoorTie.lean); close each card by the builder's one call (the guide's Derived/Test/ToyasCard.lean, 'card_holds'). Laid BY PROGRAM, IN A SANDBOX (cutbox-door.mjs). By AI agents, Wed Nov 11 2026. No macro, syntax, notation, axiom, sorry.
-/
import Derived.Test.YtjglhackafgjiaaGreatDoorRows
import GoSem.ClaimSeven
namespace Go.Proofs.YtjglhackafgjiaaGreatDoor
namespace Rows

/-- THE TIED CARD OF 'laws.FnExactRunStart'. -/
def fnExactRunStartCard : Claim7 := { stood := { row := fnExactRunStartRow, standIns := [], harness := (true, "af8ca0ece797fcafad18e82cf32c221a8c31fa626e5ccffcbae43575a959e629"), looks := true }, kinds := [], alts := [], laidByText := true, laidKinds := [.data, .data, .data, .data, .sentinel, .sentinel, .pinned], laidTests := true, laidLooks := .later }
def FnExactRunStartCardSaid : Prop := Claim7.holds Tryz.pinned (.plain (OpenSpec.ofChange fnExactRunStartSpec)) fnExactRunStartCard

/-- THE TIED CARD OF 'laws.FnExactRunAll'. -/
def fnExactRunAllCard : Claim7 := { stood := { row := fnExactRunAllRow, standIns := [], harness := (true, "af8ca0ece797fcafad18e82cf32c221a8c31fa626e5ccffcbae43575a959e629"), looks := true }, kinds := [], alts := [], laidByText := true, laidKinds := [.data, .data, .data, .data, .sentinel, .sentinel, .pinned], laidTests := true, laidLooks := .later }
def FnExactRunAllCardSaid : Prop := Claim7.holds Tryz.pinned (.plain (OpenSpec.ofChange fnExactRunAllSpec)) fnExactRunAllCard

/-- THE SECOND FORM's CARD OF 'laws.FnExactRunStart'. -/
def fnExactRunStartUptoCard : Claim7 := { stood := { row := fnExactRunStartUptoRow, standIns := [], harness := (true, "af8ca0ece797fcafad18e82cf32c221a8c31fa626e5ccffcbae43575a959e629"), looks := true }, kinds := [], alts := [], laidByText := true, laidKinds := [.data, .data, .data, .data, .sentinel, .sentinel, .pinned], laidTests := true, laidLooks := .later }
def FnExactRunStartUptoCardSaid : Prop := Claim7.holds Tryz.pinned (.plain (OpenSpec.upto fnExactRunStartSpec)) fnExactRunStartUptoCard

/-- THE SECOND FORM's CARD OF 'laws.FnExactRunAll'. -/
def fnExactRunAllUptoCard : Claim7 := { stood := { row := fnExactRunAllUptoRow, standIns := [], harness := (true, "af8ca0ece797fcafad18e82cf32c221a8c31fa626e5ccffcbae43575a959e629"), looks := true }, kinds := [], alts := [], laidByText := true, laidKinds := [.data, .data, .data, .data, .sentinel, .sentinel, .pinned], laidTests := true, laidLooks := .later }
def FnExactRunAllUptoCardSaid : Prop := Claim7.holds Tryz.pinned (.plain (OpenSpec.upto fnExactRunAllSpec)) fnExactRunAllUptoCard
end Rows
end Go.Proofs.YtjglhackafgjiaaGreatDoor
