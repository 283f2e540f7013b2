/-
  DERIVED. GIVEN WITH THE SEED: THE CARDS: each row of YtemajhlhgphhjaaGreatDoorRows.lean that lists a variable, with what it lists TIED to the program's text (the seventh form; the later family's looks); each row that meets fmt, with fmt's text TOLD by the authors' own Lean function (tested against real Go, not proved from fmt's source: count such statements apart). THE CARD IS WHAT COUNTS. Prove the row's statement (the work); the ties are given (YtemajhlhgphhjaaGreatDoorTie.lean); close each card by the builder's one call (the guide's Derived/Test/ToyasCard.lean, 'card_holds'). Laid BY PROGRAM, IN A SANDBOX (cutbox-door.mjs). By AI agents, Wed Nov 11 2026. No macro, syntax, notation, axiom, sorry.
-/
import Derived.Test.YtemajhlhgphhjaaGreatDoorRows
import GoSem.ClaimSeven
namespace Go.Proofs.YtemajhlhgphhjaaGreatDoor
namespace Rows

/-- THE TIED CARD OF 'laws.FnMachBytes'. -/
def fnMachBytesCard : Claim7 := { stood := { row := fnMachBytesRow, standIns := [], harness := (true, "3a46aeec6208e52b3bd6ec05365ca6be977d5b713a4259f4e1a37f67a173f707"), looks := true }, kinds := [], alts := [], laidByText := true, laidKinds := [.data, .data, .data, .data, .sentinel, .sentinel, .pinned], laidTests := true, laidLooks := .later }
def FnMachBytesCardSaid : Prop := Claim7.holds Tryz.pinned (.plain (OpenSpec.ofChange fnMachBytesSpec)) fnMachBytesCard

/-- THE SECOND FORM's CARD OF 'laws.FnMachBytes'. -/
def fnMachBytesUptoCard : Claim7 := { stood := { row := fnMachBytesUptoRow, standIns := [], harness := (true, "3a46aeec6208e52b3bd6ec05365ca6be977d5b713a4259f4e1a37f67a173f707"), looks := true }, kinds := [], alts := [], laidByText := true, laidKinds := [.data, .data, .data, .data, .sentinel, .sentinel, .pinned], laidTests := true, laidLooks := .later }
def FnMachBytesUptoCardSaid : Prop := Claim7.holds Tryz.pinned (.plain (OpenSpec.upto fnMachBytesSpec)) fnMachBytesUptoCard
end Rows
end Go.Proofs.YtemajhlhgphhjaaGreatDoor
