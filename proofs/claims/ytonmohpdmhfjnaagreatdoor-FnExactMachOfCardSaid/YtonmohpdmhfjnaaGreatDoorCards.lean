/-
  DERIVED. GIVEN WITH THE SEED: THE CARDS: each row of YtonmohpdmhfjnaaGreatDoorRows.lean that lists a variable, with what it lists TIED to the program's text (the seventh form; the later family's looks); each row that meets fmt, with fmt's text TOLD by the authors' own Lean function (tested against real Go, not proved from fmt's source: count such statements apart). THE CARD IS WHAT COUNTS. Prove the row's statement (the work); the ties are given (YtonmohpdmhfjnaaGreatDoorTie.lean); close each card by the builder's one call (the guide's Derived/Test/ToyasCard.lean, 'card_holds'). Laid BY PROGRAM, IN A SANDBOX (cutbox-door.mjs). By AI agents, Wed Nov 11 2026. No macro, syntax, notation, axiom, sorry.
-/
import Derived.Test.YtonmohpdmhfjnaaGreatDoorRows
import GoSem.ClaimSeven
namespace Go.Proofs.YtonmohpdmhfjnaaGreatDoor
namespace Rows

/-- THE TIED CARD OF 'laws.FnExactMachBytes'. -/
def fnExactMachBytesCard : Claim7 := { stood := { row := fnExactMachBytesRow, standIns := [], harness := (true, "722a4b254f9e4026c9a20f47b2543f538b49c161d30a46dd51cefd86e2afb017"), looks := true }, kinds := [], alts := [], laidByText := true, laidKinds := [.data, .data, .data, .data, .sentinel, .sentinel, .pinned], laidTests := true, laidLooks := .later }
def FnExactMachBytesCardSaid : Prop := Claim7.holds Tryz.pinned (.plain (OpenSpec.ofChange fnExactMachBytesSpec)) fnExactMachBytesCard

/-- THE TIED CARD OF 'laws.FnExactMachOf'. -/
def fnExactMachOfCard : Claim7 := { stood := { row := fnExactMachOfRow, standIns := [], harness := (true, "722a4b254f9e4026c9a20f47b2543f538b49c161d30a46dd51cefd86e2afb017"), looks := true }, kinds := [], alts := [], laidByText := true, laidKinds := [.data, .data, .data, .data, .sentinel, .sentinel, .pinned], laidTests := true, laidLooks := .later }
def FnExactMachOfCardSaid : Prop := Claim7.holds Tryz.pinned (.plain (OpenSpec.ofChange fnExactMachOfSpec)) fnExactMachOfCard

/-- THE TIED CARD OF 'laws.FnExactHardOk'. -/
def fnExactHardOkCard : Claim7 := { stood := { row := fnExactHardOkRow, standIns := [], harness := (true, "722a4b254f9e4026c9a20f47b2543f538b49c161d30a46dd51cefd86e2afb017"), looks := true }, kinds := [], alts := [], laidByText := true, laidKinds := [.data, .data, .data, .data, .sentinel, .sentinel, .pinned], laidTests := true, laidLooks := .later }
def FnExactHardOkCardSaid : Prop := Claim7.holds Tryz.pinned (.plain (OpenSpec.ofChange fnExactHardOkSpec)) fnExactHardOkCard

/-- THE TIED CARD OF 'laws.FnExactPeerOk'. -/
def fnExactPeerOkCard : Claim7 := { stood := { row := fnExactPeerOkRow, standIns := [], harness := (true, "722a4b254f9e4026c9a20f47b2543f538b49c161d30a46dd51cefd86e2afb017"), looks := true }, kinds := [], alts := [], laidByText := true, laidKinds := [.data, .data, .data, .data, .sentinel, .sentinel, .pinned], laidTests := true, laidLooks := .later }
def FnExactPeerOkCardSaid : Prop := Claim7.holds Tryz.pinned (.plain (OpenSpec.ofChange fnExactPeerOkSpec)) fnExactPeerOkCard

/-- THE SECOND FORM's CARD OF 'laws.FnExactMachBytes'. -/
def fnExactMachBytesUptoCard : Claim7 := { stood := { row := fnExactMachBytesUptoRow, standIns := [], harness := (true, "722a4b254f9e4026c9a20f47b2543f538b49c161d30a46dd51cefd86e2afb017"), looks := true }, kinds := [], alts := [], laidByText := true, laidKinds := [.data, .data, .data, .data, .sentinel, .sentinel, .pinned], laidTests := true, laidLooks := .later }
def FnExactMachBytesUptoCardSaid : Prop := Claim7.holds Tryz.pinned (.plain (OpenSpec.upto fnExactMachBytesSpec)) fnExactMachBytesUptoCard

/-- THE SECOND FORM's CARD OF 'laws.FnExactMachOf'. -/
def fnExactMachOfUptoCard : Claim7 := { stood := { row := fnExactMachOfUptoRow, standIns := [], harness := (true, "722a4b254f9e4026c9a20f47b2543f538b49c161d30a46dd51cefd86e2afb017"), looks := true }, kinds := [], alts := [], laidByText := true, laidKinds := [.data, .data, .data, .data, .sentinel, .sentinel, .pinned], laidTests := true, laidLooks := .later }
def FnExactMachOfUptoCardSaid : Prop := Claim7.holds Tryz.pinned (.plain (OpenSpec.upto fnExactMachOfSpec)) fnExactMachOfUptoCard

/-- THE SECOND FORM's CARD OF 'laws.FnExactHardOk'. -/
def fnExactHardOkUptoCard : Claim7 := { stood := { row := fnExactHardOkUptoRow, standIns := [], harness := (true, "722a4b254f9e4026c9a20f47b2543f538b49c161d30a46dd51cefd86e2afb017"), looks := true }, kinds := [], alts := [], laidByText := true, laidKinds := [.data, .data, .data, .data, .sentinel, .sentinel, .pinned], laidTests := true, laidLooks := .later }
def FnExactHardOkUptoCardSaid : Prop := Claim7.holds Tryz.pinned (.plain (OpenSpec.upto fnExactHardOkSpec)) fnExactHardOkUptoCard

/-- THE SECOND FORM's CARD OF 'laws.FnExactPeerOk'. -/
def fnExactPeerOkUptoCard : Claim7 := { stood := { row := fnExactPeerOkUptoRow, standIns := [], harness := (true, "722a4b254f9e4026c9a20f47b2543f538b49c161d30a46dd51cefd86e2afb017"), looks := true }, kinds := [], alts := [], laidByText := true, laidKinds := [.data, .data, .data, .data, .sentinel, .sentinel, .pinned], laidTests := true, laidLooks := .later }
def FnExactPeerOkUptoCardSaid : Prop := Claim7.holds Tryz.pinned (.plain (OpenSpec.upto fnExactPeerOkSpec)) fnExactPeerOkUptoCard
end Rows
end Go.Proofs.YtonmohpdmhfjnaaGreatDoor
