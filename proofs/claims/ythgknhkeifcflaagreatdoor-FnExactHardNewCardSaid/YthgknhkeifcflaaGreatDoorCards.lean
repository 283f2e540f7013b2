/-
  DERIVED. GIVEN WITH THE SEED: THE CARDS: each row of YthgknhkeifcflaaGreatDoorRows.lean that lists a variable, with what it lists TIED to the program's text (the seventh form; the later family's looks); each row that meets fmt, with fmt's text TOLD by the authors' own Lean function (tested against real Go, not proved from fmt's source: count such statements apart). THE CARD IS WHAT COUNTS. Prove the row's statement (the work); the ties are given (YthgknhkeifcflaaGreatDoorTie.lean); close each card by the builder's one call (the guide's Derived/Test/ToyasCard.lean, 'card_holds'). Laid BY PROGRAM, IN A SANDBOX (cutbox-door.mjs). By AI agents, Wed Nov 11 2026. No macro, syntax, notation, axiom, sorry.
-/
import Derived.Test.YthgknhkeifcflaaGreatDoorRows
import GoSem.ClaimSeven
namespace Go.Proofs.YthgknhkeifcflaaGreatDoor
namespace Rows

/-- THE TIED CARD OF 'laws.FnExactMachNew'. -/
def fnExactMachNewCard : Claim7 := { stood := { row := fnExactMachNewRow, standIns := [], harness := (true, "132b5650b16b6276458e2f31925103b86e43a34e170c24b7bb2ee2b82c6f62df"), looks := true }, kinds := [], alts := [], laidByText := true, laidKinds := [.data, .data, .data, .data, .sentinel, .sentinel, .pinned], laidTests := true, laidLooks := .later }
def FnExactMachNewCardSaid : Prop := Claim7.holds Tryz.pinned (.plain (OpenSpec.ofChange fnExactMachNewSpec)) fnExactMachNewCard

/-- THE TIED CARD OF 'laws.FnExactHardNew'. -/
def fnExactHardNewCard : Claim7 := { stood := { row := fnExactHardNewRow, standIns := [], harness := (true, "132b5650b16b6276458e2f31925103b86e43a34e170c24b7bb2ee2b82c6f62df"), looks := true }, kinds := [], alts := [], laidByText := true, laidKinds := [.data, .data, .data, .data, .sentinel, .sentinel, .pinned], laidTests := true, laidLooks := .later }
def FnExactHardNewCardSaid : Prop := Claim7.holds Tryz.pinned (.plain (OpenSpec.ofChange fnExactHardNewSpec)) fnExactHardNewCard

/-- THE TIED CARD OF 'laws.FnExactMachAll'. -/
def fnExactMachAllCard : Claim7 := { stood := { row := fnExactMachAllRow, standIns := [], harness := (true, "132b5650b16b6276458e2f31925103b86e43a34e170c24b7bb2ee2b82c6f62df"), looks := true }, kinds := [], alts := [], laidByText := true, laidKinds := [.data, .data, .data, .data, .sentinel, .sentinel, .pinned], laidTests := true, laidLooks := .later }
def FnExactMachAllCardSaid : Prop := Claim7.holds Tryz.pinned (.plain (OpenSpec.ofChange fnExactMachAllSpec)) fnExactMachAllCard

/-- THE TIED CARD OF 'laws.FnExactMachDo'. -/
def fnExactMachDoCard : Claim7 := { stood := { row := fnExactMachDoRow, standIns := [], harness := (true, "132b5650b16b6276458e2f31925103b86e43a34e170c24b7bb2ee2b82c6f62df"), looks := true }, kinds := [], alts := [], laidByText := true, laidKinds := [.data, .data, .data, .data, .sentinel, .sentinel, .pinned], laidTests := true, laidLooks := .later }
def FnExactMachDoCardSaid : Prop := Claim7.holds Tryz.pinned (.plain (OpenSpec.ofChange fnExactMachDoSpec)) fnExactMachDoCard

/-- THE SECOND FORM's CARD OF 'laws.FnExactMachNew'. -/
def fnExactMachNewUptoCard : Claim7 := { stood := { row := fnExactMachNewUptoRow, standIns := [], harness := (true, "132b5650b16b6276458e2f31925103b86e43a34e170c24b7bb2ee2b82c6f62df"), looks := true }, kinds := [], alts := [], laidByText := true, laidKinds := [.data, .data, .data, .data, .sentinel, .sentinel, .pinned], laidTests := true, laidLooks := .later }
def FnExactMachNewUptoCardSaid : Prop := Claim7.holds Tryz.pinned (.plain (OpenSpec.upto fnExactMachNewSpec)) fnExactMachNewUptoCard

/-- THE SECOND FORM's CARD OF 'laws.FnExactHardNew'. -/
def fnExactHardNewUptoCard : Claim7 := { stood := { row := fnExactHardNewUptoRow, standIns := [], harness := (true, "132b5650b16b6276458e2f31925103b86e43a34e170c24b7bb2ee2b82c6f62df"), looks := true }, kinds := [], alts := [], laidByText := true, laidKinds := [.data, .data, .data, .data, .sentinel, .sentinel, .pinned], laidTests := true, laidLooks := .later }
def FnExactHardNewUptoCardSaid : Prop := Claim7.holds Tryz.pinned (.plain (OpenSpec.upto fnExactHardNewSpec)) fnExactHardNewUptoCard

/-- THE SECOND FORM's CARD OF 'laws.FnExactMachAll'. -/
def fnExactMachAllUptoCard : Claim7 := { stood := { row := fnExactMachAllUptoRow, standIns := [], harness := (true, "132b5650b16b6276458e2f31925103b86e43a34e170c24b7bb2ee2b82c6f62df"), looks := true }, kinds := [], alts := [], laidByText := true, laidKinds := [.data, .data, .data, .data, .sentinel, .sentinel, .pinned], laidTests := true, laidLooks := .later }
def FnExactMachAllUptoCardSaid : Prop := Claim7.holds Tryz.pinned (.plain (OpenSpec.upto fnExactMachAllSpec)) fnExactMachAllUptoCard

/-- THE SECOND FORM's CARD OF 'laws.FnExactMachDo'. -/
def fnExactMachDoUptoCard : Claim7 := { stood := { row := fnExactMachDoUptoRow, standIns := [], harness := (true, "132b5650b16b6276458e2f31925103b86e43a34e170c24b7bb2ee2b82c6f62df"), looks := true }, kinds := [], alts := [], laidByText := true, laidKinds := [.data, .data, .data, .data, .sentinel, .sentinel, .pinned], laidTests := true, laidLooks := .later }
def FnExactMachDoUptoCardSaid : Prop := Claim7.holds Tryz.pinned (.plain (OpenSpec.upto fnExactMachDoSpec)) fnExactMachDoUptoCard
end Rows
end Go.Proofs.YthgknhkeifcflaaGreatDoor
