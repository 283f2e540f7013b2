/-
  DERIVED. GIVEN WITH THE SEED: THE CARDS: each row of YtcngnpahpbaagaaGreatDoorRows.lean that lists a variable, with what it lists TIED to the program's text (the seventh form; the later family's looks); each row that meets fmt, with fmt's text TOLD by the authors' own Lean function (tested against real Go, not proved from fmt's source: count such statements apart). THE CARD IS WHAT COUNTS. Prove the row's statement (the work); the ties are given (YtcngnpahpbaagaaGreatDoorTie.lean); close each card by the builder's one call (the guide's Derived/Test/ToyasCard.lean, 'card_holds'). Laid BY PROGRAM, IN A SANDBOX (cutbox-door.mjs). By AI agents, Wed Nov 11 2026. No macro, syntax, notation, axiom, sorry.
-/
import Derived.Test.YtcngnpahpbaagaaGreatDoorRows
import GoSem.ClaimSeven
namespace Go.Proofs.YtcngnpahpbaagaaGreatDoor
namespace Rows

/-- THE TIED CARD OF 'laws.FnExactWorldOk'. -/
def fnExactWorldOkCard : Claim7 := { stood := { row := fnExactWorldOkRow, standIns := [], harness := (true, "aff366cf83f969b1d6de40689917f31c5229fcbc1aa6430658338943502bf926"), looks := true }, kinds := [], alts := [], laidByText := true, laidKinds := [.data, .data, .data, .data, .sentinel, .sentinel, .pinned], laidTests := true, laidLooks := .later }
def FnExactWorldOkCardSaid : Prop := Claim7.holds Tryz.pinned (.plain (OpenSpec.ofChange fnExactWorldOkSpec)) fnExactWorldOkCard

/-- THE TIED CARD OF 'laws.FnExactPropose'. -/
def fnExactProposeCard : Claim7 := { stood := { row := fnExactProposeRow, standIns := [], harness := (true, "aff366cf83f969b1d6de40689917f31c5229fcbc1aa6430658338943502bf926"), looks := true }, kinds := [], alts := [], laidByText := true, laidKinds := [.data, .data, .data, .data, .sentinel, .sentinel, .pinned], laidTests := true, laidLooks := .later }
def FnExactProposeCardSaid : Prop := Claim7.holds Tryz.pinned (.plain (OpenSpec.ofChange fnExactProposeSpec)) fnExactProposeCard

/-- THE TIED CARD OF 'laws.FnExactFeed'. -/
def fnExactFeedCard : Claim7 := { stood := { row := fnExactFeedRow, standIns := [], harness := (true, "aff366cf83f969b1d6de40689917f31c5229fcbc1aa6430658338943502bf926"), looks := true }, kinds := [], alts := [], laidByText := true, laidKinds := [.data, .data, .data, .data, .sentinel, .sentinel, .pinned], laidTests := true, laidLooks := .later }
def FnExactFeedCardSaid : Prop := Claim7.holds Tryz.pinned (.plain (OpenSpec.ofChange fnExactFeedSpec)) fnExactFeedCard

/-- THE TIED CARD OF 'laws.FnExactHardBytes'. -/
def fnExactHardBytesCard : Claim7 := { stood := { row := fnExactHardBytesRow, standIns := [], harness := (true, "aff366cf83f969b1d6de40689917f31c5229fcbc1aa6430658338943502bf926"), looks := true }, kinds := [], alts := [], laidByText := true, laidKinds := [.data, .data, .data, .data, .sentinel, .sentinel, .pinned], laidTests := true, laidLooks := .later }
def FnExactHardBytesCardSaid : Prop := Claim7.holds Tryz.pinned (.plain (OpenSpec.ofChange fnExactHardBytesSpec)) fnExactHardBytesCard

/-- THE TIED CARD OF 'laws.FnExactHardDo'. -/
def fnExactHardDoCard : Claim7 := { stood := { row := fnExactHardDoRow, standIns := [], harness := (true, "aff366cf83f969b1d6de40689917f31c5229fcbc1aa6430658338943502bf926"), looks := true }, kinds := [], alts := [], laidByText := true, laidKinds := [.data, .data, .data, .data, .sentinel, .sentinel, .pinned], laidTests := true, laidLooks := .later }
def FnExactHardDoCardSaid : Prop := Claim7.holds Tryz.pinned (.plain (OpenSpec.ofChange fnExactHardDoSpec)) fnExactHardDoCard

/-- THE TIED CARD OF 'laws.FnExactWriteDown'. -/
def fnExactWriteDownCard : Claim7 := { stood := { row := fnExactWriteDownRow, standIns := [], harness := (true, "aff366cf83f969b1d6de40689917f31c5229fcbc1aa6430658338943502bf926"), looks := true }, kinds := [], alts := [], laidByText := true, laidKinds := [.data, .data, .data, .data, .sentinel, .sentinel, .pinned], laidTests := true, laidLooks := .later }
def FnExactWriteDownCardSaid : Prop := Claim7.holds Tryz.pinned (.plain (OpenSpec.ofChange fnExactWriteDownSpec)) fnExactWriteDownCard

/-- THE TIED CARD OF 'laws.FnExactAsk'. -/
def fnExactAskCard : Claim7 := { stood := { row := fnExactAskRow, standIns := [], harness := (true, "aff366cf83f969b1d6de40689917f31c5229fcbc1aa6430658338943502bf926"), looks := true }, kinds := [], alts := [], laidByText := true, laidKinds := [.data, .data, .data, .data, .sentinel, .sentinel, .pinned], laidTests := true, laidLooks := .later }
def FnExactAskCardSaid : Prop := Claim7.holds Tryz.pinned (.plain (OpenSpec.ofChange fnExactAskSpec)) fnExactAskCard

/-- THE SECOND FORM's CARD OF 'laws.FnExactWorldOk'. -/
def fnExactWorldOkUptoCard : Claim7 := { stood := { row := fnExactWorldOkUptoRow, standIns := [], harness := (true, "aff366cf83f969b1d6de40689917f31c5229fcbc1aa6430658338943502bf926"), looks := true }, kinds := [], alts := [], laidByText := true, laidKinds := [.data, .data, .data, .data, .sentinel, .sentinel, .pinned], laidTests := true, laidLooks := .later }
def FnExactWorldOkUptoCardSaid : Prop := Claim7.holds Tryz.pinned (.plain (OpenSpec.upto fnExactWorldOkSpec)) fnExactWorldOkUptoCard

/-- THE SECOND FORM's CARD OF 'laws.FnExactPropose'. -/
def fnExactProposeUptoCard : Claim7 := { stood := { row := fnExactProposeUptoRow, standIns := [], harness := (true, "aff366cf83f969b1d6de40689917f31c5229fcbc1aa6430658338943502bf926"), looks := true }, kinds := [], alts := [], laidByText := true, laidKinds := [.data, .data, .data, .data, .sentinel, .sentinel, .pinned], laidTests := true, laidLooks := .later }
def FnExactProposeUptoCardSaid : Prop := Claim7.holds Tryz.pinned (.plain (OpenSpec.upto fnExactProposeSpec)) fnExactProposeUptoCard

/-- THE SECOND FORM's CARD OF 'laws.FnExactFeed'. -/
def fnExactFeedUptoCard : Claim7 := { stood := { row := fnExactFeedUptoRow, standIns := [], harness := (true, "aff366cf83f969b1d6de40689917f31c5229fcbc1aa6430658338943502bf926"), looks := true }, kinds := [], alts := [], laidByText := true, laidKinds := [.data, .data, .data, .data, .sentinel, .sentinel, .pinned], laidTests := true, laidLooks := .later }
def FnExactFeedUptoCardSaid : Prop := Claim7.holds Tryz.pinned (.plain (OpenSpec.upto fnExactFeedSpec)) fnExactFeedUptoCard

/-- THE SECOND FORM's CARD OF 'laws.FnExactHardBytes'. -/
def fnExactHardBytesUptoCard : Claim7 := { stood := { row := fnExactHardBytesUptoRow, standIns := [], harness := (true, "aff366cf83f969b1d6de40689917f31c5229fcbc1aa6430658338943502bf926"), looks := true }, kinds := [], alts := [], laidByText := true, laidKinds := [.data, .data, .data, .data, .sentinel, .sentinel, .pinned], laidTests := true, laidLooks := .later }
def FnExactHardBytesUptoCardSaid : Prop := Claim7.holds Tryz.pinned (.plain (OpenSpec.upto fnExactHardBytesSpec)) fnExactHardBytesUptoCard

/-- THE SECOND FORM's CARD OF 'laws.FnExactHardDo'. -/
def fnExactHardDoUptoCard : Claim7 := { stood := { row := fnExactHardDoUptoRow, standIns := [], harness := (true, "aff366cf83f969b1d6de40689917f31c5229fcbc1aa6430658338943502bf926"), looks := true }, kinds := [], alts := [], laidByText := true, laidKinds := [.data, .data, .data, .data, .sentinel, .sentinel, .pinned], laidTests := true, laidLooks := .later }
def FnExactHardDoUptoCardSaid : Prop := Claim7.holds Tryz.pinned (.plain (OpenSpec.upto fnExactHardDoSpec)) fnExactHardDoUptoCard

/-- THE SECOND FORM's CARD OF 'laws.FnExactWriteDown'. -/
def fnExactWriteDownUptoCard : Claim7 := { stood := { row := fnExactWriteDownUptoRow, standIns := [], harness := (true, "aff366cf83f969b1d6de40689917f31c5229fcbc1aa6430658338943502bf926"), looks := true }, kinds := [], alts := [], laidByText := true, laidKinds := [.data, .data, .data, .data, .sentinel, .sentinel, .pinned], laidTests := true, laidLooks := .later }
def FnExactWriteDownUptoCardSaid : Prop := Claim7.holds Tryz.pinned (.plain (OpenSpec.upto fnExactWriteDownSpec)) fnExactWriteDownUptoCard

/-- THE SECOND FORM's CARD OF 'laws.FnExactAsk'. -/
def fnExactAskUptoCard : Claim7 := { stood := { row := fnExactAskUptoRow, standIns := [], harness := (true, "aff366cf83f969b1d6de40689917f31c5229fcbc1aa6430658338943502bf926"), looks := true }, kinds := [], alts := [], laidByText := true, laidKinds := [.data, .data, .data, .data, .sentinel, .sentinel, .pinned], laidTests := true, laidLooks := .later }
def FnExactAskUptoCardSaid : Prop := Claim7.holds Tryz.pinned (.plain (OpenSpec.upto fnExactAskSpec)) fnExactAskUptoCard
end Rows
end Go.Proofs.YtcngnpahpbaagaaGreatDoor
