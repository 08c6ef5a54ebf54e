/-
  DERIVED. GIVEN WITH THE SEED: THE CARDS: each row of YtemnnicnbdmhkaaGreatDoorRows.lean that lists a variable, with what it lists TIED to the program's text (the seventh form; the later family's looks); each row that meets fmt, with fmt's text TOLD by the authors' own Lean function (tested against real Go, not proved from fmt's source: count such statements apart). THE CARD IS WHAT COUNTS. Prove the row's statement (the work); the ties are given (YtemnnicnbdmhkaaGreatDoorTie.lean); close each card by the builder's one call (the guide's Derived/Test/ToyasCard.lean, 'card_holds'). Laid BY PROGRAM, IN A SANDBOX (cutbox-door.mjs). By AI agents, Wed Nov 11 2026. No macro, syntax, notation, axiom, sorry.
-/
import Derived.Test.YtemnnicnbdmhkaaGreatDoorRows
import GoSem.ClaimSeven
namespace Go.Proofs.YtemnnicnbdmhkaaGreatDoor
namespace Rows

/-- THE TIED CARD OF 'laws.FnRootNew'. -/
def fnRootNewCard : Claim7 := { stood := { row := fnRootNewRow, standIns := [], harness := (true, "1a1838a3bf62b419a3005c7855445892e29b56695b872649b6ce3cd0840a3590"), looks := true }, kinds := [], alts := [], laidByText := true, laidKinds := [.data, .data, .data, .data, .data, .pinned], laidTests := true, laidLooks := .later }
def FnRootNewCardSaid : Prop := Claim7.holds Tryz.pinned (.plain (OpenSpec.ofChange fnRootNewSpec)) fnRootNewCard

/-- THE TIED CARD OF 'laws.FnExactRootPut'. -/
def fnExactRootPutCard : Claim7 := { stood := { row := fnExactRootPutRow, standIns := [], harness := (true, "1a1838a3bf62b419a3005c7855445892e29b56695b872649b6ce3cd0840a3590"), looks := true }, kinds := [], alts := [], laidByText := true, laidKinds := [.data, .data, .data, .data, .data, .pinned], laidTests := true, laidLooks := .later }
def FnExactRootPutCardSaid : Prop := Claim7.holds Tryz.pinned (.plain (OpenSpec.ofChange fnExactRootPutSpec)) fnExactRootPutCard

/-- THE TIED CARD OF 'laws.FnExactDiskNew'. -/
def fnExactDiskNewCard : Claim7 := { stood := { row := fnExactDiskNewRow, standIns := [], harness := (true, "1a1838a3bf62b419a3005c7855445892e29b56695b872649b6ce3cd0840a3590"), looks := true }, kinds := [], alts := [], laidByText := true, laidKinds := [.data, .data, .data, .data, .data, .pinned], laidTests := true, laidLooks := .later }
def FnExactDiskNewCardSaid : Prop := Claim7.holds Tryz.pinned (.plain (OpenSpec.ofChange fnExactDiskNewSpec)) fnExactDiskNewCard

/-- THE TIED CARD OF 'laws.FnBuildLess'. -/
def fnBuildLessCard : Claim7 := { stood := { row := fnBuildLessRow, standIns := [], harness := (true, "1a1838a3bf62b419a3005c7855445892e29b56695b872649b6ce3cd0840a3590"), looks := true }, kinds := [], alts := [], laidByText := true, laidKinds := [.data, .handle, .pinned], laidTests := true, laidLooks := .later }
def FnBuildLessCardSaid : Prop := Claim7.holds Tryz.pinned (.plain (OpenSpec.ofChange fnBuildLessSpec)) fnBuildLessCard

/-- THE TIED CARD OF 'laws.FnBuildTurned'. -/
def fnBuildTurnedCard : Claim7 := { stood := { row := fnBuildTurnedRow, standIns := [], harness := (true, "1a1838a3bf62b419a3005c7855445892e29b56695b872649b6ce3cd0840a3590"), looks := true }, kinds := [], alts := [], laidByText := true, laidKinds := [.data, .handle, .pinned], laidTests := true, laidLooks := .later }
def FnBuildTurnedCardSaid : Prop := Claim7.holds Tryz.pinned (.plain (OpenSpec.ofChange fnBuildTurnedSpec)) fnBuildTurnedCard

/-- THE TIED CARD OF 'laws.FnBuildOrder'. -/
def fnBuildOrderCard : Claim7 := { stood := { row := fnBuildOrderRow, standIns := [], harness := (true, "1a1838a3bf62b419a3005c7855445892e29b56695b872649b6ce3cd0840a3590"), looks := true }, kinds := [], alts := [], laidByText := true, laidKinds := [.data, .handle, .pinned], laidTests := true, laidLooks := .later }
def FnBuildOrderCardSaid : Prop := Claim7.holds Tryz.pinned (.plain (OpenSpec.ofChange fnBuildOrderSpec)) fnBuildOrderCard

/-- THE TIED CARD OF 'laws.FnBuildRound'. -/
def fnBuildRoundCard : Claim7 := { stood := { row := fnBuildRoundRow, standIns := [], harness := (true, "1a1838a3bf62b419a3005c7855445892e29b56695b872649b6ce3cd0840a3590"), looks := true }, kinds := [], alts := [], laidByText := true, laidKinds := [.data, .handle, .pinned], laidTests := true, laidLooks := .later }
def FnBuildRoundCardSaid : Prop := Claim7.holds Tryz.pinned (.plain (OpenSpec.ofChange fnBuildRoundSpec)) fnBuildRoundCard

/-- THE TIED CARD OF 'laws.FnExactBuildOrder'. -/
def fnExactBuildOrderCard : Claim7 := { stood := { row := fnExactBuildOrderRow, standIns := [], harness := (true, "1a1838a3bf62b419a3005c7855445892e29b56695b872649b6ce3cd0840a3590"), looks := true }, kinds := [], alts := [], laidByText := true, laidKinds := [.data, .handle, .pinned], laidTests := true, laidLooks := .later }
def FnExactBuildOrderCardSaid : Prop := Claim7.holds Tryz.pinned (.plain (OpenSpec.ofChange fnExactBuildOrderSpec)) fnExactBuildOrderCard

/-- THE TIED CARD OF 'laws.FnExactBuildRound'. -/
def fnExactBuildRoundCard : Claim7 := { stood := { row := fnExactBuildRoundRow, standIns := [], harness := (true, "1a1838a3bf62b419a3005c7855445892e29b56695b872649b6ce3cd0840a3590"), looks := true }, kinds := [], alts := [], laidByText := true, laidKinds := [.data, .handle, .pinned], laidTests := true, laidLooks := .later }
def FnExactBuildRoundCardSaid : Prop := Claim7.holds Tryz.pinned (.plain (OpenSpec.ofChange fnExactBuildRoundSpec)) fnExactBuildRoundCard

/-- THE SECOND FORM's CARD OF 'laws.FnRootNew'. -/
def fnRootNewUptoCard : Claim7 := { stood := { row := fnRootNewUptoRow, standIns := [], harness := (true, "1a1838a3bf62b419a3005c7855445892e29b56695b872649b6ce3cd0840a3590"), looks := true }, kinds := [], alts := [], laidByText := true, laidKinds := [.data, .data, .data, .data, .data, .pinned], laidTests := true, laidLooks := .later }
def FnRootNewUptoCardSaid : Prop := Claim7.holds Tryz.pinned (.plain (OpenSpec.upto fnRootNewSpec)) fnRootNewUptoCard

/-- THE SECOND FORM's CARD OF 'laws.FnExactRootPut'. -/
def fnExactRootPutUptoCard : Claim7 := { stood := { row := fnExactRootPutUptoRow, standIns := [], harness := (true, "1a1838a3bf62b419a3005c7855445892e29b56695b872649b6ce3cd0840a3590"), looks := true }, kinds := [], alts := [], laidByText := true, laidKinds := [.data, .data, .data, .data, .data, .pinned], laidTests := true, laidLooks := .later }
def FnExactRootPutUptoCardSaid : Prop := Claim7.holds Tryz.pinned (.plain (OpenSpec.upto fnExactRootPutSpec)) fnExactRootPutUptoCard

/-- THE SECOND FORM's CARD OF 'laws.FnExactDiskNew'. -/
def fnExactDiskNewUptoCard : Claim7 := { stood := { row := fnExactDiskNewUptoRow, standIns := [], harness := (true, "1a1838a3bf62b419a3005c7855445892e29b56695b872649b6ce3cd0840a3590"), looks := true }, kinds := [], alts := [], laidByText := true, laidKinds := [.data, .data, .data, .data, .data, .pinned], laidTests := true, laidLooks := .later }
def FnExactDiskNewUptoCardSaid : Prop := Claim7.holds Tryz.pinned (.plain (OpenSpec.upto fnExactDiskNewSpec)) fnExactDiskNewUptoCard

/-- THE SECOND FORM's CARD OF 'laws.FnBuildLess'. -/
def fnBuildLessUptoCard : Claim7 := { stood := { row := fnBuildLessUptoRow, standIns := [], harness := (true, "1a1838a3bf62b419a3005c7855445892e29b56695b872649b6ce3cd0840a3590"), looks := true }, kinds := [], alts := [], laidByText := true, laidKinds := [.data, .handle, .pinned], laidTests := true, laidLooks := .later }
def FnBuildLessUptoCardSaid : Prop := Claim7.holds Tryz.pinned (.plain (OpenSpec.upto fnBuildLessSpec)) fnBuildLessUptoCard

/-- THE SECOND FORM's CARD OF 'laws.FnBuildTurned'. -/
def fnBuildTurnedUptoCard : Claim7 := { stood := { row := fnBuildTurnedUptoRow, standIns := [], harness := (true, "1a1838a3bf62b419a3005c7855445892e29b56695b872649b6ce3cd0840a3590"), looks := true }, kinds := [], alts := [], laidByText := true, laidKinds := [.data, .handle, .pinned], laidTests := true, laidLooks := .later }
def FnBuildTurnedUptoCardSaid : Prop := Claim7.holds Tryz.pinned (.plain (OpenSpec.upto fnBuildTurnedSpec)) fnBuildTurnedUptoCard

/-- THE SECOND FORM's CARD OF 'laws.FnBuildOrder'. -/
def fnBuildOrderUptoCard : Claim7 := { stood := { row := fnBuildOrderUptoRow, standIns := [], harness := (true, "1a1838a3bf62b419a3005c7855445892e29b56695b872649b6ce3cd0840a3590"), looks := true }, kinds := [], alts := [], laidByText := true, laidKinds := [.data, .handle, .pinned], laidTests := true, laidLooks := .later }
def FnBuildOrderUptoCardSaid : Prop := Claim7.holds Tryz.pinned (.plain (OpenSpec.upto fnBuildOrderSpec)) fnBuildOrderUptoCard

/-- THE SECOND FORM's CARD OF 'laws.FnBuildRound'. -/
def fnBuildRoundUptoCard : Claim7 := { stood := { row := fnBuildRoundUptoRow, standIns := [], harness := (true, "1a1838a3bf62b419a3005c7855445892e29b56695b872649b6ce3cd0840a3590"), looks := true }, kinds := [], alts := [], laidByText := true, laidKinds := [.data, .handle, .pinned], laidTests := true, laidLooks := .later }
def FnBuildRoundUptoCardSaid : Prop := Claim7.holds Tryz.pinned (.plain (OpenSpec.upto fnBuildRoundSpec)) fnBuildRoundUptoCard

/-- THE SECOND FORM's CARD OF 'laws.FnExactBuildOrder'. -/
def fnExactBuildOrderUptoCard : Claim7 := { stood := { row := fnExactBuildOrderUptoRow, standIns := [], harness := (true, "1a1838a3bf62b419a3005c7855445892e29b56695b872649b6ce3cd0840a3590"), looks := true }, kinds := [], alts := [], laidByText := true, laidKinds := [.data, .handle, .pinned], laidTests := true, laidLooks := .later }
def FnExactBuildOrderUptoCardSaid : Prop := Claim7.holds Tryz.pinned (.plain (OpenSpec.upto fnExactBuildOrderSpec)) fnExactBuildOrderUptoCard

/-- THE SECOND FORM's CARD OF 'laws.FnExactBuildRound'. -/
def fnExactBuildRoundUptoCard : Claim7 := { stood := { row := fnExactBuildRoundUptoRow, standIns := [], harness := (true, "1a1838a3bf62b419a3005c7855445892e29b56695b872649b6ce3cd0840a3590"), looks := true }, kinds := [], alts := [], laidByText := true, laidKinds := [.data, .handle, .pinned], laidTests := true, laidLooks := .later }
def FnExactBuildRoundUptoCardSaid : Prop := Claim7.holds Tryz.pinned (.plain (OpenSpec.upto fnExactBuildRoundSpec)) fnExactBuildRoundUptoCard
end Rows
end Go.Proofs.YtemnnicnbdmhkaaGreatDoor
