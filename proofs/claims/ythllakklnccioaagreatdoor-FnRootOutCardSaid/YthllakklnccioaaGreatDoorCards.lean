/-
  DERIVED. GIVEN WITH THE SEED: THE CARDS: each row of YthllakklnccioaaGreatDoorRows.lean that lists a variable, with what it lists TIED to the program's text (the seventh form; the later family's looks); each row that meets fmt, with fmt's text TOLD by the authors' own Lean function (tested against real Go, not proved from fmt's source: count such statements apart). THE CARD IS WHAT COUNTS. Prove the row's statement (the work); the ties are given (YthllakklnccioaaGreatDoorTie.lean); close each card by the builder's one call (the guide's Derived/Test/ToyasCard.lean, 'card_holds'). Laid BY PROGRAM, IN A SANDBOX (cutbox-door.mjs). By AI agents, Wed Nov 11 2026. No macro, syntax, notation, axiom, sorry.
-/
import Derived.Test.YthllakklnccioaaGreatDoorRows
import GoSem.ClaimSeven
namespace Go.Proofs.YthllakklnccioaaGreatDoor
namespace Rows

/-- THE TIED CARD OF 'laws.FnExactRootTree'. -/
def fnExactRootTreeCard : Claim7 := { stood := { row := fnExactRootTreeRow, standIns := [], harness := (true, "5946f37c541407e64879668c936bc88f72ba3b57e26f9e49bbd15b4718069d7a"), looks := false }, kinds := [], alts := [], laidByText := true, laidKinds := [.data, .pinned], laidTests := true, laidLooks := .later }
def FnExactRootTreeCardSaid : Prop := Claim7.holds Tryz.pinned (.plain (OpenSpec.ofChange fnExactRootTreeSpec)) fnExactRootTreeCard

/-- THE TIED CARD OF 'laws.FnExactNeeders'. -/
def fnExactNeedersCard : Claim7 := { stood := { row := fnExactNeedersRow, standIns := [], harness := (true, "5946f37c541407e64879668c936bc88f72ba3b57e26f9e49bbd15b4718069d7a"), looks := false }, kinds := [], alts := [], laidByText := true, laidKinds := [.data, .pinned], laidTests := true, laidLooks := .later }
def FnExactNeedersCardSaid : Prop := Claim7.holds Tryz.pinned (.plain (OpenSpec.ofChange fnExactNeedersSpec)) fnExactNeedersCard

/-- THE TIED CARD OF 'laws.FnExactRootOut'. -/
def fnExactRootOutCard : Claim7 := { stood := { row := fnExactRootOutRow, standIns := [], harness := (true, "5946f37c541407e64879668c936bc88f72ba3b57e26f9e49bbd15b4718069d7a"), looks := false }, kinds := [], alts := [], laidByText := true, laidKinds := [.data, .pinned], laidTests := true, laidLooks := .later }
def FnExactRootOutCardSaid : Prop := Claim7.holds Tryz.pinned (.plain (OpenSpec.ofChange fnExactRootOutSpec)) fnExactRootOutCard

/-- THE TIED CARD OF 'laws.FnExactRootIn'. -/
def fnExactRootInCard : Claim7 := { stood := { row := fnExactRootInRow, standIns := [], harness := (true, "5946f37c541407e64879668c936bc88f72ba3b57e26f9e49bbd15b4718069d7a"), looks := false }, kinds := [], alts := [], laidByText := true, laidKinds := [.data, .pinned], laidTests := true, laidLooks := .later }
def FnExactRootInCardSaid : Prop := Claim7.holds Tryz.pinned (.plain (OpenSpec.ofChange fnExactRootInSpec)) fnExactRootInCard

/-- THE TIED CARD OF 'laws.FnExactRootSwap'. -/
def fnExactRootSwapCard : Claim7 := { stood := { row := fnExactRootSwapRow, standIns := [], harness := (true, "5946f37c541407e64879668c936bc88f72ba3b57e26f9e49bbd15b4718069d7a"), looks := false }, kinds := [], alts := [], laidByText := true, laidKinds := [.data, .pinned], laidTests := true, laidLooks := .later }
def FnExactRootSwapCardSaid : Prop := Claim7.holds Tryz.pinned (.plain (OpenSpec.ofChange fnExactRootSwapSpec)) fnExactRootSwapCard

/-- THE TIED CARD OF 'laws.FnNeeders'. -/
def fnNeedersCard : Claim7 := { stood := { row := fnNeedersRow, standIns := [], harness := (true, "5946f37c541407e64879668c936bc88f72ba3b57e26f9e49bbd15b4718069d7a"), looks := false }, kinds := [], alts := [], laidByText := true, laidKinds := [.data, .pinned], laidTests := true, laidLooks := .later }
def FnNeedersCardSaid : Prop := Claim7.holds Tryz.pinned (.plain (OpenSpec.ofChange fnNeedersSpec)) fnNeedersCard

/-- THE TIED CARD OF 'laws.FnRootOut'. -/
def fnRootOutCard : Claim7 := { stood := { row := fnRootOutRow, standIns := [], harness := (true, "5946f37c541407e64879668c936bc88f72ba3b57e26f9e49bbd15b4718069d7a"), looks := false }, kinds := [], alts := [], laidByText := true, laidKinds := [.data, .pinned], laidTests := true, laidLooks := .later }
def FnRootOutCardSaid : Prop := Claim7.holds Tryz.pinned (.plain (OpenSpec.ofChange fnRootOutSpec)) fnRootOutCard

/-- THE TIED CARD OF 'laws.FnExactRootGet'. -/
def fnExactRootGetCard : Claim7 := { stood := { row := fnExactRootGetRow, standIns := [], harness := (true, "5946f37c541407e64879668c936bc88f72ba3b57e26f9e49bbd15b4718069d7a"), looks := false }, kinds := [], alts := [], laidByText := true, laidKinds := [.data, .data, .data, .data, .data, .pinned], laidTests := true, laidLooks := .later }
def FnExactRootGetCardSaid : Prop := Claim7.holds Tryz.pinned (.plain (OpenSpec.ofChange fnExactRootGetSpec)) fnExactRootGetCard

/-- THE SECOND FORM's CARD OF 'laws.FnExactRootTree'. -/
def fnExactRootTreeUptoCard : Claim7 := { stood := { row := fnExactRootTreeUptoRow, standIns := [], harness := (true, "5946f37c541407e64879668c936bc88f72ba3b57e26f9e49bbd15b4718069d7a"), looks := false }, kinds := [], alts := [], laidByText := true, laidKinds := [.data, .pinned], laidTests := true, laidLooks := .later }
def FnExactRootTreeUptoCardSaid : Prop := Claim7.holds Tryz.pinned (.plain (OpenSpec.upto fnExactRootTreeSpec)) fnExactRootTreeUptoCard

/-- THE SECOND FORM's CARD OF 'laws.FnExactNeeders'. -/
def fnExactNeedersUptoCard : Claim7 := { stood := { row := fnExactNeedersUptoRow, standIns := [], harness := (true, "5946f37c541407e64879668c936bc88f72ba3b57e26f9e49bbd15b4718069d7a"), looks := false }, kinds := [], alts := [], laidByText := true, laidKinds := [.data, .pinned], laidTests := true, laidLooks := .later }
def FnExactNeedersUptoCardSaid : Prop := Claim7.holds Tryz.pinned (.plain (OpenSpec.upto fnExactNeedersSpec)) fnExactNeedersUptoCard

/-- THE SECOND FORM's CARD OF 'laws.FnExactRootOut'. -/
def fnExactRootOutUptoCard : Claim7 := { stood := { row := fnExactRootOutUptoRow, standIns := [], harness := (true, "5946f37c541407e64879668c936bc88f72ba3b57e26f9e49bbd15b4718069d7a"), looks := false }, kinds := [], alts := [], laidByText := true, laidKinds := [.data, .pinned], laidTests := true, laidLooks := .later }
def FnExactRootOutUptoCardSaid : Prop := Claim7.holds Tryz.pinned (.plain (OpenSpec.upto fnExactRootOutSpec)) fnExactRootOutUptoCard

/-- THE SECOND FORM's CARD OF 'laws.FnExactRootIn'. -/
def fnExactRootInUptoCard : Claim7 := { stood := { row := fnExactRootInUptoRow, standIns := [], harness := (true, "5946f37c541407e64879668c936bc88f72ba3b57e26f9e49bbd15b4718069d7a"), looks := false }, kinds := [], alts := [], laidByText := true, laidKinds := [.data, .pinned], laidTests := true, laidLooks := .later }
def FnExactRootInUptoCardSaid : Prop := Claim7.holds Tryz.pinned (.plain (OpenSpec.upto fnExactRootInSpec)) fnExactRootInUptoCard

/-- THE SECOND FORM's CARD OF 'laws.FnExactRootSwap'. -/
def fnExactRootSwapUptoCard : Claim7 := { stood := { row := fnExactRootSwapUptoRow, standIns := [], harness := (true, "5946f37c541407e64879668c936bc88f72ba3b57e26f9e49bbd15b4718069d7a"), looks := false }, kinds := [], alts := [], laidByText := true, laidKinds := [.data, .pinned], laidTests := true, laidLooks := .later }
def FnExactRootSwapUptoCardSaid : Prop := Claim7.holds Tryz.pinned (.plain (OpenSpec.upto fnExactRootSwapSpec)) fnExactRootSwapUptoCard

/-- THE SECOND FORM's CARD OF 'laws.FnNeeders'. -/
def fnNeedersUptoCard : Claim7 := { stood := { row := fnNeedersUptoRow, standIns := [], harness := (true, "5946f37c541407e64879668c936bc88f72ba3b57e26f9e49bbd15b4718069d7a"), looks := false }, kinds := [], alts := [], laidByText := true, laidKinds := [.data, .pinned], laidTests := true, laidLooks := .later }
def FnNeedersUptoCardSaid : Prop := Claim7.holds Tryz.pinned (.plain (OpenSpec.upto fnNeedersSpec)) fnNeedersUptoCard

/-- THE SECOND FORM's CARD OF 'laws.FnRootOut'. -/
def fnRootOutUptoCard : Claim7 := { stood := { row := fnRootOutUptoRow, standIns := [], harness := (true, "5946f37c541407e64879668c936bc88f72ba3b57e26f9e49bbd15b4718069d7a"), looks := false }, kinds := [], alts := [], laidByText := true, laidKinds := [.data, .pinned], laidTests := true, laidLooks := .later }
def FnRootOutUptoCardSaid : Prop := Claim7.holds Tryz.pinned (.plain (OpenSpec.upto fnRootOutSpec)) fnRootOutUptoCard

/-- THE SECOND FORM's CARD OF 'laws.FnExactRootGet'. -/
def fnExactRootGetUptoCard : Claim7 := { stood := { row := fnExactRootGetUptoRow, standIns := [], harness := (true, "5946f37c541407e64879668c936bc88f72ba3b57e26f9e49bbd15b4718069d7a"), looks := false }, kinds := [], alts := [], laidByText := true, laidKinds := [.data, .data, .data, .data, .data, .pinned], laidTests := true, laidLooks := .later }
def FnExactRootGetUptoCardSaid : Prop := Claim7.holds Tryz.pinned (.plain (OpenSpec.upto fnExactRootGetSpec)) fnExactRootGetUptoCard
end Rows
end Go.Proofs.YthllakklnccioaaGreatDoor
