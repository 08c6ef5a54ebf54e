/-
  DERIVED. GIVEN WITH THE SEED: THE CARDS: each row of YtgcbngajjbjjoaaGreatDoorRows.lean that lists a variable, with what it lists TIED to the program's text (the seventh form; the later family's looks); each row that meets fmt, with fmt's text TOLD by the authors' own Lean function (tested against real Go, not proved from fmt's source: count such statements apart). THE CARD IS WHAT COUNTS. Prove the row's statement (the work); the ties are given (YtgcbngajjbjjoaaGreatDoorTie.lean); close each card by the builder's one call (the guide's Derived/Test/ToyasCard.lean, 'card_holds'). Laid BY PROGRAM, IN A SANDBOX (cutbox-door.mjs). By AI agents, Wed Nov 11 2026. No macro, syntax, notation, axiom, sorry.
-/
import Derived.Test.YtgcbngajjbjjoaaGreatDoorRows
import GoSem.ClaimSeven
namespace Go.Proofs.YtgcbngajjbjjoaaGreatDoor
namespace Rows

/-- THE TIED CARD OF 'laws.FnRootTree'. -/
def fnRootTreeCard : Claim7 := { stood := { row := fnRootTreeRow, standIns := [], harness := (true, "bad842e62013cc2bd5277c9853ef25e0f28fa1a70794cba1b45aa436e272f344"), looks := false }, kinds := [], alts := [], laidByText := true, laidKinds := [.data, .pinned], laidTests := true, laidLooks := .later }
def FnRootTreeCardSaid : Prop := Claim7.holds Tryz.pinned (.plain (OpenSpec.ofChange fnRootTreeSpec)) fnRootTreeCard

/-- THE TIED CARD OF 'laws.FnRootOwner'. -/
def fnRootOwnerCard : Claim7 := { stood := { row := fnRootOwnerRow, standIns := [], harness := (true, "bad842e62013cc2bd5277c9853ef25e0f28fa1a70794cba1b45aa436e272f344"), looks := false }, kinds := [], alts := [], laidByText := true, laidKinds := [.data, .pinned], laidTests := true, laidLooks := .later }
def FnRootOwnerCardSaid : Prop := Claim7.holds Tryz.pinned (.plain (OpenSpec.ofChange fnRootOwnerSpec)) fnRootOwnerCard

/-- THE TIED CARD OF 'laws.FnRootClash'. -/
def fnRootClashCard : Claim7 := { stood := { row := fnRootClashRow, standIns := [], harness := (true, "bad842e62013cc2bd5277c9853ef25e0f28fa1a70794cba1b45aa436e272f344"), looks := false }, kinds := [], alts := [], laidByText := true, laidKinds := [.data, .pinned], laidTests := true, laidLooks := .later }
def FnRootClashCardSaid : Prop := Claim7.holds Tryz.pinned (.plain (OpenSpec.ofChange fnRootClashSpec)) fnRootClashCard

/-- THE TIED CARD OF 'laws.FnRootTwo'. -/
def fnRootTwoCard : Claim7 := { stood := { row := fnRootTwoRow, standIns := [], harness := (true, "bad842e62013cc2bd5277c9853ef25e0f28fa1a70794cba1b45aa436e272f344"), looks := false }, kinds := [], alts := [], laidByText := true, laidKinds := [.data, .pinned], laidTests := true, laidLooks := .later }
def FnRootTwoCardSaid : Prop := Claim7.holds Tryz.pinned (.plain (OpenSpec.ofChange fnRootTwoSpec)) fnRootTwoCard

/-- THE TIED CARD OF 'laws.FnRootNeeds'. -/
def fnRootNeedsCard : Claim7 := { stood := { row := fnRootNeedsRow, standIns := [], harness := (true, "bad842e62013cc2bd5277c9853ef25e0f28fa1a70794cba1b45aa436e272f344"), looks := false }, kinds := [], alts := [], laidByText := true, laidKinds := [.data, .pinned], laidTests := true, laidLooks := .later }
def FnRootNeedsCardSaid : Prop := Claim7.holds Tryz.pinned (.plain (OpenSpec.ofChange fnRootNeedsSpec)) fnRootNeedsCard

/-- THE TIED CARD OF 'laws.FnRootIn'. -/
def fnRootInCard : Claim7 := { stood := { row := fnRootInRow, standIns := [], harness := (true, "bad842e62013cc2bd5277c9853ef25e0f28fa1a70794cba1b45aa436e272f344"), looks := false }, kinds := [], alts := [], laidByText := true, laidKinds := [.data, .pinned], laidTests := true, laidLooks := .later }
def FnRootInCardSaid : Prop := Claim7.holds Tryz.pinned (.plain (OpenSpec.ofChange fnRootInSpec)) fnRootInCard

/-- THE TIED CARD OF 'laws.FnRootSwap'. -/
def fnRootSwapCard : Claim7 := { stood := { row := fnRootSwapRow, standIns := [], harness := (true, "bad842e62013cc2bd5277c9853ef25e0f28fa1a70794cba1b45aa436e272f344"), looks := false }, kinds := [], alts := [], laidByText := true, laidKinds := [.data, .pinned], laidTests := true, laidLooks := .later }
def FnRootSwapCardSaid : Prop := Claim7.holds Tryz.pinned (.plain (OpenSpec.ofChange fnRootSwapSpec)) fnRootSwapCard

/-- THE TIED CARD OF 'laws.FnExactRootOut'. -/
def fnExactRootOutCard : Claim7 := { stood := { row := fnExactRootOutRow, standIns := [], harness := (true, "bad842e62013cc2bd5277c9853ef25e0f28fa1a70794cba1b45aa436e272f344"), looks := false }, kinds := [], alts := [], laidByText := true, laidKinds := [.data, .pinned], laidTests := true, laidLooks := .later }
def FnExactRootOutCardSaid : Prop := Claim7.holds Tryz.pinned (.plain (OpenSpec.ofChange fnExactRootOutSpec)) fnExactRootOutCard

/-- THE TIED CARD OF 'laws.FnExactRootIn'. -/
def fnExactRootInCard : Claim7 := { stood := { row := fnExactRootInRow, standIns := [], harness := (true, "bad842e62013cc2bd5277c9853ef25e0f28fa1a70794cba1b45aa436e272f344"), looks := false }, kinds := [], alts := [], laidByText := true, laidKinds := [.data, .pinned], laidTests := true, laidLooks := .later }
def FnExactRootInCardSaid : Prop := Claim7.holds Tryz.pinned (.plain (OpenSpec.ofChange fnExactRootInSpec)) fnExactRootInCard

/-- THE TIED CARD OF 'laws.FnExactRootSwap'. -/
def fnExactRootSwapCard : Claim7 := { stood := { row := fnExactRootSwapRow, standIns := [], harness := (true, "bad842e62013cc2bd5277c9853ef25e0f28fa1a70794cba1b45aa436e272f344"), looks := false }, kinds := [], alts := [], laidByText := true, laidKinds := [.data, .pinned], laidTests := true, laidLooks := .later }
def FnExactRootSwapCardSaid : Prop := Claim7.holds Tryz.pinned (.plain (OpenSpec.ofChange fnExactRootSwapSpec)) fnExactRootSwapCard

/-- THE TIED CARD OF 'laws.FnRootOutAll'. -/
def fnRootOutAllCard : Claim7 := { stood := { row := fnRootOutAllRow, standIns := [], harness := (true, "bad842e62013cc2bd5277c9853ef25e0f28fa1a70794cba1b45aa436e272f344"), looks := false }, kinds := [], alts := [], laidByText := true, laidKinds := [.data, .pinned], laidTests := true, laidLooks := .later }
def FnRootOutAllCardSaid : Prop := Claim7.holds Tryz.pinned (.plain (OpenSpec.ofChange fnRootOutAllSpec)) fnRootOutAllCard

/-- THE TIED CARD OF 'laws.FnRootOut'. -/
def fnRootOutCard : Claim7 := { stood := { row := fnRootOutRow, standIns := [], harness := (true, "bad842e62013cc2bd5277c9853ef25e0f28fa1a70794cba1b45aa436e272f344"), looks := false }, kinds := [], alts := [], laidByText := true, laidKinds := [.data, .pinned], laidTests := true, laidLooks := .later }
def FnRootOutCardSaid : Prop := Claim7.holds Tryz.pinned (.plain (OpenSpec.ofChange fnRootOutSpec)) fnRootOutCard

/-- THE SECOND FORM's CARD OF 'laws.FnRootTree'. -/
def fnRootTreeUptoCard : Claim7 := { stood := { row := fnRootTreeUptoRow, standIns := [], harness := (true, "bad842e62013cc2bd5277c9853ef25e0f28fa1a70794cba1b45aa436e272f344"), looks := false }, kinds := [], alts := [], laidByText := true, laidKinds := [.data, .pinned], laidTests := true, laidLooks := .later }
def FnRootTreeUptoCardSaid : Prop := Claim7.holds Tryz.pinned (.plain (OpenSpec.upto fnRootTreeSpec)) fnRootTreeUptoCard

/-- THE SECOND FORM's CARD OF 'laws.FnRootOwner'. -/
def fnRootOwnerUptoCard : Claim7 := { stood := { row := fnRootOwnerUptoRow, standIns := [], harness := (true, "bad842e62013cc2bd5277c9853ef25e0f28fa1a70794cba1b45aa436e272f344"), looks := false }, kinds := [], alts := [], laidByText := true, laidKinds := [.data, .pinned], laidTests := true, laidLooks := .later }
def FnRootOwnerUptoCardSaid : Prop := Claim7.holds Tryz.pinned (.plain (OpenSpec.upto fnRootOwnerSpec)) fnRootOwnerUptoCard

/-- THE SECOND FORM's CARD OF 'laws.FnRootClash'. -/
def fnRootClashUptoCard : Claim7 := { stood := { row := fnRootClashUptoRow, standIns := [], harness := (true, "bad842e62013cc2bd5277c9853ef25e0f28fa1a70794cba1b45aa436e272f344"), looks := false }, kinds := [], alts := [], laidByText := true, laidKinds := [.data, .pinned], laidTests := true, laidLooks := .later }
def FnRootClashUptoCardSaid : Prop := Claim7.holds Tryz.pinned (.plain (OpenSpec.upto fnRootClashSpec)) fnRootClashUptoCard

/-- THE SECOND FORM's CARD OF 'laws.FnRootTwo'. -/
def fnRootTwoUptoCard : Claim7 := { stood := { row := fnRootTwoUptoRow, standIns := [], harness := (true, "bad842e62013cc2bd5277c9853ef25e0f28fa1a70794cba1b45aa436e272f344"), looks := false }, kinds := [], alts := [], laidByText := true, laidKinds := [.data, .pinned], laidTests := true, laidLooks := .later }
def FnRootTwoUptoCardSaid : Prop := Claim7.holds Tryz.pinned (.plain (OpenSpec.upto fnRootTwoSpec)) fnRootTwoUptoCard

/-- THE SECOND FORM's CARD OF 'laws.FnRootNeeds'. -/
def fnRootNeedsUptoCard : Claim7 := { stood := { row := fnRootNeedsUptoRow, standIns := [], harness := (true, "bad842e62013cc2bd5277c9853ef25e0f28fa1a70794cba1b45aa436e272f344"), looks := false }, kinds := [], alts := [], laidByText := true, laidKinds := [.data, .pinned], laidTests := true, laidLooks := .later }
def FnRootNeedsUptoCardSaid : Prop := Claim7.holds Tryz.pinned (.plain (OpenSpec.upto fnRootNeedsSpec)) fnRootNeedsUptoCard

/-- THE SECOND FORM's CARD OF 'laws.FnRootIn'. -/
def fnRootInUptoCard : Claim7 := { stood := { row := fnRootInUptoRow, standIns := [], harness := (true, "bad842e62013cc2bd5277c9853ef25e0f28fa1a70794cba1b45aa436e272f344"), looks := false }, kinds := [], alts := [], laidByText := true, laidKinds := [.data, .pinned], laidTests := true, laidLooks := .later }
def FnRootInUptoCardSaid : Prop := Claim7.holds Tryz.pinned (.plain (OpenSpec.upto fnRootInSpec)) fnRootInUptoCard

/-- THE SECOND FORM's CARD OF 'laws.FnRootSwap'. -/
def fnRootSwapUptoCard : Claim7 := { stood := { row := fnRootSwapUptoRow, standIns := [], harness := (true, "bad842e62013cc2bd5277c9853ef25e0f28fa1a70794cba1b45aa436e272f344"), looks := false }, kinds := [], alts := [], laidByText := true, laidKinds := [.data, .pinned], laidTests := true, laidLooks := .later }
def FnRootSwapUptoCardSaid : Prop := Claim7.holds Tryz.pinned (.plain (OpenSpec.upto fnRootSwapSpec)) fnRootSwapUptoCard

/-- THE SECOND FORM's CARD OF 'laws.FnExactRootOut'. -/
def fnExactRootOutUptoCard : Claim7 := { stood := { row := fnExactRootOutUptoRow, standIns := [], harness := (true, "bad842e62013cc2bd5277c9853ef25e0f28fa1a70794cba1b45aa436e272f344"), looks := false }, kinds := [], alts := [], laidByText := true, laidKinds := [.data, .pinned], laidTests := true, laidLooks := .later }
def FnExactRootOutUptoCardSaid : Prop := Claim7.holds Tryz.pinned (.plain (OpenSpec.upto fnExactRootOutSpec)) fnExactRootOutUptoCard

/-- THE SECOND FORM's CARD OF 'laws.FnExactRootIn'. -/
def fnExactRootInUptoCard : Claim7 := { stood := { row := fnExactRootInUptoRow, standIns := [], harness := (true, "bad842e62013cc2bd5277c9853ef25e0f28fa1a70794cba1b45aa436e272f344"), looks := false }, kinds := [], alts := [], laidByText := true, laidKinds := [.data, .pinned], laidTests := true, laidLooks := .later }
def FnExactRootInUptoCardSaid : Prop := Claim7.holds Tryz.pinned (.plain (OpenSpec.upto fnExactRootInSpec)) fnExactRootInUptoCard

/-- THE SECOND FORM's CARD OF 'laws.FnExactRootSwap'. -/
def fnExactRootSwapUptoCard : Claim7 := { stood := { row := fnExactRootSwapUptoRow, standIns := [], harness := (true, "bad842e62013cc2bd5277c9853ef25e0f28fa1a70794cba1b45aa436e272f344"), looks := false }, kinds := [], alts := [], laidByText := true, laidKinds := [.data, .pinned], laidTests := true, laidLooks := .later }
def FnExactRootSwapUptoCardSaid : Prop := Claim7.holds Tryz.pinned (.plain (OpenSpec.upto fnExactRootSwapSpec)) fnExactRootSwapUptoCard

/-- THE SECOND FORM's CARD OF 'laws.FnRootOutAll'. -/
def fnRootOutAllUptoCard : Claim7 := { stood := { row := fnRootOutAllUptoRow, standIns := [], harness := (true, "bad842e62013cc2bd5277c9853ef25e0f28fa1a70794cba1b45aa436e272f344"), looks := false }, kinds := [], alts := [], laidByText := true, laidKinds := [.data, .pinned], laidTests := true, laidLooks := .later }
def FnRootOutAllUptoCardSaid : Prop := Claim7.holds Tryz.pinned (.plain (OpenSpec.upto fnRootOutAllSpec)) fnRootOutAllUptoCard

/-- THE SECOND FORM's CARD OF 'laws.FnRootOut'. -/
def fnRootOutUptoCard : Claim7 := { stood := { row := fnRootOutUptoRow, standIns := [], harness := (true, "bad842e62013cc2bd5277c9853ef25e0f28fa1a70794cba1b45aa436e272f344"), looks := false }, kinds := [], alts := [], laidByText := true, laidKinds := [.data, .pinned], laidTests := true, laidLooks := .later }
def FnRootOutUptoCardSaid : Prop := Claim7.holds Tryz.pinned (.plain (OpenSpec.upto fnRootOutSpec)) fnRootOutUptoCard
end Rows
end Go.Proofs.YtgcbngajjbjjoaaGreatDoor
