/-
  DERIVED. GIVEN WITH THE SEED: THE CARDS: each row of YtmjbhofbpkpioaaGreatDoorRows.lean that lists a variable, with what it lists TIED to the program's text (the seventh form; the later family's looks); each row that meets fmt, with fmt's text TOLD by the authors' own Lean function (tested against real Go, not proved from fmt's source: count such statements apart). THE CARD IS WHAT COUNTS. Prove the row's statement (the work); the ties are given (YtmjbhofbpkpioaaGreatDoorTie.lean); close each card by the builder's one call (the guide's Derived/Test/ToyasCard.lean, 'card_holds'). Laid BY PROGRAM, IN A SANDBOX (cutbox-door.mjs). By AI agents, Wed Nov 11 2026. No macro, syntax, notation, axiom, sorry.
-/
import Derived.Test.YtmjbhofbpkpioaaGreatDoorRows
import GoSem.ClaimSeven
namespace Go.Proofs.YtmjbhofbpkpioaaGreatDoor
namespace Rows

/-- THE TIED CARD OF 'laws.FnClosureNone'. -/
def fnClosureNoneCard : Claim7 := { stood := { row := fnClosureNoneRow, standIns := [], harness := (true, "355e9078044a4838972c3f27dd0c2a71a379ade03b6b44cddebe22ea69bb3a59"), looks := false }, kinds := [], alts := [], laidByText := true, laidKinds := [.data, .pinned], laidTests := true, laidLooks := .later }
def FnClosureNoneCardSaid : Prop := Claim7.holds Tryz.pinned (.plain (OpenSpec.ofChange fnClosureNoneSpec)) fnClosureNoneCard

/-- THE TIED CARD OF 'laws.FnClosure'. -/
def fnClosureCard : Claim7 := { stood := { row := fnClosureRow, standIns := [], harness := (true, "355e9078044a4838972c3f27dd0c2a71a379ade03b6b44cddebe22ea69bb3a59"), looks := false }, kinds := [], alts := [], laidByText := true, laidKinds := [.data, .pinned], laidTests := true, laidLooks := .later }
def FnClosureCardSaid : Prop := Claim7.holds Tryz.pinned (.plain (OpenSpec.ofChange fnClosureSpec)) fnClosureCard

/-- THE TIED CARD OF 'laws.FnClosureOne'. -/
def fnClosureOneCard : Claim7 := { stood := { row := fnClosureOneRow, standIns := [], harness := (true, "355e9078044a4838972c3f27dd0c2a71a379ade03b6b44cddebe22ea69bb3a59"), looks := false }, kinds := [], alts := [], laidByText := true, laidKinds := [.data, .pinned], laidTests := true, laidLooks := .later }
def FnClosureOneCardSaid : Prop := Claim7.holds Tryz.pinned (.plain (OpenSpec.ofChange fnClosureOneSpec)) fnClosureOneCard

/-- THE TIED CARD OF 'laws.FnExactRootOk'. -/
def fnExactRootOkCard : Claim7 := { stood := { row := fnExactRootOkRow, standIns := [], harness := (true, "355e9078044a4838972c3f27dd0c2a71a379ade03b6b44cddebe22ea69bb3a59"), looks := false }, kinds := [], alts := [], laidByText := true, laidKinds := [.data, .pinned], laidTests := true, laidLooks := .later }
def FnExactRootOkCardSaid : Prop := Claim7.holds Tryz.pinned (.plain (OpenSpec.ofChange fnExactRootOkSpec)) fnExactRootOkCard

/-- THE TIED CARD OF 'laws.FnExactRootOwner'. -/
def fnExactRootOwnerCard : Claim7 := { stood := { row := fnExactRootOwnerRow, standIns := [], harness := (true, "355e9078044a4838972c3f27dd0c2a71a379ade03b6b44cddebe22ea69bb3a59"), looks := false }, kinds := [], alts := [], laidByText := true, laidKinds := [.data, .pinned], laidTests := true, laidLooks := .later }
def FnExactRootOwnerCardSaid : Prop := Claim7.holds Tryz.pinned (.plain (OpenSpec.ofChange fnExactRootOwnerSpec)) fnExactRootOwnerCard

/-- THE TIED CARD OF 'laws.FnExactRootTree'. -/
def fnExactRootTreeCard : Claim7 := { stood := { row := fnExactRootTreeRow, standIns := [], harness := (true, "355e9078044a4838972c3f27dd0c2a71a379ade03b6b44cddebe22ea69bb3a59"), looks := false }, kinds := [], alts := [], laidByText := true, laidKinds := [.data, .pinned], laidTests := true, laidLooks := .later }
def FnExactRootTreeCardSaid : Prop := Claim7.holds Tryz.pinned (.plain (OpenSpec.ofChange fnExactRootTreeSpec)) fnExactRootTreeCard

/-- THE SECOND FORM's CARD OF 'laws.FnClosureNone'. -/
def fnClosureNoneUptoCard : Claim7 := { stood := { row := fnClosureNoneUptoRow, standIns := [], harness := (true, "355e9078044a4838972c3f27dd0c2a71a379ade03b6b44cddebe22ea69bb3a59"), looks := false }, kinds := [], alts := [], laidByText := true, laidKinds := [.data, .pinned], laidTests := true, laidLooks := .later }
def FnClosureNoneUptoCardSaid : Prop := Claim7.holds Tryz.pinned (.plain (OpenSpec.upto fnClosureNoneSpec)) fnClosureNoneUptoCard

/-- THE SECOND FORM's CARD OF 'laws.FnClosure'. -/
def fnClosureUptoCard : Claim7 := { stood := { row := fnClosureUptoRow, standIns := [], harness := (true, "355e9078044a4838972c3f27dd0c2a71a379ade03b6b44cddebe22ea69bb3a59"), looks := false }, kinds := [], alts := [], laidByText := true, laidKinds := [.data, .pinned], laidTests := true, laidLooks := .later }
def FnClosureUptoCardSaid : Prop := Claim7.holds Tryz.pinned (.plain (OpenSpec.upto fnClosureSpec)) fnClosureUptoCard

/-- THE SECOND FORM's CARD OF 'laws.FnClosureOne'. -/
def fnClosureOneUptoCard : Claim7 := { stood := { row := fnClosureOneUptoRow, standIns := [], harness := (true, "355e9078044a4838972c3f27dd0c2a71a379ade03b6b44cddebe22ea69bb3a59"), looks := false }, kinds := [], alts := [], laidByText := true, laidKinds := [.data, .pinned], laidTests := true, laidLooks := .later }
def FnClosureOneUptoCardSaid : Prop := Claim7.holds Tryz.pinned (.plain (OpenSpec.upto fnClosureOneSpec)) fnClosureOneUptoCard

/-- THE SECOND FORM's CARD OF 'laws.FnExactRootOk'. -/
def fnExactRootOkUptoCard : Claim7 := { stood := { row := fnExactRootOkUptoRow, standIns := [], harness := (true, "355e9078044a4838972c3f27dd0c2a71a379ade03b6b44cddebe22ea69bb3a59"), looks := false }, kinds := [], alts := [], laidByText := true, laidKinds := [.data, .pinned], laidTests := true, laidLooks := .later }
def FnExactRootOkUptoCardSaid : Prop := Claim7.holds Tryz.pinned (.plain (OpenSpec.upto fnExactRootOkSpec)) fnExactRootOkUptoCard

/-- THE SECOND FORM's CARD OF 'laws.FnExactRootOwner'. -/
def fnExactRootOwnerUptoCard : Claim7 := { stood := { row := fnExactRootOwnerUptoRow, standIns := [], harness := (true, "355e9078044a4838972c3f27dd0c2a71a379ade03b6b44cddebe22ea69bb3a59"), looks := false }, kinds := [], alts := [], laidByText := true, laidKinds := [.data, .pinned], laidTests := true, laidLooks := .later }
def FnExactRootOwnerUptoCardSaid : Prop := Claim7.holds Tryz.pinned (.plain (OpenSpec.upto fnExactRootOwnerSpec)) fnExactRootOwnerUptoCard

/-- THE SECOND FORM's CARD OF 'laws.FnExactRootTree'. -/
def fnExactRootTreeUptoCard : Claim7 := { stood := { row := fnExactRootTreeUptoRow, standIns := [], harness := (true, "355e9078044a4838972c3f27dd0c2a71a379ade03b6b44cddebe22ea69bb3a59"), looks := false }, kinds := [], alts := [], laidByText := true, laidKinds := [.data, .pinned], laidTests := true, laidLooks := .later }
def FnExactRootTreeUptoCardSaid : Prop := Claim7.holds Tryz.pinned (.plain (OpenSpec.upto fnExactRootTreeSpec)) fnExactRootTreeUptoCard
end Rows
end Go.Proofs.YtmjbhofbpkpioaaGreatDoor
