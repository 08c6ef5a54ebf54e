/-
  DERIVED. GIVEN WITH THE SEED: THE CARDS: each row of YtbkkbojncgpkkaaGreatDoorRows.lean that lists a variable, with what it lists TIED to the program's text (the seventh form; the later family's looks); each row that meets fmt, with fmt's text TOLD by the authors' own Lean function (tested against real Go, not proved from fmt's source: count such statements apart). THE CARD IS WHAT COUNTS. Prove the row's statement (the work); the ties are given (YtbkkbojncgpkkaaGreatDoorTie.lean); close each card by the builder's one call (the guide's Derived/Test/ToyasCard.lean, 'card_holds'). Laid BY PROGRAM, IN A SANDBOX (cutbox-door.mjs). By AI agents, Wed Nov 11 2026. No macro, syntax, notation, axiom, sorry.
-/
import Derived.Test.YtbkkbojncgpkkaaGreatDoorRows
import GoSem.ClaimSeven
namespace Go.Proofs.YtbkkbojncgpkkaaGreatDoor
namespace Rows

/-- THE TIED CARD OF 'laws.FnClosureNone'. -/
def fnClosureNoneCard : Claim7 := { stood := { row := fnClosureNoneRow, standIns := [], harness := (true, "17277717874c4f910fbc48854223554821eaec864520c4001c0022f22d5aedf9"), looks := false }, kinds := [], alts := [], laidByText := true, laidKinds := [.data, .pinned], laidTests := true, laidLooks := .later }
def FnClosureNoneCardSaid : Prop := Claim7.holds Tryz.pinned (.plain (OpenSpec.ofChange fnClosureNoneSpec)) fnClosureNoneCard

/-- THE TIED CARD OF 'laws.FnClosure'. -/
def fnClosureCard : Claim7 := { stood := { row := fnClosureRow, standIns := [], harness := (true, "17277717874c4f910fbc48854223554821eaec864520c4001c0022f22d5aedf9"), looks := false }, kinds := [], alts := [], laidByText := true, laidKinds := [.data, .pinned], laidTests := true, laidLooks := .later }
def FnClosureCardSaid : Prop := Claim7.holds Tryz.pinned (.plain (OpenSpec.ofChange fnClosureSpec)) fnClosureCard

/-- THE TIED CARD OF 'laws.FnClosureOne'. -/
def fnClosureOneCard : Claim7 := { stood := { row := fnClosureOneRow, standIns := [], harness := (true, "17277717874c4f910fbc48854223554821eaec864520c4001c0022f22d5aedf9"), looks := false }, kinds := [], alts := [], laidByText := true, laidKinds := [.data, .pinned], laidTests := true, laidLooks := .later }
def FnClosureOneCardSaid : Prop := Claim7.holds Tryz.pinned (.plain (OpenSpec.ofChange fnClosureOneSpec)) fnClosureOneCard

/-- THE TIED CARD OF 'laws.FnRootOutAll'. -/
def fnRootOutAllCard : Claim7 := { stood := { row := fnRootOutAllRow, standIns := [], harness := (true, "17277717874c4f910fbc48854223554821eaec864520c4001c0022f22d5aedf9"), looks := false }, kinds := [], alts := [], laidByText := true, laidKinds := [.data, .pinned], laidTests := true, laidLooks := .later }
def FnRootOutAllCardSaid : Prop := Claim7.holds Tryz.pinned (.plain (OpenSpec.ofChange fnRootOutAllSpec)) fnRootOutAllCard

/-- THE SECOND FORM's CARD OF 'laws.FnClosureNone'. -/
def fnClosureNoneUptoCard : Claim7 := { stood := { row := fnClosureNoneUptoRow, standIns := [], harness := (true, "17277717874c4f910fbc48854223554821eaec864520c4001c0022f22d5aedf9"), looks := false }, kinds := [], alts := [], laidByText := true, laidKinds := [.data, .pinned], laidTests := true, laidLooks := .later }
def FnClosureNoneUptoCardSaid : Prop := Claim7.holds Tryz.pinned (.plain (OpenSpec.upto fnClosureNoneSpec)) fnClosureNoneUptoCard

/-- THE SECOND FORM's CARD OF 'laws.FnClosure'. -/
def fnClosureUptoCard : Claim7 := { stood := { row := fnClosureUptoRow, standIns := [], harness := (true, "17277717874c4f910fbc48854223554821eaec864520c4001c0022f22d5aedf9"), looks := false }, kinds := [], alts := [], laidByText := true, laidKinds := [.data, .pinned], laidTests := true, laidLooks := .later }
def FnClosureUptoCardSaid : Prop := Claim7.holds Tryz.pinned (.plain (OpenSpec.upto fnClosureSpec)) fnClosureUptoCard

/-- THE SECOND FORM's CARD OF 'laws.FnClosureOne'. -/
def fnClosureOneUptoCard : Claim7 := { stood := { row := fnClosureOneUptoRow, standIns := [], harness := (true, "17277717874c4f910fbc48854223554821eaec864520c4001c0022f22d5aedf9"), looks := false }, kinds := [], alts := [], laidByText := true, laidKinds := [.data, .pinned], laidTests := true, laidLooks := .later }
def FnClosureOneUptoCardSaid : Prop := Claim7.holds Tryz.pinned (.plain (OpenSpec.upto fnClosureOneSpec)) fnClosureOneUptoCard

/-- THE SECOND FORM's CARD OF 'laws.FnRootOutAll'. -/
def fnRootOutAllUptoCard : Claim7 := { stood := { row := fnRootOutAllUptoRow, standIns := [], harness := (true, "17277717874c4f910fbc48854223554821eaec864520c4001c0022f22d5aedf9"), looks := false }, kinds := [], alts := [], laidByText := true, laidKinds := [.data, .pinned], laidTests := true, laidLooks := .later }
def FnRootOutAllUptoCardSaid : Prop := Claim7.holds Tryz.pinned (.plain (OpenSpec.upto fnRootOutAllSpec)) fnRootOutAllUptoCard
end Rows
end Go.Proofs.YtbkkbojncgpkkaaGreatDoor
