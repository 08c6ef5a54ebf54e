/-
  DERIVED. GIVEN WITH THE SEED: THE CARDS: each row of YthhecoidfjkmeaaGreatDoorRows.lean that lists a variable, with what it lists TIED to the program's text (the seventh form; the later family's looks); each row that meets fmt, with fmt's text TOLD by the authors' own Lean function (tested against real Go, not proved from fmt's source: count such statements apart). THE CARD IS WHAT COUNTS. Prove the row's statement (the work); the ties are given (YthhecoidfjkmeaaGreatDoorTie.lean); close each card by the builder's one call (the guide's Derived/Test/ToyasCard.lean, 'card_holds'). Laid BY PROGRAM, IN A SANDBOX (cutbox-door.mjs). By AI agents, Wed Nov 11 2026. No macro, syntax, notation, axiom, sorry.
-/
import Derived.Test.YthhecoidfjkmeaaGreatDoorRows
import GoSem.ClaimSeven
namespace Go.Proofs.YthhecoidfjkmeaaGreatDoor
namespace Rows

/-- THE TIED CARD OF 'laws.FnExactDiskOk'. -/
def fnExactDiskOkCard : Claim7 := { stood := { row := fnExactDiskOkRow, standIns := [], harness := (true, "26491b4d873e425b8e265eef29283a84e270e5a9df0a23225c96562809e221f4"), looks := false }, kinds := [], alts := [], laidByText := true, laidKinds := [.data, .data, .data, .data, .data, .pinned], laidTests := true, laidLooks := .later }
def FnExactDiskOkCardSaid : Prop := Claim7.holds Tryz.pinned (.plain (OpenSpec.ofChange fnExactDiskOkSpec)) fnExactDiskOkCard

/-- THE TIED CARD OF 'laws.FnExactDiskTear'. -/
def fnExactDiskTearCard : Claim7 := { stood := { row := fnExactDiskTearRow, standIns := [], harness := (true, "26491b4d873e425b8e265eef29283a84e270e5a9df0a23225c96562809e221f4"), looks := false }, kinds := [], alts := [], laidByText := true, laidKinds := [.data, .data, .data, .data, .data, .pinned], laidTests := true, laidLooks := .later }
def FnExactDiskTearCardSaid : Prop := Claim7.holds Tryz.pinned (.plain (OpenSpec.ofChange fnExactDiskTearSpec)) fnExactDiskTearCard

/-- THE TIED CARD OF 'laws.FnExactFarmOk'. -/
def fnExactFarmOkCard : Claim7 := { stood := { row := fnExactFarmOkRow, standIns := [], harness := (true, "26491b4d873e425b8e265eef29283a84e270e5a9df0a23225c96562809e221f4"), looks := false }, kinds := [], alts := [], laidByText := true, laidKinds := [.data, .data, .data, .data, .data, .pinned], laidTests := true, laidLooks := .later }
def FnExactFarmOkCardSaid : Prop := Claim7.holds Tryz.pinned (.plain (OpenSpec.ofChange fnExactFarmOkSpec)) fnExactFarmOkCard

/-- THE TIED CARD OF 'laws.FnDiskNew'. -/
def fnDiskNewCard : Claim7 := { stood := { row := fnDiskNewRow, standIns := [], harness := (true, "26491b4d873e425b8e265eef29283a84e270e5a9df0a23225c96562809e221f4"), looks := false }, kinds := [], alts := [], laidByText := true, laidKinds := [.data, .data, .data, .data, .data, .pinned], laidTests := true, laidLooks := .later }
def FnDiskNewCardSaid : Prop := Claim7.holds Tryz.pinned (.plain (OpenSpec.ofChange fnDiskNewSpec)) fnDiskNewCard

/-- THE TIED CARD OF 'laws.FnRootText'. -/
def fnRootTextCard : Claim7 := { stood := { row := fnRootTextRow, standIns := [], harness := (true, "26491b4d873e425b8e265eef29283a84e270e5a9df0a23225c96562809e221f4"), looks := false }, kinds := [], alts := [], laidByText := true, laidKinds := [.data, .data, .data, .data, .data, .pinned], laidTests := true, laidLooks := .later }
def FnRootTextCardSaid : Prop := Claim7.holds Tryz.pinned (.plain (OpenSpec.ofChange fnRootTextSpec)) fnRootTextCard

/-- THE TIED CARD OF 'laws.FnDiskOver'. -/
def fnDiskOverCard : Claim7 := { stood := { row := fnDiskOverRow, standIns := [], harness := (true, "26491b4d873e425b8e265eef29283a84e270e5a9df0a23225c96562809e221f4"), looks := false }, kinds := [], alts := [], laidByText := true, laidKinds := [.data, .data, .data, .data, .data, .pinned], laidTests := true, laidLooks := .later }
def FnDiskOverCardSaid : Prop := Claim7.holds Tryz.pinned (.plain (OpenSpec.ofChange fnDiskOverSpec)) fnDiskOverCard

/-- THE TIED CARD OF 'laws.FnDiskTear'. -/
def fnDiskTearCard : Claim7 := { stood := { row := fnDiskTearRow, standIns := [], harness := (true, "26491b4d873e425b8e265eef29283a84e270e5a9df0a23225c96562809e221f4"), looks := false }, kinds := [], alts := [], laidByText := true, laidKinds := [.data, .data, .data, .data, .data, .pinned], laidTests := true, laidLooks := .later }
def FnDiskTearCardSaid : Prop := Claim7.holds Tryz.pinned (.plain (OpenSpec.ofChange fnDiskTearSpec)) fnDiskTearCard

/-- THE TIED CARD OF 'laws.FnDiskRise'. -/
def fnDiskRiseCard : Claim7 := { stood := { row := fnDiskRiseRow, standIns := [], harness := (true, "26491b4d873e425b8e265eef29283a84e270e5a9df0a23225c96562809e221f4"), looks := false }, kinds := [], alts := [], laidByText := true, laidKinds := [.data, .data, .data, .data, .data, .pinned], laidTests := true, laidLooks := .later }
def FnDiskRiseCardSaid : Prop := Claim7.holds Tryz.pinned (.plain (OpenSpec.ofChange fnDiskRiseSpec)) fnDiskRiseCard

/-- THE SECOND FORM's CARD OF 'laws.FnExactDiskOk'. -/
def fnExactDiskOkUptoCard : Claim7 := { stood := { row := fnExactDiskOkUptoRow, standIns := [], harness := (true, "26491b4d873e425b8e265eef29283a84e270e5a9df0a23225c96562809e221f4"), looks := false }, kinds := [], alts := [], laidByText := true, laidKinds := [.data, .data, .data, .data, .data, .pinned], laidTests := true, laidLooks := .later }
def FnExactDiskOkUptoCardSaid : Prop := Claim7.holds Tryz.pinned (.plain (OpenSpec.upto fnExactDiskOkSpec)) fnExactDiskOkUptoCard

/-- THE SECOND FORM's CARD OF 'laws.FnExactDiskTear'. -/
def fnExactDiskTearUptoCard : Claim7 := { stood := { row := fnExactDiskTearUptoRow, standIns := [], harness := (true, "26491b4d873e425b8e265eef29283a84e270e5a9df0a23225c96562809e221f4"), looks := false }, kinds := [], alts := [], laidByText := true, laidKinds := [.data, .data, .data, .data, .data, .pinned], laidTests := true, laidLooks := .later }
def FnExactDiskTearUptoCardSaid : Prop := Claim7.holds Tryz.pinned (.plain (OpenSpec.upto fnExactDiskTearSpec)) fnExactDiskTearUptoCard

/-- THE SECOND FORM's CARD OF 'laws.FnExactFarmOk'. -/
def fnExactFarmOkUptoCard : Claim7 := { stood := { row := fnExactFarmOkUptoRow, standIns := [], harness := (true, "26491b4d873e425b8e265eef29283a84e270e5a9df0a23225c96562809e221f4"), looks := false }, kinds := [], alts := [], laidByText := true, laidKinds := [.data, .data, .data, .data, .data, .pinned], laidTests := true, laidLooks := .later }
def FnExactFarmOkUptoCardSaid : Prop := Claim7.holds Tryz.pinned (.plain (OpenSpec.upto fnExactFarmOkSpec)) fnExactFarmOkUptoCard

/-- THE SECOND FORM's CARD OF 'laws.FnDiskNew'. -/
def fnDiskNewUptoCard : Claim7 := { stood := { row := fnDiskNewUptoRow, standIns := [], harness := (true, "26491b4d873e425b8e265eef29283a84e270e5a9df0a23225c96562809e221f4"), looks := false }, kinds := [], alts := [], laidByText := true, laidKinds := [.data, .data, .data, .data, .data, .pinned], laidTests := true, laidLooks := .later }
def FnDiskNewUptoCardSaid : Prop := Claim7.holds Tryz.pinned (.plain (OpenSpec.upto fnDiskNewSpec)) fnDiskNewUptoCard

/-- THE SECOND FORM's CARD OF 'laws.FnRootText'. -/
def fnRootTextUptoCard : Claim7 := { stood := { row := fnRootTextUptoRow, standIns := [], harness := (true, "26491b4d873e425b8e265eef29283a84e270e5a9df0a23225c96562809e221f4"), looks := false }, kinds := [], alts := [], laidByText := true, laidKinds := [.data, .data, .data, .data, .data, .pinned], laidTests := true, laidLooks := .later }
def FnRootTextUptoCardSaid : Prop := Claim7.holds Tryz.pinned (.plain (OpenSpec.upto fnRootTextSpec)) fnRootTextUptoCard

/-- THE SECOND FORM's CARD OF 'laws.FnDiskOver'. -/
def fnDiskOverUptoCard : Claim7 := { stood := { row := fnDiskOverUptoRow, standIns := [], harness := (true, "26491b4d873e425b8e265eef29283a84e270e5a9df0a23225c96562809e221f4"), looks := false }, kinds := [], alts := [], laidByText := true, laidKinds := [.data, .data, .data, .data, .data, .pinned], laidTests := true, laidLooks := .later }
def FnDiskOverUptoCardSaid : Prop := Claim7.holds Tryz.pinned (.plain (OpenSpec.upto fnDiskOverSpec)) fnDiskOverUptoCard

/-- THE SECOND FORM's CARD OF 'laws.FnDiskTear'. -/
def fnDiskTearUptoCard : Claim7 := { stood := { row := fnDiskTearUptoRow, standIns := [], harness := (true, "26491b4d873e425b8e265eef29283a84e270e5a9df0a23225c96562809e221f4"), looks := false }, kinds := [], alts := [], laidByText := true, laidKinds := [.data, .data, .data, .data, .data, .pinned], laidTests := true, laidLooks := .later }
def FnDiskTearUptoCardSaid : Prop := Claim7.holds Tryz.pinned (.plain (OpenSpec.upto fnDiskTearSpec)) fnDiskTearUptoCard

/-- THE SECOND FORM's CARD OF 'laws.FnDiskRise'. -/
def fnDiskRiseUptoCard : Claim7 := { stood := { row := fnDiskRiseUptoRow, standIns := [], harness := (true, "26491b4d873e425b8e265eef29283a84e270e5a9df0a23225c96562809e221f4"), looks := false }, kinds := [], alts := [], laidByText := true, laidKinds := [.data, .data, .data, .data, .data, .pinned], laidTests := true, laidLooks := .later }
def FnDiskRiseUptoCardSaid : Prop := Claim7.holds Tryz.pinned (.plain (OpenSpec.upto fnDiskRiseSpec)) fnDiskRiseUptoCard
end Rows
end Go.Proofs.YthhecoidfjkmeaaGreatDoor
