/- It is proved that everything can be removed (FnRootOutAll). (part 7 of 7: JkELaw6) Conditions: none beyond the statement. -/
import Derived.Test.YtbkkbojncgpkkaaGreatDoorZFnRootOutAll5
import Derived.Test.YtbkkbojncgpkkaaGreatDoorCards
import Derived.Test.YtbkkbojncgpkkaaGreatDoorTie
import Derived.Lay
import Derived.LaidMore
import Derived.SevenTiedAt
import Derived.Stop.Joined
import Derived.Shelf.Abstract
set_option maxRecDepth 100000
set_option linter.unusedVariables false
namespace Go.Proofs.YtbkkbojncgpkkaaGreatDoor
open Go.Jk Go.ChangeShapes Go.WideShapes Go.ChangeAt Go.RowKit
theorem sum6 : jja Tryz.prog 6 S6 := x6
theorem pure6 : LawOk S6 [(false, [.sl .u8])] := pure_FnRootOutAll
theorem ownK : ownKnob Tryz.prog.godebug = none := by kernel_rfl
theorem laidOut : laidOutB Tryz.prog = true := by kernel_rfl
def readB (P : Program) : List TypeId → Bool
 | [] => true
 | t :: ts => P.readableRec t && decide (t < P.types.size) && readB P ts
theorem readB_ok {P : Program} : ∀ {ts : List TypeId}, readB P ts = true → ∀ t, t ∈ ts → P.readableRec t = true ∧ t < P.types.size
 | [], _, t, h => by cases h
 | u :: ts, hb, t, h => by
  simp only [readB, Bool.and_eq_true, decide_eq_true_eq] at hb
  rcases List.mem_cons.1 h with rfl | h
  ·exact hb.1
  ·exact readB_ok hb.2 t h
theorem lifted6 (os : Os) (started : os.Started) (H : Type) (enc : TypeId × Value → H) :
  ReturnsInHanded {} Tryz.checked os 6 .any (fun w args => (Rows.fnRootOutAllSpec.pre enc Tryz.prog Tryz.f6 Rows.fnRootOutAllRow.domain false w args ∧ laidMetH Tryz.prog Rows.fnRootOutAllRow.laid w) ∧ sizedMet enc Tryz.prog Tryz.f6 (OpenSpec.ofChange Rows.fnRootOutAllSpec) false w args)
   (Rows.fnRootOutAllSpec.post enc Tryz.prog Tryz.f6 false true false false) := by
 refine returnsInHanded_of_change_and (C := Tryz.checked) (X := fun w _ => laidMetH Tryz.prog Rows.fnRootOutAllRow.laid w) (fun _ _ _ hh h => h.of_heap hh) ownK started (by kernel_rfl) Tryz.func6
  (ChangeSpec.witness_shaped (enc := enc) (C := Tryz.checked) (os := os) (X := fun w _ => laidMetH Tryz.prog Rows.fnRootOutAllRow.laid w) false (World.laidAll Tryz.prog os Rows.fnRootOutAllRow.laid) #[.slice none 0 0] 8 (World.laidAll_os _ _ _)
   (World.shaped_of_ZipB (by kernel_rfl) (by kernel_rfl)) (by kernel_rfl) (by kernel_rfl) (by kernel_rfl)
   (by rw [MakeChecks.laidMetH_plain _ _ _ (by kernel_rfl)]; exact laidMet_laidAll _ (by kernel_rfl) (by kernel_rfl))) ?_
 intro W base args ds gs before hval hW _ _ _ _
 exact law_contract (tt := tt) (m := 8) sum6 (fun vs w => enters_of Tryz.func6 (by kernel_rfl) rfl _ _) laidOut (readB_ok (by kernel_rfl)) (by kernel_rfl) Tryz.underlying4 rfl
  (fun ds hl => by
   have hl : ds.length = 1 := hl
   match ds, hl with
   | [d0], _ => rfl) (by kernel_rfl) pure6 W base args ds gs before hval hW
theorem ja6 : (Rows.fnRootOutAllRow.inPlace == Tryz.prog.inPlace 6) = true := by kernel_rfl
theorem jb6 : (Rows.fnRootOutAllRow.unfollowed == Tryz.prog.unfollowed 6) = true := by kernel_rfl
theorem jc6 : (Rows.fnRootOutAllRow.recurses == Tryz.prog.recurses 6) = true := by kernel_rfl
theorem jd6 : (Rows.fnRootOutAllRow.named == Tryz.prog.varsNamed 6) = true := by kernel_rfl
theorem jf6 : joinedFacts Tryz.prog 6 Tryz.f6 Rows.fnRootOutAllSpec Rows.fnRootOutAllRow = true := by
 unfold joinedFacts
 rw [ja6, jb6, jc6, jd6]
 kernel_rfl
theorem said6 : Rows.FnRootOutAllSaid :=
 OpenClaim.holds_of_wide 6 Tryz.f6 rfl rfl rfl rfl rfl rfl rfl ⟨rfl, rfl, rfl, rfl, rfl⟩ rfl rfl rfl rfl rfl (by kernel_rfl) Tryz.func6 jf6
  (of_decide_eq_true (by kernel_rfl)) (by unfold Func.isWrapper; first | (rw [if_pos (by decide +kernel)]; kernel_rfl) | (rw [if_neg (by decide +kernel)]; exact ⟨rfl, rfl⟩))
  (fun os started H enc _ => lifted6 os started H enc)
theorem plain6 (f : FuncId) (fn : Func) (hf : Tryz.pinned.checked.prog.funcNamed "loop.example/jackstay/laws.FnRootOutAll" = some f) (hfn : Tryz.pinned.checked.prog.funcs[f]? = some fn) :
  false = Tryz.pinned.checked.prog.looks [] ∧ ∀ (j : Nat) t, fn.params[j]? = some t → Tryz.pinned.checked.prog.wantsStandIn t = false := by
 obtain rfl : f = 6 := Option.some.inj ((show Tryz.prog.funcNamed "loop.example/jackstay/laws.FnRootOutAll" = some 6 by kernel_rfl).symm.trans hf) |>.symm
 obtain rfl : fn = Tryz.f6 := (Option.some.inj (Tryz.func6.symm.trans hfn)).symm
 refine ⟨by kernel_rfl, fun j t ht => ?_⟩
 have hall : (Tryz.f6.params.toList.all fun u => !Tryz.prog.wantsStandIn u) = true := by kernel_rfl
 have := List.all_eq_true.1 hall t (by simpa using Array.mem_of_getElem? ht)
 exact (by simpa using this : Tryz.prog.wantsStandIn t = false)
theorem card6 : Rows.FnRootOutAllCardSaid :=
 Claim7.holds_tied_plain_at .later [] _ _ _ _ said6 (fun _ h => by cases h) (by kernel_rfl) (fun _ h => by cases h) fnRootOutAll_row_tie rfl ⟨rfl, rfl⟩ (by kernel_rfl) rfl plain6 (by kernel_rfl)
end Go.Proofs.YtbkkbojncgpkkaaGreatDoor
