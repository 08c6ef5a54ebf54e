/- It is proved that installation is atomic (FnRootIn). (part 7 of 7: JkBLaw8) Conditions: none beyond the statement. -/
import Derived.Test.YtgcbngajjbjjoaaGreatDoorZFnRootIn5
import Derived.Test.YtgcbngajjbjjoaaGreatDoorCards
import Derived.Test.YtgcbngajjbjjoaaGreatDoorTie
import Derived.Lay
import Derived.LaidMore
import Derived.SevenTiedAt
import Derived.Stop.Joined
import Derived.Shelf.Abstract
set_option maxRecDepth 100000
set_option linter.unusedVariables false
namespace Go.Proofs.YtgcbngajjbjjoaaGreatDoor
open Go.Jk Go.ChangeShapes Go.WideShapes Go.ChangeAt Go.RowKit
theorem sum8 : jja Tryz.prog 8 S8 := x8
theorem pure8 : LawOk S8 [(false, [.sl .u8])] := pure_FnRootIn
theorem ownK : ownKnob Tryz.prog.godebug = none := by kernel_rfl
theorem laidOut : laidOutB Tryz.prog = true := by kernel_rfl
def readB (P : Program) : List TypeId → Bool
 | [] => true
 | t :: ts => P.readableRec t && decide (t < P.types.size) && readB P ts
theorem readB_ok {P : Program} : ∀ {ts : List TypeId}, readB P ts = true → ∀ t, t ∈ ts → P.readableRec t = true ∧ t < P.types.size
 | [], _, t, h => by cases h
 | u :: ts, hb, t, h => by
  simp only [readB, Bool.and_eq_true, decide_eq_true_eq] at hb
  rcases List.mem_cons.1 h with rfl | h
  ·exact hb.1
  ·exact readB_ok hb.2 t h
theorem lifted8 (os : Os) (started : os.Started) (H : Type) (enc : TypeId × Value → H) :
  ReturnsInHanded {} Tryz.checked os 8 .any (fun w args => (Rows.fnRootInSpec.pre enc Tryz.prog Tryz.f8 Rows.fnRootInRow.domain false w args ∧ laidMetH Tryz.prog Rows.fnRootInRow.laid w) ∧ sizedMet enc Tryz.prog Tryz.f8 (OpenSpec.ofChange Rows.fnRootInSpec) false w args)
   (Rows.fnRootInSpec.post enc Tryz.prog Tryz.f8 false true false false) := by
 refine returnsInHanded_of_change_and (C := Tryz.checked) (X := fun w _ => laidMetH Tryz.prog Rows.fnRootInRow.laid w) (fun _ _ _ hh h => h.of_heap hh) ownK started (by kernel_rfl) Tryz.func8
  (ChangeSpec.witness_shaped (enc := enc) (C := Tryz.checked) (os := os) (X := fun w _ => laidMetH Tryz.prog Rows.fnRootInRow.laid w) false (World.laidAll Tryz.prog os Rows.fnRootInRow.laid) #[.slice none 0 0] 8 (World.laidAll_os _ _ _)
   (World.shaped_of_ZipB (by kernel_rfl) (by kernel_rfl)) (by kernel_rfl) (by kernel_rfl) (by kernel_rfl)
   (by rw [MakeChecks.laidMetH_plain _ _ _ (by kernel_rfl)]; exact laidMet_laidAll _ (by kernel_rfl) (by kernel_rfl))) ?_
 intro W base args ds gs before hval hW _ _ _ _
 exact law_contract (tt := tt) (m := 8) sum8 (fun vs w => enters_of Tryz.func8 (by kernel_rfl) rfl _ _) laidOut (readB_ok (by kernel_rfl)) (by kernel_rfl) Tryz.underlying4 rfl
  (fun ds hl => by
   have hl : ds.length = 1 := hl
   match ds, hl with
   | [d0], _ => rfl) (by kernel_rfl) pure8 W base args ds gs before hval hW
theorem ja8 : (Rows.fnRootInRow.inPlace == Tryz.prog.inPlace 8) = true := by kernel_rfl
theorem jb8 : (Rows.fnRootInRow.unfollowed == Tryz.prog.unfollowed 8) = true := by kernel_rfl
theorem jc8 : (Rows.fnRootInRow.recurses == Tryz.prog.recurses 8) = true := by kernel_rfl
theorem jd8 : (Rows.fnRootInRow.named == Tryz.prog.varsNamed 8) = true := by kernel_rfl
theorem jf8 : joinedFacts Tryz.prog 8 Tryz.f8 Rows.fnRootInSpec Rows.fnRootInRow = true := by
 unfold joinedFacts
 rw [ja8, jb8, jc8, jd8]
 kernel_rfl
theorem said8 : Rows.FnRootInSaid :=
 OpenClaim.holds_of_wide 8 Tryz.f8 rfl rfl rfl rfl rfl rfl rfl ⟨rfl, rfl, rfl, rfl, rfl⟩ rfl rfl rfl rfl rfl (by kernel_rfl) Tryz.func8 jf8
  (of_decide_eq_true (by kernel_rfl)) (by unfold Func.isWrapper; first | (rw [if_pos (by decide +kernel)]; kernel_rfl) | (rw [if_neg (by decide +kernel)]; exact ⟨rfl, rfl⟩))
  (fun os started H enc _ => lifted8 os started H enc)
theorem plain8 (f : FuncId) (fn : Func) (hf : Tryz.pinned.checked.prog.funcNamed "loop.example/jackstay/laws.FnRootIn" = some f) (hfn : Tryz.pinned.checked.prog.funcs[f]? = some fn) :
  false = Tryz.pinned.checked.prog.looks [] ∧ ∀ (j : Nat) t, fn.params[j]? = some t → Tryz.pinned.checked.prog.wantsStandIn t = false := by
 obtain rfl : f = 8 := Option.some.inj ((show Tryz.prog.funcNamed "loop.example/jackstay/laws.FnRootIn" = some 8 by kernel_rfl).symm.trans hf) |>.symm
 obtain rfl : fn = Tryz.f8 := (Option.some.inj (Tryz.func8.symm.trans hfn)).symm
 refine ⟨by kernel_rfl, fun j t ht => ?_⟩
 have hall : (Tryz.f8.params.toList.all fun u => !Tryz.prog.wantsStandIn u) = true := by kernel_rfl
 have := List.all_eq_true.1 hall t (by simpa using Array.mem_of_getElem? ht)
 exact (by simpa using this : Tryz.prog.wantsStandIn t = false)
theorem card8 : Rows.FnRootInCardSaid :=
 Claim7.holds_tied_plain_at .later [] _ _ _ _ said8 (fun _ h => by cases h) (by kernel_rfl) (fun _ h => by cases h) fnRootIn_row_tie rfl ⟨rfl, rfl⟩ (by kernel_rfl) rfl plain8 (by kernel_rfl)
end Go.Proofs.YtgcbngajjbjjoaaGreatDoor
