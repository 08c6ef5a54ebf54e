/- It is proved that missing packages are reported (FnClosureNone). (part 7 of 7: JkELaw3) Conditions: none beyond the statement. -/
import Derived.Test.YtbkkbojncgpkkaaGreatDoorZFnClosureNone5
import Derived.Test.YtbkkbojncgpkkaaGreatDoorCards
import Derived.Test.YtbkkbojncgpkkaaGreatDoorTie
import Derived.Lay
import Derived.LaidMore
import Derived.SevenTiedAt
import Derived.Stop.Joined
import Derived.Shelf.Abstract
set_option maxRecDepth 100000
set_option linter.unusedVariables false
namespace Go.Proofs.YtbkkbojncgpkkaaGreatDoor
open Go.Jk Go.ChangeShapes Go.WideShapes Go.ChangeAt Go.RowKit
theorem sum3 : jja Tryz.prog 3 S3 := x3
theorem pure3 : LawOk S3 [(false, [.sl .u8])] := pure_FnClosureNone
theorem ownK : ownKnob Tryz.prog.godebug = none := by kernel_rfl
theorem laidOut : laidOutB Tryz.prog = true := by kernel_rfl
def readB (P : Program) : List TypeId → Bool
 | [] => true
 | t :: ts => P.readableRec t && decide (t < P.types.size) && readB P ts
theorem readB_ok {P : Program} : ∀ {ts : List TypeId}, readB P ts = true → ∀ t, t ∈ ts → P.readableRec t = true ∧ t < P.types.size
 | [], _, t, h => by cases h
 | u :: ts, hb, t, h => by
  simp only [readB, Bool.and_eq_true, decide_eq_true_eq] at hb
  rcases List.mem_cons.1 h with rfl | h
  ·exact hb.1
  ·exact readB_ok hb.2 t h
theorem lifted3 (os : Os) (started : os.Started) (H : Type) (enc : TypeId × Value → H) :
  ReturnsInHanded {} Tryz.checked os 3 .any (fun w args => (Rows.fnClosureNoneSpec.pre enc Tryz.prog Tryz.f3 Rows.fnClosureNoneRow.domain false w args ∧ laidMetH Tryz.prog Rows.fnClosureNoneRow.laid w) ∧ sizedMet enc Tryz.prog Tryz.f3 (OpenSpec.ofChange Rows.fnClosureNoneSpec) false w args)
   (Rows.fnClosureNoneSpec.post enc Tryz.prog Tryz.f3 false true false false) := by
 refine returnsInHanded_of_change_and (C := Tryz.checked) (X := fun w _ => laidMetH Tryz.prog Rows.fnClosureNoneRow.laid w) (fun _ _ _ hh h => h.of_heap hh) ownK started (by kernel_rfl) Tryz.func3
  (ChangeSpec.witness_shaped (enc := enc) (C := Tryz.checked) (os := os) (X := fun w _ => laidMetH Tryz.prog Rows.fnClosureNoneRow.laid w) false (World.laidAll Tryz.prog os Rows.fnClosureNoneRow.laid) #[.slice none 0 0] 8 (World.laidAll_os _ _ _)
   (World.shaped_of_ZipB (by kernel_rfl) (by kernel_rfl)) (by kernel_rfl) (by kernel_rfl) (by kernel_rfl)
   (by rw [MakeChecks.laidMetH_plain _ _ _ (by kernel_rfl)]; exact laidMet_laidAll _ (by kernel_rfl) (by kernel_rfl))) ?_
 intro W base args ds gs before hval hW _ _ _ _
 exact law_contract (tt := tt) (m := 8) sum3 (fun vs w => enters_of Tryz.func3 (by kernel_rfl) rfl _ _) laidOut (readB_ok (by kernel_rfl)) (by kernel_rfl) Tryz.underlying4 rfl
  (fun ds hl => by
   have hl : ds.length = 1 := hl
   match ds, hl with
   | [d0], _ => rfl) (by kernel_rfl) pure3 W base args ds gs before hval hW
theorem ja3 : (Rows.fnClosureNoneRow.inPlace == Tryz.prog.inPlace 3) = true := by kernel_rfl
theorem jb3 : (Rows.fnClosureNoneRow.unfollowed == Tryz.prog.unfollowed 3) = true := by kernel_rfl
theorem jc3 : (Rows.fnClosureNoneRow.recurses == Tryz.prog.recurses 3) = true := by kernel_rfl
theorem jd3 : (Rows.fnClosureNoneRow.named == Tryz.prog.varsNamed 3) = true := by kernel_rfl
theorem jf3 : joinedFacts Tryz.prog 3 Tryz.f3 Rows.fnClosureNoneSpec Rows.fnClosureNoneRow = true := by
 unfold joinedFacts
 rw [ja3, jb3, jc3, jd3]
 kernel_rfl
theorem said3 : Rows.FnClosureNoneSaid :=
 OpenClaim.holds_of_wide 3 Tryz.f3 rfl rfl rfl rfl rfl rfl rfl ⟨rfl, rfl, rfl, rfl, rfl⟩ rfl rfl rfl rfl rfl (by kernel_rfl) Tryz.func3 jf3
  (of_decide_eq_true (by kernel_rfl)) (by unfold Func.isWrapper; first | (rw [if_pos (by decide +kernel)]; kernel_rfl) | (rw [if_neg (by decide +kernel)]; exact ⟨rfl, rfl⟩))
  (fun os started H enc _ => lifted3 os started H enc)
theorem plain3 (f : FuncId) (fn : Func) (hf : Tryz.pinned.checked.prog.funcNamed "loop.example/jackstay/laws.FnClosureNone" = some f) (hfn : Tryz.pinned.checked.prog.funcs[f]? = some fn) :
  false = Tryz.pinned.checked.prog.looks [] ∧ ∀ (j : Nat) t, fn.params[j]? = some t → Tryz.pinned.checked.prog.wantsStandIn t = false := by
 obtain rfl : f = 3 := Option.some.inj ((show Tryz.prog.funcNamed "loop.example/jackstay/laws.FnClosureNone" = some 3 by kernel_rfl).symm.trans hf) |>.symm
 obtain rfl : fn = Tryz.f3 := (Option.some.inj (Tryz.func3.symm.trans hfn)).symm
 refine ⟨by kernel_rfl, fun j t ht => ?_⟩
 have hall : (Tryz.f3.params.toList.all fun u => !Tryz.prog.wantsStandIn u) = true := by kernel_rfl
 have := List.all_eq_true.1 hall t (by simpa using Array.mem_of_getElem? ht)
 exact (by simpa using this : Tryz.prog.wantsStandIn t = false)
theorem card3 : Rows.FnClosureNoneCardSaid :=
 Claim7.holds_tied_plain_at .later [] _ _ _ _ said3 (fun _ h => by cases h) (by kernel_rfl) (fun _ h => by cases h) fnClosureNone_row_tie rfl ⟨rfl, rfl⟩ (by kernel_rfl) rfl plain3 (by kernel_rfl)
end Go.Proofs.YtbkkbojncgpkkaaGreatDoor
