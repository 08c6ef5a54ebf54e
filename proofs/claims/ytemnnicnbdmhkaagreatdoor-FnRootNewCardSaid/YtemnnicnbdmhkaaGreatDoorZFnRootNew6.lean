/- The law FnRootNew (a root with one package has that package's tree) holds of the given program for every input. (part 7 of 7: JkHLaw3) Conditions: none beyond the statement. -/
import Derived.Test.YtemnnicnbdmhkaaGreatDoorZFnRootNew5
import Derived.Test.YtemnnicnbdmhkaaGreatDoorCards
import Derived.Test.YtemnnicnbdmhkaaGreatDoorTie
import Derived.Lay
import Derived.LaidMore
import Derived.SevenTiedAt
import Derived.Stop.Joined
import Derived.Shelf.Abstract
set_option maxRecDepth 100000
set_option linter.unusedVariables false
namespace Go.Proofs.YtemnnicnbdmhkaaGreatDoor
open Go.Jk Go.ChangeShapes Go.WideShapes Go.ChangeAt Go.RowKit
theorem sum3 : jje Tryz.prog 3 S3 := z3
theorem pure3 : LawOk S3 [(false, [.sl .u8])] := pure_FnRootNew
theorem ownK : ownKnob Tryz.prog.godebug = none := by kernel_rfl
theorem laidOut : laidOutB Tryz.prog = true := by kernel_rfl
def readB (P : Program) : List TypeId → Bool
 | [] => true
 | t :: ts => P.readableRec t && decide (t < P.types.size) && readB P ts
theorem readB_ok {P : Program} : ∀ {ts : List TypeId}, readB P ts = true → ∀ t, t ∈ ts → P.readableRec t = true ∧ t < P.types.size
 | [], _, t, h => by cases h
 | u :: ts, hb, t, h => by
  simp only [readB, Bool.and_eq_true, decide_eq_true_eq] at hb
  rcases List.mem_cons.1 h with rfl | h
  ·exact hb.1
  ·exact readB_ok hb.2 t h
theorem lifted3 (os : Os) (started : os.Started) (H : Type) (enc : TypeId × Value → H) :
  ReturnsInHanded {} Tryz.checked os 3 .any (fun w args => (Rows.fnRootNewSpec.pre enc Tryz.prog Tryz.f3 Rows.fnRootNewRow.domain false w args ∧ laidMetH Tryz.prog Rows.fnRootNewRow.laid w) ∧ sizedMet enc Tryz.prog Tryz.f3 (OpenSpec.ofChange Rows.fnRootNewSpec) false w args)
   (Rows.fnRootNewSpec.post enc Tryz.prog Tryz.f3 false true false false) := by
 refine returnsInHanded_of_change_and (C := Tryz.checked) (X := fun w _ => laidMetH Tryz.prog Rows.fnRootNewRow.laid w) (fun _ _ _ hh h => h.of_heap hh) ownK started (by kernel_rfl) Tryz.func3
  (ChangeSpec.witness_shaped (enc := enc) (C := Tryz.checked) (os := os) (X := fun w _ => laidMetH Tryz.prog Rows.fnRootNewRow.laid w) false (World.laidAll Tryz.prog os Rows.fnRootNewRow.laid) #[.slice none 0 0] 8 (World.laidAll_os _ _ _)
   (World.shaped_of_ZipB (by kernel_rfl) (by kernel_rfl)) (by kernel_rfl) (by kernel_rfl) (by kernel_rfl)
   (by rw [MakeChecks.laidMetH_plain _ _ _ (by kernel_rfl)]; exact laidMet_laidAll _ (by kernel_rfl) (by kernel_rfl))) ?_
 intro W base args ds gs before hval hW _ _ hX _
 rw [MakeChecks.laidMetH_plain _ _ _ (by kernel_rfl)] at hX
 have hG : gOk W := ⟨laid_tab (g := 0) (name := "loop.example/jackstay/impl.sumRounds") (t := 262) (e := 213) (n := 64) (k := .u32) (zs := shaK) (i := 4) (by kernel_rfl) (by kernel_rfl) (by kernel_rfl) (by kernel_rfl) (by kernel_rfl) (by kernel_rfl) (by kernel_rfl) hX, laid_tab (g := 2) (name := "internal/strconv.uint64pow10") (t := 307) (e := 215) (n := 20) (k := .u64) (zs := powK) (i := 2) (by kernel_rfl) (by kernel_rfl) (by kernel_rfl) (by kernel_rfl) (by kernel_rfl) (by kernel_rfl) (by kernel_rfl) hX⟩
 exact law_contract (tt := tt) (m := 8) sum3 (fun vs w => enters_of Tryz.func3 (by kernel_rfl) rfl _ _) laidOut (readB_ok (by kernel_rfl)) (by kernel_rfl) Tryz.underlying4 (by kernel_rfl)
  (fun ds gs hl hg => by
   have hl : ds.length = 1 := hl
   have hg : gs.length = 1 := hg
   match ds, hl, gs, hg with
   | [d0], _, [e0], _ => rfl) (by kernel_rfl) pure3 W hG base args ds gs before hval hW
theorem ja3 : (Rows.fnRootNewRow.inPlace == Tryz.prog.inPlace 3) = true := by kernel_rfl
theorem jb3 : (Rows.fnRootNewRow.unfollowed == Tryz.prog.unfollowed 3) = true := by kernel_rfl
theorem jc3 : (Rows.fnRootNewRow.recurses == Tryz.prog.recurses 3) = true := by kernel_rfl
theorem jd3 : (Rows.fnRootNewRow.named == Tryz.prog.varsNamed 3) = true := by kernel_rfl
theorem jf3 : joinedFacts Tryz.prog 3 Tryz.f3 Rows.fnRootNewSpec Rows.fnRootNewRow = true := by
 unfold joinedFacts
 rw [ja3, jb3, jc3, jd3]
 kernel_rfl
theorem said3 : Rows.FnRootNewSaid :=
 OpenClaim.holds_of_wide 3 Tryz.f3 rfl rfl rfl rfl rfl rfl rfl ⟨rfl, rfl, rfl, rfl, rfl⟩ rfl rfl rfl rfl rfl (by kernel_rfl) Tryz.func3 jf3
  (of_decide_eq_true (by kernel_rfl)) (by unfold Func.isWrapper; first | (rw [if_pos (by decide +kernel)]; kernel_rfl) | (rw [if_neg (by decide +kernel)]; exact ⟨rfl, rfl⟩))
  (fun os started H enc _ => lifted3 os started H enc)
theorem plain3 (f : FuncId) (fn : Func) (hf : Tryz.pinned.checked.prog.funcNamed "loop.example/jackstay/laws.FnRootNew" = some f) (hfn : Tryz.pinned.checked.prog.funcs[f]? = some fn) :
  true = Tryz.pinned.checked.prog.looks [] ∧ ∀ (j : Nat) t, fn.params[j]? = some t → Tryz.pinned.checked.prog.wantsStandIn t = false := by
 obtain rfl : f = 3 := Option.some.inj ((show Tryz.prog.funcNamed "loop.example/jackstay/laws.FnRootNew" = some 3 by kernel_rfl).symm.trans hf) |>.symm
 obtain rfl : fn = Tryz.f3 := (Option.some.inj (Tryz.func3.symm.trans hfn)).symm
 refine ⟨by kernel_rfl, fun j t ht => ?_⟩
 have hall : (Tryz.f3.params.toList.all fun u => !Tryz.prog.wantsStandIn u) = true := by kernel_rfl
 have := List.all_eq_true.1 hall t (by simpa using Array.mem_of_getElem? ht)
 exact (by simpa using this : Tryz.prog.wantsStandIn t = false)
theorem wa3 : Rows.fnRootNewRow.wfByText (OpenSpec.ofChange Rows.fnRootNewSpec) = true := by kernel_rfl
theorem wb3 : Tryz.pinned.checked.prog.mainIs = some (true, "1a1838a3bf62b419a3005c7855445892e29b56695b872649b6ce3cd0840a3590".toList) := by kernel_rfl
theorem wc3 : false = Rows.fnRootNewRow.goesBy Tryz.pinned.checked.prog := by kernel_rfl
theorem card3 : Rows.FnRootNewCardSaid :=
 Claim7.holds_tied_plain_at (p := Tryz.pinned) (s := OpenSpec.ofChange Rows.fnRootNewSpec) (c := Rows.fnRootNewRow) .later [] [.data, .data, .data, .data, .data, .pinned] true (true, "1a1838a3bf62b419a3005c7855445892e29b56695b872649b6ce3cd0840a3590") true said3 (fun _ h => by cases h) wa3 (fun _ h => by cases h) fnRootNew_row_tie rfl ⟨rfl, rfl⟩ wb3 rfl plain3 wc3
end Go.Proofs.YtemnnicnbdmhkaaGreatDoor
