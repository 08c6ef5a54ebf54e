/- FnExactDiskNew: the program's DiskNew returns what the reference's returns, for all arguments. (part 6 of 6: JkHLaw5) Conditions: none beyond the statement. -/
import Derived.Test.YtemnnicnbdmhkaaGreatDoorZFnExactDiskNew4
import Derived.Test.YtemnnicnbdmhkaaGreatDoorCards
import Derived.Test.YtemnnicnbdmhkaaGreatDoorTie
import Derived.Lay
import Derived.LaidMore
import Derived.SevenTiedAt
import Derived.Stop.Joined
import Derived.Shelf.Abstract
set_option maxRecDepth 100000
set_option linter.unusedVariables false
namespace Go.Proofs.YtemnnicnbdmhkaaGreatDoor
open Go.Jk Go.ChangeShapes Go.WideShapes Go.ChangeAt Go.RowKit
theorem sum5 : jjf Tryz.prog 5 S5 := z5
theorem pure5 : LawOk S5 [(true, [.sl .pack])] := pure_FnExactDiskNew
theorem ownK : ownKnob Tryz.prog.godebug = none := by kernel_rfl
theorem laidOut : laidOutB Tryz.prog = true := by kernel_rfl
def readB (P : Program) : List TypeId → Bool
 | [] => true
 | t :: ts => P.readableRec t && decide (t < P.types.size) && readB P ts
theorem readB_ok {P : Program} : ∀ {ts : List TypeId}, readB P ts = true → ∀ t, t ∈ ts → P.readableRec t = true ∧ t < P.types.size
 | [], _, t, h => by cases h
 | u :: ts, hb, t, h => by
  simp only [readB, Bool.and_eq_true, decide_eq_true_eq] at hb
  rcases List.mem_cons.1 h with rfl | h
  ·exact hb.1
  ·exact readB_ok hb.2 t h
theorem lifted5 (os : Os) (started : os.Started) (H : Type) (enc : TypeId × Value → H) :
  ReturnsInHanded {} Tryz.checked os 5 .any (fun w args => (Rows.fnExactDiskNewSpec.pre enc Tryz.prog Tryz.f5 Rows.fnExactDiskNewRow.domain false w args ∧ laidMetH Tryz.prog Rows.fnExactDiskNewRow.laid w) ∧ sizedMet enc Tryz.prog Tryz.f5 (OpenSpec.ofChange Rows.fnExactDiskNewSpec) false w args)
   (Rows.fnExactDiskNewSpec.post enc Tryz.prog Tryz.f5 false true false false) := by
 refine returnsInHanded_of_change_and (C := Tryz.checked) (X := fun w _ => laidMetH Tryz.prog Rows.fnExactDiskNewRow.laid w) (fun _ _ _ hh h => h.of_heap hh) ownK started (by kernel_rfl) Tryz.func5
  (ChangeSpec.witness_shaped (enc := enc) (C := Tryz.checked) (os := os) (X := fun w _ => laidMetH Tryz.prog Rows.fnExactDiskNewRow.laid w) false (World.laidAll Tryz.prog os Rows.fnExactDiskNewRow.laid) #[.agg #[.slice none 0 0]] 8 (World.laidAll_os _ _ _)
   (World.shaped_of_ZipB (by kernel_rfl) (by kernel_rfl)) (by kernel_rfl) (by kernel_rfl) (by kernel_rfl)
   (by rw [MakeChecks.laidMetH_plain _ _ _ (by kernel_rfl)]; exact laidMet_laidAll _ (by kernel_rfl) (by kernel_rfl))) ?_
 intro W base args ds gs before hval hW _ _ hX _
 rw [MakeChecks.laidMetH_plain _ _ _ (by kernel_rfl)] at hX
 have hG : gOk W := ⟨laid_tab (g := 0) (name := "loop.example/jackstay/impl.sumRounds") (t := 262) (e := 213) (n := 64) (k := .u32) (zs := shaK) (i := 4) (by kernel_rfl) (by kernel_rfl) (by kernel_rfl) (by kernel_rfl) (by kernel_rfl) (by kernel_rfl) (by kernel_rfl) hX, laid_tab (g := 2) (name := "internal/strconv.uint64pow10") (t := 307) (e := 215) (n := 20) (k := .u64) (zs := powK) (i := 2) (by kernel_rfl) (by kernel_rfl) (by kernel_rfl) (by kernel_rfl) (by kernel_rfl) (by kernel_rfl) (by kernel_rfl) hX⟩
 exact law_contract (tt := tt) (m := 8) sum5 (fun vs w => enters_of Tryz.func5 (by kernel_rfl) rfl _ _) laidOut (readB_ok (by kernel_rfl)) (by kernel_rfl) Tryz.underlying4 (by kernel_rfl)
  (fun ds gs hl hg => by
   have hl : ds.length = 1 := hl
   have hg : gs.length = 1 := hg
   match ds, hl, gs, hg with
   | [d0], _, [e0], _ => rfl) (by kernel_rfl) pure5 W hG base args ds gs before hval hW
theorem ja5 : (Rows.fnExactDiskNewRow.inPlace == Tryz.prog.inPlace 5) = true := by kernel_rfl
theorem jb5 : (Rows.fnExactDiskNewRow.unfollowed == Tryz.prog.unfollowed 5) = true := by kernel_rfl
theorem jc5 : (Rows.fnExactDiskNewRow.recurses == Tryz.prog.recurses 5) = true := by kernel_rfl
theorem jd5 : (Rows.fnExactDiskNewRow.named == Tryz.prog.varsNamed 5) = true := by kernel_rfl
theorem jf5 : joinedFacts Tryz.prog 5 Tryz.f5 Rows.fnExactDiskNewSpec Rows.fnExactDiskNewRow = true := by
 unfold joinedFacts
 rw [ja5, jb5, jc5, jd5]
 kernel_rfl
theorem said5 : Rows.FnExactDiskNewSaid :=
 OpenClaim.holds_of_wide 5 Tryz.f5 rfl rfl rfl rfl rfl rfl rfl ⟨rfl, rfl, rfl, rfl, rfl⟩ rfl rfl rfl rfl rfl (by kernel_rfl) Tryz.func5 jf5
  (of_decide_eq_true (by kernel_rfl)) (by unfold Func.isWrapper; first | (rw [if_pos (by decide +kernel)]; kernel_rfl) | (rw [if_neg (by decide +kernel)]; exact ⟨rfl, rfl⟩))
  (fun os started H enc _ => lifted5 os started H enc)
theorem plain5 (f : FuncId) (fn : Func) (hf : Tryz.pinned.checked.prog.funcNamed "loop.example/jackstay/laws.FnExactDiskNew" = some f) (hfn : Tryz.pinned.checked.prog.funcs[f]? = some fn) :
  true = Tryz.pinned.checked.prog.looks [] ∧ ∀ (j : Nat) t, fn.params[j]? = some t → Tryz.pinned.checked.prog.wantsStandIn t = false := by
 obtain rfl : f = 5 := Option.some.inj ((show Tryz.prog.funcNamed "loop.example/jackstay/laws.FnExactDiskNew" = some 5 by kernel_rfl).symm.trans hf) |>.symm
 obtain rfl : fn = Tryz.f5 := (Option.some.inj (Tryz.func5.symm.trans hfn)).symm
 refine ⟨by kernel_rfl, fun j t ht => ?_⟩
 have hall : (Tryz.f5.params.toList.all fun u => !Tryz.prog.wantsStandIn u) = true := by kernel_rfl
 have := List.all_eq_true.1 hall t (by simpa using Array.mem_of_getElem? ht)
 exact (by simpa using this : Tryz.prog.wantsStandIn t = false)
theorem wa5 : Rows.fnExactDiskNewRow.wfByText (OpenSpec.ofChange Rows.fnExactDiskNewSpec) = true := by kernel_rfl
theorem wb5 : Tryz.pinned.checked.prog.mainIs = some (true, "1a1838a3bf62b419a3005c7855445892e29b56695b872649b6ce3cd0840a3590".toList) := by kernel_rfl
theorem wc5 : false = Rows.fnExactDiskNewRow.goesBy Tryz.pinned.checked.prog := by kernel_rfl
theorem card5 : Rows.FnExactDiskNewCardSaid :=
 Claim7.holds_tied_plain_at (p := Tryz.pinned) (s := OpenSpec.ofChange Rows.fnExactDiskNewSpec) (c := Rows.fnExactDiskNewRow) .later [] [.data, .data, .data, .data, .data, .pinned] true (true, "1a1838a3bf62b419a3005c7855445892e29b56695b872649b6ce3cd0840a3590") true said5 (fun _ h => by cases h) wa5 (fun _ h => by cases h) fnExactDiskNew_row_tie rfl ⟨rfl, rfl⟩ wb5 rfl plain5 wc5
end Go.Proofs.YtemnnicnbdmhkaaGreatDoor
