/- It is proved that upgrading equals removing and installing (FnRootSwap). (part 7 of 7: JkBLaw9) Conditions: none beyond the statement. -/
import Derived.Test.YtgcbngajjbjjoaaGreatDoorZFnRootSwap5
import Derived.Test.YtgcbngajjbjjoaaGreatDoorCards
import Derived.Test.YtgcbngajjbjjoaaGreatDoorTie
import Derived.Lay
import Derived.LaidMore
import Derived.SevenTiedAt
import Derived.Stop.Joined
import Derived.Shelf.Abstract
set_option maxRecDepth 100000
set_option linter.unusedVariables false
namespace Go.Proofs.YtgcbngajjbjjoaaGreatDoor
open Go.Jk Go.ChangeShapes Go.WideShapes Go.ChangeAt Go.RowKit
theorem sum9 : jja Tryz.prog 9 S9 := x9
theorem pure9 : LawOk S9 [(false, [.sl .u8])] := pure_FnRootSwap
theorem ownK : ownKnob Tryz.prog.godebug = none := by kernel_rfl
theorem laidOut : laidOutB Tryz.prog = true := by kernel_rfl
def readB (P : Program) : List TypeId → Bool
 | [] => true
 | t :: ts => P.readableRec t && decide (t < P.types.size) && readB P ts
theorem readB_ok {P : Program} : ∀ {ts : List TypeId}, readB P ts = true → ∀ t, t ∈ ts → P.readableRec t = true ∧ t < P.types.size
 | [], _, t, h => by cases h
 | u :: ts, hb, t, h => by
  simp only [readB, Bool.and_eq_true, decide_eq_true_eq] at hb
  rcases List.mem_cons.1 h with rfl | h
  ·exact hb.1
  ·exact readB_ok hb.2 t h
theorem lifted9 (os : Os) (started : os.Started) (H : Type) (enc : TypeId × Value → H) :
  ReturnsInHanded {} Tryz.checked os 9 .any (fun w args => (Rows.fnRootSwapSpec.pre enc Tryz.prog Tryz.f9 Rows.fnRootSwapRow.domain false w args ∧ laidMetH Tryz.prog Rows.fnRootSwapRow.laid w) ∧ sizedMet enc Tryz.prog Tryz.f9 (OpenSpec.ofChange Rows.fnRootSwapSpec) false w args)
   (Rows.fnRootSwapSpec.post enc Tryz.prog Tryz.f9 false true false false) := by
 refine returnsInHanded_of_change_and (C := Tryz.checked) (X := fun w _ => laidMetH Tryz.prog Rows.fnRootSwapRow.laid w) (fun _ _ _ hh h => h.of_heap hh) ownK started (by kernel_rfl) Tryz.func9
  (ChangeSpec.witness_shaped (enc := enc) (C := Tryz.checked) (os := os) (X := fun w _ => laidMetH Tryz.prog Rows.fnRootSwapRow.laid w) false (World.laidAll Tryz.prog os Rows.fnRootSwapRow.laid) #[.slice none 0 0] 8 (World.laidAll_os _ _ _)
   (World.shaped_of_ZipB (by kernel_rfl) (by kernel_rfl)) (by kernel_rfl) (by kernel_rfl) (by kernel_rfl)
   (by rw [MakeChecks.laidMetH_plain _ _ _ (by kernel_rfl)]; exact laidMet_laidAll _ (by kernel_rfl) (by kernel_rfl))) ?_
 intro W base args ds gs before hval hW _ _ _ _
 exact law_contract (tt := tt) (m := 8) sum9 (fun vs w => enters_of Tryz.func9 (by kernel_rfl) rfl _ _) laidOut (readB_ok (by kernel_rfl)) (by kernel_rfl) Tryz.underlying4 rfl
  (fun ds hl => by
   have hl : ds.length = 1 := hl
   match ds, hl with
   | [d0], _ => rfl) (by kernel_rfl) pure9 W base args ds gs before hval hW
theorem ja9 : (Rows.fnRootSwapRow.inPlace == Tryz.prog.inPlace 9) = true := by kernel_rfl
theorem jb9 : (Rows.fnRootSwapRow.unfollowed == Tryz.prog.unfollowed 9) = true := by kernel_rfl
theorem jc9 : (Rows.fnRootSwapRow.recurses == Tryz.prog.recurses 9) = true := by kernel_rfl
theorem jd9 : (Rows.fnRootSwapRow.named == Tryz.prog.varsNamed 9) = true := by kernel_rfl
theorem jf9 : joinedFacts Tryz.prog 9 Tryz.f9 Rows.fnRootSwapSpec Rows.fnRootSwapRow = true := by
 unfold joinedFacts
 rw [ja9, jb9, jc9, jd9]
 kernel_rfl
theorem said9 : Rows.FnRootSwapSaid :=
 OpenClaim.holds_of_wide 9 Tryz.f9 rfl rfl rfl rfl rfl rfl rfl ⟨rfl, rfl, rfl, rfl, rfl⟩ rfl rfl rfl rfl rfl (by kernel_rfl) Tryz.func9 jf9
  (of_decide_eq_true (by kernel_rfl)) (by unfold Func.isWrapper; first | (rw [if_pos (by decide +kernel)]; kernel_rfl) | (rw [if_neg (by decide +kernel)]; exact ⟨rfl, rfl⟩))
  (fun os started H enc _ => lifted9 os started H enc)
theorem plain9 (f : FuncId) (fn : Func) (hf : Tryz.pinned.checked.prog.funcNamed "loop.example/jackstay/laws.FnRootSwap" = some f) (hfn : Tryz.pinned.checked.prog.funcs[f]? = some fn) :
  false = Tryz.pinned.checked.prog.looks [] ∧ ∀ (j : Nat) t, fn.params[j]? = some t → Tryz.pinned.checked.prog.wantsStandIn t = false := by
 obtain rfl : f = 9 := Option.some.inj ((show Tryz.prog.funcNamed "loop.example/jackstay/laws.FnRootSwap" = some 9 by kernel_rfl).symm.trans hf) |>.symm
 obtain rfl : fn = Tryz.f9 := (Option.some.inj (Tryz.func9.symm.trans hfn)).symm
 refine ⟨by kernel_rfl, fun j t ht => ?_⟩
 have hall : (Tryz.f9.params.toList.all fun u => !Tryz.prog.wantsStandIn u) = true := by kernel_rfl
 have := List.all_eq_true.1 hall t (by simpa using Array.mem_of_getElem? ht)
 exact (by simpa using this : Tryz.prog.wantsStandIn t = false)
theorem card9 : Rows.FnRootSwapCardSaid :=
 Claim7.holds_tied_plain_at .later [] _ _ _ _ said9 (fun _ h => by cases h) (by kernel_rfl) (fun _ h => by cases h) fnRootSwap_row_tie rfl ⟨rfl, rfl⟩ (by kernel_rfl) rfl plain9 (by kernel_rfl)
end Go.Proofs.YtgcbngajjbjjoaaGreatDoor
