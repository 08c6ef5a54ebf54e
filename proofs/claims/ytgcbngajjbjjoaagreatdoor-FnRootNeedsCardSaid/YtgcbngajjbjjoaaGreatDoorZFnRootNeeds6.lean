/- It is proved that missing dependencies prevent installation (FnRootNeeds). (part 7 of 7: JkBLaw7) Conditions: none beyond the statement. -/
import Derived.Test.YtgcbngajjbjjoaaGreatDoorZFnRootNeeds5
import Derived.Test.YtgcbngajjbjjoaaGreatDoorCards
import Derived.Test.YtgcbngajjbjjoaaGreatDoorTie
import Derived.Lay
import Derived.LaidMore
import Derived.SevenTiedAt
import Derived.Stop.Joined
import Derived.Shelf.Abstract
set_option maxRecDepth 100000
set_option linter.unusedVariables false
namespace Go.Proofs.YtgcbngajjbjjoaaGreatDoor
open Go.Jk Go.ChangeShapes Go.WideShapes Go.ChangeAt Go.RowKit
theorem sum7 : jja Tryz.prog 7 S7 := x7
theorem pure7 : LawOk S7 [(false, [.sl .u8])] := pure_FnRootNeeds
theorem ownK : ownKnob Tryz.prog.godebug = none := by kernel_rfl
theorem laidOut : laidOutB Tryz.prog = true := by kernel_rfl
def readB (P : Program) : List TypeId → Bool
 | [] => true
 | t :: ts => P.readableRec t && decide (t < P.types.size) && readB P ts
theorem readB_ok {P : Program} : ∀ {ts : List TypeId}, readB P ts = true → ∀ t, t ∈ ts → P.readableRec t = true ∧ t < P.types.size
 | [], _, t, h => by cases h
 | u :: ts, hb, t, h => by
  simp only [readB, Bool.and_eq_true, decide_eq_true_eq] at hb
  rcases List.mem_cons.1 h with rfl | h
  ·exact hb.1
  ·exact readB_ok hb.2 t h
theorem lifted7 (os : Os) (started : os.Started) (H : Type) (enc : TypeId × Value → H) :
  ReturnsInHanded {} Tryz.checked os 7 .any (fun w args => (Rows.fnRootNeedsSpec.pre enc Tryz.prog Tryz.f7 Rows.fnRootNeedsRow.domain false w args ∧ laidMetH Tryz.prog Rows.fnRootNeedsRow.laid w) ∧ sizedMet enc Tryz.prog Tryz.f7 (OpenSpec.ofChange Rows.fnRootNeedsSpec) false w args)
   (Rows.fnRootNeedsSpec.post enc Tryz.prog Tryz.f7 false true false false) := by
 refine returnsInHanded_of_change_and (C := Tryz.checked) (X := fun w _ => laidMetH Tryz.prog Rows.fnRootNeedsRow.laid w) (fun _ _ _ hh h => h.of_heap hh) ownK started (by kernel_rfl) Tryz.func7
  (ChangeSpec.witness_shaped (enc := enc) (C := Tryz.checked) (os := os) (X := fun w _ => laidMetH Tryz.prog Rows.fnRootNeedsRow.laid w) false (World.laidAll Tryz.prog os Rows.fnRootNeedsRow.laid) #[.slice none 0 0] 8 (World.laidAll_os _ _ _)
   (World.shaped_of_ZipB (by kernel_rfl) (by kernel_rfl)) (by kernel_rfl) (by kernel_rfl) (by kernel_rfl)
   (by rw [MakeChecks.laidMetH_plain _ _ _ (by kernel_rfl)]; exact laidMet_laidAll _ (by kernel_rfl) (by kernel_rfl))) ?_
 intro W base args ds gs before hval hW _ _ _ _
 exact law_contract (tt := tt) (m := 8) sum7 (fun vs w => enters_of Tryz.func7 (by kernel_rfl) rfl _ _) laidOut (readB_ok (by kernel_rfl)) (by kernel_rfl) Tryz.underlying4 rfl
  (fun ds hl => by
   have hl : ds.length = 1 := hl
   match ds, hl with
   | [d0], _ => rfl) (by kernel_rfl) pure7 W base args ds gs before hval hW
theorem ja7 : (Rows.fnRootNeedsRow.inPlace == Tryz.prog.inPlace 7) = true := by kernel_rfl
theorem jb7 : (Rows.fnRootNeedsRow.unfollowed == Tryz.prog.unfollowed 7) = true := by kernel_rfl
theorem jc7 : (Rows.fnRootNeedsRow.recurses == Tryz.prog.recurses 7) = true := by kernel_rfl
theorem jd7 : (Rows.fnRootNeedsRow.named == Tryz.prog.varsNamed 7) = true := by kernel_rfl
theorem jf7 : joinedFacts Tryz.prog 7 Tryz.f7 Rows.fnRootNeedsSpec Rows.fnRootNeedsRow = true := by
 unfold joinedFacts
 rw [ja7, jb7, jc7, jd7]
 kernel_rfl
theorem said7 : Rows.FnRootNeedsSaid :=
 OpenClaim.holds_of_wide 7 Tryz.f7 rfl rfl rfl rfl rfl rfl rfl ⟨rfl, rfl, rfl, rfl, rfl⟩ rfl rfl rfl rfl rfl (by kernel_rfl) Tryz.func7 jf7
  (of_decide_eq_true (by kernel_rfl)) (by unfold Func.isWrapper; first | (rw [if_pos (by decide +kernel)]; kernel_rfl) | (rw [if_neg (by decide +kernel)]; exact ⟨rfl, rfl⟩))
  (fun os started H enc _ => lifted7 os started H enc)
theorem plain7 (f : FuncId) (fn : Func) (hf : Tryz.pinned.checked.prog.funcNamed "loop.example/jackstay/laws.FnRootNeeds" = some f) (hfn : Tryz.pinned.checked.prog.funcs[f]? = some fn) :
  false = Tryz.pinned.checked.prog.looks [] ∧ ∀ (j : Nat) t, fn.params[j]? = some t → Tryz.pinned.checked.prog.wantsStandIn t = false := by
 obtain rfl : f = 7 := Option.some.inj ((show Tryz.prog.funcNamed "loop.example/jackstay/laws.FnRootNeeds" = some 7 by kernel_rfl).symm.trans hf) |>.symm
 obtain rfl : fn = Tryz.f7 := (Option.some.inj (Tryz.func7.symm.trans hfn)).symm
 refine ⟨by kernel_rfl, fun j t ht => ?_⟩
 have hall : (Tryz.f7.params.toList.all fun u => !Tryz.prog.wantsStandIn u) = true := by kernel_rfl
 have := List.all_eq_true.1 hall t (by simpa using Array.mem_of_getElem? ht)
 exact (by simpa using this : Tryz.prog.wantsStandIn t = false)
theorem card7 : Rows.FnRootNeedsCardSaid :=
 Claim7.holds_tied_plain_at .later [] _ _ _ _ said7 (fun _ h => by cases h) (by kernel_rfl) (fun _ h => by cases h) fnRootNeeds_row_tie rfl ⟨rfl, rfl⟩ (by kernel_rfl) rfl plain7 (by kernel_rfl)
end Go.Proofs.YtgcbngajjbjjoaaGreatDoor
