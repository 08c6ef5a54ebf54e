/- Needers is the inverse of Closure: of drawn packs, and a name, who needs it has it in its closure, nobody else does, and the two Needers agree. (part 6 of 6: JnQLaw8) Conditions: none beyond the statement. -/
import Derived.Test.YthllakklnccioaaGreatDoorZFnNeeders4
import Derived.Test.YthllakklnccioaaGreatDoorCards
import Derived.Test.YthllakklnccioaaGreatDoorTie
import Derived.Lay
import Derived.LaidMore
import Derived.SevenTiedAt
import Derived.Stop.Joined
import Derived.Shelf.Abstract
set_option maxRecDepth 100000
set_option linter.unusedVariables false
namespace Go.Proofs.YthllakklnccioaaGreatDoor
open Go.Jk Go.ChangeShapes Go.WideShapes Go.ChangeAt Go.RowKit
theorem ac8:bc Tryz.prog 8 q7:=aii
theorem abE:LawOk q7 [(false,[.sl .u8])]:=pure_FnNeeders
theorem adg:ownKnob Tryz.prog.godebug=none:=by kernel_rfl
theorem laidOut:laidOutB Tryz.prog=true:=by kernel_rfl
def Em(P:Program):List TypeId->Bool
 |[]=>true
 |t::dj=>P.readableRec t&&decide (t<P.types.size)&&Em P dj
theorem Kk{P:Program}:∀{dj:List TypeId},Em P dj=true->∀t,t∈dj->P.readableRec t=true/\t<P.types.size
 |[],_,t,h=>by cases h
 |u::dj,hb,t,h=>by
  simp only[Em,Bool.and_eq_true,decide_eq_true_eq] at hb;rcases List.mem_cons.1 h with rfl|h
  ·exact hb.1
  ·exact Kk hb.2 t h
theorem _h(os:Os)(started:os.Started)(aD:Type)(enc:TypeId×Value->aD):
  ReturnsInHanded {} Tryz.checked os 8 .any (fun w args=>(Rows.fnNeedersSpec.pre enc Tryz.prog Tryz.f8 Rows.fnNeedersRow.domain false w args/\laidMetH Tryz.prog Rows.fnNeedersRow.laid w)/\sizedMet enc Tryz.prog Tryz.f8 (OpenSpec.ofChange Rows.fnNeedersSpec) false w args)
   (Rows.fnNeedersSpec.post enc Tryz.prog Tryz.f8 false true false false):=by
 refine returnsInHanded_of_change_and (C:=Tryz.checked) (X:=fun w _=>laidMetH Tryz.prog Rows.fnNeedersRow.laid w) (fun _ _ _ b4 h=>h.of_heap b4) adg started (by kernel_rfl) Tryz.func8
  (ChangeSpec.witness_shaped (enc:=enc) (C:=Tryz.checked) (os:=os) (X:=fun w _=>laidMetH Tryz.prog Rows.fnNeedersRow.laid w) false (World.laidAll Tryz.prog os Rows.fnNeedersRow.laid) #[.slice none 0 0] 8 (World.laidAll_os _ _ _)
   (World.shaped_of_ZipB (by kernel_rfl) (by kernel_rfl)) (by kernel_rfl) (by kernel_rfl) (by kernel_rfl)
   (by rw[MakeChecks.laidMetH_plain _ _ _ (by kernel_rfl)];exact laidMet_laidAll _ (by kernel_rfl) (by kernel_rfl))) ?_
 intro W base args ds gs before iV ko _ _ ie _;rw[MakeChecks.laidMetH_plain _ _ _ (by kernel_rfl)] at ie
 have jx:pv W:=trivial;exact TY (tt:=tt) (m:=8) ac8 (fun vs w=>enters_of Tryz.func8 (by kernel_rfl) rfl _ _) laidOut (Kk (by kernel_rfl)) (by kernel_rfl) Tryz.underlying4 (by kernel_rfl)
  (fun ds gs hl aF=>by
   have hl:ds.length=1:=hl;have aF:gs.length=0:=aF;match ds,hl,gs,aF with
   |[d0],_,[],_=>rfl) (by kernel_rfl) abE W jx base args ds gs before iV ko
theorem af9:(Rows.fnNeedersRow.inPlace==Tryz.prog.inPlace 8)=true:=by kernel_rfl
theorem af8:(Rows.fnNeedersRow.unfollowed==Tryz.prog.unfollowed 8)=true:=by kernel_rfl
theorem af7:(Rows.fnNeedersRow.recurses==Tryz.prog.recurses 8)=true:=by kernel_rfl
theorem af6:(Rows.fnNeedersRow.named==Tryz.prog.varsNamed 8)=true:=by kernel_rfl
theorem af5:joinedFacts Tryz.prog 8 Tryz.f8 Rows.fnNeedersSpec Rows.fnNeedersRow=true:=by
 unfold joinedFacts;rw[af9,af8,af7,af6];kernel_rfl
theorem aby:Rows.FnNeedersSaid:=
 OpenClaim.holds_of_wide 8 Tryz.f8 rfl rfl rfl rfl rfl rfl rfl ⟨rfl,rfl,rfl,rfl,rfl⟩ rfl rfl rfl rfl rfl (by kernel_rfl) Tryz.func8 af5
  (of_decide_eq_true (by kernel_rfl)) (by unfold Func.isWrapper;first|(rw[if_pos (by decide+kernel)];kernel_rfl)|(rw[if_neg (by decide+kernel)];exact⟨rfl,rfl⟩))
  (fun os started aD enc _=>_h os started aD enc)
theorem plain8(f:FuncId)(fn:Func)(hf:Tryz.pinned.checked.prog.funcNamed "loop.example/jackstay/laws.FnNeeders" =some f)(lG:Tryz.pinned.checked.prog.funcs[f]? =some fn):
  false=Tryz.pinned.checked.prog.looks []/\∀(j:Nat) t,fn.params[j]? =some t->Tryz.pinned.checked.prog.wantsStandIn t=false:=by
 obtain rfl:f=8:=Option.some.inj ((show Tryz.prog.funcNamed "loop.example/jackstay/laws.FnNeeders" =some 8 by kernel_rfl).symm.trans hf)|>.symm
 obtain rfl:fn=Tryz.f8:=(Option.some.inj (Tryz.func8.symm.trans lG)).symm;refine⟨by kernel_rfl,fun j t aC=>?_⟩
 have it:(Tryz.f8.params.toList.all fun u=>!Tryz.prog.wantsStandIn u)=true:=by kernel_rfl
 have:=List.all_eq_true.1 it t (by simpa using Array.mem_of_getElem? aC)
 exact(by simpa using this:Tryz.prog.wantsStandIn t=false)
theorem afA:Rows.fnNeedersRow.wfByText (OpenSpec.ofChange Rows.fnNeedersSpec)=true:=by kernel_rfl
theorem afz:Tryz.pinned.checked.prog.mainIs=some (true,"5946f37c541407e64879668c936bc88f72ba3b57e26f9e49bbd15b4718069d7a".toList):=by kernel_rfl
theorem afy:false=Rows.fnNeedersRow.goesBy Tryz.pinned.checked.prog:=by kernel_rfl
theorem card8:Rows.FnNeedersCardSaid:=
 Claim7.holds_tied_plain_at (p:=Tryz.pinned) (s:=OpenSpec.ofChange Rows.fnNeedersSpec) (c:=Rows.fnNeedersRow) .later [] [.data,.pinned] true (true,"5946f37c541407e64879668c936bc88f72ba3b57e26f9e49bbd15b4718069d7a") false aby (fun _ h=>by cases h) afA (fun _ h=>by cases h) fnNeeders_row_tie rfl ⟨rfl,rfl⟩ afz rfl plain8 afy
end Go.Proofs.YthllakklnccioaaGreatDoor
