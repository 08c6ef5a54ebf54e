/- FnExactRootTree: the program's RootTree returns what the reference's returns, for all arguments. (part 6 of 6: JnNLaw3) Conditions: none beyond the statement. -/
import Derived.Test.YthllakklnccioaaGreatDoorZFnExactRootTree4
import Derived.Test.YthllakklnccioaaGreatDoorCards
import Derived.Test.YthllakklnccioaaGreatDoorTie
import Derived.Lay
import Derived.LaidMore
import Derived.SevenTiedAt
import Derived.Stop.Joined
import Derived.Shelf.Abstract
set_option maxRecDepth 100000
set_option linter.unusedVariables false
namespace Go.Proofs.YthllakklnccioaaGreatDoor
open Go.Jk Go.ChangeShapes Go.WideShapes Go.ChangeAt Go.RowKit
theorem abm:a6 Tryz.prog 3 gn:=Gr
theorem _A:LawOk gn [(true,[.sl .pack])]:=pure_FnExactRootTree
theorem abA:ownKnob Tryz.prog.godebug=none:=by kernel_rfl
theorem laidOut:laidOutB Tryz.prog=true:=by kernel_rfl
def DD(P:Program):List TypeId->Bool
 |[]=>true
 |t::cQ=>P.readableRec t&&decide (t<P.types.size)&&DD P cQ
theorem JC{P:Program}:∀{cQ:List TypeId},DD P cQ=true->∀t,t∈cQ->P.readableRec t=true/\t<P.types.size
 |[],_,t,h=>by cases h
 |u::cQ,hb,t,h=>by
  simp only[DD,Bool.and_eq_true,decide_eq_true_eq] at hb;rcases List.mem_cons.1 h with rfl|h
  ·exact hb.1
  ·exact JC hb.2 t h
theorem YG(os:Os)(started:os.Started)(ax:Type)(enc:TypeId×Value->ax):
  ReturnsInHanded {} Tryz.checked os 3 .any (fun w args=>(Rows.fnExactRootTreeSpec.pre enc Tryz.prog Tryz.f3 Rows.fnExactRootTreeRow.domain false w args/\laidMetH Tryz.prog Rows.fnExactRootTreeRow.laid w)/\sizedMet enc Tryz.prog Tryz.f3 (OpenSpec.ofChange Rows.fnExactRootTreeSpec) false w args)
   (Rows.fnExactRootTreeSpec.post enc Tryz.prog Tryz.f3 false true false false):=by
 refine returnsInHanded_of_change_and (C:=Tryz.checked) (X:=fun w _=>laidMetH Tryz.prog Rows.fnExactRootTreeRow.laid w) (fun _ _ _ bW h=>h.of_heap bW) abA started (by kernel_rfl) Tryz.func3
  (ChangeSpec.witness_shaped (enc:=enc) (C:=Tryz.checked) (os:=os) (X:=fun w _=>laidMetH Tryz.prog Rows.fnExactRootTreeRow.laid w) false (World.laidAll Tryz.prog os Rows.fnExactRootTreeRow.laid) #[.agg #[.slice none 0 0]] 8 (World.laidAll_os _ _ _)
   (World.shaped_of_ZipB (by kernel_rfl) (by kernel_rfl)) (by kernel_rfl) (by kernel_rfl) (by kernel_rfl)
   (by rw[MakeChecks.laidMetH_plain _ _ _ (by kernel_rfl)];exact laidMet_laidAll _ (by kernel_rfl) (by kernel_rfl))) ?_
 intro W base args ds gs before hR hW _ _ hh _;rw[MakeChecks.laidMetH_plain _ _ _ (by kernel_rfl)] at hh
 have hG:oz W:=trivial;exact SY (tt:=tt) (m:=8) abm (fun vs w=>enters_of Tryz.func3 (by kernel_rfl) rfl _ _) laidOut (JC (by kernel_rfl)) (by kernel_rfl) Tryz.underlying4 (by kernel_rfl)
  (fun ds gs hl hg=>by
   have hl:ds.length=1:=hl;have hg:gs.length=0:=hg;match ds,hl,gs,hg with
   |[d0],_,[],_=>rfl) (by kernel_rfl) _A W hG base args ds gs before hR hW
theorem aeY:(Rows.fnExactRootTreeRow.inPlace==Tryz.prog.inPlace 3)=true:=by kernel_rfl
theorem aeX:(Rows.fnExactRootTreeRow.unfollowed==Tryz.prog.unfollowed 3)=true:=by kernel_rfl
theorem aeW:(Rows.fnExactRootTreeRow.recurses==Tryz.prog.recurses 3)=true:=by kernel_rfl
theorem aeV:(Rows.fnExactRootTreeRow.named==Tryz.prog.varsNamed 3)=true:=by kernel_rfl
theorem aeU:joinedFacts Tryz.prog 3 Tryz.f3 Rows.fnExactRootTreeSpec Rows.fnExactRootTreeRow=true:=by
 unfold joinedFacts;rw[aeY,aeX,aeW,aeV];kernel_rfl
theorem _s:Rows.FnExactRootTreeSaid:=
 OpenClaim.holds_of_wide 3 Tryz.f3 rfl rfl rfl rfl rfl rfl rfl ⟨rfl,rfl,rfl,rfl,rfl⟩ rfl rfl rfl rfl rfl (by kernel_rfl) Tryz.func3 aeU
  (of_decide_eq_true (by kernel_rfl)) (by unfold Func.isWrapper;first|(rw[if_pos (by decide+kernel)];kernel_rfl)|(rw[if_neg (by decide+kernel)];exact⟨rfl,rfl⟩))
  (fun os started ax enc _=>YG os started ax enc)
theorem ZF(f:FuncId)(fn:Func)(hf:Tryz.pinned.checked.prog.funcNamed "loop.example/jackstay/laws.FnExactRootTree" =some f)(kV:Tryz.pinned.checked.prog.funcs[f]? =some fn):
  false=Tryz.pinned.checked.prog.looks []/\∀(j:Nat) t,fn.params[j]? =some t->Tryz.pinned.checked.prog.wantsStandIn t=false:=by
 obtain rfl:f=3:=Option.some.inj ((show Tryz.prog.funcNamed "loop.example/jackstay/laws.FnExactRootTree" =some 3 by kernel_rfl).symm.trans hf)|>.symm
 obtain rfl:fn=Tryz.f3:=(Option.some.inj (Tryz.func3.symm.trans kV)).symm;refine⟨by kernel_rfl,fun j t aB=>?_⟩
 have mj:(Tryz.f3.params.toList.all fun u=>!Tryz.prog.wantsStandIn u)=true:=by kernel_rfl
 have:=List.all_eq_true.1 mj t (by simpa using Array.mem_of_getElem? aB)
 exact(by simpa using this:Tryz.prog.wantsStandIn t=false)
theorem aee:Rows.fnExactRootTreeRow.wfByText (OpenSpec.ofChange Rows.fnExactRootTreeSpec)=true:=by kernel_rfl
theorem aed:Tryz.pinned.checked.prog.mainIs=some (true,"5946f37c541407e64879668c936bc88f72ba3b57e26f9e49bbd15b4718069d7a".toList):=by kernel_rfl
theorem aec:false=Rows.fnExactRootTreeRow.goesBy Tryz.pinned.checked.prog:=by kernel_rfl
theorem card3:Rows.FnExactRootTreeCardSaid:=
 Claim7.holds_tied_plain_at (p:=Tryz.pinned) (s:=OpenSpec.ofChange Rows.fnExactRootTreeSpec) (c:=Rows.fnExactRootTreeRow) .later [] [.data,.pinned] true (true,"5946f37c541407e64879668c936bc88f72ba3b57e26f9e49bbd15b4718069d7a") false _s (fun _ h=>by cases h) aee (fun _ h=>by cases h) fnExactRootTree_row_tie rfl ⟨rfl,rfl⟩ aed rfl ZF aec
end Go.Proofs.YthllakklnccioaaGreatDoor
