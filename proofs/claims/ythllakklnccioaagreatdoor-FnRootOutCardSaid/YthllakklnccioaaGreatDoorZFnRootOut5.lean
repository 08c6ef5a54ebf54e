/- Required packs cannot be removed: of drawn roots, RootOut refuses a pack that others need, with the code that says so, and otherwise the root without it is ok and has its tree without that pack's own files. (part 6 of 6: JnQLaw9) Conditions: none beyond the statement. -/
import Derived.Test.YthllakklnccioaaGreatDoorZFnRootOut4
import Derived.Test.YthllakklnccioaaGreatDoorCards
import Derived.Test.YthllakklnccioaaGreatDoorTie
import Derived.Lay
import Derived.LaidMore
import Derived.SevenTiedAt
import Derived.Stop.Joined
import Derived.Shelf.Abstract
set_option maxRecDepth 100000
set_option linter.unusedVariables false
namespace Go.Proofs.YthllakklnccioaaGreatDoor
open Go.Jk Go.ChangeShapes Go.WideShapes Go.ChangeAt Go.RowKit
theorem aj1:a_ Tryz.prog 9 qP:=z9
theorem aij:LawOk qP [(false,[.sl .u8])]:=pure_FnRootOut
theorem akd:ownKnob Tryz.prog.godebug=none:=by kernel_rfl
theorem laidOut:laidOutB Tryz.prog=true:=by kernel_rfl
def HI(P:Program):List TypeId->Bool
 |[]=>true
 |t::di=>P.readableRec t&&decide (t<P.types.size)&&HI P di
theorem OM{P:Program}:∀{di:List TypeId},HI P di=true->∀t,t∈di->P.readableRec t=true/\t<P.types.size
 |[],_,t,h=>by cases h
 |u::di,hb,t,h=>by
  simp only[HI,Bool.and_eq_true,decide_eq_true_eq] at hb;rcases List.mem_cons.1 h with rfl|h
  ·exact hb.1
  ·exact OM hb.2 t h
theorem afr(os:Os)(started:os.Started)(aG:Type)(enc:TypeId×Value->aG):
  ReturnsInHanded {} Tryz.checked os 9 .any (fun w args=>(Rows.fnRootOutSpec.pre enc Tryz.prog Tryz.f9 Rows.fnRootOutRow.domain false w args/\laidMetH Tryz.prog Rows.fnRootOutRow.laid w)/\sizedMet enc Tryz.prog Tryz.f9 (OpenSpec.ofChange Rows.fnRootOutSpec) false w args)
   (Rows.fnRootOutSpec.post enc Tryz.prog Tryz.f9 false true false false):=by
 refine returnsInHanded_of_change_and (C:=Tryz.checked) (X:=fun w _=>laidMetH Tryz.prog Rows.fnRootOutRow.laid w) (fun _ _ _ bW h=>h.of_heap bW) akd started (by kernel_rfl) Tryz.func9
  (ChangeSpec.witness_shaped (enc:=enc) (C:=Tryz.checked) (os:=os) (X:=fun w _=>laidMetH Tryz.prog Rows.fnRootOutRow.laid w) false (World.laidAll Tryz.prog os Rows.fnRootOutRow.laid) #[.slice none 0 0] 8 (World.laidAll_os _ _ _)
   (World.shaped_of_ZipB (by kernel_rfl) (by kernel_rfl)) (by kernel_rfl) (by kernel_rfl) (by kernel_rfl)
   (by rw[MakeChecks.laidMetH_plain _ _ _ (by kernel_rfl)];exact laidMet_laidAll _ (by kernel_rfl) (by kernel_rfl))) ?_
 intro W base args ds gs before je hW _ _ gV _;rw[MakeChecks.laidMetH_plain _ _ _ (by kernel_rfl)] at gV
 have hG:qF W:=trivial;exact Zw (tt:=tt) (m:=8) aj1 (fun vs w=>enters_of Tryz.func9 (by kernel_rfl) rfl _ _) laidOut (OM (by kernel_rfl)) (by kernel_rfl) Tryz.underlying4 (by kernel_rfl)
  (fun ds gs hl hg=>by
   have hl:ds.length=1:=hl;have hg:gs.length=0:=hg;match ds,hl,gs,hg with
   |[d0],_,[],_=>rfl) (by kernel_rfl) aij W hG base args ds gs before je hW
theorem anU:(Rows.fnRootOutRow.inPlace==Tryz.prog.inPlace 9)=true:=by kernel_rfl
theorem anT:(Rows.fnRootOutRow.unfollowed==Tryz.prog.unfollowed 9)=true:=by kernel_rfl
theorem anS:(Rows.fnRootOutRow.recurses==Tryz.prog.recurses 9)=true:=by kernel_rfl
theorem anR:(Rows.fnRootOutRow.named==Tryz.prog.varsNamed 9)=true:=by kernel_rfl
theorem anQ:joinedFacts Tryz.prog 9 Tryz.f9 Rows.fnRootOutSpec Rows.fnRootOutRow=true:=by
 unfold joinedFacts;rw[anU,anT,anS,anR];kernel_rfl
theorem aib:Rows.FnRootOutSaid:=
 OpenClaim.holds_of_wide 9 Tryz.f9 rfl rfl rfl rfl rfl rfl rfl ⟨rfl,rfl,rfl,rfl,rfl⟩ rfl rfl rfl rfl rfl (by kernel_rfl) Tryz.func9 anQ
  (of_decide_eq_true (by kernel_rfl)) (by unfold Func.isWrapper;first|(rw[if_pos (by decide+kernel)];kernel_rfl)|(rw[if_neg (by decide+kernel)];exact⟨rfl,rfl⟩))
  (fun os started aG enc _=>afr os started aG enc)
theorem agH(f:FuncId)(fn:Func)(hf:Tryz.pinned.checked.prog.funcNamed "loop.example/jackstay/laws.FnRootOut" =some f)(mn:Tryz.pinned.checked.prog.funcs[f]? =some fn):
  false=Tryz.pinned.checked.prog.looks []/\∀(j:Nat) t,fn.params[j]? =some t->Tryz.pinned.checked.prog.wantsStandIn t=false:=by
 obtain rfl:f=9:=Option.some.inj ((show Tryz.prog.funcNamed "loop.example/jackstay/laws.FnRootOut" =some 9 by kernel_rfl).symm.trans hf)|>.symm
 obtain rfl:fn=Tryz.f9:=(Option.some.inj (Tryz.func9.symm.trans mn)).symm;refine⟨by kernel_rfl,fun j t aA=>?_⟩
 have jz:(Tryz.f9.params.toList.all fun u=>!Tryz.prog.wantsStandIn u)=true:=by kernel_rfl
 have:=List.all_eq_true.1 jz t (by simpa using Array.mem_of_getElem? aA)
 exact(by simpa using this:Tryz.prog.wantsStandIn t=false)
theorem am9:Rows.fnRootOutRow.wfByText (OpenSpec.ofChange Rows.fnRootOutSpec)=true:=by kernel_rfl
theorem am8:Tryz.pinned.checked.prog.mainIs=some (true,"5946f37c541407e64879668c936bc88f72ba3b57e26f9e49bbd15b4718069d7a".toList):=by kernel_rfl
theorem am7:false=Rows.fnRootOutRow.goesBy Tryz.pinned.checked.prog:=by kernel_rfl
theorem card9:Rows.FnRootOutCardSaid:=
 Claim7.holds_tied_plain_at (p:=Tryz.pinned) (s:=OpenSpec.ofChange Rows.fnRootOutSpec) (c:=Rows.fnRootOutRow) .later [] [.data,.pinned] true (true,"5946f37c541407e64879668c936bc88f72ba3b57e26f9e49bbd15b4718069d7a") false aib (fun _ h=>by cases h) am9 (fun _ h=>by cases h) fnRootOut_row_tie rfl ⟨rfl,rfl⟩ am8 rfl agH am7
end Go.Proofs.YthllakklnccioaaGreatDoor
