/- FnExactRootSwap: the program's RootSwap returns what the reference's returns, for all arguments. (part 6 of 6: JnNLaw7) Conditions: none beyond the statement. -/
import Derived.Test.YthllakklnccioaaGreatDoorZFnExactRootSwap4
import Derived.Test.YthllakklnccioaaGreatDoorCards
import Derived.Test.YthllakklnccioaaGreatDoorTie
import Derived.Lay
import Derived.LaidMore
import Derived.SevenTiedAt
import Derived.Stop.Joined
import Derived.Shelf.Abstract
set_option maxRecDepth 100000
set_option linter.unusedVariables false
namespace Go.Proofs.YthllakklnccioaaGreatDoor
open Go.Jk Go.ChangeShapes Go.WideShapes Go.ChangeAt Go.RowKit
theorem afI:a4 Tryz.prog 7 ol:=Iy
theorem adT:LawOk ol [(true,[.sl .pack]),(true,[.str,.str,.sl .need,.sl .entry])]:=pure_FnExactRootSwap
theorem afU:ownKnob Tryz.prog.godebug=none:=by kernel_rfl
theorem laidOut:laidOutB Tryz.prog=true:=by kernel_rfl
def Fm(P:Program):List TypeId->Bool
 |[]=>true
 |t::cX=>P.readableRec t&&decide (t<P.types.size)&&Fm P cX
theorem L3{P:Program}:∀{cX:List TypeId},Fm P cX=true->∀t,t∈cX->P.readableRec t=true/\t<P.types.size
 |[],_,t,h=>by cases h
 |u::cX,hb,t,h=>by
  simp only[Fm,Bool.and_eq_true,decide_eq_true_eq] at hb;rcases List.mem_cons.1 h with rfl|h
  ·exact hb.1
  ·exact L3 hb.2 t h
theorem abJ(os:Os)(started:os.Started)(az:Type)(enc:TypeId×Value->az):
  ReturnsInHanded {} Tryz.checked os 7 .any (fun w args=>(Rows.fnExactRootSwapSpec.pre enc Tryz.prog Tryz.f7 Rows.fnExactRootSwapRow.domain false w args/\laidMetH Tryz.prog Rows.fnExactRootSwapRow.laid w)/\sizedMet enc Tryz.prog Tryz.f7 (OpenSpec.ofChange Rows.fnExactRootSwapSpec) false w args)
   (Rows.fnExactRootSwapSpec.post enc Tryz.prog Tryz.f7 false true false false):=by
 refine returnsInHanded_of_change_and (C:=Tryz.checked) (X:=fun w _=>laidMetH Tryz.prog Rows.fnExactRootSwapRow.laid w) (fun _ _ _ bQ h=>h.of_heap bQ) afU started (by kernel_rfl) Tryz.func7
  (ChangeSpec.witness_shaped (enc:=enc) (C:=Tryz.checked) (os:=os) (X:=fun w _=>laidMetH Tryz.prog Rows.fnExactRootSwapRow.laid w) false (World.laidAll Tryz.prog os Rows.fnExactRootSwapRow.laid) #[.agg #[.slice none 0 0],.agg #[.string ⟨#[]⟩,.string ⟨#[]⟩,.slice none 0 0,.slice none 0 0]] 8 (World.laidAll_os _ _ _)
   (World.shaped_of_ZipB (by kernel_rfl) (by kernel_rfl)) (by kernel_rfl) (by kernel_rfl) (by kernel_rfl)
   (by rw[MakeChecks.laidMetH_plain _ _ _ (by kernel_rfl)];exact laidMet_laidAll _ (by kernel_rfl) (by kernel_rfl))) ?_
 intro W base args ds gs before h8 hW _ _ gR _;rw[MakeChecks.laidMetH_plain _ _ _ (by kernel_rfl)] at gR
 have hG:ph W:=trivial;exact Wk (tt:=tt) (m:=8) afI (fun vs w=>enters_of Tryz.func7 (by kernel_rfl) rfl _ _) laidOut (L3 (by kernel_rfl)) (by kernel_rfl) Tryz.underlying4 (by kernel_rfl)
  (fun ds gs hl hg=>by
   have hl:ds.length=2:=hl;have hg:gs.length=0:=hg;match ds,hl,gs,hg with
   |[d0,d1],_,[],_=>rfl) (by kernel_rfl) adT W hG base args ds gs before h8 hW
theorem ajq:(Rows.fnExactRootSwapRow.inPlace==Tryz.prog.inPlace 7)=true:=by kernel_rfl
theorem ajp:(Rows.fnExactRootSwapRow.unfollowed==Tryz.prog.unfollowed 7)=true:=by kernel_rfl
theorem ajo:(Rows.fnExactRootSwapRow.recurses==Tryz.prog.recurses 7)=true:=by kernel_rfl
theorem ajn:(Rows.fnExactRootSwapRow.named==Tryz.prog.varsNamed 7)=true:=by kernel_rfl
theorem ajm:joinedFacts Tryz.prog 7 Tryz.f7 Rows.fnExactRootSwapSpec Rows.fnExactRootSwapRow=true:=by
 unfold joinedFacts;rw[ajq,ajp,ajo,ajn];kernel_rfl
theorem adK:Rows.FnExactRootSwapSaid:=
 OpenClaim.holds_of_wide 7 Tryz.f7 rfl rfl rfl rfl rfl rfl rfl ⟨rfl,rfl,rfl,rfl,rfl⟩ rfl rfl rfl rfl rfl (by kernel_rfl) Tryz.func7 ajm
  (of_decide_eq_true (by kernel_rfl)) (by unfold Func.isWrapper;first|(rw[if_pos (by decide+kernel)];kernel_rfl)|(rw[if_neg (by decide+kernel)];exact⟨rfl,rfl⟩))
  (fun os started az enc _=>abJ os started az enc)
theorem acS(f:FuncId)(fn:Func)(hf:Tryz.pinned.checked.prog.funcNamed "loop.example/jackstay/laws.FnExactRootSwap" =some f)(ld:Tryz.pinned.checked.prog.funcs[f]? =some fn):
  false=Tryz.pinned.checked.prog.looks []/\∀(j:Nat) t,fn.params[j]? =some t->Tryz.pinned.checked.prog.wantsStandIn t=false:=by
 obtain rfl:f=7:=Option.some.inj ((show Tryz.prog.funcNamed "loop.example/jackstay/laws.FnExactRootSwap" =some 7 by kernel_rfl).symm.trans hf)|>.symm
 obtain rfl:fn=Tryz.f7:=(Option.some.inj (Tryz.func7.symm.trans ld)).symm;refine⟨by kernel_rfl,fun j t aE=>?_⟩
 have mN:(Tryz.f7.params.toList.all fun u=>!Tryz.prog.wantsStandIn u)=true:=by kernel_rfl
 have:=List.all_eq_true.1 mN t (by simpa using Array.mem_of_getElem? aE)
 exact(by simpa using this:Tryz.prog.wantsStandIn t=false)
theorem aiF:Rows.fnExactRootSwapRow.wfByText (OpenSpec.ofChange Rows.fnExactRootSwapSpec)=true:=by kernel_rfl
theorem aiE:Tryz.pinned.checked.prog.mainIs=some (true,"5946f37c541407e64879668c936bc88f72ba3b57e26f9e49bbd15b4718069d7a".toList):=by kernel_rfl
theorem aiD:false=Rows.fnExactRootSwapRow.goesBy Tryz.pinned.checked.prog:=by kernel_rfl
theorem card7:Rows.FnExactRootSwapCardSaid:=
 Claim7.holds_tied_plain_at (p:=Tryz.pinned) (s:=OpenSpec.ofChange Rows.fnExactRootSwapSpec) (c:=Rows.fnExactRootSwapRow) .later [] [.data,.pinned] true (true,"5946f37c541407e64879668c936bc88f72ba3b57e26f9e49bbd15b4718069d7a") false adK (fun _ h=>by cases h) aiF (fun _ h=>by cases h) fnExactRootSwap_row_tie rfl ⟨rfl,rfl⟩ aiE rfl acS aiD
end Go.Proofs.YthllakklnccioaaGreatDoor
