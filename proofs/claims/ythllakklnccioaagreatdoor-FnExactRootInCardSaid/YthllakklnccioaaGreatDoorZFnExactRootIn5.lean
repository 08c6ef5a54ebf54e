/- FnExactRootIn: the program's RootIn returns what the reference's returns, for all arguments. (part 6 of 6: JnNLaw6) Conditions: none beyond the statement. -/
import Derived.Test.YthllakklnccioaaGreatDoorZFnExactRootIn4
import Derived.Test.YthllakklnccioaaGreatDoorCards
import Derived.Test.YthllakklnccioaaGreatDoorTie
import Derived.Lay
import Derived.LaidMore
import Derived.SevenTiedAt
import Derived.Stop.Joined
import Derived.Shelf.Abstract
set_option maxRecDepth 100000
set_option linter.unusedVariables false
namespace Go.Proofs.YthllakklnccioaaGreatDoor
open Go.Jk Go.ChangeShapes Go.WideShapes Go.ChangeAt Go.RowKit
theorem afy:a0 Tryz.prog 6 tc:=aml
theorem adI:LawOk tc [(true,[.sl .pack]),(true,[.str,.str,.sl .need,.sl .entry])]:=pure_FnExactRootIn
theorem afK:ownKnob Tryz.prog.godebug=none:=by kernel_rfl
theorem laidOut:laidOutB Tryz.prog=true:=by kernel_rfl
def Fe(P:Program):List TypeId->Bool
 |[]=>true
 |t::cV=>P.readableRec t&&decide (t<P.types.size)&&Fe P cV
theorem L0{P:Program}:∀{cV:List TypeId},Fe P cV=true->∀t,t∈cV->P.readableRec t=true/\t<P.types.size
 |[],_,t,h=>by cases h
 |u::cV,hb,t,h=>by
  simp only[Fe,Bool.and_eq_true,decide_eq_true_eq] at hb;rcases List.mem_cons.1 h with rfl|h
  ·exact hb.1
  ·exact L0 hb.2 t h
theorem abt(os:Os)(started:os.Started)(ay:Type)(enc:TypeId×Value->ay):
  ReturnsInHanded {} Tryz.checked os 6 .any (fun w args=>(Rows.fnExactRootInSpec.pre enc Tryz.prog Tryz.f6 Rows.fnExactRootInRow.domain false w args/\laidMetH Tryz.prog Rows.fnExactRootInRow.laid w)/\sizedMet enc Tryz.prog Tryz.f6 (OpenSpec.ofChange Rows.fnExactRootInSpec) false w args)
   (Rows.fnExactRootInSpec.post enc Tryz.prog Tryz.f6 false true false false):=by
 refine returnsInHanded_of_change_and (C:=Tryz.checked) (X:=fun w _=>laidMetH Tryz.prog Rows.fnExactRootInRow.laid w) (fun _ _ _ bR h=>h.of_heap bR) afK started (by kernel_rfl) Tryz.func6
  (ChangeSpec.witness_shaped (enc:=enc) (C:=Tryz.checked) (os:=os) (X:=fun w _=>laidMetH Tryz.prog Rows.fnExactRootInRow.laid w) false (World.laidAll Tryz.prog os Rows.fnExactRootInRow.laid) #[.agg #[.slice none 0 0],.agg #[.string ⟨#[]⟩,.string ⟨#[]⟩,.slice none 0 0,.slice none 0 0]] 8 (World.laidAll_os _ _ _)
   (World.shaped_of_ZipB (by kernel_rfl) (by kernel_rfl)) (by kernel_rfl) (by kernel_rfl) (by kernel_rfl)
   (by rw[MakeChecks.laidMetH_plain _ _ _ (by kernel_rfl)];exact laidMet_laidAll _ (by kernel_rfl) (by kernel_rfl))) ?_
 intro W base args ds gs before h7 hW _ _ gO _;rw[MakeChecks.laidMetH_plain _ _ _ (by kernel_rfl)] at gO
 have hG:o' W:=trivial;exact We (tt:=tt) (m:=8) afy (fun vs w=>enters_of Tryz.func6 (by kernel_rfl) rfl _ _) laidOut (L0 (by kernel_rfl)) (by kernel_rfl) Tryz.underlying4 (by kernel_rfl)
  (fun ds gs hl hg=>by
   have hl:ds.length=2:=hl;have hg:gs.length=0:=hg;match ds,hl,gs,hg with
   |[d0,d1],_,[],_=>rfl) (by kernel_rfl) adI W hG base args ds gs before h7 hW
theorem ajg:(Rows.fnExactRootInRow.inPlace==Tryz.prog.inPlace 6)=true:=by kernel_rfl
theorem ajf:(Rows.fnExactRootInRow.unfollowed==Tryz.prog.unfollowed 6)=true:=by kernel_rfl
theorem aje:(Rows.fnExactRootInRow.recurses==Tryz.prog.recurses 6)=true:=by kernel_rfl
theorem ajd:(Rows.fnExactRootInRow.named==Tryz.prog.varsNamed 6)=true:=by kernel_rfl
theorem ajc:joinedFacts Tryz.prog 6 Tryz.f6 Rows.fnExactRootInSpec Rows.fnExactRootInRow=true:=by
 unfold joinedFacts;rw[ajg,ajf,aje,ajd];kernel_rfl
theorem adz:Rows.FnExactRootInSaid:=
 OpenClaim.holds_of_wide 6 Tryz.f6 rfl rfl rfl rfl rfl rfl rfl ⟨rfl,rfl,rfl,rfl,rfl⟩ rfl rfl rfl rfl rfl (by kernel_rfl) Tryz.func6 ajc
  (of_decide_eq_true (by kernel_rfl)) (by unfold Func.isWrapper;first|(rw[if_pos (by decide+kernel)];kernel_rfl)|(rw[if_neg (by decide+kernel)];exact⟨rfl,rfl⟩))
  (fun os started ay enc _=>abt os started ay enc)
theorem acF(f:FuncId)(fn:Func)(hf:Tryz.pinned.checked.prog.funcNamed "loop.example/jackstay/laws.FnExactRootIn" =some f)(k_:Tryz.pinned.checked.prog.funcs[f]? =some fn):
  false=Tryz.pinned.checked.prog.looks []/\∀(j:Nat) t,fn.params[j]? =some t->Tryz.pinned.checked.prog.wantsStandIn t=false:=by
 obtain rfl:f=6:=Option.some.inj ((show Tryz.prog.funcNamed "loop.example/jackstay/laws.FnExactRootIn" =some 6 by kernel_rfl).symm.trans hf)|>.symm
 obtain rfl:fn=Tryz.f6:=(Option.some.inj (Tryz.func6.symm.trans k_)).symm;refine⟨by kernel_rfl,fun j t aC=>?_⟩
 have mI:(Tryz.f6.params.toList.all fun u=>!Tryz.prog.wantsStandIn u)=true:=by kernel_rfl
 have:=List.all_eq_true.1 mI t (by simpa using Array.mem_of_getElem? aC)
 exact(by simpa using this:Tryz.prog.wantsStandIn t=false)
theorem aiv:Rows.fnExactRootInRow.wfByText (OpenSpec.ofChange Rows.fnExactRootInSpec)=true:=by kernel_rfl
theorem aiu:Tryz.pinned.checked.prog.mainIs=some (true,"5946f37c541407e64879668c936bc88f72ba3b57e26f9e49bbd15b4718069d7a".toList):=by kernel_rfl
theorem ait:false=Rows.fnExactRootInRow.goesBy Tryz.pinned.checked.prog:=by kernel_rfl
theorem card6:Rows.FnExactRootInCardSaid:=
 Claim7.holds_tied_plain_at (p:=Tryz.pinned) (s:=OpenSpec.ofChange Rows.fnExactRootInSpec) (c:=Rows.fnExactRootInRow) .later [] [.data,.pinned] true (true,"5946f37c541407e64879668c936bc88f72ba3b57e26f9e49bbd15b4718069d7a") false adz (fun _ h=>by cases h) aiv (fun _ h=>by cases h) fnExactRootIn_row_tie rfl ⟨rfl,rfl⟩ aiu rfl acF ait
end Go.Proofs.YthllakklnccioaaGreatDoor
