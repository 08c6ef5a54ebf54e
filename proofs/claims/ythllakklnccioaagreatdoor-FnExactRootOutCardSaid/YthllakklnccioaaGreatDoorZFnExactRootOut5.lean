/- FnExactRootOut: the program's RootOut returns what the reference's returns, for all arguments. (part 6 of 6: JnNLaw5) Conditions: none beyond the statement. -/
import Derived.Test.YthllakklnccioaaGreatDoorZFnExactRootOut4
import Derived.Test.YthllakklnccioaaGreatDoorCards
import Derived.Test.YthllakklnccioaaGreatDoorTie
import Derived.Lay
import Derived.LaidMore
import Derived.SevenTiedAt
import Derived.Stop.Joined
import Derived.Shelf.Abstract
set_option maxRecDepth 100000
set_option linter.unusedVariables false
namespace Go.Proofs.YthllakklnccioaaGreatDoor
open Go.Jk Go.ChangeShapes Go.WideShapes Go.ChangeAt Go.RowKit
theorem ad7:a4 Tryz.prog 5 o8:=akL
theorem acc:LawOk o8 [(true,[.sl .pack]),(false,[.str])]:=pure_FnExactRootOut
theorem aej:ownKnob Tryz.prog.godebug=none:=by kernel_rfl
theorem laidOut:laidOutB Tryz.prog=true:=by kernel_rfl
def EA(P:Program):List TypeId->Bool
 |[]=>true
 |t::cU=>P.readableRec t&&decide (t<P.types.size)&&EA P cU
theorem KN{P:Program}:∀{cU:List TypeId},EA P cU=true->∀t,t∈cU->P.readableRec t=true/\t<P.types.size
 |[],_,t,h=>by cases h
 |u::cU,hb,t,h=>by
  simp only[EA,Bool.and_eq_true,decide_eq_true_eq] at hb;rcases List.mem_cons.1 h with rfl|h
  ·exact hb.1
  ·exact KN hb.2 t h
theorem _1(os:Os)(started:os.Started)(ay:Type)(enc:TypeId×Value->ay):
  ReturnsInHanded {} Tryz.checked os 5 .any (fun w args=>(Rows.fnExactRootOutSpec.pre enc Tryz.prog Tryz.f5 Rows.fnExactRootOutRow.domain false w args/\laidMetH Tryz.prog Rows.fnExactRootOutRow.laid w)/\sizedMet enc Tryz.prog Tryz.f5 (OpenSpec.ofChange Rows.fnExactRootOutSpec) false w args)
   (Rows.fnExactRootOutSpec.post enc Tryz.prog Tryz.f5 false true false false):=by
 refine returnsInHanded_of_change_and (C:=Tryz.checked) (X:=fun w _=>laidMetH Tryz.prog Rows.fnExactRootOutRow.laid w) (fun _ _ _ bU h=>h.of_heap bU) aej started (by kernel_rfl) Tryz.func5
  (ChangeSpec.witness_shaped (enc:=enc) (C:=Tryz.checked) (os:=os) (X:=fun w _=>laidMetH Tryz.prog Rows.fnExactRootOutRow.laid w) false (World.laidAll Tryz.prog os Rows.fnExactRootOutRow.laid) #[.agg #[.slice none 0 0],.string ⟨#[]⟩] 8 (World.laidAll_os _ _ _)
   (World.shaped_of_ZipB (by kernel_rfl) (by kernel_rfl)) (by kernel_rfl) (by kernel_rfl) (by kernel_rfl)
   (by rw[MakeChecks.laidMetH_plain _ _ _ (by kernel_rfl)];exact laidMet_laidAll _ (by kernel_rfl) (by kernel_rfl))) ?_
 intro W base args ds gs before h4 hW _ _ gM _;rw[MakeChecks.laidMetH_plain _ _ _ (by kernel_rfl)] at gM
 have hG:oV W:=trivial;exact UV (tt:=tt) (m:=8) ad7 (fun vs w=>enters_of Tryz.func5 (by kernel_rfl) rfl _ _) laidOut (KN (by kernel_rfl)) (by kernel_rfl) Tryz.underlying4 (by kernel_rfl)
  (fun ds gs hl hg=>by
   have hl:ds.length=2:=hl;have hg:gs.length=0:=hg;match ds,hl,gs,hg with
   |[d0,d1],_,[],_=>rfl) (by kernel_rfl) acc W hG base args ds gs before h4 hW
theorem ahW:(Rows.fnExactRootOutRow.inPlace==Tryz.prog.inPlace 5)=true:=by kernel_rfl
theorem ahV:(Rows.fnExactRootOutRow.unfollowed==Tryz.prog.unfollowed 5)=true:=by kernel_rfl
theorem ahU:(Rows.fnExactRootOutRow.recurses==Tryz.prog.recurses 5)=true:=by kernel_rfl
theorem ahT:(Rows.fnExactRootOutRow.named==Tryz.prog.varsNamed 5)=true:=by kernel_rfl
theorem ahS:joinedFacts Tryz.prog 5 Tryz.f5 Rows.fnExactRootOutSpec Rows.fnExactRootOutRow=true:=by
 unfold joinedFacts;rw[ahW,ahV,ahU,ahT];kernel_rfl
theorem ab3:Rows.FnExactRootOutSaid:=
 OpenClaim.holds_of_wide 5 Tryz.f5 rfl rfl rfl rfl rfl rfl rfl ⟨rfl,rfl,rfl,rfl,rfl⟩ rfl rfl rfl rfl rfl (by kernel_rfl) Tryz.func5 ahS
  (of_decide_eq_true (by kernel_rfl)) (by unfold Func.isWrapper;first|(rw[if_pos (by decide+kernel)];kernel_rfl)|(rw[if_neg (by decide+kernel)];exact⟨rfl,rfl⟩))
  (fun os started ay enc _=>_1 os started ay enc)
theorem aba(f:FuncId)(fn:Func)(hf:Tryz.pinned.checked.prog.funcNamed "loop.example/jackstay/laws.FnExactRootOut" =some f)(k4:Tryz.pinned.checked.prog.funcs[f]? =some fn):
  false=Tryz.pinned.checked.prog.looks []/\∀(j:Nat) t,fn.params[j]? =some t->Tryz.pinned.checked.prog.wantsStandIn t=false:=by
 obtain rfl:f=5:=Option.some.inj ((show Tryz.prog.funcNamed "loop.example/jackstay/laws.FnExactRootOut" =some 5 by kernel_rfl).symm.trans hf)|>.symm
 obtain rfl:fn=Tryz.f5:=(Option.some.inj (Tryz.func5.symm.trans k4)).symm;refine⟨by kernel_rfl,fun j t aC=>?_⟩
 have mC:(Tryz.f5.params.toList.all fun u=>!Tryz.prog.wantsStandIn u)=true:=by kernel_rfl
 have:=List.all_eq_true.1 mC t (by simpa using Array.mem_of_getElem? aC)
 exact(by simpa using this:Tryz.prog.wantsStandIn t=false)
theorem ahb:Rows.fnExactRootOutRow.wfByText (OpenSpec.ofChange Rows.fnExactRootOutSpec)=true:=by kernel_rfl
theorem aha:Tryz.pinned.checked.prog.mainIs=some (true,"5946f37c541407e64879668c936bc88f72ba3b57e26f9e49bbd15b4718069d7a".toList):=by kernel_rfl
theorem ag9:false=Rows.fnExactRootOutRow.goesBy Tryz.pinned.checked.prog:=by kernel_rfl
theorem card5:Rows.FnExactRootOutCardSaid:=
 Claim7.holds_tied_plain_at (p:=Tryz.pinned) (s:=OpenSpec.ofChange Rows.fnExactRootOutSpec) (c:=Rows.fnExactRootOutRow) .later [] [.data,.pinned] true (true,"5946f37c541407e64879668c936bc88f72ba3b57e26f9e49bbd15b4718069d7a") false ab3 (fun _ h=>by cases h) ahb (fun _ h=>by cases h) fnExactRootOut_row_tie rfl ⟨rfl,rfl⟩ aha rfl aba ag9
end Go.Proofs.YthllakklnccioaaGreatDoor
