/- FnExactRootGet: the program's RootGet returns what the reference's returns, for all arguments. (part 7 of 7: JkMLaw10) Conditions: none beyond the statement. -/
import Derived.Test.YthllakklnccioaaGreatDoorZFnExactRootGet5
import Derived.Test.YthllakklnccioaaGreatDoorCards
import Derived.Test.YthllakklnccioaaGreatDoorTie
import Derived.Lay
import Derived.LaidMore
import Derived.SevenTiedAt
import Derived.Stop.Joined
import Derived.Shelf.Abstract
set_option maxRecDepth 100000
set_option linter.unusedVariables false
namespace Go.Proofs.YthllakklnccioaaGreatDoor
open Go.Jk Go.ChangeShapes Go.WideShapes Go.ChangeAt Go.RowKit
theorem amx:aL Tryz.prog 10 lJ:=L0
theorem alo:LawOk lJ [(false,[.str])]:=pure_FnExactRootGet
theorem ao1:ownKnob Tryz.prog.godebug=none:=by kernel_rfl
theorem laidOut:laidOutB Tryz.prog=true:=by kernel_rfl
def Ki(P:Program):List TypeId->Bool
 |[]=>true
 |t::b5=>P.readableRec t&&decide (t<P.types.size)&&Ki P b5
theorem RB{P:Program}:∀{b5:List TypeId},Ki P b5=true->∀t,t∈b5->P.readableRec t=true/\t<P.types.size
 |[],_,t,h=>by cases h
 |u::b5,hb,t,h=>by
  simp only[Ki,Bool.and_eq_true,decide_eq_true_eq] at hb;rcases List.mem_cons.1 h with rfl|h
  ·exact hb.1
  ·exact RB hb.2 t h
theorem ah2(os:Os)(started:os.Started)(H:Type)(enc:TypeId×Value->H):
  ReturnsInHanded {} Tryz.checked os 10 .any (fun w args=>(Rows.fnExactRootGetSpec.pre enc Tryz.prog Tryz.f10 Rows.fnExactRootGetRow.domain false w args/\laidMetH Tryz.prog Rows.fnExactRootGetRow.laid w)/\sizedMet enc Tryz.prog Tryz.f10 (OpenSpec.ofChange Rows.fnExactRootGetSpec) false w args)
   (Rows.fnExactRootGetSpec.post enc Tryz.prog Tryz.f10 false true false false):=by
 refine returnsInHanded_of_change_and (C:=Tryz.checked) (X:=fun w _=>laidMetH Tryz.prog Rows.fnExactRootGetRow.laid w) (fun _ _ _ bT h=>h.of_heap bT) ao1 started (by kernel_rfl) Tryz.func10
  (ChangeSpec.witness_shaped (enc:=enc) (C:=Tryz.checked) (os:=os) (X:=fun w _=>laidMetH Tryz.prog Rows.fnExactRootGetRow.laid w) false (World.laidAll Tryz.prog os Rows.fnExactRootGetRow.laid) #[.string ⟨#[]⟩] 8 (World.laidAll_os _ _ _)
   (World.shaped_of_ZipB (by kernel_rfl) (by kernel_rfl)) (by kernel_rfl) (by kernel_rfl) (by kernel_rfl)
   (by rw[MakeChecks.laidMetH_plain _ _ _ (by kernel_rfl)];exact laidMet_laidAll _ (by kernel_rfl) (by kernel_rfl))) ?_
 intro W base args ds gs before jB hW _ _ hA _;rw[MakeChecks.laidMetH_plain _ _ _ (by kernel_rfl)] at hA
 have hG:oB W:=⟨RH (g:=1) (name:= "loop.example/jackstay/impl.sumRounds") (t:=264) (e:=189) (n:=64) (k:=.u32) (zs:=jj) (i:=4) (by kernel_rfl) (by kernel_rfl) (by kernel_rfl) (by kernel_rfl) (by kernel_rfl) (by kernel_rfl) (by kernel_rfl) hA,RH (g:=4) (name:= "internal/strconv.uint64pow10") (t:=286) (e:=191) (n:=20) (k:=.u64) (zs:=VE) (i:=2) (by kernel_rfl) (by kernel_rfl) (by kernel_rfl) (by kernel_rfl) (by kernel_rfl) (by kernel_rfl) (by kernel_rfl) hA⟩
 exact ack (tt:=tt) (m:=8) amx (fun vs w=>enters_of Tryz.func10 (by kernel_rfl) rfl _ _) laidOut (RB (by kernel_rfl)) (by kernel_rfl) Tryz.underlying4 (by kernel_rfl)
  (fun ds gs hl hg=>by
   have hl:ds.length=1:=hl;have hg:gs.length=1:=hg;match ds,hl,gs,hg with
   |[d0],_,[fc],_=>rfl) (by kernel_rfl) alo W hG base args ds gs before jB hW
theorem apa:(Rows.fnExactRootGetRow.inPlace==Tryz.prog.inPlace 10)=true:=by kernel_rfl
theorem ao9:(Rows.fnExactRootGetRow.unfollowed==Tryz.prog.unfollowed 10)=true:=by kernel_rfl
theorem ao8:(Rows.fnExactRootGetRow.recurses==Tryz.prog.recurses 10)=true:=by kernel_rfl
theorem ao7:(Rows.fnExactRootGetRow.named==Tryz.prog.varsNamed 10)=true:=by kernel_rfl
theorem ao6:joinedFacts Tryz.prog 10 Tryz.f10 Rows.fnExactRootGetSpec Rows.fnExactRootGetRow=true:=by
 unfold joinedFacts;rw[apa,ao9,ao8,ao7];kernel_rfl
theorem akU:Rows.FnExactRootGetSaid:=
 OpenClaim.holds_of_wide 10 Tryz.f10 rfl rfl rfl rfl rfl rfl rfl ⟨rfl,rfl,rfl,rfl,rfl⟩ rfl rfl rfl rfl rfl (by kernel_rfl) Tryz.func10 ao6
  (of_decide_eq_true (by kernel_rfl)) (by unfold Func.isWrapper;first|(rw[if_pos (by decide+kernel)];kernel_rfl)|(rw[if_neg (by decide+kernel)];exact⟨rfl,rfl⟩))
  (fun os started H enc _=>ah2 os started H enc)
theorem ajM(f:FuncId)(fn:Func)(hf:Tryz.pinned.checked.prog.funcNamed "loop.example/jackstay/laws.FnExactRootGet" =some f)(mz:Tryz.pinned.checked.prog.funcs[f]? =some fn):
  false=Tryz.pinned.checked.prog.looks []/\∀(j:Nat) t,fn.params[j]? =some t->Tryz.pinned.checked.prog.wantsStandIn t=false:=by
 obtain rfl:f=10:=Option.some.inj ((show Tryz.prog.funcNamed "loop.example/jackstay/laws.FnExactRootGet" =some 10 by kernel_rfl).symm.trans hf)|>.symm
 obtain rfl:fn=Tryz.f10:=(Option.some.inj (Tryz.func10.symm.trans mz)).symm;refine⟨by kernel_rfl,fun j t ao=>?_⟩
 have ol:(Tryz.f10.params.toList.all fun u=>!Tryz.prog.wantsStandIn u)=true:=by kernel_rfl
 have:=List.all_eq_true.1 ol t (by simpa using Array.mem_of_getElem? ao)
 exact(by simpa using this:Tryz.prog.wantsStandIn t=false)
theorem aoF:Rows.fnExactRootGetRow.wfByText (OpenSpec.ofChange Rows.fnExactRootGetSpec)=true:=by kernel_rfl
theorem aoE:Tryz.pinned.checked.prog.mainIs=some (true,"5946f37c541407e64879668c936bc88f72ba3b57e26f9e49bbd15b4718069d7a".toList):=by kernel_rfl
theorem aoD:false=Rows.fnExactRootGetRow.goesBy Tryz.pinned.checked.prog:=by kernel_rfl
theorem card10:Rows.FnExactRootGetCardSaid:=
 Claim7.holds_tied_plain_at (p:=Tryz.pinned) (s:=OpenSpec.ofChange Rows.fnExactRootGetSpec) (c:=Rows.fnExactRootGetRow) .later [] [.data,.data,.data,.data,.data,.pinned] true (true,"5946f37c541407e64879668c936bc88f72ba3b57e26f9e49bbd15b4718069d7a") false akU (fun _ h=>by cases h) aoF (fun _ h=>by cases h) fnExactRootGet_row_tie rfl ⟨rfl,rfl⟩ aoE rfl ajM aoD
end Go.Proofs.YthllakklnccioaaGreatDoor
