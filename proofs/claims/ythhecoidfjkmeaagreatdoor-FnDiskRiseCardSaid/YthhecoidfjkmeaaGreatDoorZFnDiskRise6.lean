/- FnDiskRise: recovery is idempotent. (part 7 of 7: JkKLaw10) Conditions: none beyond the statement. -/
import Derived.Test.YthhecoidfjkmeaaGreatDoorZFnDiskRise5
import Derived.Test.YthhecoidfjkmeaaGreatDoorCards
import Derived.Test.YthhecoidfjkmeaaGreatDoorTie
import Derived.Lay
import Derived.LaidMore
import Derived.SevenTiedAt
import Derived.Stop.Joined
import Derived.Shelf.Abstract
set_option maxRecDepth 100000
set_option linter.unusedVariables false
namespace Go.Proofs.YthhecoidfjkmeaaGreatDoor
open Go.Jk Go.ChangeShapes Go.WideShapes Go.ChangeAt Go.RowKit
theorem arb:aF Tryz.prog 10 lr:=Mt
theorem apJ:LawOk lr [(false,[.sl .u8])]:=pure_FnDiskRise
theorem atP:ownKnob Tryz.prog.godebug=none:=by kernel_rfl
theorem laidOut:laidOutB Tryz.prog=true:=by kernel_rfl
def KF(P:Program):List TypeId->Bool
 |[]=>true
 |t::cv=>P.readableRec t&&decide (t<P.types.size)&&KF P cv
theorem Sr{P:Program}:∀{cv:List TypeId},KF P cv=true->∀t,t∈cv->P.readableRec t=true/\t<P.types.size
 |[],_,t,h=>by cases h
 |u::cv,hb,t,h=>by
  simp only[KF,bz,dW] at hb;rcases bR.1 h with rfl|h
  ·exact hb.1
  ·exact Sr hb.2 t h
theorem alH(os:Os)(started:os.Started)(H:Type)(enc:TypeId×Value->H):
  ReturnsInHanded {} Tryz.checked os 10 .any (fun w args=>(Rows.fnDiskRiseSpec.pre enc Tryz.prog Tryz.f10 Rows.fnDiskRiseRow.domain false w args/\laidMetH Tryz.prog Rows.fnDiskRiseRow.laid w)/\sizedMet enc Tryz.prog Tryz.f10 (OpenSpec.ofChange Rows.fnDiskRiseSpec) false w args)
   (Rows.fnDiskRiseSpec.post enc Tryz.prog Tryz.f10 false true false false):=by
 refine returnsInHanded_of_change_and (C:=Tryz.checked) (X:=fun w _=>laidMetH Tryz.prog Rows.fnDiskRiseRow.laid w) (fun _ _ _ bV h=>h.of_heap bV) atP started (by kernel_rfl) Tryz.func10
  (ChangeSpec.witness_shaped (enc:=enc) (C:=Tryz.checked) (os:=os) (X:=fun w _=>laidMetH Tryz.prog Rows.fnDiskRiseRow.laid w) false (World.laidAll Tryz.prog os Rows.fnDiskRiseRow.laid) #[.slice none 0 0] 8 (World.laidAll_os _ _ _)
   (World.shaped_of_ZipB (by kernel_rfl) (by kernel_rfl)) (by kernel_rfl) (by kernel_rfl) (by kernel_rfl)
   (by rw[MakeChecks.laidMetH_plain _ _ _ (by kernel_rfl)];exact laidMet_laidAll _ (by kernel_rfl) (by kernel_rfl))) ?_
 intro W base args ds gs before jo hW _ _ gV _;rw[MakeChecks.laidMetH_plain _ _ _ (by kernel_rfl)] at gV
 have hG:n7 W:=⟨Sw (g:=0) (name:= "loop.example/jackstay/impl.sumRounds") (t:=202) (e:=153) (n:=64) (k:=.u32) (zs:=i') (i:=4) (by kernel_rfl) (by kernel_rfl) (by kernel_rfl) (by kernel_rfl) (by kernel_rfl) (by kernel_rfl) (by kernel_rfl) gV,Sw (g:=1) (name:= "internal/strconv.uint64pow10") (t:=244) (e:=155) (n:=20) (k:=.u64) (zs:=XU) (i:=2) (by kernel_rfl) (by kernel_rfl) (by kernel_rfl) (by kernel_rfl) (by kernel_rfl) (by kernel_rfl) (by kernel_rfl) gV⟩
 exact afX (tt:=tt) (m:=8) arb (fun vs w=>enters_of Tryz.func10 (by kernel_rfl) rfl _ _) laidOut (Sr (by kernel_rfl)) (by kernel_rfl) Tryz.underlying4 (by kernel_rfl)
  (fun ds gs hl hg=>by
   have hl:ds.length=1:=hl;have hg:gs.length=1:=hg;match ds,hl,gs,hg with
   |[d0],_,[fe],_=>rfl) (by kernel_rfl) apJ W hG base args ds gs before jo hW
theorem atZ:(Rows.fnDiskRiseRow.inPlace==Tryz.prog.inPlace 10)=true:=by kernel_rfl
theorem atY:(Rows.fnDiskRiseRow.unfollowed==Tryz.prog.unfollowed 10)=true:=by kernel_rfl
theorem atX:(Rows.fnDiskRiseRow.recurses==Tryz.prog.recurses 10)=true:=by kernel_rfl
theorem atW:(Rows.fnDiskRiseRow.named==Tryz.prog.varsNamed 10)=true:=by kernel_rfl
theorem atV:joinedFacts Tryz.prog 10 Tryz.f10 Rows.fnDiskRiseSpec Rows.fnDiskRiseRow=true:=by
 unfold joinedFacts;rw[atZ,atY,atX,atW];kernel_rfl
theorem ao6:Rows.FnDiskRiseSaid:=
 OpenClaim.holds_of_wide 10 Tryz.f10 rfl rfl rfl rfl rfl rfl rfl ⟨rfl,rfl,rfl,rfl,rfl⟩ rfl rfl rfl rfl rfl (by kernel_rfl) Tryz.func10 atV
  (of_decide_eq_true (by kernel_rfl)) (by unfold Func.isWrapper;first|(rw[if_pos (by decide+kernel)];kernel_rfl)|(rw[if_neg (by decide+kernel)];exact⟨rfl,rfl⟩))
  (fun os started H enc _=>alH os started H enc)
theorem anO(f:FuncId)(fn:Func)(hf:Tryz.pinned.checked.prog.funcNamed "loop.example/jackstay/laws.FnDiskRise" =some f)(n6:Tryz.pinned.checked.prog.funcs[f]? =some fn):
  false=Tryz.pinned.checked.prog.looks []/\∀(j:Nat) t,fn.params[j]? =some t->Tryz.pinned.checked.prog.wantsStandIn t=false:=by
 obtain rfl:f=10:=Option.some.inj ((show Tryz.prog.funcNamed "loop.example/jackstay/laws.FnDiskRise" =some 10 by kernel_rfl).symm.trans hf)|>.symm
 obtain rfl:fn=Tryz.f10:=(Option.some.inj (Tryz.func10.symm.trans n6)).symm;refine⟨by kernel_rfl,fun j t ay=>?_⟩
 have nP:(Tryz.f10.params.toList.all fun u=>!Tryz.prog.wantsStandIn u)=true:=by kernel_rfl
 have:=List.all_eq_true.1 nP t (by simpa using Array.mem_of_getElem? ay)
 exact(by simpa using this:Tryz.prog.wantsStandIn t=false)
theorem atu:Rows.fnDiskRiseRow.wfByText (OpenSpec.ofChange Rows.fnDiskRiseSpec)=true:=by kernel_rfl
theorem att:Tryz.pinned.checked.prog.mainIs=some (true,"26491b4d873e425b8e265eef29283a84e270e5a9df0a23225c96562809e221f4".toList):=by kernel_rfl
theorem ats:false=Rows.fnDiskRiseRow.goesBy Tryz.pinned.checked.prog:=by kernel_rfl
theorem card10:Rows.FnDiskRiseCardSaid:=
 Claim7.holds_tied_plain_at (p:=Tryz.pinned) (s:=OpenSpec.ofChange Rows.fnDiskRiseSpec) (c:=Rows.fnDiskRiseRow) .later [] [.data,.data,.data,.data,.data,.pinned] true (true,"26491b4d873e425b8e265eef29283a84e270e5a9df0a23225c96562809e221f4") false ao6 (fun _ h=>by cases h) atu (fun _ h=>by cases h) fnDiskRise_row_tie rfl ⟨rfl,rfl⟩ att rfl anO ats
end Go.Proofs.YthhecoidfjkmeaaGreatDoor
