/- FnDiskOver: the last complete root is recovered. (part 7 of 7: JkKLaw8) Conditions: none beyond the statement. -/
import Derived.Test.YthhecoidfjkmeaaGreatDoorZFnDiskOver5
import Derived.Test.YthhecoidfjkmeaaGreatDoorCards
import Derived.Test.YthhecoidfjkmeaaGreatDoorTie
import Derived.Lay
import Derived.LaidMore
import Derived.SevenTiedAt
import Derived.Stop.Joined
import Derived.Shelf.Abstract
set_option maxRecDepth 100000
set_option linter.unusedVariables false
namespace Go.Proofs.YthhecoidfjkmeaaGreatDoor
open Go.Jk Go.ChangeShapes Go.WideShapes Go.ChangeAt Go.RowKit
theorem aty:aE Tryz.prog 8 mq:=NW
theorem aro:LawOk mq [(false,[.sl .u8])]:=pure_FnDiskOver
theorem atK:ownKnob Tryz.prog.godebug=none:=by kernel_rfl
theorem laidOut:laidOutB Tryz.prog=true:=by kernel_rfl
def KH(P:Program):List TypeId->Bool
 |[]=>true
 |t::cv=>P.readableRec t&&decide (t<P.types.size)&&KH P cv
theorem Sr{P:Program}:∀{cv:List TypeId},KH P cv=true->∀t,t∈cv->P.readableRec t=true/\t<P.types.size
 |[],_,t,h=>by cases h
 |u::cv,hb,t,h=>by
  simp only[KH,bC,dY] at hb;rcases bO.1 h with rfl|h
  ·exact hb.1
  ·exact Sr hb.2 t h
theorem anT(os:Os)(started:os.Started)(H:Type)(enc:TypeId×Value->H):
  ReturnsInHanded {} Tryz.checked os 8 .any (fun w args=>(Rows.fnDiskOverSpec.pre enc Tryz.prog Tryz.f8 Rows.fnDiskOverRow.domain false w args/\laidMetH Tryz.prog Rows.fnDiskOverRow.laid w)/\sizedMet enc Tryz.prog Tryz.f8 (OpenSpec.ofChange Rows.fnDiskOverSpec) false w args)
   (Rows.fnDiskOverSpec.post enc Tryz.prog Tryz.f8 false true false false):=by
 refine returnsInHanded_of_change_and (C:=Tryz.checked) (X:=fun w _=>laidMetH Tryz.prog Rows.fnDiskOverRow.laid w) (fun _ _ _ bU h=>h.of_heap bU) atK started (by kernel_rfl) Tryz.func8
  (ChangeSpec.witness_shaped (enc:=enc) (C:=Tryz.checked) (os:=os) (X:=fun w _=>laidMetH Tryz.prog Rows.fnDiskOverRow.laid w) false (World.laidAll Tryz.prog os Rows.fnDiskOverRow.laid) #[.slice none 0 0] 8 (World.laidAll_os _ _ _)
   (World.shaped_of_ZipB (by kernel_rfl) (by kernel_rfl)) (by kernel_rfl) (by kernel_rfl) (by kernel_rfl)
   (by rw[MakeChecks.laidMetH_plain _ _ _ (by kernel_rfl)];exact laidMet_laidAll _ (by kernel_rfl) (by kernel_rfl))) ?_
 intro W base args ds gs before jo hW _ _ gr _;rw[MakeChecks.laidMetH_plain _ _ _ (by kernel_rfl)] at gr
 have hG:n_ W:=⟨Sx (g:=0) (name:= "loop.example/jackstay/impl.sumRounds") (t:=202) (e:=153) (n:=64) (k:=.u32) (zs:=i') (i:=4) (by kernel_rfl) (by kernel_rfl) (by kernel_rfl) (by kernel_rfl) (by kernel_rfl) (by kernel_rfl) (by kernel_rfl) gr,Sx (g:=1) (name:= "internal/strconv.uint64pow10") (t:=244) (e:=155) (n:=20) (k:=.u64) (zs:=XV) (i:=2) (by kernel_rfl) (by kernel_rfl) (by kernel_rfl) (by kernel_rfl) (by kernel_rfl) (by kernel_rfl) (by kernel_rfl) gr⟩
 exact afZ (tt:=tt) (m:=8) aty (fun vs w=>enters_of Tryz.func8 (by kernel_rfl) rfl _ _) laidOut (Sr (by kernel_rfl)) (by kernel_rfl) Tryz.underlying4 (by kernel_rfl)
  (fun ds gs hl hg=>by
   have hl:ds.length=1:=hl;have hg:gs.length=1:=hg;match ds,hl,gs,hg with
   |[d0],_,[fa],_=>rfl) (by kernel_rfl) aro W hG base args ds gs before jo hW
theorem ax0:(Rows.fnDiskOverRow.inPlace==Tryz.prog.inPlace 8)=true:=by kernel_rfl
theorem axZ:(Rows.fnDiskOverRow.unfollowed==Tryz.prog.unfollowed 8)=true:=by kernel_rfl
theorem axY:(Rows.fnDiskOverRow.recurses==Tryz.prog.recurses 8)=true:=by kernel_rfl
theorem axX:(Rows.fnDiskOverRow.named==Tryz.prog.varsNamed 8)=true:=by kernel_rfl
theorem axW:joinedFacts Tryz.prog 8 Tryz.f8 Rows.fnDiskOverSpec Rows.fnDiskOverRow=true:=by
 unfold joinedFacts;rw[ax0,axZ,axY,axX];kernel_rfl
theorem ari:Rows.FnDiskOverSaid:=
 OpenClaim.holds_of_wide 8 Tryz.f8 rfl rfl rfl rfl rfl rfl rfl ⟨rfl,rfl,rfl,rfl,rfl⟩ rfl rfl rfl rfl rfl (by kernel_rfl) Tryz.func8 axW
  (of_decide_eq_true (by kernel_rfl)) (by unfold Func.isWrapper;first|(rw[if_pos (by decide+kernel)];kernel_rfl)|(rw[if_neg (by decide+kernel)];exact⟨rfl,rfl⟩))
  (fun os started H enc _=>anT os started H enc)
theorem plain8(f:FuncId)(fn:Func)(hf:Tryz.pinned.checked.prog.funcNamed "loop.example/jackstay/laws.FnDiskOver" =some f)(n9:Tryz.pinned.checked.prog.funcs[f]? =some fn):
  false=Tryz.pinned.checked.prog.looks []/\∀(j:Nat) t,fn.params[j]? =some t->Tryz.pinned.checked.prog.wantsStandIn t=false:=by
 obtain rfl:f=8:=Option.some.inj ((show Tryz.prog.funcNamed "loop.example/jackstay/laws.FnDiskOver" =some 8 by kernel_rfl).symm.trans hf)|>.symm
 obtain rfl:fn=Tryz.f8:=(Option.some.inj (Tryz.func8.symm.trans n9)).symm;refine⟨by kernel_rfl,fun j t ay=>?_⟩
 have nR:(Tryz.f8.params.toList.all fun u=>!Tryz.prog.wantsStandIn u)=true:=by kernel_rfl
 have:=List.all_eq_true.1 nR t (by simpa using Array.mem_of_getElem? ay)
 exact(by simpa using this:Tryz.prog.wantsStandIn t=false)
theorem axn:Rows.fnDiskOverRow.wfByText (OpenSpec.ofChange Rows.fnDiskOverSpec)=true:=by kernel_rfl
theorem axm:Tryz.pinned.checked.prog.mainIs=some (true,"26491b4d873e425b8e265eef29283a84e270e5a9df0a23225c96562809e221f4".toList):=by kernel_rfl
theorem axl:false=Rows.fnDiskOverRow.goesBy Tryz.pinned.checked.prog:=by kernel_rfl
theorem card8:Rows.FnDiskOverCardSaid:=
 Claim7.holds_tied_plain_at (p:=Tryz.pinned) (s:=OpenSpec.ofChange Rows.fnDiskOverSpec) (c:=Rows.fnDiskOverRow) .later [] [.data,.data,.data,.data,.data,.pinned] true (true,"26491b4d873e425b8e265eef29283a84e270e5a9df0a23225c96562809e221f4") false ari (fun _ h=>by cases h) axn (fun _ h=>by cases h) fnDiskOver_row_tie rfl ⟨rfl,rfl⟩ axm rfl plain8 axl
end Go.Proofs.YthhecoidfjkmeaaGreatDoor
