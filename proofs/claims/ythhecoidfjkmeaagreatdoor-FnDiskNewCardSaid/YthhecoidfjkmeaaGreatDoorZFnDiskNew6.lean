/- FnDiskNew: a stored root is recovered. (part 7 of 7: JkKLaw6) Conditions: none beyond the statement. -/
import Derived.Test.YthhecoidfjkmeaaGreatDoorZFnDiskNew5
import Derived.Test.YthhecoidfjkmeaaGreatDoorCards
import Derived.Test.YthhecoidfjkmeaaGreatDoorTie
import Derived.Lay
import Derived.LaidMore
import Derived.SevenTiedAt
import Derived.Stop.Joined
import Derived.Shelf.Abstract
set_option maxRecDepth 100000
set_option linter.unusedVariables false
namespace Go.Proofs.YthhecoidfjkmeaaGreatDoor
open Go.Jk Go.ChangeShapes Go.WideShapes Go.ChangeAt Go.RowKit
theorem aqM:ay Tryz.prog 6 tC:=CY
theorem aoA:LawOk tC [(false,[.sl .u8])]:=pure_FnDiskNew
theorem aqZ:ownKnob Tryz.prog.godebug=none:=by kernel_rfl
theorem laidOut:laidOutB Tryz.prog=true:=by kernel_rfl
def Ix(P:Program):List TypeId->Bool
 |[]=>true
 |t::cU=>P.readableRec t&&decide (t<P.types.size)&&Ix P cU
theorem P7{P:Program}:∀{cU:List TypeId},Ix P cU=true->∀t,t∈cU->P.readableRec t=true/\t<P.types.size
 |[],_,t,h=>by cases h
 |u::cU,hb,t,h=>by
  simp only[Ix,Bool.and_eq_true,decide_eq_true_eq] at hb;rcases List.mem_cons.1 h with rfl|h
  ·exact hb.1
  ·exact P7 hb.2 t h
theorem ald(os:Os)(started:os.Started)(H:Type)(enc:TypeId×Value->H):
  ReturnsInHanded {} Tryz.checked os 6 .any (fun w args=>(Rows.fnDiskNewSpec.pre enc Tryz.prog Tryz.f6 Rows.fnDiskNewRow.domain false w args/\laidMetH Tryz.prog Rows.fnDiskNewRow.laid w)/\sizedMet enc Tryz.prog Tryz.f6 (OpenSpec.ofChange Rows.fnDiskNewSpec) false w args)
   (Rows.fnDiskNewSpec.post enc Tryz.prog Tryz.f6 false true false false):=by
 refine returnsInHanded_of_change_and (C:=Tryz.checked) (X:=fun w _=>laidMetH Tryz.prog Rows.fnDiskNewRow.laid w) (fun _ _ _ bJ h=>h.of_heap bJ) aqZ started (by kernel_rfl) Tryz.func6
  (ChangeSpec.witness_shaped (enc:=enc) (C:=Tryz.checked) (os:=os) (X:=fun w _=>laidMetH Tryz.prog Rows.fnDiskNewRow.laid w) false (World.laidAll Tryz.prog os Rows.fnDiskNewRow.laid) #[.slice none 0 0] 8 (World.laidAll_os _ _ _)
   (World.shaped_of_ZipB (by kernel_rfl) (by kernel_rfl)) (by kernel_rfl) (by kernel_rfl) (by kernel_rfl)
   (by rw[MakeChecks.laidMetH_plain _ _ _ (by kernel_rfl)];exact laidMet_laidAll _ (by kernel_rfl) (by kernel_rfl))) ?_
 intro W base args ds gs before ir hW _ _ gd _;rw[MakeChecks.laidMetH_plain _ _ _ (by kernel_rfl)] at gd
 have hG:mV W:=⟨Qa (g:=0) (name:= "loop.example/jackstay/impl.sumRounds") (t:=202) (e:=153) (n:=64) (k:=.u32) (zs:=h_) (i:=4) (by kernel_rfl) (by kernel_rfl) (by kernel_rfl) (by kernel_rfl) (by kernel_rfl) (by kernel_rfl) (by kernel_rfl) gd,Qa (g:=1) (name:= "internal/strconv.uint64pow10") (t:=244) (e:=155) (n:=20) (k:=.u64) (zs:=Vu) (i:=2) (by kernel_rfl) (by kernel_rfl) (by kernel_rfl) (by kernel_rfl) (by kernel_rfl) (by kernel_rfl) (by kernel_rfl) gd⟩
 exact adg (tt:=tt) (m:=8) aqM (fun vs w=>enters_of Tryz.func6 (by kernel_rfl) rfl _ _) laidOut (P7 (by kernel_rfl)) (by kernel_rfl) Tryz.underlying4 (by kernel_rfl)
  (fun ds gs hl hg=>by
   have hl:ds.length=1:=hl;have hg:gs.length=1:=hg;match ds,hl,gs,hg with
   |[d0],_,[gT],_=>rfl) (by kernel_rfl) aoA W hG base args ds gs before ir hW
theorem avn:(Rows.fnDiskNewRow.inPlace==Tryz.prog.inPlace 6)=true:=by kernel_rfl
theorem avm:(Rows.fnDiskNewRow.unfollowed==Tryz.prog.unfollowed 6)=true:=by kernel_rfl
theorem avl:(Rows.fnDiskNewRow.recurses==Tryz.prog.recurses 6)=true:=by kernel_rfl
theorem avk:(Rows.fnDiskNewRow.named==Tryz.prog.varsNamed 6)=true:=by kernel_rfl
theorem avj:joinedFacts Tryz.prog 6 Tryz.f6 Rows.fnDiskNewSpec Rows.fnDiskNewRow=true:=by
 unfold joinedFacts;rw[avn,avm,avl,avk];kernel_rfl
theorem aou:Rows.FnDiskNewSaid:=
 OpenClaim.holds_of_wide 6 Tryz.f6 rfl rfl rfl rfl rfl rfl rfl ⟨rfl,rfl,rfl,rfl,rfl⟩ rfl rfl rfl rfl rfl (by kernel_rfl) Tryz.func6 avj
  (of_decide_eq_true (by kernel_rfl)) (by unfold Func.isWrapper;first|(rw[if_pos (by decide+kernel)];kernel_rfl)|(rw[if_neg (by decide+kernel)];exact⟨rfl,rfl⟩))
  (fun os started H enc _=>ald os started H enc)
theorem amT(f:FuncId)(fn:Func)(hf:Tryz.pinned.checked.prog.funcNamed "loop.example/jackstay/laws.FnDiskNew" =some f)(mU:Tryz.pinned.checked.prog.funcs[f]? =some fn):
  false=Tryz.pinned.checked.prog.looks []/\∀(j:Nat) t,fn.params[j]? =some t->Tryz.pinned.checked.prog.wantsStandIn t=false:=by
 obtain rfl:f=6:=Option.some.inj ((show Tryz.prog.funcNamed "loop.example/jackstay/laws.FnDiskNew" =some 6 by kernel_rfl).symm.trans hf)|>.symm
 obtain rfl:fn=Tryz.f6:=(Option.some.inj (Tryz.func6.symm.trans mU)).symm;refine⟨by kernel_rfl,fun j t aw=>?_⟩
 have mH:(Tryz.f6.params.toList.all fun u=>!Tryz.prog.wantsStandIn u)=true:=by kernel_rfl
 have:=List.all_eq_true.1 mH t (by simpa using Array.mem_of_getElem? aw)
 exact(by simpa using this:Tryz.prog.wantsStandIn t=false)
theorem auK:Rows.fnDiskNewRow.wfByText (OpenSpec.ofChange Rows.fnDiskNewSpec)=true:=by kernel_rfl
theorem auJ:Tryz.pinned.checked.prog.mainIs=some (true,"26491b4d873e425b8e265eef29283a84e270e5a9df0a23225c96562809e221f4".toList):=by kernel_rfl
theorem auI:false=Rows.fnDiskNewRow.goesBy Tryz.pinned.checked.prog:=by kernel_rfl
theorem card6:Rows.FnDiskNewCardSaid:=
 Claim7.holds_tied_plain_at (p:=Tryz.pinned) (s:=OpenSpec.ofChange Rows.fnDiskNewSpec) (c:=Rows.fnDiskNewRow) .later [] [.data,.data,.data,.data,.data,.pinned] true (true,"26491b4d873e425b8e265eef29283a84e270e5a9df0a23225c96562809e221f4") false aou (fun _ h=>by cases h) auK (fun _ h=>by cases h) fnDiskNew_row_tie rfl ⟨rfl,rfl⟩ auJ rfl amT auI
end Go.Proofs.YthhecoidfjkmeaaGreatDoor
