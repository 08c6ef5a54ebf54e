/- FnExactFarmOk: the program's FarmOk returns what the reference's returns, for all arguments. (part 7 of 7: JkKLaw5) Conditions: none beyond the statement. -/
import Derived.Test.YthhecoidfjkmeaaGreatDoorZFnExactFarmOk5
import Derived.Test.YthhecoidfjkmeaaGreatDoorCards
import Derived.Test.YthhecoidfjkmeaaGreatDoorTie
import Derived.Lay
import Derived.LaidMore
import Derived.SevenTiedAt
import Derived.Stop.Joined
import Derived.Shelf.Abstract
set_option maxRecDepth 100000
set_option linter.unusedVariables false
namespace Go.Proofs.YthhecoidfjkmeaaGreatDoor
open Go.Jk Go.ChangeShapes Go.WideShapes Go.ChangeAt Go.RowKit
theorem ani:aE Tryz.prog 5 po:=z5
theorem alp:LawOk po [(true,[.sl .file,.sl .pack,.str,.str])]:=pure_FnExactFarmOk
theorem anu:ownKnob Tryz.prog.godebug=none:=by kernel_rfl
theorem laidOut:laidOutB Tryz.prog=true:=by kernel_rfl
def Ik(P:Program):List TypeId->Bool
 |[]=>true
 |t::ce=>P.readableRec t&&decide (t<P.types.size)&&Ik P ce
theorem PH{P:Program}:∀{ce:List TypeId},Ik P ce=true->∀t,t∈ce->P.readableRec t=true/\t<P.types.size
 |[],_,t,h=>by cases h
 |u::ce,hb,t,h=>by
  simp only[Ik,Bool.and_eq_true,decide_eq_true_eq] at hb;rcases List.mem_cons.1 h with rfl|h
  ·exact hb.1
  ·exact PH hb.2 t h
theorem aiG(os:Os)(started:os.Started)(H:Type)(enc:TypeId×Value->H):
  ReturnsInHanded {} Tryz.checked os 5 .any (fun w args=>(Rows.fnExactFarmOkSpec.pre enc Tryz.prog Tryz.f5 Rows.fnExactFarmOkRow.domain false w args/\laidMetH Tryz.prog Rows.fnExactFarmOkRow.laid w)/\sizedMet enc Tryz.prog Tryz.f5 (OpenSpec.ofChange Rows.fnExactFarmOkSpec) false w args)
   (Rows.fnExactFarmOkSpec.post enc Tryz.prog Tryz.f5 false true false false):=by
 refine returnsInHanded_of_change_and (C:=Tryz.checked) (X:=fun w _=>laidMetH Tryz.prog Rows.fnExactFarmOkRow.laid w) (fun _ _ _ bU h=>h.of_heap bU) anu started (by kernel_rfl) Tryz.func5
  (ChangeSpec.witness_shaped (enc:=enc) (C:=Tryz.checked) (os:=os) (X:=fun w _=>laidMetH Tryz.prog Rows.fnExactFarmOkRow.laid w) false (World.laidAll Tryz.prog os Rows.fnExactFarmOkRow.laid) #[.agg #[.slice none 0 0,.slice none 0 0,.string ⟨#[]⟩,.string ⟨#[]⟩]] 8 (World.laidAll_os _ _ _)
   (World.shaped_of_ZipB (by kernel_rfl) (by kernel_rfl)) (by kernel_rfl) (by kernel_rfl) (by kernel_rfl)
   (by rw[MakeChecks.laidMetH_plain _ _ _ (by kernel_rfl)];exact laidMet_laidAll _ (by kernel_rfl) (by kernel_rfl))) ?_
 intro W base args ds gs before iI hW _ _ gn _;rw[MakeChecks.laidMetH_plain _ _ _ (by kernel_rfl)] at gn
 have hG:mW W:=⟨PN (g:=0) (name:= "loop.example/jackstay/impl.sumRounds") (t:=202) (e:=153) (n:=64) (k:=.u32) (zs:=iq) (i:=4) (by kernel_rfl) (by kernel_rfl) (by kernel_rfl) (by kernel_rfl) (by kernel_rfl) (by kernel_rfl) (by kernel_rfl) gn,PN (g:=1) (name:= "internal/strconv.uint64pow10") (t:=244) (e:=155) (n:=20) (k:=.u64) (zs:=TO) (i:=2) (by kernel_rfl) (by kernel_rfl) (by kernel_rfl) (by kernel_rfl) (by kernel_rfl) (by kernel_rfl) (by kernel_rfl) gn⟩
 exact aa8 (tt:=tt) (m:=8) ani (fun vs w=>enters_of Tryz.func5 (by kernel_rfl) rfl _ _) laidOut (PH (by kernel_rfl)) (by kernel_rfl) Tryz.underlying4 (by kernel_rfl)
  (fun ds gs hl hg=>by
   have hl:ds.length=1:=hl;have hg:gs.length=1:=hg;match ds,hl,gs,hg with
   |[d0],_,[eT],_=>rfl) (by kernel_rfl) alp W hG base args ds gs before iI hW
theorem arq:(Rows.fnExactFarmOkRow.inPlace==Tryz.prog.inPlace 5)=true:=by kernel_rfl
theorem arp:(Rows.fnExactFarmOkRow.unfollowed==Tryz.prog.unfollowed 5)=true:=by kernel_rfl
theorem aro:(Rows.fnExactFarmOkRow.recurses==Tryz.prog.recurses 5)=true:=by kernel_rfl
theorem arn:(Rows.fnExactFarmOkRow.named==Tryz.prog.varsNamed 5)=true:=by kernel_rfl
theorem arm:joinedFacts Tryz.prog 5 Tryz.f5 Rows.fnExactFarmOkSpec Rows.fnExactFarmOkRow=true:=by
 unfold joinedFacts;rw[arq,arp,aro,arn];kernel_rfl
theorem ali:Rows.FnExactFarmOkSaid:=
 OpenClaim.holds_of_wide 5 Tryz.f5 rfl rfl rfl rfl rfl rfl rfl ⟨rfl,rfl,rfl,rfl,rfl⟩ rfl rfl rfl rfl rfl (by kernel_rfl) Tryz.func5 arm
  (of_decide_eq_true (by kernel_rfl)) (by unfold Func.isWrapper;first|(rw[if_pos (by decide+kernel)];kernel_rfl)|(rw[if_neg (by decide+kernel)];exact⟨rfl,rfl⟩))
  (fun os started H enc _=>aiG os started H enc)
theorem akc(f:FuncId)(fn:Func)(hf:Tryz.pinned.checked.prog.funcNamed "loop.example/jackstay/laws.FnExactFarmOk" =some f)(mV:Tryz.pinned.checked.prog.funcs[f]? =some fn):
  false=Tryz.pinned.checked.prog.looks []/\∀(j:Nat) t,fn.params[j]? =some t->Tryz.pinned.checked.prog.wantsStandIn t=false:=by
 obtain rfl:f=5:=Option.some.inj ((show Tryz.prog.funcNamed "loop.example/jackstay/laws.FnExactFarmOk" =some 5 by kernel_rfl).symm.trans hf)|>.symm
 obtain rfl:fn=Tryz.f5:=(Option.some.inj (Tryz.func5.symm.trans mV)).symm;refine⟨by kernel_rfl,fun j t aq=>?_⟩
 have mJ:(Tryz.f5.params.toList.all fun u=>!Tryz.prog.wantsStandIn u)=true:=by kernel_rfl
 have:=List.all_eq_true.1 mJ t (by simpa using Array.mem_of_getElem? aq)
 exact(by simpa using this:Tryz.prog.wantsStandIn t=false)
theorem aqM:Rows.fnExactFarmOkRow.wfByText (OpenSpec.ofChange Rows.fnExactFarmOkSpec)=true:=by kernel_rfl
theorem aqL:Tryz.pinned.checked.prog.mainIs=some (true,"26491b4d873e425b8e265eef29283a84e270e5a9df0a23225c96562809e221f4".toList):=by kernel_rfl
theorem aqK:false=Rows.fnExactFarmOkRow.goesBy Tryz.pinned.checked.prog:=by kernel_rfl
theorem card5:Rows.FnExactFarmOkCardSaid:=
 Claim7.holds_tied_plain_at (p:=Tryz.pinned) (s:=OpenSpec.ofChange Rows.fnExactFarmOkSpec) (c:=Rows.fnExactFarmOkRow) .later [] [.data,.data,.data,.data,.data,.pinned] true (true,"26491b4d873e425b8e265eef29283a84e270e5a9df0a23225c96562809e221f4") false ali (fun _ h=>by cases h) aqM (fun _ h=>by cases h) fnExactFarmOk_row_tie rfl ⟨rfl,rfl⟩ aqL rfl akc aqK
end Go.Proofs.YthhecoidfjkmeaaGreatDoor
