/- FnExactDiskOk: the program's DiskOk returns what the reference's returns, for all arguments. (part 7 of 7: JkKLaw3) Conditions: none beyond the statement. -/
import Derived.Test.YthhecoidfjkmeaaGreatDoorZFnExactDiskOk5
import Derived.Test.YthhecoidfjkmeaaGreatDoorCards
import Derived.Test.YthhecoidfjkmeaaGreatDoorTie
import Derived.Lay
import Derived.LaidMore
import Derived.SevenTiedAt
import Derived.Stop.Joined
import Derived.Shelf.Abstract
set_option maxRecDepth 100000
set_option linter.unusedVariables false
namespace Go.Proofs.YthhecoidfjkmeaaGreatDoor
open Go.Jk Go.ChangeShapes Go.WideShapes Go.ChangeAt Go.RowKit
theorem aks:aF Tryz.prog 3 hL:=z3
theorem aiA:LawOk hL [(true,[.str,.str])]:=pure_FnExactDiskOk
theorem akE:ownKnob Tryz.prog.godebug=none:=by kernel_rfl
theorem laidOut:laidOutB Tryz.prog=true:=by kernel_rfl
def G5(P:Program):List TypeId->Bool
 |[]=>true
 |t::b9=>P.readableRec t&&decide (t<P.types.size)&&G5 P b9
theorem NW{P:Program}:∀{b9:List TypeId},G5 P b9=true->∀t,t∈b9->P.readableRec t=true/\t<P.types.size
 |[],_,t,h=>by cases h
 |u::b9,hb,t,h=>by
  simp only[G5,Bool.and_eq_true,decide_eq_true_eq] at hb;rcases List.mem_cons.1 h with rfl|h
  ·exact hb.1
  ·exact NW hb.2 t h
theorem afR(os:Os)(started:os.Started)(H:Type)(enc:TypeId×Value->H):
  ReturnsInHanded {} Tryz.checked os 3 .any (fun w args=>(Rows.fnExactDiskOkSpec.pre enc Tryz.prog Tryz.f3 Rows.fnExactDiskOkRow.domain false w args/\laidMetH Tryz.prog Rows.fnExactDiskOkRow.laid w)/\sizedMet enc Tryz.prog Tryz.f3 (OpenSpec.ofChange Rows.fnExactDiskOkSpec) false w args)
   (Rows.fnExactDiskOkSpec.post enc Tryz.prog Tryz.f3 false true false false):=by
 refine returnsInHanded_of_change_and (C:=Tryz.checked) (X:=fun w _=>laidMetH Tryz.prog Rows.fnExactDiskOkRow.laid w) (fun _ _ _ bP h=>h.of_heap bP) akE started (by kernel_rfl) Tryz.func3
  (ChangeSpec.witness_shaped (enc:=enc) (C:=Tryz.checked) (os:=os) (X:=fun w _=>laidMetH Tryz.prog Rows.fnExactDiskOkRow.laid w) false (World.laidAll Tryz.prog os Rows.fnExactDiskOkRow.laid) #[.agg #[.string ⟨#[]⟩,.string ⟨#[]⟩]] 8 (World.laidAll_os _ _ _)
   (World.shaped_of_ZipB (by kernel_rfl) (by kernel_rfl)) (by kernel_rfl) (by kernel_rfl) (by kernel_rfl)
   (by rw[MakeChecks.laidMetH_plain _ _ _ (by kernel_rfl)];exact laidMet_laidAll _ (by kernel_rfl) (by kernel_rfl))) ?_
 intro W base args ds gs before iB hW _ _ gh _;rw[MakeChecks.laidMetH_plain _ _ _ (by kernel_rfl)] at gh
 have hG:mM W:=⟨N2 (g:=0) (name:= "loop.example/jackstay/impl.sumRounds") (t:=202) (e:=153) (n:=64) (k:=.u32) (zs:=ii) (i:=4) (by kernel_rfl) (by kernel_rfl) (by kernel_rfl) (by kernel_rfl) (by kernel_rfl) (by kernel_rfl) (by kernel_rfl) gh,N2 (g:=1) (name:= "internal/strconv.uint64pow10") (t:=244) (e:=155) (n:=20) (k:=.u64) (zs:=R0) (i:=2) (by kernel_rfl) (by kernel_rfl) (by kernel_rfl) (by kernel_rfl) (by kernel_rfl) (by kernel_rfl) (by kernel_rfl) gh⟩
 exact ZN (tt:=tt) (m:=8) aks (fun vs w=>enters_of Tryz.func3 (by kernel_rfl) rfl _ _) laidOut (NW (by kernel_rfl)) (by kernel_rfl) Tryz.underlying4 (by kernel_rfl)
  (fun ds gs hl hg=>by
   have hl:ds.length=1:=hl;have hg:gs.length=1:=hg;match ds,hl,gs,hg with
   |[d0],_,[eS],_=>rfl) (by kernel_rfl) aiA W hG base args ds gs before iB hW
theorem aoy:(Rows.fnExactDiskOkRow.inPlace==Tryz.prog.inPlace 3)=true:=by kernel_rfl
theorem aox:(Rows.fnExactDiskOkRow.unfollowed==Tryz.prog.unfollowed 3)=true:=by kernel_rfl
theorem aow:(Rows.fnExactDiskOkRow.recurses==Tryz.prog.recurses 3)=true:=by kernel_rfl
theorem aov:(Rows.fnExactDiskOkRow.named==Tryz.prog.varsNamed 3)=true:=by kernel_rfl
theorem aou:joinedFacts Tryz.prog 3 Tryz.f3 Rows.fnExactDiskOkSpec Rows.fnExactDiskOkRow=true:=by
 unfold joinedFacts;rw[aoy,aox,aow,aov];kernel_rfl
theorem aiu:Rows.FnExactDiskOkSaid:=
 OpenClaim.holds_of_wide 3 Tryz.f3 rfl rfl rfl rfl rfl rfl rfl ⟨rfl,rfl,rfl,rfl,rfl⟩ rfl rfl rfl rfl rfl (by kernel_rfl) Tryz.func3 aou
  (of_decide_eq_true (by kernel_rfl)) (by unfold Func.isWrapper;first|(rw[if_pos (by decide+kernel)];kernel_rfl)|(rw[if_neg (by decide+kernel)];exact⟨rfl,rfl⟩))
  (fun os started H enc _=>afR os started H enc)
theorem ahn(f:FuncId)(fn:Func)(hf:Tryz.pinned.checked.prog.funcNamed "loop.example/jackstay/laws.FnExactDiskOk" =some f)(mL:Tryz.pinned.checked.prog.funcs[f]? =some fn):
  false=Tryz.pinned.checked.prog.looks []/\∀(j:Nat) t,fn.params[j]? =some t->Tryz.pinned.checked.prog.wantsStandIn t=false:=by
 obtain rfl:f=3:=Option.some.inj ((show Tryz.prog.funcNamed "loop.example/jackstay/laws.FnExactDiskOk" =some 3 by kernel_rfl).symm.trans hf)|>.symm
 obtain rfl:fn=Tryz.f3:=(Option.some.inj (Tryz.func3.symm.trans mL)).symm;refine⟨by kernel_rfl,fun j t ap=>?_⟩
 have mz:(Tryz.f3.params.toList.all fun u=>!Tryz.prog.wantsStandIn u)=true:=by kernel_rfl
 have:=List.all_eq_true.1 mz t (by simpa using Array.mem_of_getElem? ap)
 exact(by simpa using this:Tryz.prog.wantsStandIn t=false)
theorem anV:Rows.fnExactDiskOkRow.wfByText (OpenSpec.ofChange Rows.fnExactDiskOkSpec)=true:=by kernel_rfl
theorem anU:Tryz.pinned.checked.prog.mainIs=some (true,"26491b4d873e425b8e265eef29283a84e270e5a9df0a23225c96562809e221f4".toList):=by kernel_rfl
theorem anT:false=Rows.fnExactDiskOkRow.goesBy Tryz.pinned.checked.prog:=by kernel_rfl
theorem card3:Rows.FnExactDiskOkCardSaid:=
 Claim7.holds_tied_plain_at (p:=Tryz.pinned) (s:=OpenSpec.ofChange Rows.fnExactDiskOkSpec) (c:=Rows.fnExactDiskOkRow) .later [] [.data,.data,.data,.data,.data,.pinned] true (true,"26491b4d873e425b8e265eef29283a84e270e5a9df0a23225c96562809e221f4") false aiu (fun _ h=>by cases h) anV (fun _ h=>by cases h) fnExactDiskOk_row_tie rfl ⟨rfl,rfl⟩ anU rfl ahn anT
end Go.Proofs.YthhecoidfjkmeaaGreatDoor
