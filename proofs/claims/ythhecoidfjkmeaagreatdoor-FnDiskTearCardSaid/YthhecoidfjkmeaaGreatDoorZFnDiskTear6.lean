/- FnDiskTear: writing a root is atomic. (part 7 of 7: JkKLaw9) Conditions: none beyond the statement. -/
import Derived.Test.YthhecoidfjkmeaaGreatDoorZFnDiskTear5
import Derived.Test.YthhecoidfjkmeaaGreatDoorCards
import Derived.Test.YthhecoidfjkmeaaGreatDoorTie
import Derived.Lay
import Derived.LaidMore
import Derived.SevenTiedAt
import Derived.Stop.Joined
import Derived.Shelf.Abstract
set_option maxRecDepth 100000
set_option linter.unusedVariables false
namespace Go.Proofs.YthhecoidfjkmeaaGreatDoor
open Go.Jk Go.ChangeShapes Go.WideShapes Go.ChangeAt Go.RowKit
theorem asP:aB Tryz.prog 9 qk:=z9
theorem aqE:LawOk qk [(false,[.sl .u8])]:=pure_FnDiskTear
theorem as1:ownKnob Tryz.prog.godebug=none:=by kernel_rfl
theorem laidOut:laidOutB Tryz.prog=true:=by kernel_rfl
def Kb(P:Program):List TypeId->Bool
 |[]=>true
 |t::ch=>P.readableRec t&&decide (t<P.types.size)&&Kb P ch
theorem R4{P:Program}:∀{ch:List TypeId},Kb P ch=true->∀t,t∈ch->P.readableRec t=true/\t<P.types.size
 |[],_,t,h=>by cases h
 |u::ch,hb,t,h=>by
  simp only[Kb,Bool.and_eq_true,decide_eq_true_eq] at hb;rcases List.mem_cons.1 h with rfl|h
  ·exact hb.1
  ·exact R4 hb.2 t h
theorem ana(os:Os)(started:os.Started)(H:Type)(enc:TypeId×Value->H):
  ReturnsInHanded {} Tryz.checked os 9 .any (fun w args=>(Rows.fnDiskTearSpec.pre enc Tryz.prog Tryz.f9 Rows.fnDiskTearRow.domain false w args/\laidMetH Tryz.prog Rows.fnDiskTearRow.laid w)/\sizedMet enc Tryz.prog Tryz.f9 (OpenSpec.ofChange Rows.fnDiskTearSpec) false w args)
   (Rows.fnDiskTearSpec.post enc Tryz.prog Tryz.f9 false true false false):=by
 refine returnsInHanded_of_change_and (C:=Tryz.checked) (X:=fun w _=>laidMetH Tryz.prog Rows.fnDiskTearRow.laid w) (fun _ _ _ bL h=>h.of_heap bL) as1 started (by kernel_rfl) Tryz.func9
  (ChangeSpec.witness_shaped (enc:=enc) (C:=Tryz.checked) (os:=os) (X:=fun w _=>laidMetH Tryz.prog Rows.fnDiskTearRow.laid w) false (World.laidAll Tryz.prog os Rows.fnDiskTearRow.laid) #[.slice none 0 0] 8 (World.laidAll_os _ _ _)
   (World.shaped_of_ZipB (by kernel_rfl) (by kernel_rfl)) (by kernel_rfl) (by kernel_rfl) (by kernel_rfl)
   (by rw[MakeChecks.laidMetH_plain _ _ _ (by kernel_rfl)];exact laidMet_laidAll _ (by kernel_rfl) (by kernel_rfl))) ?_
 intro W base args ds gs before iX hW _ _ gD _;rw[MakeChecks.laidMetH_plain _ _ _ (by kernel_rfl)] at gD
 have hG:nM W:=⟨R_ (g:=0) (name:= "loop.example/jackstay/impl.sumRounds") (t:=202) (e:=153) (n:=64) (k:=.u32) (zs:=iJ) (i:=4) (by kernel_rfl) (by kernel_rfl) (by kernel_rfl) (by kernel_rfl) (by kernel_rfl) (by kernel_rfl) (by kernel_rfl) gD,R_ (g:=1) (name:= "internal/strconv.uint64pow10") (t:=244) (e:=155) (n:=20) (k:=.u64) (zs:=Xk) (i:=2) (by kernel_rfl) (by kernel_rfl) (by kernel_rfl) (by kernel_rfl) (by kernel_rfl) (by kernel_rfl) (by kernel_rfl) gD⟩
 exact afh (tt:=tt) (m:=8) asP (fun vs w=>enters_of Tryz.func9 (by kernel_rfl) rfl _ _) laidOut (R4 (by kernel_rfl)) (by kernel_rfl) Tryz.underlying4 (by kernel_rfl)
  (fun ds gs hl hg=>by
   have hl:ds.length=1:=hl;have hg:gs.length=1:=hg;match ds,hl,gs,hg with
   |[d0],_,[eT],_=>rfl) (by kernel_rfl) aqE W hG base args ds gs before iX hW
theorem axh:(Rows.fnDiskTearRow.inPlace==Tryz.prog.inPlace 9)=true:=by kernel_rfl
theorem axg:(Rows.fnDiskTearRow.unfollowed==Tryz.prog.unfollowed 9)=true:=by kernel_rfl
theorem axf:(Rows.fnDiskTearRow.recurses==Tryz.prog.recurses 9)=true:=by kernel_rfl
theorem axe:(Rows.fnDiskTearRow.named==Tryz.prog.varsNamed 9)=true:=by kernel_rfl
theorem axd:joinedFacts Tryz.prog 9 Tryz.f9 Rows.fnDiskTearSpec Rows.fnDiskTearRow=true:=by
 unfold joinedFacts;rw[axh,axg,axf,axe];kernel_rfl
theorem aqy:Rows.FnDiskTearSaid:=
 OpenClaim.holds_of_wide 9 Tryz.f9 rfl rfl rfl rfl rfl rfl rfl ⟨rfl,rfl,rfl,rfl,rfl⟩ rfl rfl rfl rfl rfl (by kernel_rfl) Tryz.func9 axd
  (of_decide_eq_true (by kernel_rfl)) (by unfold Func.isWrapper;first|(rw[if_pos (by decide+kernel)];kernel_rfl)|(rw[if_neg (by decide+kernel)];exact⟨rfl,rfl⟩))
  (fun os started H enc _=>ana os started H enc)
theorem aoX(f:FuncId)(fn:Func)(hf:Tryz.pinned.checked.prog.funcNamed "loop.example/jackstay/laws.FnDiskTear" =some f)(nL:Tryz.pinned.checked.prog.funcs[f]? =some fn):
  false=Tryz.pinned.checked.prog.looks []/\∀(j:Nat) t,fn.params[j]? =some t->Tryz.pinned.checked.prog.wantsStandIn t=false:=by
 obtain rfl:f=9:=Option.some.inj ((show Tryz.prog.funcNamed "loop.example/jackstay/laws.FnDiskTear" =some 9 by kernel_rfl).symm.trans hf)|>.symm
 obtain rfl:fn=Tryz.f9:=(Option.some.inj (Tryz.func9.symm.trans nL)).symm;refine⟨by kernel_rfl,fun j t aq=>?_⟩
 have nx:(Tryz.f9.params.toList.all fun u=>!Tryz.prog.wantsStandIn u)=true:=by kernel_rfl
 have:=List.all_eq_true.1 nx t (by simpa using Array.mem_of_getElem? aq)
 exact(by simpa using this:Tryz.prog.wantsStandIn t=false)
theorem awE:Rows.fnDiskTearRow.wfByText (OpenSpec.ofChange Rows.fnDiskTearSpec)=true:=by kernel_rfl
theorem awD:Tryz.pinned.checked.prog.mainIs=some (true,"26491b4d873e425b8e265eef29283a84e270e5a9df0a23225c96562809e221f4".toList):=by kernel_rfl
theorem awC:false=Rows.fnDiskTearRow.goesBy Tryz.pinned.checked.prog:=by kernel_rfl
theorem card9:Rows.FnDiskTearCardSaid:=
 Claim7.holds_tied_plain_at (p:=Tryz.pinned) (s:=OpenSpec.ofChange Rows.fnDiskTearSpec) (c:=Rows.fnDiskTearRow) .later [] [.data,.data,.data,.data,.data,.pinned] true (true,"26491b4d873e425b8e265eef29283a84e270e5a9df0a23225c96562809e221f4") false aqy (fun _ h=>by cases h) awE (fun _ h=>by cases h) fnDiskTear_row_tie rfl ⟨rfl,rfl⟩ awD rfl aoX awC
end Go.Proofs.YthhecoidfjkmeaaGreatDoor
