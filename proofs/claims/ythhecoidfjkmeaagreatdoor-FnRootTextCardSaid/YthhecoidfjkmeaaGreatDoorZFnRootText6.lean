/- FnRootText: decoding a root inverts encoding. (part 7 of 7: JkKLaw7) Conditions: none beyond the statement. -/
import Derived.Test.YthhecoidfjkmeaaGreatDoorZFnRootText5
import Derived.Test.YthhecoidfjkmeaaGreatDoorCards
import Derived.Test.YthhecoidfjkmeaaGreatDoorTie
import Derived.Lay
import Derived.LaidMore
import Derived.SevenTiedAt
import Derived.Stop.Joined
import Derived.Shelf.Abstract
set_option maxRecDepth 100000
set_option linter.unusedVariables false
namespace Go.Proofs.YthhecoidfjkmeaaGreatDoor
open Go.Jk Go.ChangeShapes Go.WideShapes Go.ChangeAt Go.RowKit
theorem asz:aA Tryz.prog 7 oT:=uD
theorem aql:LawOk oT [(false,[.sl .u8]),(false,[.sl .u8])]:=pure_FnRootText
theorem asL:ownKnob Tryz.prog.godebug=none:=by kernel_rfl
theorem laidOut:laidOutB Tryz.prog=true:=by kernel_rfl
def J1(P:Program):List TypeId->Bool
 |[]=>true
 |t::ci=>P.readableRec t&&decide (t<P.types.size)&&J1 P ci
theorem RI{P:Program}:∀{ci:List TypeId},J1 P ci=true->∀t,t∈ci->P.readableRec t=true/\t<P.types.size
 |[],_,t,h=>by cases h
 |u::ci,hb,t,h=>by
  simp only[J1,Bool.and_eq_true,decide_eq_true_eq] at hb;rcases List.mem_cons.1 h with rfl|h
  ·exact hb.1
  ·exact RI hb.2 t h
theorem amS(os:Os)(started:os.Started)(H:Type)(enc:TypeId×Value->H):
  ReturnsInHanded {} Tryz.checked os 7 .any (fun w args=>(Rows.fnRootTextSpec.pre enc Tryz.prog Tryz.f7 Rows.fnRootTextRow.domain false w args/\laidMetH Tryz.prog Rows.fnRootTextRow.laid w)/\sizedMet enc Tryz.prog Tryz.f7 (OpenSpec.ofChange Rows.fnRootTextSpec) false w args)
   (Rows.fnRootTextSpec.post enc Tryz.prog Tryz.f7 false true false false):=by
 refine returnsInHanded_of_change_and (C:=Tryz.checked) (X:=fun w _=>laidMetH Tryz.prog Rows.fnRootTextRow.laid w) (fun _ _ _ bL h=>h.of_heap bL) asL started (by kernel_rfl) Tryz.func7
  (ChangeSpec.witness_shaped (enc:=enc) (C:=Tryz.checked) (os:=os) (X:=fun w _=>laidMetH Tryz.prog Rows.fnRootTextRow.laid w) false (World.laidAll Tryz.prog os Rows.fnRootTextRow.laid) #[.slice none 0 0,.slice none 0 0] 8 (World.laidAll_os _ _ _)
   (World.shaped_of_ZipB (by kernel_rfl) (by kernel_rfl)) (by kernel_rfl) (by kernel_rfl) (by kernel_rfl)
   (by rw[MakeChecks.laidMetH_plain _ _ _ (by kernel_rfl)];exact laidMet_laidAll _ (by kernel_rfl) (by kernel_rfl))) ?_
 intro W base args ds gs before iV hW _ _ gB _;rw[MakeChecks.laidMetH_plain _ _ _ (by kernel_rfl)] at gB
 have hG:nG W:=⟨RO (g:=0) (name:= "loop.example/jackstay/impl.sumRounds") (t:=202) (e:=153) (n:=64) (k:=.u32) (zs:=iF) (i:=4) (by kernel_rfl) (by kernel_rfl) (by kernel_rfl) (by kernel_rfl) (by kernel_rfl) (by kernel_rfl) (by kernel_rfl) gB,RO (g:=1) (name:= "internal/strconv.uint64pow10") (t:=244) (e:=155) (n:=20) (k:=.u64) (zs:=Xd) (i:=2) (by kernel_rfl) (by kernel_rfl) (by kernel_rfl) (by kernel_rfl) (by kernel_rfl) (by kernel_rfl) (by kernel_rfl) gB⟩
 exact ae9 (tt:=tt) (m:=8) asz (fun vs w=>enters_of Tryz.func7 (by kernel_rfl) rfl _ _) laidOut (RI (by kernel_rfl)) (by kernel_rfl) Tryz.underlying4 (by kernel_rfl)
  (fun ds gs hl hg=>by
   have hl:ds.length=2:=hl;have hg:gs.length=1:=hg;match ds,hl,gs,hg with
   |[d0,d1],_,[e4],_=>rfl) (by kernel_rfl) aql W hG base args ds gs before iV hW
theorem aw5:(Rows.fnRootTextRow.inPlace==Tryz.prog.inPlace 7)=true:=by kernel_rfl
theorem aw4:(Rows.fnRootTextRow.unfollowed==Tryz.prog.unfollowed 7)=true:=by kernel_rfl
theorem aw3:(Rows.fnRootTextRow.recurses==Tryz.prog.recurses 7)=true:=by kernel_rfl
theorem aw2:(Rows.fnRootTextRow.named==Tryz.prog.varsNamed 7)=true:=by kernel_rfl
theorem aw1:joinedFacts Tryz.prog 7 Tryz.f7 Rows.fnRootTextSpec Rows.fnRootTextRow=true:=by
 unfold joinedFacts;rw[aw5,aw4,aw3,aw2];kernel_rfl
theorem aqe:Rows.FnRootTextSaid:=
 OpenClaim.holds_of_wide 7 Tryz.f7 rfl rfl rfl rfl rfl rfl rfl ⟨rfl,rfl,rfl,rfl,rfl⟩ rfl rfl rfl rfl rfl (by kernel_rfl) Tryz.func7 aw1
  (of_decide_eq_true (by kernel_rfl)) (by unfold Func.isWrapper;first|(rw[if_pos (by decide+kernel)];kernel_rfl)|(rw[if_neg (by decide+kernel)];exact⟨rfl,rfl⟩))
  (fun os started H enc _=>amS os started H enc)
theorem aoC(f:FuncId)(fn:Func)(hf:Tryz.pinned.checked.prog.funcNamed "loop.example/jackstay/laws.FnRootText" =some f)(nF:Tryz.pinned.checked.prog.funcs[f]? =some fn):
  false=Tryz.pinned.checked.prog.looks []/\∀(j:Nat) t,fn.params[j]? =some t->Tryz.pinned.checked.prog.wantsStandIn t=false:=by
 obtain rfl:f=7:=Option.some.inj ((show Tryz.prog.funcNamed "loop.example/jackstay/laws.FnRootText" =some 7 by kernel_rfl).symm.trans hf)|>.symm
 obtain rfl:fn=Tryz.f7:=(Option.some.inj (Tryz.func7.symm.trans nF)).symm;refine⟨by kernel_rfl,fun j t au=>?_⟩
 have nm:(Tryz.f7.params.toList.all fun u=>!Tryz.prog.wantsStandIn u)=true:=by kernel_rfl
 have:=List.all_eq_true.1 nm t (by simpa using Array.mem_of_getElem? au)
 exact(by simpa using this:Tryz.prog.wantsStandIn t=false)
theorem aws:Rows.fnRootTextRow.wfByText (OpenSpec.ofChange Rows.fnRootTextSpec)=true:=by kernel_rfl
theorem awr:Tryz.pinned.checked.prog.mainIs=some (true,"26491b4d873e425b8e265eef29283a84e270e5a9df0a23225c96562809e221f4".toList):=by kernel_rfl
theorem awq:false=Rows.fnRootTextRow.goesBy Tryz.pinned.checked.prog:=by kernel_rfl
theorem card7:Rows.FnRootTextCardSaid:=
 Claim7.holds_tied_plain_at (p:=Tryz.pinned) (s:=OpenSpec.ofChange Rows.fnRootTextSpec) (c:=Rows.fnRootTextRow) .later [] [.data,.data,.data,.data,.data,.pinned] true (true,"26491b4d873e425b8e265eef29283a84e270e5a9df0a23225c96562809e221f4") false aqe (fun _ h=>by cases h) aws (fun _ h=>by cases h) fnRootText_row_tie rfl ⟨rfl,rfl⟩ awr rfl aoC awq
end Go.Proofs.YthhecoidfjkmeaaGreatDoor
