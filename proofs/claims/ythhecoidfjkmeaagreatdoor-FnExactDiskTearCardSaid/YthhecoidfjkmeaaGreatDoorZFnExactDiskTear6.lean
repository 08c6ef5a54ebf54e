/- FnExactDiskTear: the program's DiskTear returns what the reference's returns, for all arguments. (part 7 of 7: JkKLaw4) Conditions: none beyond the statement. -/
import Derived.Test.YthhecoidfjkmeaaGreatDoorZFnExactDiskTear5
import Derived.Test.YthhecoidfjkmeaaGreatDoorCards
import Derived.Test.YthhecoidfjkmeaaGreatDoorTie
import Derived.Lay
import Derived.LaidMore
import Derived.SevenTiedAt
import Derived.Stop.Joined
import Derived.Shelf.Abstract
set_option maxRecDepth 100000
set_option linter.unusedVariables false
namespace Go.Proofs.YthhecoidfjkmeaaGreatDoor
open Go.Jk Go.ChangeShapes Go.WideShapes Go.ChangeAt Go.RowKit
theorem alo:aG Tryz.prog 4 jK:=z4
theorem ajv:LawOk jK [(true,[.str,.str]),(true,[.sl .pack]),(false,[.int .i64])]:=pure_FnExactDiskTear
theorem alA:ownKnob Tryz.prog.godebug=none:=by kernel_rfl
theorem laidOut:laidOutB Tryz.prog=true:=by kernel_rfl
def HR(P:Program):List TypeId->Bool
 |[]=>true
 |t::b'=>P.readableRec t&&decide (t<P.types.size)&&HR P b'
theorem OL{P:Program}:∀{b':List TypeId},HR P b'=true->∀t,t∈b'->P.readableRec t=true/\t<P.types.size
 |[],_,t,h=>by cases h
 |u::b',hb,t,h=>by
  simp only[HR,Bool.and_eq_true,decide_eq_true_eq] at hb;rcases List.mem_cons.1 h with rfl|h
  ·exact hb.1
  ·exact OL hb.2 t h
theorem agV(os:Os)(started:os.Started)(H:Type)(enc:TypeId×Value->H):
  ReturnsInHanded {} Tryz.checked os 4 .any (fun w args=>(Rows.fnExactDiskTearSpec.pre enc Tryz.prog Tryz.f4 Rows.fnExactDiskTearRow.domain false w args/\laidMetH Tryz.prog Rows.fnExactDiskTearRow.laid w)/\sizedMet enc Tryz.prog Tryz.f4 (OpenSpec.ofChange Rows.fnExactDiskTearSpec) false w args)
   (Rows.fnExactDiskTearSpec.post enc Tryz.prog Tryz.f4 false true false false):=by
 refine returnsInHanded_of_change_and (C:=Tryz.checked) (X:=fun w _=>laidMetH Tryz.prog Rows.fnExactDiskTearRow.laid w) (fun _ _ _ bP h=>h.of_heap bP) alA started (by kernel_rfl) Tryz.func4
  (ChangeSpec.witness_shaped (enc:=enc) (C:=Tryz.checked) (os:=os) (X:=fun w _=>laidMetH Tryz.prog Rows.fnExactDiskTearRow.laid w) false (World.laidAll Tryz.prog os Rows.fnExactDiskTearRow.laid) #[.agg #[.string ⟨#[]⟩,.string ⟨#[]⟩],.agg #[.slice none 0 0],.int .i64 0] 8 (World.laidAll_os _ _ _)
   (World.shaped_of_ZipB (by kernel_rfl) (by kernel_rfl)) (by kernel_rfl) (by kernel_rfl) (by kernel_rfl)
   (by rw[MakeChecks.laidMetH_plain _ _ _ (by kernel_rfl)];exact laidMet_laidAll _ (by kernel_rfl) (by kernel_rfl))) ?_
 intro W base args ds gs before iG hW _ _ gq _;rw[MakeChecks.laidMetH_plain _ _ _ (by kernel_rfl)] at gq
 have hG:mW W:=⟨OR (g:=0) (name:= "loop.example/jackstay/impl.sumRounds") (t:=202) (e:=153) (n:=64) (k:=.u32) (zs:=il) (i:=4) (by kernel_rfl) (by kernel_rfl) (by kernel_rfl) (by kernel_rfl) (by kernel_rfl) (by kernel_rfl) (by kernel_rfl) gq,OR (g:=1) (name:= "internal/strconv.uint64pow10") (t:=244) (e:=155) (n:=20) (k:=.u64) (zs:=Su) (i:=2) (by kernel_rfl) (by kernel_rfl) (by kernel_rfl) (by kernel_rfl) (by kernel_rfl) (by kernel_rfl) (by kernel_rfl) gq⟩
 exact _q (tt:=tt) (m:=8) alo (fun vs w=>enters_of Tryz.func4 (by kernel_rfl) rfl _ _) laidOut (OL (by kernel_rfl)) (by kernel_rfl) Tryz.underlying4 (by kernel_rfl)
  (fun ds gs hl hg=>by
   have hl:ds.length=3:=hl;have hg:gs.length=1:=hg;match ds,hl,gs,hg with
   |[d0,d1,d2],_,[eI],_=>rfl) (by kernel_rfl) ajv W hG base args ds gs before iG hW
theorem apt:(Rows.fnExactDiskTearRow.inPlace==Tryz.prog.inPlace 4)=true:=by kernel_rfl
theorem aps:(Rows.fnExactDiskTearRow.unfollowed==Tryz.prog.unfollowed 4)=true:=by kernel_rfl
theorem apr:(Rows.fnExactDiskTearRow.recurses==Tryz.prog.recurses 4)=true:=by kernel_rfl
theorem apq:(Rows.fnExactDiskTearRow.named==Tryz.prog.varsNamed 4)=true:=by kernel_rfl
theorem app:joinedFacts Tryz.prog 4 Tryz.f4 Rows.fnExactDiskTearSpec Rows.fnExactDiskTearRow=true:=by
 unfold joinedFacts;rw[apt,aps,apr,apq];kernel_rfl
theorem ajp:Rows.FnExactDiskTearSaid:=
 OpenClaim.holds_of_wide 4 Tryz.f4 rfl rfl rfl rfl rfl rfl rfl ⟨rfl,rfl,rfl,rfl,rfl⟩ rfl rfl rfl rfl rfl (by kernel_rfl) Tryz.func4 app
  (of_decide_eq_true (by kernel_rfl)) (by unfold Func.isWrapper;first|(rw[if_pos (by decide+kernel)];kernel_rfl)|(rw[if_neg (by decide+kernel)];exact⟨rfl,rfl⟩))
  (fun os started H enc _=>agV os started H enc)
theorem ail(f:FuncId)(fn:Func)(hf:Tryz.pinned.checked.prog.funcNamed "loop.example/jackstay/laws.FnExactDiskTear" =some f)(mV:Tryz.pinned.checked.prog.funcs[f]? =some fn):
  false=Tryz.pinned.checked.prog.looks []/\∀(j:Nat) t,fn.params[j]? =some t->Tryz.pinned.checked.prog.wantsStandIn t=false:=by
 obtain rfl:f=4:=Option.some.inj ((show Tryz.prog.funcNamed "loop.example/jackstay/laws.FnExactDiskTear" =some 4 by kernel_rfl).symm.trans hf)|>.symm
 obtain rfl:fn=Tryz.f4:=(Option.some.inj (Tryz.func4.symm.trans mV)).symm;refine⟨by kernel_rfl,fun j t aq=>?_⟩
 have mJ:(Tryz.f4.params.toList.all fun u=>!Tryz.prog.wantsStandIn u)=true:=by kernel_rfl
 have:=List.all_eq_true.1 mJ t (by simpa using Array.mem_of_getElem? aq)
 exact(by simpa using this:Tryz.prog.wantsStandIn t=false)
theorem aoQ:Rows.fnExactDiskTearRow.wfByText (OpenSpec.ofChange Rows.fnExactDiskTearSpec)=true:=by kernel_rfl
theorem aoP:Tryz.pinned.checked.prog.mainIs=some (true,"26491b4d873e425b8e265eef29283a84e270e5a9df0a23225c96562809e221f4".toList):=by kernel_rfl
theorem aoO:false=Rows.fnExactDiskTearRow.goesBy Tryz.pinned.checked.prog:=by kernel_rfl
theorem card4:Rows.FnExactDiskTearCardSaid:=
 Claim7.holds_tied_plain_at (p:=Tryz.pinned) (s:=OpenSpec.ofChange Rows.fnExactDiskTearSpec) (c:=Rows.fnExactDiskTearRow) .later [] [.data,.data,.data,.data,.data,.pinned] true (true,"26491b4d873e425b8e265eef29283a84e270e5a9df0a23225c96562809e221f4") false ajp (fun _ h=>by cases h) aoQ (fun _ h=>by cases h) fnExactDiskTear_row_tie rfl ⟨rfl,rfl⟩ aoP rfl ail aoO
end Go.Proofs.YthhecoidfjkmeaaGreatDoor
