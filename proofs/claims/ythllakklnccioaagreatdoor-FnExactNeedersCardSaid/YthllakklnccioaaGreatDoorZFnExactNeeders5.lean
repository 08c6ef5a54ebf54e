/- For all packs and each name, the program's Needers returns what the reference's returns: names of the packs that need it, at first or through others, ascending; its answer is memory of its own. (part 6 of 6: JnQLaw4) Conditions: none beyond the statement. -/
import Derived.Test.YthllakklnccioaaGreatDoorZFnExactNeeders4
import Derived.Test.YthllakklnccioaaGreatDoorCards
import Derived.Test.YthllakklnccioaaGreatDoorTie
import Derived.Lay
import Derived.LaidMore
import Derived.SevenTiedAt
import Derived.Stop.Joined
import Derived.Shelf.Abstract
set_option maxRecDepth 100000
set_option linter.unusedVariables false
namespace Go.Proofs.YthllakklnccioaaGreatDoor
open Go.Jk Go.ChangeShapes Go.WideShapes Go.ChangeAt Go.RowKit
theorem _J:bu Tryz.prog 4 jd:=z4
theorem Zo:LawOk jd [(false,[.sl .pack]),(false,[.str])]:=pure_FnExactNeeders
theorem _P:ownKnob Tryz.prog.godebug=none:=by kernel_rfl
theorem laidOut:laidOutB Tryz.prog=true:=by kernel_rfl
def C'(P:Program):List TypeId->Bool
 |[]=>true
 |t::c_=>P.readableRec t&&decide (t<P.types.size)&&C' P c_
theorem Ie{P:Program}:∀{c_:List TypeId},C' P c_=true->∀t,t∈c_->P.readableRec t=true/\t<P.types.size
 |[],_,t,h=>by cases h
 |u::c_,hb,t,h=>by
  simp only[C',Bool.and_eq_true,decide_eq_true_eq] at hb;rcases List.mem_cons.1 h with rfl|h
  ·exact hb.1
  ·exact Ie hb.2 t h
theorem Xv(os:Os)(started:os.Started)(az:Type)(enc:TypeId×Value->az):
  ReturnsInHanded {} Tryz.checked os 4 .any (fun w args=>(Rows.fnExactNeedersSpec.pre enc Tryz.prog Tryz.f4 Rows.fnExactNeedersRow.domain false w args/\laidMetH Tryz.prog Rows.fnExactNeedersRow.laid w)/\sizedMet enc Tryz.prog Tryz.f4 (OpenSpec.ofChange Rows.fnExactNeedersSpec) false w args)
   (Rows.fnExactNeedersSpec.post enc Tryz.prog Tryz.f4 false true false false):=by
 refine returnsInHanded_of_change_and (C:=Tryz.checked) (X:=fun w _=>laidMetH Tryz.prog Rows.fnExactNeedersRow.laid w) (fun _ _ _ b6 h=>h.of_heap b6) _P started (by kernel_rfl) Tryz.func4
  (ChangeSpec.witness_shaped (enc:=enc) (C:=Tryz.checked) (os:=os) (X:=fun w _=>laidMetH Tryz.prog Rows.fnExactNeedersRow.laid w) false (World.laidAll Tryz.prog os Rows.fnExactNeedersRow.laid) #[.slice none 0 0,.string ⟨#[]⟩] 8 (World.laidAll_os _ _ _)
   (World.shaped_of_ZipB (by kernel_rfl) (by kernel_rfl)) (by kernel_rfl) (by kernel_rfl) (by kernel_rfl)
   (by rw[MakeChecks.laidMetH_plain _ _ _ (by kernel_rfl)];exact laidMet_laidAll _ (by kernel_rfl) (by kernel_rfl))) ?_
 intro W base args ds gs before iv j5 _ _ hP _;rw[MakeChecks.laidMetH_plain _ _ _ (by kernel_rfl)] at hP
 have ja:oG W:=trivial;exact Ri (tt:=tt) (m:=8) _J (fun vs w=>enters_of Tryz.func4 (by kernel_rfl) rfl _ _) laidOut (Ie (by kernel_rfl)) (by kernel_rfl) Tryz.underlying4 (by kernel_rfl)
  (fun ds gs hl aJ=>by
   have hl:ds.length=2:=hl;have aJ:gs.length=0:=aJ;match ds,hl,gs,aJ with
   |[d0,d1],_,[],_=>rfl) (by kernel_rfl) Zo W ja base args ds gs before iv j5
theorem acw:(Rows.fnExactNeedersRow.inPlace==Tryz.prog.inPlace 4)=true:=by kernel_rfl
theorem acv:(Rows.fnExactNeedersRow.unfollowed==Tryz.prog.unfollowed 4)=true:=by kernel_rfl
theorem acu:(Rows.fnExactNeedersRow.recurses==Tryz.prog.recurses 4)=true:=by kernel_rfl
theorem acs:(Rows.fnExactNeedersRow.named==Tryz.prog.varsNamed 4)=true:=by kernel_rfl
theorem acr:joinedFacts Tryz.prog 4 Tryz.f4 Rows.fnExactNeedersSpec Rows.fnExactNeedersRow=true:=by
 unfold joinedFacts;rw[acw,acv,acu,acs];kernel_rfl
theorem Zl:Rows.FnExactNeedersSaid:=
 OpenClaim.holds_of_wide 4 Tryz.f4 rfl rfl rfl rfl rfl rfl rfl ⟨rfl,rfl,rfl,rfl,rfl⟩ rfl rfl rfl rfl rfl (by kernel_rfl) Tryz.func4 acr
  (of_decide_eq_true (by kernel_rfl)) (by unfold Func.isWrapper;first|(rw[if_pos (by decide+kernel)];kernel_rfl)|(rw[if_neg (by decide+kernel)];exact⟨rfl,rfl⟩))
  (fun os started az enc _=>Xv os started az enc)
theorem YG(f:FuncId)(fn:Func)(hf:Tryz.pinned.checked.prog.funcNamed "loop.example/jackstay/laws.FnExactNeeders" =some f)(lc:Tryz.pinned.checked.prog.funcs[f]? =some fn):
  false=Tryz.pinned.checked.prog.looks []/\∀(j:Nat) t,fn.params[j]? =some t->Tryz.pinned.checked.prog.wantsStandIn t=false:=by
 obtain rfl:f=4:=Option.some.inj ((show Tryz.prog.funcNamed "loop.example/jackstay/laws.FnExactNeeders" =some 4 by kernel_rfl).symm.trans hf)|>.symm
 obtain rfl:fn=Tryz.f4:=(Option.some.inj (Tryz.func4.symm.trans lc)).symm;refine⟨by kernel_rfl,fun j t aC=>?_⟩
 have iR:(Tryz.f4.params.toList.all fun u=>!Tryz.prog.wantsStandIn u)=true:=by kernel_rfl
 have:=List.all_eq_true.1 iR t (by simpa using Array.mem_of_getElem? aC)
 exact(by simpa using this:Tryz.prog.wantsStandIn t=false)
theorem abX:Rows.fnExactNeedersRow.wfByText (OpenSpec.ofChange Rows.fnExactNeedersSpec)=true:=by kernel_rfl
theorem abW:Tryz.pinned.checked.prog.mainIs=some (true,"5946f37c541407e64879668c936bc88f72ba3b57e26f9e49bbd15b4718069d7a".toList):=by kernel_rfl
theorem abV:false=Rows.fnExactNeedersRow.goesBy Tryz.pinned.checked.prog:=by kernel_rfl
theorem card4:Rows.FnExactNeedersCardSaid:=
 Claim7.holds_tied_plain_at (p:=Tryz.pinned) (s:=OpenSpec.ofChange Rows.fnExactNeedersSpec) (c:=Rows.fnExactNeedersRow) .later [] [.data,.pinned] true (true,"5946f37c541407e64879668c936bc88f72ba3b57e26f9e49bbd15b4718069d7a") false Zl (fun _ h=>by cases h) abX (fun _ h=>by cases h) fnExactNeeders_row_tie rfl ⟨rfl,rfl⟩ abW rfl YG abV
end Go.Proofs.YthllakklnccioaaGreatDoor
