/- FnRootText: decoding a root inverts encoding. (part 6 of 7: JkKF126, JkKF127, JkKPuGq, JkKF76, JkKPuGr, JkKF39, JkKF12, JkKPuGs, JkKF34, JkKPuPc, JkKF186, JkKF134, JkKF187, JkKF135, JkKF188, JkKF136, JkKF189, JkKF137, JkKF190, JkKF138, JkKF191, JkKF139, JkKF82) Conditions: none beyond the statement. -/
import Derived.Test.YthhecoidfjkmeaaGreatDoorZFnRootText4
import Derived.Tactics
import Derived.Deep.RegionLaw
import Derived.Shelf.Abstract
import Derived.Test.YthhecoidfjkmeaaGreatDoorProg
import Derived.KernelRfl
set_option linter.unusedSimpArgs false
set_option maxRecDepth 100000
set_option linter.unusedVariables false
namespace Go.Proofs
open Go.Jk
noncomputable abbrev auS:a_:=[(73,p0),(179,_n)]
theorem w6:aQ O (aW ad auS):=aV ⟨ri,arS,⟨⟩⟩
abbrev OI:Shape:=⟨[ay 2 2 0,ay 5 5 0,ba 6 3000384,aj 7,ag 8,ba 9 3000576],[bp 5000130 .need 2 2,bp 5000131 .entry 2 3,ax 2 [ah,ah,.own 5000130,.own 5000131],bp 5000322 .need 5 2,bp 5000323 .entry 5 3,ax 5 [ah,ah,.own 5000322,.own 5000323],a' 3000384 .str 6 0,a' 3000576 .str 9 0],118⟩
abbrev OB:List aP:=[(.norm,⟨[ay 2 2 0,ay 5 5 0,ba 6 3000384,aj 7,ag 8,ba 9 3000576,ao 52],[bp 5000130 .need 2 2,bp 5000131 .entry 2 3,ax 2 [ah,ah,.own 5000130,.own 5000131],bp 5000322 .need 5 2,bp 5000323 .entry 5 3,ax 5 [ah,ah,.own 5000322,.own 5000323],a' 3000384 .str 6 0,a' 3000576 .str 9 0],118⟩)]
noncomputable def lg(y:OI.J):Option (aB OB):=
 bif(y.1.2.2.2.2.1==(1:Int)) then
(be y.2.2.2.2.2.2.2.2.1.length (0:Int)).bind fun a=>
(y.2.2.2.2.2.2.2.2.1[a]?).bind fun b=>
 bif(b==([112,97,99,107]:B)) then
 some (((),(),(),y.1.2.2.2.1,y.1.2.2.2.2.1,(),((y.2.2.2.2.2.2.2.2.1.length:Int)==(3:Int)),()),y.2.1,y.2.2.1,(y.2.2.2.1.1,y.2.2.2.1.2.1,(),(),()),y.2.2.2.2.1,y.2.2.2.2.2.1,(y.2.2.2.2.2.2.1.1,y.2.2.2.2.2.2.1.2.1,(),(),()),y.2.2.2.2.2.2.2.1,y.2.2.2.2.2.2.2.2.1,())
else
 some (((),(),(),y.1.2.2.2.1,y.1.2.2.2.2.1,(),false,()),y.2.1,y.2.2.1,(y.2.2.2.1.1,y.2.2.2.1.2.1,(),(),()),y.2.2.2.2.1,y.2.2.2.2.2.1,(y.2.2.2.2.2.2.1.1,y.2.2.2.2.2.2.1.2.1,(),(),()),y.2.2.2.2.2.2.2.1,y.2.2.2.2.2.2.2.2.1,())
else
 some (((),(),(),y.1.2.2.2.1,y.1.2.2.2.2.1,(),false,()),y.2.1,y.2.2.1,(y.2.2.2.1.1,y.2.2.2.1.2.1,(),(),()),y.2.2.2.2.1,y.2.2.2.2.2.1,(y.2.2.2.2.2.2.1.1,y.2.2.2.2.2.2.1.2.1,(),(),()),y.2.2.2.2.2.2.2.1,y.2.2.2.2.2.2.2.2.1,())
theorem afM:aS O (am (c4 (am (codeOf Tryz.f126) 1 250)) 500 128156) (aU OI OB lg):=cd w6 (by kernel_rfl) ae fun y=>by kernel_rfl
abbrev OH:Shape:=⟨[ay 2 2 0,ay 5 5 0,ba 6 3000384,aj 7,ag 8,ba 9 3000576],[bp 5000130 .need 2 2,bp 5000131 .entry 2 3,ax 2 [ah,ah,.own 5000130,.own 5000131],bp 5000322 .need 5 2,bp 5000323 .entry 5 3,ax 5 [ah,ah,.own 5000322,.own 5000323],a' 3000384 .str 6 0,a' 3000576 .str 9 0],118⟩
abbrev OA:List aP:=[(.norm,⟨[ay 2 2 0,ay 5 5 0,ba 6 3000384,aj 7,ag 8,ba 9 3000576,ao 74],[bp 5000130 .need 2 2,bp 5000131 .entry 2 3,ax 2 [ah,ah,.own 5000130,.own 5000131],bp 5000322 .need 5 2,bp 5000323 .entry 5 3,ax 5 [ah,ah,.own 5000322,.own 5000323],a' 3000384 .str 6 0,a' 3000576 .str 9 0],118⟩)]
noncomputable def l1(y:OH.J):Option (aB OA):=
 bif(decide (y.1.2.2.2.2.1>(1:Int))) then
(be y.2.2.2.2.2.2.2.1.length y.1.2.2.2.2.1).bind fun a=>
(y.2.2.2.2.2.2.2.1[a]?).bind fun b=>
 some (((),(),(),y.1.2.2.2.1,y.1.2.2.2.2.1,(),(b==([]:B)),()),y.2.1,y.2.2.1,(y.2.2.2.1.1,y.2.2.2.1.2.1,(),(),()),y.2.2.2.2.1,y.2.2.2.2.2.1,(y.2.2.2.2.2.2.1.1,y.2.2.2.2.2.2.1.2.1,(),(),()),y.2.2.2.2.2.2.2.1,y.2.2.2.2.2.2.2.2.1,())
else
 some (((),(),(),y.1.2.2.2.1,y.1.2.2.2.2.1,(),false,()),y.2.1,y.2.2.1,(y.2.2.2.1.1,y.2.2.2.1.2.1,(),(),()),y.2.2.2.2.1,y.2.2.2.2.2.1,(y.2.2.2.2.2.2.1.1,y.2.2.2.2.2.2.1.2.1,(),(),()),y.2.2.2.2.2.2.2.1,y.2.2.2.2.2.2.2.2.1,())
theorem afL:aS O (am (c4 (am (codeOf Tryz.f126) 1 250)) 500 512630) (aU OH OA l1):=cd w6 (by kernel_rfl) ae fun y=>by kernel_rfl
abbrev Oh:Shape:=⟨[ay 2 2 0,ay 5 5 0,ba 6 3000384,aj 7,ag 8,ba 9 3000576],[bp 5000130 .need 2 2,bp 5000131 .entry 2 3,ax 2 [ah,ah,.own 5000130,.own 5000131],bp 5000322 .need 5 2,bp 5000323 .entry 5 3,ax 5 [ah,ah,.own 5000322,.own 5000323],a' 3000384 .str 6 0,a' 3000576 .str 9 0],118⟩
abbrev Of:List aP:=[(.norm,⟨[ay 2 2 0,ay 5 5 0,ba 6 3000384,aj 7,ag 8,ba 9 3000576,ao 86],[bp 5000130 .need 2 2,bp 5000131 .entry 2 3,ax 2 [ah,ah,.own 5000130,.own 5000131],bp 5000322 .need 5 2,bp 5000323 .entry 5 3,ax 5 [ah,ah,.own 5000322,.own 5000323],a' 3000384 .str 6 0,a' 3000576 .str 9 0],118⟩)]
noncomputable def nQ(y:Oh.J):Option (aB Of):=
 bif(decide (y.1.2.2.2.2.1>(1:Int))) then
(be y.2.2.2.2.2.2.2.2.1.length (0:Int)).bind fun a=>
(y.2.2.2.2.2.2.2.2.1[a]?).bind fun b=>
 bif(b==([110,101,101,100]:B)) then
 some (((),(),(),y.1.2.2.2.1,y.1.2.2.2.2.1,(),((y.2.2.2.2.2.2.2.2.1.length:Int)==(2:Int)),()),y.2.1,y.2.2.1,(y.2.2.2.1.1,y.2.2.2.1.2.1,(),(),()),y.2.2.2.2.1,y.2.2.2.2.2.1,(y.2.2.2.2.2.2.1.1,y.2.2.2.2.2.2.1.2.1,(),(),()),y.2.2.2.2.2.2.2.1,y.2.2.2.2.2.2.2.2.1,())
else
 some (((),(),(),y.1.2.2.2.1,y.1.2.2.2.2.1,(),false,()),y.2.1,y.2.2.1,(y.2.2.2.1.1,y.2.2.2.1.2.1,(),(),()),y.2.2.2.2.1,y.2.2.2.2.2.1,(y.2.2.2.2.2.2.1.1,y.2.2.2.2.2.2.1.2.1,(),(),()),y.2.2.2.2.2.2.2.1,y.2.2.2.2.2.2.2.2.1,())
else
 some (((),(),(),y.1.2.2.2.1,y.1.2.2.2.2.1,(),false,()),y.2.1,y.2.2.1,(y.2.2.2.1.1,y.2.2.2.1.2.1,(),(),()),y.2.2.2.2.1,y.2.2.2.2.2.1,(y.2.2.2.2.2.2.1.1,y.2.2.2.2.2.2.1.2.1,(),(),()),y.2.2.2.2.2.2.2.1,y.2.2.2.2.2.2.2.2.1,())
theorem ae3:aS O (am (c4 (am (codeOf Tryz.f126) 1 250)) 500 2050526) (aU Oh Of nQ):=cd w6 (by kernel_rfl) ae fun y=>by kernel_rfl
abbrev vg:Shape:=⟨[ay 2 2 0,ay 5 5 0,ba 6 3000384,aj 7,ag 8],[bp 5000130 .need 2 2,bp 5000131 .entry 2 3,ax 2 [ah,ah,.own 5000130,.own 5000131],bp 5000322 .need 5 2,bp 5000323 .entry 5 3,ax 5 [ah,ah,.own 5000322,.own 5000323],a' 3000384 .str 6 0],118⟩
abbrev zb:List aP:=[(.ret,⟨[ay 2 2 0,aj 3,ao 4],[bp 5000130 .need 2 2,bp 5000131 .entry 2 3,ax 2 [ah,ah,.own 5000130,.own 5000131]],118⟩),(.exit 0,⟨[ay 2 2 0,ay 5 5 0],[bp 5000130 .need 2 2,bp 5000131 .entry 2 3,ax 2 [ah,ah,.own 5000130,.own 5000131],bp 5000322 .need 5 2,bp 5000323 .entry 5 3,ax 5 [ah,ah,.own 5000322,.own 5000323]],118⟩)]
noncomputable def hM(y:vg.J):bG vg zb:=
 bif(decide (y.1.2.2.2.2.1<(y.2.2.2.2.2.2.2.1.length:Int))) then
 bif(decide (y.1.2.2.2.2.1<=(8:Int))) then
(be y.2.2.2.2.2.2.2.1.length y.1.2.2.2.2.1).bind fun a=>
(y.2.2.2.2.2.2.2.1[a]?).bind fun b=>
(f73 ((b,(32:Int),(2:Int),()),())).bind fun c=>
(be y.2.2.2.2.2.2.2.1.length y.1.2.2.2.2.1).bind fun d=>
(y.2.2.2.2.2.2.2.1[d]?).bind fun e=>
 bif(decide ((y.1.2.2.2.1.length:Int)<(IntKind.i64.wrap ((e.length:Int)+(1:Int))))) then
 some (.inr (.inl (((),([]:B),false,()),y.2.2.2.2.1,y.2.2.2.2.2.1,(y.2.2.2.2.2.2.1.1,y.2.2.2.2.2.2.1.2.1,(),(),()),())))
else
(be y.2.2.2.2.2.2.2.1.length y.1.2.2.2.2.1).bind fun f=>
(y.2.2.2.2.2.2.2.1[f]?).bind fun g=>
(bm y.1.2.2.2.1 (IntKind.i64.wrap ((g.length:Int)+(1:Int))) (y.1.2.2.2.1.length:Int)).bind fun h=>
(lg (((),(),(),h,y.1.2.2.2.2.1,(),()),y.2.1,y.2.2.1,(y.2.2.2.1.1,y.2.2.2.1.2.1,(),(),()),y.2.2.2.2.1,y.2.2.2.2.2.1,(y.2.2.2.2.2.2.1.1,y.2.2.2.2.2.2.1.2.1,(),(),()),y.2.2.2.2.2.2.2.1,c.2.1,())).bind fun i=>
 bif i.1.2.2.2.2.2.2.1 then
(be i.2.2.2.2.2.2.2.2.1.length (1:Int)).bind fun j=>
(i.2.2.2.2.2.2.2.2.1[j]?).bind fun k=>
(be i.2.2.2.2.2.2.2.2.1.length (2:Int)).bind fun l=>
(i.2.2.2.2.2.2.2.2.1[l]?).bind fun m=>
 some (.inl (((),(),(),i.1.2.2.2.1,(IntKind.i64.wrap (i.1.2.2.2.2.1+(1:Int))),()),i.2.1,i.2.2.1,(i.2.2.2.1.1,i.2.2.2.1.2.1,(),(),()),i.2.2.2.2.1,i.2.2.2.2.2.1,(k,m,(),(),()),i.2.2.2.2.2.2.2.1,()))
else
(l1 (((),(),(),i.1.2.2.2.1,i.1.2.2.2.2.1,(),()),i.2.1,i.2.2.1,(i.2.2.2.1.1,i.2.2.2.1.2.1,(),(),()),i.2.2.2.2.1,i.2.2.2.2.2.1,(i.2.2.2.2.2.2.1.1,i.2.2.2.2.2.2.1.2.1,(),(),()),i.2.2.2.2.2.2.2.1,i.2.2.2.2.2.2.2.2.1,())).bind fun n=>
 bif n.1.2.2.2.2.2.2.1 then
 some (.inr (.inl (((),n.1.2.2.2.1,true,()),n.2.2.2.2.1,n.2.2.2.2.2.1,(n.2.2.2.2.2.2.1.1,n.2.2.2.2.2.2.1.2.1,(),(),()),())))
else
(nQ (((),(),(),n.1.2.2.2.1,n.1.2.2.2.2.1,(),()),n.2.1,n.2.2.1,(n.2.2.2.1.1,n.2.2.2.1.2.1,(),(),()),n.2.2.2.2.1,n.2.2.2.2.2.1,(n.2.2.2.2.2.2.1.1,n.2.2.2.2.2.2.1.2.1,(),(),()),n.2.2.2.2.2.2.2.1,n.2.2.2.2.2.2.2.2.1,())).bind fun D=>
 bif D.1.2.2.2.2.2.2.1 then
(be D.2.2.2.2.2.2.2.2.1.length (1:Int)).bind fun p=>
(D.2.2.2.2.2.2.2.2.1[p]?).bind fun q=>
(f179 ((q,()),())).bind fun r=>
(b9 40 D.2.2.2.2.1 ([(bv.mk r.2.1.1 r.2.1.2.1 r.2.1.2.2.1)]:List bv)).bind fun s=>
 some (.inl (((),(),(),D.1.2.2.2.1,(IntKind.i64.wrap (D.1.2.2.2.2.1+(1:Int))),()),D.2.1,D.2.2.1,(D.2.2.2.1.1,D.2.2.2.1.2.1,(),(),()),s,D.2.2.2.2.2.1,(D.2.2.2.2.2.2.1.1,D.2.2.2.2.2.2.1.2.1,(),(),()),D.2.2.2.2.2.2.2.1,()))
else
 bif(decide (D.1.2.2.2.2.1>(0:Int))) then
 some (.inr (.inl (((),([]:B),false,()),D.2.2.2.2.1,D.2.2.2.2.2.1,(D.2.2.2.2.2.2.1.1,D.2.2.2.2.2.2.1.2.1,(),(),()),())))
else
 some (.inl (((),(),(),D.1.2.2.2.1,(IntKind.i64.wrap (D.1.2.2.2.2.1+(1:Int))),()),D.2.1,D.2.2.1,(D.2.2.2.1.1,D.2.2.2.1.2.1,(),(),()),D.2.2.2.2.1,D.2.2.2.2.2.1,(D.2.2.2.2.2.2.1.1,D.2.2.2.2.2.2.1.2.1,(),(),()),D.2.2.2.2.2.2.2.1,()))
else
 some (.inr (.inr (((),(),()),y.2.1,y.2.2.1,(y.2.2.2.1.1,y.2.2.2.1.2.1,(),(),()),y.2.2.2.2.1,y.2.2.2.2.2.1,(y.2.2.2.2.2.2.1.1,y.2.2.2.2.2.2.1.2.1,(),(),()),())))
else
 some (.inr (.inr (((),(),()),y.2.1,y.2.2.1,(y.2.2.2.1.1,y.2.2.2.1.2.1,(),(),()),y.2.2.2.2.1,y.2.2.2.2.2.1,(y.2.2.2.2.2.2.1.1,y.2.2.2.2.2.2.1.2.1,(),(),()),())))
noncomputable def ll:vg.J->Option (aB zb):=br hM
theorem akj:aS O (am (codeOf Tryz.f126) 1 250) (aU vg zb ll):=bH w6 (by kernel_rfl) (a7 afM (a7 afL (a7 ae3 ae))) fun y=>by kernel_rfl
abbrev i126:Shape:=⟨[aj 0],[],118⟩
abbrev KB:Shape:=⟨[ay 2 2 0,aj 3,ao 4],[bp 5000130 .need 2 2,bp 5000131 .entry 2 3,ax 2 [ah,ah,.own 5000130,.own 5000131]],118⟩
noncomputable def f126(a:i126.J):Option KB.J:=
(f73 ((a.1.1,(10:Int),(IntKind.i64.wrap ((a.1.1.length:Int)+(1:Int))),()),())).bind fun b=>
(ll (((),(),(),a.1.1,(0:Int),()),([]:List bv),([]:List aw),(([]:B),([]:B),(),(),()),([]:List bv),([]:List aw),(([]:B),([]:B),(),(),()),b.2.1,())).bind fun c=>
(match c with
|.inl d=>
 some (((),d.1.2.1,d.1.2.2.1,()),d.2.1,d.2.2.1,(d.2.2.2.1.1,d.2.2.2.1.2.1,(),(),()),())
|.inr e=>
 some (((),([]:B),false,()),e.2.2.2.2.1,e.2.2.2.2.2.1,(e.2.2.2.2.2.2.1.1,e.2.2.2.2.2.2.1.2.1,(),(),()),()))
noncomputable def _T:aD:=aG ad Tryz.f126 i126 KB [] f126
theorem asb:aA O 126 _T:=aK w6 Tryz.func126 (by kernel_rfl) (a7 akj ae) (fun y=>by kernel_rfl) fun a=>by kernel_rfl
noncomputable abbrev auR:a_:=[(90,xP),(180,_m),(181,Li)]
theorem aas:aQ O (aW ad auR):=aV ⟨Dt,arR,W3,⟨⟩⟩
abbrev AB:Shape:=⟨[aj 0,ba 4 3000256,aj 5],[a' 3000256 .entry 4 0],41⟩
abbrev HW:List aP:=[(.ret,⟨[ba 2 3000128,ao 3],[a' 3000128 .entry 2 0],41⟩),(.exit 0,⟨[aj 0,ba 4 3000256],[a' 3000256 .entry 4 0],41⟩)]
noncomputable def qJ(y:AB.J):bG AB HW:=
 bif(!(y.1.2.2.1==([]:B))) then
 bif(decide ((y.2.1.length:Int)<=(16:Int))) then
(f180 ((y.1.2.2.1,()),())).bind fun a=>
 bif(!a.1.2.2.1) then
 some (.inr (.inl (((),false,()),y.2.1,())))
else
(b9 48 y.2.1 ([(aw.mk a.2.1.1 a.2.1.2.1 a.2.1.2.2.1 a.2.1.2.2.2.1)]:List aw)).bind fun b=>
 some (.inl ((y.1.1,(),a.1.2.1,()),b,()))
else
 some (.inr (.inr ((y.1.1,(),()),y.2.1,())))
else
 some (.inr (.inr ((y.1.1,(),()),y.2.1,())))
noncomputable def vA:AB.J->Option (aB HW):=br qJ
theorem amA:aS O (am (codeOf Tryz.f127) 1 60) (aU AB HW vA):=bH aas (by kernel_rfl) ae fun y=>by kernel_rfl
abbrev i127:Shape:=⟨[aj 0],[],41⟩
abbrev YO:Shape:=⟨[ba 2 3000128,ao 3],[a' 3000128 .entry 2 0],41⟩
noncomputable def f127(a:i127.J):Option YO.J:=
(vA ((a.1.1,(),a.1.1,()),([]:List aw),())).bind fun b=>
(match b with
|.inl c=>
 some (((),c.1.2.1,()),c.2.1,())
|.inr d=>
(f90 ((d.2.1,()),())).bind fun e=>
 bif e.1.1 then
(f181 ((d.2.1,()),())).bind fun f=>
 some (((),(f.1.1==d.1.1),()),d.2.1,())
else
 some (((),false,()),d.2.1,()))
noncomputable def _S:aD:=aG ad Tryz.f127 i127 YO [] f127
theorem z127:aA O 127 _S:=aK aas Tryz.func127 (by kernel_rfl) (a7 amA ae) (fun y=>by kernel_rfl) fun a=>by kernel_rfl
theorem aoK(s:B):∀(m:Nat) (r:B) (t:List aw),r.length<=m->m<=2000000->t.length<=17->pL 2000000 t->
  ∃ns:List aw,ns.length<=17/\pL 2000000 ns/\(vA ((s,((),(r,()))),(t,()))=some (.inr ((s,((),())),(ns,())))\/vA ((s,((),(r,()))),(t,()))=some (.inl (((),(false,())),(ns,())))):=by
 intro m;induction m with
 |zero=>
  intro r t hs _ au ha;have:r=[]:=List.length_eq_zero_iff.1 (by omega)
  subst this;exact⟨t,au,ha,.inl (cp rfl)⟩
 |succ m ih=>
  intro r t hs hm au ha;cases r with
  |nil=>exact⟨t,au,ha,.inl (cp rfl)⟩
  |cons b r0=>
   have hne:((b::r0)==([]:B))=false:=rfl;generalize eI:b::r0=r at hs hne;by_cases xK:t.length<=16
   ·have d:decide (((t.length:Nat):Int)<=16)=true:=decide_eq_true (by omega)
    obtain⟨eH,e,h1,h2⟩:=Q4 r (by omega)
    cases hr:nu r with
    |none=>
     rw[hr] at h1;refine⟨t,au,ha,.inr (cp ?_)⟩;simp only[qJ,hne,Bool.not_false,cond_true,d,h1,Option.bind_some,Option.isSome_none]
    |some q=>
     have az:=h2 q hr;subst az;rw[hr] at h1;obtain⟨dQ,fy,uH⟩:=S2 hr;have fo:b9 48 t ([(aw.mk e.path e.kind e.mode e.text)]:List aw)=some (t++[e]):=dh (by decide) (by unfold ar;simp;omega)
     have st:qJ ((s,((),(r,()))),(t,()))=some (.inl ((s,((),(eH,()))),(t++[e],()))):=by
      simp only[qJ,hne,Bool.not_false,cond_true,d,h1,Option.bind_some,Option.isSome_some,Bool.not_true,cond_false,fo]
     obtain⟨ns,g1,g2,g3⟩:=ih eH (t++[e]) (by omega) (by omega) (by simp;omega) (fun x hx=>by
      rcases List.mem_append.1 hx with hx|hx
      ·exact ha x hx
      ·rw[List.mem_singleton.1 hx];exact⟨by omega,by omega⟩)
     exact⟨ns,g1,g2,g3.imp (dN st).trans (dN st).trans⟩
   ·have d:decide (((t.length:Nat):Int)<=16)=false:=decide_eq_false (by omega)
    refine⟨t,au,ha,.inl (cp ?_)⟩;simp only[qJ,hne,Bool.not_false,cond_true,d,cond_false]
theorem aoJ(s:B):∀(ci t:List aw),(∀e,e∈ci->eN e=true)->t.length+ci.length<=16->(da ci).length<=2000000->
  vA ((s,((),(da ci,()))),(t,()))=some (.inr ((s,((),())),(t++ci,()))):=by
 intro ci;induction ci with
 |nil=>intro t _ _ _;rw[List.append_nil];exact cp rfl
 |cons e ci ih=>
  intro t h au hl;have he:=h e List.mem_cons_self;have hr:=alB he (da ci);have hE:da (e::ci)=dZ e++da ci:=by unfold da;rw[List.flatMap_cons]
  rw[hE] at hl ⊢;have hlen:=(S2 hr).2.2;have hne:((dZ e++da ci)==([]:B))=false:=by
   cases hx:dZ e++da ci with
   |nil=>rw[hx] at hlen;simp at hlen
   |cons b r=>rfl
  obtain⟨r,cI,h1,h2⟩:=Q4 (dZ e++da ci) hl;have az:=h2 _ hr;simp only[Prod.mk.injEq] at az;obtain⟨rfl,rfl⟩:=az;rw[hr] at h1;have d:decide (((t.length:Nat):Int)<=16)=true:=decide_eq_true (by omega)
  have fo:b9 48 t ([(aw.mk e.path e.kind e.mode e.text)]:List aw)=some (t++[e]):=dh (by decide) (by unfold ar;simp;simp at au;omega)
  have st:qJ ((s,((),(dZ e++da ci,()))),(t,()))=some (.inl ((s,((),(da ci,()))),(t++[e],()))):=by
   simp only[qJ,hne,Bool.not_false,cond_true,d,h1,Option.bind_some,Option.isSome_some,Bool.not_true,cond_false,fo]
  have:=ih (t++[e]) (fun x hx=>h x (List.mem_cons_of_mem _ hx)) (by simp at au ⊢;omega) (by omega)
  rw[List.append_assoc] at this;exact(dN st).trans this
theorem TR{t:List aw}(hl:t.length<=17)(h:pL 2000000 t):iq t:=⟨by show t.length<=2097152;omega,fun e he=>by have:=h e he;exact⟨by show e.path.length<=2097152;omega,by show e.text.length<=2097152;omega⟩⟩
theorem ad8(s:B)(hs:s.length<=2000000):∃(ok:Bool) (t:List aw),f127 ((s,()),())=some (((),(ok,())),(t,()))/\t.length<=17/\pL 2000000 t:=by
 obtain⟨ns,g1,g2,g3⟩:=aoK s s.length s [] (Nat.le_refl _) hs (by decide) (fun x hx=>by cases hx)
 rcases g3 with g3|g3
 ·have hb:=TR g1 g2;have au:=vd ((ns,()),()) hb;have au:f90 ((ns,()),())=some ((dB ns,()),()):=au;cases hk:dB ns with
  |false=>
   rw[hk] at au;exact⟨false,ns,by simp only[f127,g3,Option.bind_some,au,cond_false],g1,g2⟩
  |true=>
   rw[hk] at au;have hl:=Fi ns (qj hk) hb (jG hk);exact⟨_,ns,by simp only[f127,g3,Option.bind_some,au,cond_true,hl];rfl,g1,g2⟩
 ·exact⟨false,ns,by simp only[f127,g3,Option.bind_some],g1,g2⟩
theorem ad7(t:List aw)(h:dB t=true)(hs:(da t).length<=2000000)(hb:iq t):
  f127 ((da t,()),())=some (((),(true,())),(t,())):=by
 have g1:=aoJ (da t) t [] (uW h) (by have:=jG h;simpa using this) hs
 have au:=vd ((t,()),()) hb;have au:f90 ((t,()),())=some ((dB t,()),()):=au;rw[h] at au;have hl:=Fi t (qj h) hb (jG h);simp only[f127,g1,List.nil_append,Option.bind_some,au,cond_true,hl,beq_self_eq_true]
theorem aiu{n:bv}(h:dC n=true):b' 32 (cK n):=by
 obtain⟨h1,h2⟩:=yl h;have hs:b' 32 (dO n.kind):=by unfold dO;cases n.kind==1<;>cases n.kind==2<;>cases n.kind==3<;>exact b'.lit (by decide)
 refine((Xe h1).cY hs).cY ?_
 rcases h2 with⟨_,h2⟩|⟨_,h2⟩
 ·rw[h2];exact b'.nil _
 ·exact W8 h2
abbrev ic(rest:B)(i:Int)(ns:List bv)(bN vs:B)(lines:List B):vg.J:=(((),((),((),(rest,(i,()))))),(([]:List bv),(([]:List aw),((([]:B),(([]:B),((),((),())))),(ns,(([]:List aw),((bN,(vs,((),((),())))),(lines,()))))))))
abbrev qc(r:B)(ok:Bool)(ns:List bv)(bN vs:B):KB.J:=(((),(r,(ok,()))),(ns,(([]:List aw),((bN,(vs,((),((),())))),()))))
abbrev NU(ns:List bv)(bN vs:B):aB zb:=.inr (((),((),())),(([]:List bv),(([]:List aw),((([]:B),(([]:B),((),((),())))),(ns,(([]:List aw),((bN,(vs,((),((),())))),())))))))
abbrev qd(k:Nat)(r:B)(ns:List bv)(bN vs:B):Prop:=r.length<=k/\ns.length<=9/\tS k ns/\bN.length<=k/\vs.length<=k
theorem aoH(K:Nat)(bT:K<=2000000)(lines:List B)(dR:∀x,x∈lines->x.length<=K):∀(k i:Nat) (rest:B) (ns:List bv) (bN vs:B),k+i=9->rest.length<=K->ns.length<=i->tS K ns->bN.length<=K->vs.length<=K->
  ∃(r:B) (ok:Bool) (kQ:List bv) (kR cv:B),qd K r kQ kR cv/\(ll (ic rest (i:Int) ns bN vs lines)=some (.inl (qc r ok kQ kR cv))\/ll (ic rest (i:Int) ns bN vs lines)=some (NU kQ kR cv)):=by
 intro k;induction k with
 |zero=>
  intro i rest ns bN vs hi hr hn ha h1 h2;refine⟨[],false,ns,bN,vs,⟨Nat.zero_le _,by omega,ha,h1,h2⟩,.inr (cp ?_)⟩
  have d:decide ((i:Int)<=8)=false:=decide_eq_false (by omega)
  simp only[hM,d,cond_false];cases decide ((i:Int)<(lines.length:Int))<;>rfl
 |succ k ih=>
  intro i rest ns bN vs hi hr hn ha h1 h2;have d:decide ((i:Int)<=8)=true:=decide_eq_true (by omega)
  by_cases hlt:i<lines.length
  ·have hx:lines[i]? =some lines[i]:=List.getElem?_eq_getElem hlt;have hxl:=dR _ (List.getElem_mem hlt);generalize lines[i]=x at hx hxl;have hin:be lines.length (i:Int)=some i:=ft hlt;have hw1:IntKind.i64.wrap (((x.length:Nat):Int)+1)=((x.length+1:Nat):Int):=bU (by unfold ar;omega)
   have kS:IntKind.i64.wrap (((i:Nat):Int)+1)=((i+1:Nat):Int):=bU (by unfold ar;omega)
   have c2:=l2 32 x (by omega) 2
   have c2:f73 ((x,((32:Int),((2:Int),()))),())=_:=c2;have hm:=qf 32 2 x;have hp:=O_ 32 2 x;generalize splitN 32 2 x=ws at c2 hm hp;obtain⟨U,more,rfl⟩:∃U more,ws=U::more:=by
    cases ws with
    |nil=>exact absurd hp (by decide)
    |cons a b=>exact⟨a,b,rfl⟩
   have hI:be (U::more).length (0:Int)=some 0:=L8 (by simp)
   have dE:(U::more)[0]? =some U:=rfl;by_cases hlen:rest.length<x.length+1
   ·have jE:decide (((rest.length:Nat):Int)<((x.length+1:Nat):Int))=true:=decide_eq_true (by omega)
    refine⟨[],false,ns,bN,vs,⟨Nat.zero_le _,by omega,ha,h1,h2⟩,.inl (cp ?_)⟩
    simp only[hM,ce hlt,d,cond_true,hin,Option.bind_some,hx,c2,hw1,jE]
   ·have jE:decide (((rest.length:Nat):Int)<((x.length+1:Nat):Int))=false:=decide_eq_false (by omega)
    have hs:bm rest ((x.length+1:Nat):Int) ((rest.length:Nat):Int)=some (rest.drop (x.length+1)):=fc (by omega)
    have my:(rest.drop (x.length+1)).length<=K:=by simp;omega
    generalize rest.drop (x.length+1)=r1 at hs my;have go:∀(xk:List bv) (DG xb:B),xk.length<=i+1->tS K xk->DG.length<=K->xb.length<=K->hM (ic rest (i:Int) ns bN vs lines)=some (.inl (ic r1 ((i+1:Nat):Int) xk DG xb lines))->
      ∃(r:B) (ok:Bool) (kQ:List bv) (kR cv:B),qd K r kQ kR cv/\(ll (ic rest (i:Int) ns bN vs lines)=some (.inl (qc r ok kQ kR cv))\/ll (ic rest (i:Int) ns bN vs lines)=some (NU kQ kR cv)):=by
     intro xk DG xb q1 q2 dF mK Em;obtain⟨r,ok,kQ,kR,cv,b,e⟩:=ih (i+1) r1 xk DG xb (by omega) my q1 q2 dF mK
     exact⟨r,ok,kQ,kR,cv,b,e.imp (dN Em).trans (dN Em).trans⟩
    have stop:∀(r:B) (ok:Bool),r.length<=K->hM (ic rest (i:Int) ns bN vs lines)=some (.inr (.inl (qc r ok ns bN vs)))->
      ∃(r:B) (ok:Bool) (kQ:List bv) (kR cv:B),qd K r kQ kR cv/\(ll (ic rest (i:Int) ns bN vs lines)=some (.inl (qc r ok kQ kR cv))\/ll (ic rest (i:Int) ns bN vs lines)=some (NU kQ kR cv)):=
     fun r ok q1 q2=>⟨r,ok,ns,bN,vs,⟨q1,by omega,ha,h1,h2⟩,.inl (cp q2)⟩
    match i,hn,hi,hin,kS,hlt,hx,d,go,stop,ih with
    |0,hn,hi,hin,kS,hlt,hx,d,go,stop,ih=>
     refine go ns bN vs (by omega) ha h1 h2 ?_
     have t1:((((0:Nat):Int))==1)=false:=rfl;have t2:decide ((((0:Nat):Int))>1)=false:=rfl;have t3:decide ((((0:Nat):Int))>0)=false:=rfl;simp only[hM,ce hlt,d,cond_true,hin,Option.bind_some,hx,c2,hw1,jE,cond_false,hs,lg,t1,l1,t2,nQ,t3,kS]
    |1,hn,hi,hin,kS,hlt,hx,d,go,stop,ih=>
     have t1:((((1:Nat):Int))==1)=true:=rfl;have t2:decide ((((1:Nat):Int))>1)=false:=rfl;have t3:decide ((((1:Nat):Int))>0)=true:=rfl;cases hc:(U==([112,97,99,107]:B))&&(((U::more).length:Int)==3) with
     |true=>
      rw[Bool.and_eq_true] at hc;obtain⟨aY,w2,rfl⟩:∃aY w2,more=[aY,w2]:=by
       have:more.length=2:=by have:=eq_of_beq hc.2;simp at this;omega
       match more,this with
       |[a,b],_=>exact⟨a,b,rfl⟩
      refine go ns aY w2 (by omega) ha (by have:=hm aY (by simp);omega) (by have:=hm w2 (by simp);omega) ?_
      have lV:be ([U,aY,w2]:List B).length (1:Int)=some 1:=rfl;have p_:be ([U,aY,w2]:List B).length (2:Int)=some 2:=rfl;have cH:([U,aY,w2]:List B)[1]? =some aY:=rfl;have dm:([U,aY,w2]:List B)[2]? =some w2:=rfl;simp only[hM,ce hlt,d,cond_true,hin,Option.bind_some,hx,c2,hw1,jE,cond_false,hs,lg,t1,hI,dE,hc.1,hc.2,lV,p_,cH,dm,kS]
     |false=>
      refine stop [] false (Nat.zero_le _) ?_
      simp only[hM,ce hlt,d,cond_true,hin,Option.bind_some,hx,c2,hw1,jE,cond_false,hs,lg,t1,hI,dE];cases bk:U==([112,97,99,107]:B) with
      |false=>simp only[cond_false,Option.bind_some,l1,t2,nQ,t3,cond_true]
      |true=>
       rw[bk,Bool.true_and] at hc;simp only[cond_true,hc,cond_false,Option.bind_some,l1,t2,nQ,t3]
    |j+2,hn,hi,hin,kS,hlt,hx,d,go,stop,ih=>
     have t1:((((j+2:Nat):Int))==1)=false:=by rw[beq_eq_false_iff_ne];omega
     have t2:decide ((((j+2:Nat):Int))>1)=true:=decide_eq_true (by omega)
     have t3:decide ((((j+2:Nat):Int))>0)=true:=decide_eq_true (by omega)
     cases hxe:x==([]:B) with
     |true=>
      refine stop r1 true my ?_
      simp only[hM,ce hlt,d,cond_true,hin,Option.bind_some,hx,c2,hw1,jE,cond_false,hs,lg,t1,l1,t2,hxe]
     |false=>
      cases hc:(U==([110,101,101,100]:B))&&(((U::more).length:Int)==2) with
      |true=>
       rw[Bool.and_eq_true] at hc;obtain⟨aY,rfl⟩:∃aY,more=[aY]:=by
        have:more.length=1:=by have:=eq_of_beq hc.2;simp at this;omega
        match more,this with
        |[a],_=>exact⟨a,rfl⟩
       have aBI:=hm aY (by simp)
       obtain⟨n,ok,e1,e2,bC⟩:=afp aY (by omega)
       have fo:b9 40 ns ([(bv.mk n.name n.kind n.aX)]:List bv)=some (ns++[n]):=dh (by decide) (by unfold ar;simp;omega)
       refine go (ns++[n]) bN vs (by simp;omega) (fun z hz=>by
        rcases List.mem_append.1 hz with hz|hz
        ·exact ha z hz
        ·rw[List.mem_singleton.1 hz];exact⟨by omega,by omega⟩) h1 h2 ?_
       have lV:be ([U,aY]:List B).length (1:Int)=some 1:=rfl;have cH:([U,aY]:List B)[1]? =some aY:=rfl;simp only[hM,ce hlt,d,cond_true,hin,Option.bind_some,hx,c2,hw1,jE,cond_false,hs,lg,t1,l1,t2,hxe,nQ,hI,dE,hc.1,hc.2,lV,cH,e1,fo,kS]
      |false=>
       refine stop [] false (Nat.zero_le _) ?_
       simp only[hM,ce hlt,d,cond_true,hin,Option.bind_some,hx,c2,hw1,jE,cond_false,hs,lg,t1,l1,t2,hxe,nQ,hI,dE];cases bk:U==([110,101,101,100]:B) with
       |false=>simp only[cond_false,Option.bind_some,t3,cond_true]
       |true=>
        rw[bk,Bool.true_and] at hc;simp only[cond_true,hc,cond_false,Option.bind_some,t3]
  ·have aAL:decide ((i:Int)<(lines.length:Int))=false:=decide_eq_false (by omega)
   refine⟨[],false,ns,bN,vs,⟨Nat.zero_le _,by omega,ha,h1,h2⟩,.inr (cp ?_)⟩
   simp only[hM,aAL,cond_false]
theorem aeK(s:B)(hs:s.length<=2000000):∃(r:B) (ok:Bool) (ns:List bv) (bN vs:B),f126 ((s,()),())=some (qc r ok ns bN vs)/\qd s.length r ns bN vs:=by
 have hw:IntKind.i64.wrap (((s.length:Nat):Int)+1)=((s.length+1:Nat):Int):=bU (by unfold ar;omega)
 have c1:=l2 10 s (by omega) (s.length+1)
 have c1:f73 ((s,((10:Int),(((s.length+1:Nat):Int),()))),())=_:=c1;obtain⟨r,ok,ns,bN,vs,hb,e⟩:=aoH s.length hs (splitN 10 (s.length+1) s) (qf 10 _ s) 9 0 s [] [] [] rfl (Nat.le_refl _) (Nat.zero_le _) (fun x hx=>by cases hx) (Nat.zero_le _) (Nat.zero_le _)
 rcases e with e|e
 ·have e:ll (ic s (0:Int) [] [] [] (splitN 10 (s.length+1) s))=_:=e;refine⟨r,ok,ns,bN,vs,?_,hb⟩;simp only[f126,hw,c1,Option.bind_some,e]
 ·have e:ll (ic s (0:Int) [] [] [] (splitN 10 (s.length+1) s))=_:=e;refine⟨[],false,ns,bN,vs,?_,⟨Nat.zero_le _,hb.2⟩⟩;simp only[f126,hw,c1,Option.bind_some,e]
noncomputable abbrev ay9:a_:=[(50,Ea),(123,Lr),(126,_T),(127,_S)]
theorem Nd:aQ O (aW ad ay9):=aV ⟨LK,W7,asb,z127,⟨⟩⟩
abbrev Uf:Shape:=⟨[aj 0,ay 2 2 0,ay 4 4 0,aj 5,ao 6],[bp 5000130 .need 2 2,bp 5000131 .entry 2 3,ax 2 [ah,ah,.own 5000130,.own 5000131],bp 5000258 .need 4 2,bp 5000259 .entry 4 3,ax 4 [ah,ah,.own 5000258,.own 5000259]],45⟩
abbrev T5:List aP:=[(.norm,⟨[aj 0,ay 2 2 0,ay 4 4 0,aj 5,ao 21],[bp 5000130 .need 2 2,bp 5000131 .entry 2 3,ax 2 [ah,ah,.own 5000130,.own 5000131],bp 5000258 .need 4 2,bp 5000259 .entry 4 3,ax 4 [ah,ah,.own 5000258,.own 5000259]],45⟩)]
noncomputable def oc(y:Uf.J):Option (aB T5):=
 bif(!(!y.1.2.2.2.2.1)) then
 some ((y.1.1,(),(),y.1.2.2.2.1,(decide ((y.1.1.length:Int)>(4000:Int))),()),y.2.1,y.2.2.1,(y.2.2.2.1.1,y.2.2.2.1.2.1,(),(),()),y.2.2.2.2.1,y.2.2.2.2.2.1,(y.2.2.2.2.2.2.1.1,y.2.2.2.2.2.2.1.2.1,(),(),()),())
else
 some ((y.1.1,(),(),y.1.2.2.2.1,true,()),y.2.1,y.2.2.1,(y.2.2.2.1.1,y.2.2.2.1.2.1,(),(),()),y.2.2.2.2.1,y.2.2.2.2.2.1,(y.2.2.2.2.2.2.1.1,y.2.2.2.2.2.2.1.2.1,(),(),()),())
theorem aof:aS O (am (codeOf Tryz.f76) 1 28) (aU Uf T5 oc):=cd Nd (by kernel_rfl) ae fun y=>by kernel_rfl
abbrev SK:Shape:=⟨[aj 0,ay 2 2 0,ay 4 4 0,ao 8],[bp 5000130 .need 2 2,bp 5000131 .entry 2 3,ax 2 [ah,ah,.own 5000130,.own 5000131],bp 5000258 .need 4 2,bp 5000259 .entry 4 3,ax 4 [ah,ah,.own 5000258,.own 5000259]],45⟩
abbrev So:List aP:=[(.norm,⟨[ay 2 2 0,ay 4 4 0,ao 42],[bp 5000130 .need 2 2,bp 5000131 .entry 2 3,ax 2 [ah,ah,.own 5000130,.own 5000131],bp 5000258 .need 4 2,bp 5000259 .entry 4 3,ax 4 [ah,ah,.own 5000258,.own 5000259]],45⟩)]
noncomputable def qH(y:SK.J):Option (aB So):=
 bif(!(!y.1.2.2.2.1)) then
(f50 (((y.2.2.2.2.2.2.1.1,y.2.2.2.2.2.2.1.2.1,y.2.2.2.2.1,y.2.2.2.2.2.1,()),()),())).bind fun a=>
 bif(!(!a.1.1)) then
(f123 (((y.2.2.2.2.2.2.1.1,y.2.2.2.2.2.2.1.2.1,y.2.2.2.2.1,y.2.2.2.2.2.1,()),()),())).bind fun b=>
 some (((),(),(!(b.1.1==y.1.1)),()),y.2.1,y.2.2.1,(y.2.2.2.1.1,y.2.2.2.1.2.1,(),(),()),y.2.2.2.2.1,y.2.2.2.2.2.1,(y.2.2.2.2.2.2.1.1,y.2.2.2.2.2.2.1.2.1,(),(),()),())
else
 some (((),(),true,()),y.2.1,y.2.2.1,(y.2.2.2.1.1,y.2.2.2.1.2.1,(),(),()),y.2.2.2.2.1,y.2.2.2.2.2.1,(y.2.2.2.2.2.2.1.1,y.2.2.2.2.2.2.1.2.1,(),(),()),())
else
 some (((),(),true,()),y.2.1,y.2.2.1,(y.2.2.2.1.1,y.2.2.2.1.2.1,(),(),()),y.2.2.2.2.1,y.2.2.2.2.2.1,(y.2.2.2.2.2.2.1.1,y.2.2.2.2.2.2.1.2.1,(),(),()),())
theorem alH:aS O (am (codeOf Tryz.f76) 1 252) (aU SK So qH):=cd Nd (by kernel_rfl) ae fun y=>by kernel_rfl
abbrev i76:Shape:=⟨[aj 0],[],45⟩
abbrev xg:Shape:=⟨[ay 2 2 0,ao 3],[bp 5000130 .need 2 2,bp 5000131 .entry 2 3,ax 2 [ah,ah,.own 5000130,.own 5000131]],45⟩
noncomputable def f76(a:i76.J):Option xg.J:=
(f126 ((a.1.1,()),())).bind fun b=>
(oc ((a.1.1,(),(),b.1.2.1,b.1.2.2.1,()),([]:List bv),([]:List aw),(([]:B),([]:B),(),(),()),b.2.1,b.2.2.1,(b.2.2.2.1.1,b.2.2.2.1.2.1,(),(),()),())).bind fun c=>
 bif c.1.2.2.2.2.1 then
 some (((),false,()),([]:List bv),([]:List aw),(([]:B),([]:B),(),(),()),())
else
(f127 ((c.1.2.2.2.1,()),())).bind fun d=>
(qH ((c.1.1,(),(),d.1.2.1,()),c.2.1,c.2.2.1,(c.2.2.2.1.1,c.2.2.2.1.2.1,(),(),()),c.2.2.2.2.1,d.2.1,(c.2.2.2.2.2.2.1.1,c.2.2.2.2.2.2.1.2.1,(),(),()),())).bind fun e=>
 bif e.1.2.2.1 then
 some (((),false,()),([]:List bv),([]:List aw),(([]:B),([]:B),(),(),()),())
else
 some (((),true,()),e.2.2.2.2.1,e.2.2.2.2.2.1,(e.2.2.2.2.2.2.1.1,e.2.2.2.2.2.2.1.2.1,(),(),()),())
noncomputable def acD:aD:=aG ad Tryz.f76 i76 xg [] f76
theorem z76:aA O 76 acD:=aK Nd Tryz.func76 (by kernel_rfl) (a7 aof (a7 alH ae)) (fun y=>by kernel_rfl) fun a=>by kernel_rfl
def eo(n:bv):B:=fL++32::cK n
theorem aoS{n:bv}(h:dC n=true):b' 10 (eo n):=(b'.lit (by decide)).cY fun z hz=>by
 rcases List.mem_cons.1 hz with rfl|hz
 ·decide
 ·exact S3 h z hz
theorem RM(n:bv)(r:B):cz n++r=eo n++10::r:=by unfold cz eo fL;simp
theorem aoG:∀(ns acc:List bv) (pre more:List B) (L bN vs:B),(∀n,n∈ns->dC n=true)->2<=pre.length->acc.length<=pre.length->pre.length+ns.length<=8->(ns.flatMap cz++10::L).length<=2000000->
  ll (ic (ns.flatMap cz++10::L) (pre.length:Int) acc bN vs (pre++(ns.map eo++[]::more)))=some (.inl (qc L true (acc++ns) bN vs)):=by
 intro ns;induction ns with
 |nil=>
  intro acc pre more L bN vs _ hp _ hi hs;have hlt:pre.length<(pre++(([]:List bv).map eo++[]::more)).length:=by simp
  have hx:(pre++(([]:List bv).map eo++[]::more))[pre.length]? =some []:=by rw[List.getElem?_append_right (Nat.le_refl _)];simp
  have hin:=ft hlt;have d:decide ((pre.length:Int)<=8)=true:=decide_eq_true (by simp at hi;omega)
  have c2:=l2 32 [] (by simp) 2
  have c2:f73 ((([]:B),((32:Int),((2:Int),()))),())=some (((),()),([[]],())):=c2;have hw1:IntKind.i64.wrap (((([]:B).length:Nat):Int)+1)=((1:Nat):Int):=by decide
  have jE:decide (((((10:UInt8)::L).length:Nat):Int)<((1:Nat):Int))=false:=decide_eq_false (by simp only[List.length_cons];omega)
  have jy:bm ((10:UInt8)::L) ((1:Nat):Int) ((((10:UInt8)::L).length:Nat):Int)=some L:=fc (xs:=(10:UInt8)::L) (by simp)
  have t1:((pre.length:Int)==1)=false:=by rw[beq_eq_false_iff_ne];omega
  have t2:decide ((pre.length:Int)>1)=true:=decide_eq_true (by omega)
  have hxe:(([]:B)==([]:B))=true:=rfl;rw[List.append_nil];refine cp ?_
  show hM (ic (10::L) (pre.length:Int) acc bN vs _)=_;simp only[hM,ce hlt,d,cond_true,hin,Option.bind_some,hx,c2,hw1,jE,cond_false,jy,lg,t1,l1,t2,hxe]
 |cons n ns ih=>
  intro acc pre more L bN vs h hp ha hi hs;have hk:=h n List.mem_cons_self;have hE:(n::ns).flatMap cz++10::L=eo n++10::(ns.flatMap cz++10::L):=by rw[List.flatMap_cons,List.append_assoc,RM]
  rw[hE] at hs ⊢;have hR:pre++((n::ns).map eo++[]::more)=(pre++[eo n])++(ns.map eo++[]::more):=by simp
  have hlt:pre.length<(pre++((n::ns).map eo++[]::more)).length:=by simp
  have hx:(pre++((n::ns).map eo++[]::more))[pre.length]? =some (eo n):=by rw[List.getElem?_append_right (Nat.le_refl _)];simp
  have hin:=ft hlt;have aB8:(eo n).length=fL.length+1+(cK n).length:=by unfold eo;simp;omega
  simp only[List.length_append,List.length_cons] at hs hi;have d:decide ((pre.length:Int)<=8)=true:=decide_eq_true (by omega)
  have rm:splitN 32 2 (eo n)=[fL,cK n]:=by
   have hn:b' 32 fL:=b'.lit (by decide)
   unfold eo;rw[O' hn,P6 (aiu hk)]
  have c2:=l2 32 (eo n) (by omega) 2
  rw[rm] at c2;have c2:f73 ((eo n,((32:Int),((2:Int),()))),())=some (((),()),([fL,cK n],())):=c2;have hw1:IntKind.i64.wrap ((((eo n).length:Nat):Int)+1)=(((eo n).length+1:Nat):Int):=bU (by unfold ar;omega)
  have kS:IntKind.i64.wrap (((pre.length:Nat):Int)+1)=((pre.length+1:Nat):Int):=bU (by unfold ar;omega)
  have jE:decide ((((eo n++10::(ns.flatMap cz++10::L)).length:Nat):Int)<(((eo n).length+1:Nat):Int))=false:=decide_eq_false (by simp;omega)
  have jy:bm (eo n++10::(ns.flatMap cz++10::L)) (((eo n).length+1:Nat):Int) (((eo n++10::(ns.flatMap cz++10::L)).length:Nat):Int)=some (ns.flatMap cz++10::L):=by
   rw[fc (by simp only[List.length_append,List.length_cons];omega)]
   refine congrArg some ?_
   rw[show eo n++10::(ns.flatMap cz++10::L)=(eo n++[10])++(ns.flatMap cz++10::L) by simp,List.drop_left' (by simp)]
  have t1:((pre.length:Int)==1)=false:=by rw[beq_eq_false_iff_ne];omega
  have t2:decide ((pre.length:Int)>1)=true:=decide_eq_true (by omega)
  have hxe:(eo n==([]:B))=false:=rfl;have hI:be ([fL,cK n]:List B).length (0:Int)=some 0:=rfl;have lV:be ([fL,cK n]:List B).length (1:Int)=some 1:=rfl;have dE:([fL,cK n]:List B)[0]? =some fL:=rfl;have cH:([fL,cK n]:List B)[1]? =some (cK n):=rfl;have q0:(fL==([110,101,101,100]:B))=true:=rfl;have q2:((([fL,cK n]:List B).length:Int)==2)=true:=rfl;obtain⟨ok,e1⟩:=afo hk (by omega)
  have fo:b9 40 acc ([(bv.mk n.name n.kind n.aX)]:List bv)=some (acc++[n]):=dh (by decide) (by unfold ar;simp;omega)
  have st:hM (ic (eo n++10::(ns.flatMap cz++10::L)) (pre.length:Int) acc bN vs (pre++((n::ns).map eo++[]::more)))=some (.inl (ic (ns.flatMap cz++10::L) ((pre.length+1:Nat):Int) (acc++[n]) bN vs (pre++((n::ns).map eo++[]::more)))):=by
   simp only[hM,ce hlt,d,cond_true,hin,Option.bind_some,hx,c2,hw1,jE,cond_false,jy,lg,t1,l1,t2,hxe,nQ,hI,dE,q0,q2,lV,cH,e1,fo,kS]
  have:=ih (acc++[n]) (pre++[eo n]) more L bN vs (fun x hx=>h x (List.mem_cons_of_mem _ hx)) (by simp;omega) (by simp;omega) (by simp;omega) (by simp only[List.length_append,List.length_cons];omega)
  rw[<-hR,List.append_assoc] at this;have pP:(pre++[eo n]).length=pre.length+1:=by simp
  rw[pP] at this;exact(dN st).trans this
theorem afX(ns:List bv)(r:B)(h:∀n,n∈ns->dC n=true):bF 10 (ns.flatMap cz++10::r)=ns.map eo++[]::bF 10 r:=by
 induction ns with
 |nil=>exact si (a:=[]) (b'.nil 10)
 |cons n ns ih=>
  rw[List.flatMap_cons,List.append_assoc,RM,si (aoS (h n List.mem_cons_self)),ih fun x hx=>h x (List.mem_cons_of_mem _ hx)]
  rfl
theorem aly(p:aL):b' 10 (eO p):=(b'.lit (by decide)).cY (SD _)
theorem aeJ(p:aL)(hk:ch p=true)(hs:(bA p).length<=2000000):f126 ((bA p,()),())=some (qc (da p.bx) true p.bi p.name p.aX):=by
 have hw:IntKind.i64.wrap ((((bA p).length:Nat):Int)+1)=(((bA p).length+1:Nat):Int):=bU (by unfold ar;omega)
 have c1:=l2 10 (bA p) (by omega) ((bA p).length+1)
 obtain⟨h1,h2,h3,aC,_,ca⟩:=mQ hk;have j0:splitN 10 ((bA p).length+1) (bA p)=eO p::ea p::(p.bi.map eo++[]::bF 10 (da p.bx)):=by
  rw[yt 10 _ _ (by omega),vu,si (aly p),vk,si (RW hk),iQ,afX _ _ h3]
 rw[j0] at c1;have c1:f73 ((bA p,((10:Int),((((bA p).length+1:Nat):Int),()))),())=_:=c1;generalize aAE:p.bi.map eo++[]::bF 10 (da p.bx)=fb at c1;have Es:bA p=eO p++10::dt p:=vu p;have hB:dt p=ea p++10::iQ p:=vk p;have dQ:(bA p).length=(eO p).length+1+(dt p).length:=by rw[Es];simp;omega
 have fy:(dt p).length=(ea p).length+1+(iQ p).length:=by rw[hB];simp;omega
 have hlt:∀i,i<2->decide (((i:Nat):Int)<(((eO p::ea p::fb).length:Nat):Int))=true:=fun i hi=>decide_eq_true (by simp;omega)
 have i0:be (eO p::ea p::fb).length (0:Int)=some 0:=L8 (by simp)
 have i1:be (eO p::ea p::fb).length ((0+1:Nat):Int)=some 1:=L7 (by simp)
 have fa:(eO p::ea p::fb)[0]? =some (eO p):=rfl;have ei:(eO p::ea p::fb)[1]? =some (ea p):=rfl;have iw:hM (ic (bA p) (0:Int) [] [] [] (eO p::ea p::fb))=some (.inl (ic (dt p) ((0+1:Nat):Int) [] [] [] (eO p::ea p::fb))):=by
  have d:decide ((0:Int)<=8)=true:=rfl;have d0:decide ((0:Int)<(((eO p::ea p::fb).length:Nat):Int))=true:=hlt 0 (by decide)
  have c2:=l2 32 (eO p) (by omega) 2
  have c2:f73 ((eO p,((32:Int),((2:Int),()))),())=_:=c2;have hw1:IntKind.i64.wrap ((((eO p).length:Nat):Int)+1)=(((eO p).length+1:Nat):Int):=bU (by unfold ar;omega)
  have jE:decide ((((bA p).length:Nat):Int)<(((eO p).length+1:Nat):Int))=false:=decide_eq_false (by omega)
  have jy:bm (bA p) (((eO p).length+1:Nat):Int) (((bA p).length:Nat):Int)=some (dt p):=by
   rw[fc (by omega)]
   refine congrArg some ?_
   rw[Es,show eO p++10::dt p=(eO p++[10])++dt p by simp,List.drop_left' (by simp)]
  have t1:((0:Int)==1)=false:=rfl;have t2:decide ((0:Int)>1)=false:=rfl;have t3:decide ((0:Int)>0)=false:=rfl;have kS:IntKind.i64.wrap ((0:Int)+1)=((0+1:Nat):Int):=by decide
  simp only[hM,d0,d,cond_true,i0,Option.bind_some,fa,c2,hw1,jE,cond_false,jy,lg,t1,l1,t2,nQ,t3,kS]
 have s1:hM (ic (dt p) ((0+1:Nat):Int) [] [] [] (eO p::ea p::fb))=some (.inl (ic (iQ p) ((([eO p,ea p]:List B).length:Nat):Int) [] p.name p.aX (eO p::ea p::fb))):=by
  have d:decide (((0+1:Nat):Int)<=8)=true:=rfl;have d0:=hlt 1 (by decide)
  have d0:decide (((0+1:Nat):Int)<(((eO p::ea p::fb).length:Nat):Int))=true:=d0;have rm:splitN 32 2 (ea p)=[iB,p.name,p.aX]:=by
   rw[yu 32 2 _ (by rw[EV hk];exact Nat.le_refl 3),EV hk]
  have c2:=l2 32 (ea p) (by omega) 2
  rw[rm] at c2;have c2:f73 ((ea p,((32:Int),((2:Int),()))),())=some (((),()),([iB,p.name,p.aX],())):=c2;have hw1:IntKind.i64.wrap ((((ea p).length:Nat):Int)+1)=(((ea p).length+1:Nat):Int):=bU (by unfold ar;omega)
  have jE:decide ((((dt p).length:Nat):Int)<(((ea p).length+1:Nat):Int))=false:=decide_eq_false (by omega)
  have jy:bm (dt p) (((ea p).length+1:Nat):Int) (((dt p).length:Nat):Int)=some (iQ p):=by
   rw[fc (by omega)]
   refine congrArg some ?_
   rw[hB,show ea p++10::iQ p=(ea p++[10])++iQ p by simp,List.drop_left' (by simp)]
  have t1:(((0+1:Nat):Int)==1)=true:=rfl;have hI:be ([iB,p.name,p.aX]:List B).length (0:Int)=some 0:=rfl;have lV:be ([iB,p.name,p.aX]:List B).length (1:Int)=some 1:=rfl;have p_:be ([iB,p.name,p.aX]:List B).length (2:Int)=some 2:=rfl;have dE:([iB,p.name,p.aX]:List B)[0]? =some iB:=rfl;have cH:([iB,p.name,p.aX]:List B)[1]? =some p.name:=rfl;have dm:([iB,p.name,p.aX]:List B)[2]? =some p.aX:=rfl;have q0:(iB==([112,97,99,107]:B))=true:=rfl;have dF:((([iB,p.name,p.aX]:List B).length:Int)==3)=true:=rfl;have kS:IntKind.i64.wrap (((0+1:Nat):Int)+1)=((([eO p,ea p]:List B).length:Nat):Int):=by show IntKind.i64.wrap (((0+1:Nat):Int)+1)=((2:Nat):Int);decide
  simp only[hM,d0,d,cond_true,i1,Option.bind_some,ei,c2,hw1,jE,cond_false,jy,lg,t1,hI,dE,q0,dF,lV,p_,cH,dm,kS]
 have s2:=aoG p.bi [] [eO p,ea p] (bF 10 (da p.bx)) (da p.bx) p.name p.aX h3 (Nat.le_refl 2) (Nat.zero_le _) (by simp;omega) (by show(iQ p).length<=_;omega)
 rw[aAE] at s2;have e:ll (ic (bA p) (0:Int) [] [] [] (eO p::ea p::fb))=some (.inl (qc (da p.bx) true p.bi p.name p.aX)):=(dN iw).trans ((dN s1).trans s2);simp only[f126,hw,c1,Option.bind_some,e]
abbrev r_(p:aL):xg.J:=(((),(true,())),(p.bi,(p.bx,((p.name,(p.aX,((),((),())))),()))))
abbrev NP:xg.J:=(((),(false,())),(([]:List bv),(([]:List aw),((([]:B),(([]:B),((),((),())))),()))))
theorem apb{p q:aL}(h:r_ p=r_ q):p=q:=by
 obtain⟨a,b,c,d⟩:=p;obtain⟨cR,bI,fr,adH⟩:=q;simp only[r_,Prod.mk.injEq] at h;obtain⟨_,rfl,rfl,⟨rfl,rfl,_⟩,_⟩:=h;rfl
theorem EG{p:aL}(hk:ch p=true)(hl:(bA p).length<=4000):f76 ((bA p,()),())=some (r_ p):=by
 have hb:=Jo hk hl;obtain⟨h1,h2,h3,aC,_,ca⟩:=mQ hk;obtain⟨q1,q2,dF,mK⟩:=yA p;have c1:=aeJ p hk (by omega)
 have d:decide (((bA p).length:Int)>4000)=false:=decide_eq_false (by omega)
 have c2:=ad7 p.bx ca (by omega) hb.2.2.2
 have c3:=vf (((p.name,(p.aX,(p.bi,(p.bx,())))),()),()) hb;have c3:f50 (((p.name,(p.aX,(p.bi,(p.bx,())))),()),())=some ((ch p,()),()):=c3;rw[hk] at c3;have de:=He p hb hk;simp only[f76,c1,Option.bind_some,oc,Bool.not_true,Bool.not_false,cond_true,d,cond_false,c2,qH,c3,de,beq_self_eq_true]
theorem aen(s:B)(hs:s.length<=2000000):f76 ((s,()),())=some NP\/∃p:aL,f76 ((s,()),())=some (r_ p)/\ch p=true/\bA p=s/\s.length<=4000:=by
 obtain⟨r,ok,ns,bN,vs,c1,aE,aF,bJ,cB,fS⟩:=aeK s hs;cases ok with
 |false=>
  refine .inl ?_
  simp only[f76,c1,Option.bind_some,oc,Bool.not_true,Bool.not_false,cond_true,cond_false]
 |true=>
  by_cases hl:s.length<=4000
  ·have d:decide ((s.length:Int)>4000)=false:=decide_eq_false (by omega)
   obtain⟨LZ,t,c2,ix,p4⟩:=ad8 r (by omega)
   cases LZ with
   |false=>
    refine .inl ?_
    simp only[f76,c1,Option.bind_some,oc,Bool.not_true,Bool.not_false,cond_true,d,cond_false,c2,qH]
   |true=>
    have hb:jB ⟨bN,vs,ns,t⟩:=⟨by show bN.length<=2097152;omega,by show vs.length<=2097152;omega,⟨by show ns.length<=2097152;omega,fun n hn=>by have:=bJ n hn;exact⟨by show n.name.length<=2097152;omega,by show n.aX.length<=2097152;omega⟩⟩,TR ix p4⟩
    have c3:=vf (((bN,(vs,(ns,(t,())))),()),()) hb;have c3:f50 (((bN,(vs,(ns,(t,())))),()),())=some ((ch ⟨bN,vs,ns,t⟩,()),()):=c3;cases hk:ch ⟨bN,vs,ns,t⟩ with
    |false=>
     rw[hk] at c3;refine .inl ?_
     simp only[f76,c1,Option.bind_some,oc,Bool.not_true,Bool.not_false,cond_true,d,cond_false,c2,qH,c3]
    |true=>
     rw[hk] at c3;have de:=He ⟨bN,vs,ns,t⟩ hb hk;have de:f123 (((bN,(vs,(ns,(t,())))),()),())=_:=de;cases he:bA ⟨bN,vs,ns,t⟩==s with
     |false=>
      refine .inl ?_
      simp only[f76,c1,Option.bind_some,oc,Bool.not_true,Bool.not_false,cond_true,d,cond_false,c2,qH,c3,de,he]
     |true=>
      refine .inr ⟨⟨bN,vs,ns,t⟩,?_,hk,eq_of_beq he,hl⟩;simp only[f76,c1,Option.bind_some,oc,Bool.not_true,Bool.not_false,cond_true,d,cond_false,c2,qH,c3,de,he]
  ·have d:decide ((s.length:Int)>4000)=true:=decide_eq_true (by omega)
   refine .inl ?_
   simp only[f76,c1,Option.bind_some,oc,Bool.not_true,Bool.not_false,cond_true,d]
def aAP(D:Option aL):xg.J:=match D with|some p=>r_ p|none=>NP
theorem ahD(s:B)(hs:s.length<=2000000):∃D:Option aL,f76 ((s,()),())=some (aAP D)/\qQ D (abK s):=by
 rcases aen s hs with h|⟨p,h,h1,h2,h3⟩
 ·refine⟨none,h,fun p=>⟨fun hp=>(by cases hp),fun⟨q1,q2,dF⟩=>?_⟩⟩
  subst q2;have:=EG q1 dF;rw[h] at this;simp only[Option.some.injEq,Prod.mk.injEq] at this;exact absurd this.1.2.1 (by decide)
 ·refine⟨some p,h,fun q=>⟨fun hp=>?_,fun⟨q1,q2,dF⟩=>?_⟩⟩
  ·cases hp;exact⟨h1,h2,h3⟩
  ·subst q2;have:=EG q1 dF;rw[h] at this;rw[apb (Option.some.inj this)]
noncomputable abbrev azq:a_:=[(30,ux),(70,D_),(73,p0),(74,D9),(75,oL),(76,acD)]
theorem Ei:aQ O (aW ad azq):=aV ⟨w9,z70,ri,LI,z75,z76,⟨⟩⟩
abbrev Rv:Shape:=⟨[aj 0,ay 2 2 0,ay 4 4 0,ba 6 3000384,ag 7],[bp 5000128 .pack 2 0,ax 2 [.own 5000128],bp 5000256 .pack 4 0,ax 4 [.own 5000256],a' 3000384 .str 6 0],73⟩
abbrev Rc:List aP:=[(.norm,⟨[aj 0,ay 2 2 0,ay 4 4 0,ba 6 3000384,ag 7,ao 37],[bp 5000128 .pack 2 0,ax 2 [.own 5000128],bp 5000256 .pack 4 0,ax 4 [.own 5000256],a' 3000384 .str 6 0],73⟩)]
noncomputable def qv(y:Rv.J):Option (aB Rc):=
 bif(!(decide ((y.2.2.2.2.2.1.length:Int)<(2:Int)))) then
(be y.2.2.2.2.2.1.length (1:Int)).bind fun a=>
(y.2.2.2.2.2.1[a]?).bind fun b=>
(f75 ((y.1.2.2.2.2.1,(1:Int),(b.length:Int),()),())).bind fun c=>
 some ((y.1.1,(),(),(),y.1.2.2.2.2.1,(!c.1.1),()),y.2.1,((),()),y.2.2.2.1,((),()),y.2.2.2.2.2.1,())
else
 some ((y.1.1,(),(),(),y.1.2.2.2.2.1,true,()),y.2.1,((),()),y.2.2.2.1,((),()),y.2.2.2.2.2.1,())
theorem ajW:aS O (am (c4 (am (codeOf Tryz.f39) 1 60)) 120 7724) (aU Rv Rc qv):=cd Ei (by kernel_rfl) ae fun y=>by kernel_rfl
abbrev vO:Shape:=⟨[aj 0,ay 2 2 0,ay 4 4 0,aj 5],[bp 5000128 .pack 2 0,ax 2 [.own 5000128],bp 5000256 .pack 4 0,ax 4 [.own 5000256]],73⟩
abbrev Bv:List aP:=[(.ret,⟨[ay 2 2 0,ao 3],[bp 5000128 .pack 2 0,ax 2 [.own 5000128]],73⟩),(.exit 0,⟨[aj 0,ay 2 2 0,ay 4 4 0],[bp 5000128 .pack 2 0,ax 2 [.own 5000128],bp 5000256 .pack 4 0,ax 4 [.own 5000256]],73⟩)]
noncomputable def od(y:vO.J):bG vO Bv:=
 bif(!(y.1.2.2.2.1==([]:B))) then
 bif(decide ((y.2.2.2.1.length:Int)<=(5:Int))) then
(f73 ((y.1.2.2.2.1,(10:Int),(1:Int),()),())).bind fun a=>
(be a.2.1.length (0:Int)).bind fun b=>
(a.2.1[b]?).bind fun c=>
(f74 ((c,()),())).bind fun d=>
(qv ((y.1.1,(),(),(),d.1.1,()),y.2.1,((),()),y.2.2.2.1,((),()),a.2.1,())).bind fun e=>
 bif e.1.2.2.2.2.2.1 then
 some (.inr (.inl (((),false,()),([]:List aL),((),()),())))
else
(be e.2.2.2.2.2.1.length (1:Int)).bind fun f=>
(e.2.2.2.2.2.1[f]?).bind fun g=>
(bm g (0:Int) e.1.2.2.2.2.1).bind fun h=>
(f76 ((h,()),())).bind fun i=>
 bif(!i.1.2.1) then
 some (.inr (.inl (((),false,()),([]:List aL),((),()),())))
else
(b9 80 e.2.2.2.1 ([(aL.mk i.2.2.2.1.1 i.2.2.2.1.2.1 i.2.1 i.2.2.1)]:List aL)).bind fun j=>
(be e.2.2.2.2.2.1.length (1:Int)).bind fun k=>
(e.2.2.2.2.2.1[k]?).bind fun l=>
(bm l e.1.2.2.2.2.1 (l.length:Int)).bind fun m=>
 some (.inl ((e.1.1,(),(),m,()),e.2.1,((),()),j,((),()),()))
else
 some (.inr (.inr ((y.1.1,(),(),()),y.2.1,((),()),y.2.2.2.1,((),()),())))
else
 some (.inr (.inr ((y.1.1,(),(),()),y.2.1,((),()),y.2.2.2.1,((),()),())))
noncomputable def vS:vO.J->Option (aB Bv):=br od
theorem aot:aS O (am (codeOf Tryz.f39) 1 60) (aU vO Bv vS):=bH Ei (by kernel_rfl) (a7 ajW ae) fun y=>by kernel_rfl
abbrev SM:Shape:=⟨[aj 0,ay 2 2 0,ay 4 4 0],[bp 5000128 .pack 2 0,ax 2 [.own 5000128],bp 5000256 .pack 4 0,ax 4 [.own 5000256]],73⟩
abbrev Sq:List aP:=[(.norm,⟨[ay 2 2 0,ay 4 4 0,ao 70],[bp 5000128 .pack 2 0,ax 2 [.own 5000128],bp 5000256 .pack 4 0,ax 4 [.own 5000256]],73⟩)]
noncomputable def sM(y:SM.J):Option (aB Sq):=
(f30 (((y.2.2.2.1,()),()),())).bind fun a=>
 bif(!(!a.1.1)) then
(f70 (((y.2.2.2.1,()),()),())).bind fun b=>
 some (((),(),(!(b.1.1==y.1.1)),()),y.2.1,((),()),y.2.2.2.1,((),()),())
else
 some (((),(),true,()),y.2.1,((),()),y.2.2.2.1,((),()),())
theorem alN:aS O (am (codeOf Tryz.f39) 1 124) (aU SM Sq sM):=cd Ei (by kernel_rfl) ae fun y=>by kernel_rfl
abbrev i39:Shape:=⟨[aj 0],[],73⟩
abbrev xi:Shape:=⟨[ay 2 2 0,ao 3],[bp 5000128 .pack 2 0,ax 2 [.own 5000128]],73⟩
noncomputable def f39(a:i39.J):Option xi.J:=
(vS ((a.1.1,(),(),a.1.1,()),([]:List aL),((),()),([]:List aL),((),()),())).bind fun b=>
(match b with
|.inl c=>
 some (((),c.1.2.1,()),c.2.1,((),()),())
|.inr d=>
(sM ((d.1.1,(),(),()),d.2.1,((),()),d.2.2.2.1,((),()),())).bind fun e=>
 bif e.1.2.2.1 then
 some (((),false,()),([]:List aL),((),()),())
else
 some (((),true,()),e.2.2.2.1,((),()),()))
noncomputable def M8:aD:=aG ad Tryz.f39 i39 xi [] f39
theorem aaE:aA O 39 M8:=aK Ei Tryz.func39 (by kernel_rfl) (a7 aot (a7 alN ae)) (fun y=>by kernel_rfl) fun a=>by kernel_rfl
noncomputable abbrev azJ:a_:=[(39,M8)]
theorem az7:aQ O (aW ad azJ):=aV ⟨aaE,⟨⟩⟩
abbrev i12:Shape:=⟨[b_ 0 [ah,ah]],[],17⟩
abbrev abE:Shape:=⟨[ao 2],[],17⟩
noncomputable def f12(a:i12.J):Option abE.J:=
(f39 ((a.1.1.1,()),())).bind fun b=>
 bif b.1.2.1 then
 some (((a.1.1.2.1==([]:B)),()),())
else
 some ((false,()),())
noncomputable def xT:aD:=aG ad Tryz.f12 i12 abE [] f12
theorem z12:aA O 12 xT:=aK az7 Tryz.func12 (by kernel_rfl) ae (fun y=>by kernel_rfl) fun a=>by kernel_rfl
abbrev sb(s rest:B)(ps:List aL):vO.J:=((s,((),((),(rest,())))),(([]:List aL),(((),()),(ps,(((),()),())))))
abbrev adL(s:B)(ps:List aL):aB Bv:=.inr ((s,((),((),()))),(([]:List aL),(((),()),(ps,(((),()),())))))
abbrev NO(ps:List aL):xi.J:=(((),(true,())),(ps,(((),()),())))
abbrev Na:xi.J:=(((),(false,())),(([]:List aL),(((),()),())))
def ayX(D:Option (List aL)):xi.J:=match D with|some ps=>NO ps|none=>Na
theorem an2(s:B):∀(m:Nat) (r:B) (ps:List aL),r.length<=m->m<=2000000->ps.length<=6->oo ps->
  vS (sb s r ps)=some (.inl Na)\/∃bY:List aL,vS (sb s r ps)=some (adL s bY)/\oo bY/\bY.length<=6:=by
 intro m;induction m with
 |zero=>
  intro r ps hs _ hl ha;have:r=[]:=List.length_eq_zero_iff.1 (by omega)
  subst this;exact .inr ⟨ps,cp rfl,ha,hl⟩
 |succ m ih=>
  intro r ps hs hm hl ha;cases r with
  |nil=>exact .inr ⟨ps,cp rfl,ha,hl⟩
  |cons b r0=>
   have hne:((b::r0)==([]:B))=false:=rfl;generalize eI:b::r0=r at hs hne;by_cases bk:ps.length<=5
   ·have d:decide (((ps.length:Nat):Int)<=5)=true:=decide_eq_true (by omega)
    have c1:=l2 10 r (by omega) 1
    have c1:f73 ((r,((10:Int),((1:Int),()))),())=_:=c1;cases az:dv 10 r with
    |none=>
     have eL:splitN 10 1 r=[r]:=by unfold splitN;rw[az]
     rw[eL] at c1;have n0:=qm r (by unfold ar;omega)
     have i0:be ([r]:List B).length (0:Int)=some 0:=rfl;have fa:([r]:List B)[0]? =some r:=rfl;have d2:decide ((([r]:List B).length:Int)<2)=true:=rfl;refine .inl (cp ?_);simp only[od,hne,Bool.not_false,cond_true,d,c1,Option.bind_some,i0,fa,n0,qv,d2,Bool.not_true,cond_false]
    |some q=>
     obtain⟨bX,rest⟩:=q;have hlen:=(jh az).1;have hlen:r.length=bX.length+1+rest.length:=by rw[hlen];simp;omega
     have eL:splitN 10 1 r=[bX,rest]:=by unfold splitN;rw[az];rfl
     rw[eL] at c1;have n0:=qm bX (by unfold ar;omega)
     have i0:be ([bX,rest]:List B).length (0:Int)=some 0:=rfl;have i1:be ([bX,rest]:List B).length (1:Int)=some 1:=rfl;have fa:([bX,rest]:List B)[0]? =some bX:=rfl;have ei:([bX,rest]:List B)[1]? =some rest:=rfl;have d2:decide ((([bX,rest]:List B).length:Int)<2)=false:=rfl;have hin:=n_ ((gI bX,((1:Int),((rest.length:Int),()))),());have hin:f75 ((gI bX,((1:Int),((rest.length:Int),()))),())=some ((within (gI bX) 1 (rest.length:Int),()),()):=hin;cases hw:within (gI bX) 1 (rest.length:Int) with
     |false=>
      rw[hw] at hin;refine .inl (cp ?_);simp only[od,hne,Bool.not_false,cond_true,d,c1,Option.bind_some,i0,fa,n0,qv,d2,i1,ei,hin]
     |true=>
      rw[hw] at hin;have hb:=sy hw;obtain⟨n,hn⟩:∃n:Nat,gI bX=(n:Int):=⟨(gI bX).toNat,by omega⟩
      rw[hn] at hin n0 hb;have s1:bm rest 0 ((n:Nat):Int)=some (rest.take n):=gj (by omega)
      have s2:bm rest ((n:Nat):Int) ((rest.length:Nat):Int)=some (rest.drop n):=fc (by omega)
      have abT:(rest.take n).length<=2000000:=by simp;omega
      obtain⟨D,g1,g2⟩:=ahD (rest.take n) abT;cases D with
      |none=>
       have g1:f76 ((rest.take n,()),())=some NP:=g1;refine .inl (cp ?_);simp only[od,hne,Bool.not_false,cond_true,d,c1,Option.bind_some,i0,fa,n0,qv,d2,i1,ei,hin,Bool.not_true,cond_false,s1,g1]
      |some p=>
       have g1:f76 ((rest.take n,()),())=some (r_ p):=g1;obtain⟨h9,iM,p3⟩:=(g2 p).1 rfl;have fo:b9 80 ps ([(aL.mk p.name p.aX p.bi p.bx)]:List aL)=some (ps++[p]):=dh (by decide) (by unfold ar;simp;omega)
       have st:od (sb s r ps)=some (.inl (sb s (rest.drop n) (ps++[p]))):=by
        simp only[od,hne,Bool.not_false,cond_true,d,c1,Option.bind_some,i0,fa,n0,qv,d2,i1,ei,hin,Bool.not_true,cond_false,s1,g1,fo,s2]
       rcases ih (rest.drop n) (ps++[p]) (by simp;omega) (by omega) (by simp;omega) (fun z hz=>by
        rcases List.mem_append.1 hz with hz|hz
        ·exact ha z hz
        ·rw[List.mem_singleton.1 hz];exact⟨h9,by rw[iM];exact p3⟩) with e|⟨bY,e1,e2⟩
       ·exact .inl ((dN st).trans e)
       ·exact .inr ⟨bY,(dN st).trans e1,e2⟩
   ·have d:decide (((ps.length:Nat):Int)<=5)=false:=decide_eq_false (by omega)
    refine .inr ⟨ps,cp ?_,ha,hl⟩;simp only[od,hne,Bool.not_false,cond_true,d,cond_false]
theorem ako{ps:List aL}(h:oo ps)(bk:ps.length<=5):(dd ps).length<=30000:=by
 have h1:=nY (f:=fun p=>dD (bA p)) (xs:=ps) (n:=5000) fun q az=>by
  have:=(h q az).2;have:=lm (bA q).length (by omega)
  show(dD (bA q)).length<=5000;unfold dD;simp;omega
 have e:(dd ps).length=(ps.flatMap fun p=>dD (bA p)).length:=rfl
 have ca:ps.length*5000<=6*5000:=Nat.mul_le_mul_right _ (by omega)
 omega
theorem an1(s:B):∀(bY ps:List aL),oo bY->ps.length+bY.length<=5->vS (sb s (dd bY) ps)=some (adL s (ps++bY)):=by
 intro bY;induction bY with
 |nil=>intro ps _ _;rw[List.append_nil];exact cp rfl
 |cons p bY ih=>
  intro ps h hl;obtain⟨h1,h2⟩:=h p List.mem_cons_self;simp only[List.length_cons] at hl;have hR:dd (p::bY)=dD (bA p)++dd bY:=FE p bY;have fO:=P9 (bA p) (dd bY);have hlen:=ako (ps:=p::bY) h (by simp;omega)
  rw[hR] at hlen ⊢;generalize hr:dD (bA p)++dd bY=r at fO hlen;have eL:splitN 10 1 r=[Lib.itoa ((bA p).length:Int),bA p++dd bY]:=by unfold splitN;rw[fO];rfl
  have hne:(r==([]:B))=false:=by
   have:=(jh fO).1;cases hx:r with
   |nil=>rw[hx] at this;simp at this
   |cons b r=>rfl
  have d:decide (((ps.length:Nat):Int)<=5)=true:=decide_eq_true (by omega)
  have c1:=l2 10 r (by omega) 1
  rw[eL] at c1;have c1:f73 ((r,((10:Int),((1:Int),()))),())=_:=c1;have aB9:=lm (bA p).length (by omega)
  have n0:=qm (Lib.itoa ((bA p).length:Int)) (by unfold ar;omega)
  rw[FG _ (by omega)] at n0
  generalize Lib.itoa ((bA p).length:Int)=bX at c1 n0;have i0:be ([bX,bA p++dd bY]:List B).length (0:Int)=some 0:=rfl;have i1:be ([bX,bA p++dd bY]:List B).length (1:Int)=some 1:=rfl;have fa:([bX,bA p++dd bY]:List B)[0]? =some bX:=rfl;have ei:([bX,bA p++dd bY]:List B)[1]? =some (bA p++dd bY):=rfl;have d2:decide ((([bX,bA p++dd bY]:List B).length:Int)<2)=false:=rfl;have nl:1<=(bA p).length:=by rw[vu];simp only[List.length_append,List.length_cons];omega
  have hin:=n_ ((((bA p).length:Int),((1:Int),(((bA p++dd bY).length:Int),()))),());have hin:f75 ((((bA p).length:Int),((1:Int),(((bA p++dd bY).length:Int),()))),())=some ((true,()),()):=by
   rw[hin];have:within ((bA p).length:Int) 1 ((bA p++dd bY).length:Int)=true:=by
    unfold within;rw[decide_eq_true (by omega),decide_eq_true (by simp only[List.length_append];omega)]
    rfl
   show some ((within ((bA p).length:Int) 1 ((bA p++dd bY).length:Int),()),())=_;rw[this]
  have s1:bm (bA p++dd bY) 0 (((bA p).length:Nat):Int)=some (bA p):=by rw[gj (by simp),List.take_left' rfl]
  have s2:bm (bA p++dd bY) (((bA p).length:Nat):Int) (((bA p++dd bY).length:Nat):Int)=some (dd bY):=by rw[fc (by simp),List.drop_left' rfl]
  have g1:=EG h1 h2;have fo:b9 80 ps ([(aL.mk p.name p.aX p.bi p.bx)]:List aL)=some (ps++[p]):=dh (by decide) (by unfold ar;simp;omega)
  have st:od (sb s r ps)=some (.inl (sb s (dd bY) (ps++[p]))):=by
   simp only[od,hne,Bool.not_false,cond_true,d,c1,Option.bind_some,i0,fa,n0,qv,d2,i1,ei,hin,Bool.not_true,cond_false,s1,g1,fo,s2]
  have:=ih (ps++[p]) (fun r hr=>h r (List.mem_cons_of_mem _ hr)) (by simp;omega)
  rw[List.append_assoc] at this;exact(dN st).trans this
theorem ahC(s:B)(hs:s.length<=2000000):∃D:Option (List aL),f39 ((s,()),())=some (ayX D)/\qQ D (tY s):=by
 have put:∀ps:List aL,tY s ps->f39 ((s,()),())=some (NO ps):=by
  intro ps ⟨h1,h2,h3⟩;have hl:ps.length<=5:=(mO h1).2;obtain⟨hb,hv⟩:=vC h3 (by omega)
  have g:=an1 s ps [] h3 (by simpa using hl)
  rw[h2] at g;have e:=za (((ps,()),()),()) hb hv;have e:f30 (((ps,()),()),())=some ((fe ps,()),()):=e;rw[h1] at e;have e2:=Hd ps hb (mO h1).1;simp only[f39,g,List.nil_append,Option.bind_some,sM,e,Bool.not_true,Bool.not_false,cond_true,cond_false,e2,h2,beq_self_eq_true]
 have any:f39 ((s,()),())=some Na\/∃ps,f39 ((s,()),())=some (NO ps)/\tY s ps:=by
  rcases an2 s s.length s [] (Nat.le_refl _) hs (by decide) (fun x hx=>by cases hx) with g|⟨bY,g,h2,h3⟩
  ·refine .inl ?_
   simp only[f39,g,Option.bind_some]
  ·obtain⟨hb,hv⟩:=vC h2 h3;have e:=za (((bY,()),()),()) hb hv;have e:f30 (((bY,()),()),())=some ((fe bY,()),()):=e;cases hr:fe bY with
   |false=>
    rw[hr] at e;refine .inl ?_
    simp only[f39,g,Option.bind_some,sM,e,Bool.not_false,Bool.not_true,cond_true,cond_false]
   |true=>
    rw[hr] at e;have e2:=Hd bY hb (mO hr).1;cases he:dd bY==s with
    |false=>
     refine .inl ?_
     simp only[f39,g,Option.bind_some,sM,e,Bool.not_false,Bool.not_true,cond_true,cond_false,e2,he]
    |true=>
     refine .inr ⟨bY,?_,hr,eq_of_beq he,h2⟩;simp only[f39,g,Option.bind_some,sM,e,Bool.not_false,Bool.not_true,cond_true,cond_false,e2,he]
 rcases any with h|⟨ps,h,hr⟩
 ·refine⟨none,h,fun p=>⟨fun hp=>(by cases hp),fun hp=>?_⟩⟩
  have:=put p hp;rw[h] at this;simp only[Option.some.injEq,Prod.mk.injEq] at this;exact absurd this.1.2.1 (by decide)
 ·refine⟨some ps,h,fun q=>⟨fun hp=>by cases hp;exact hr,fun hp=>?_⟩⟩
  have:=put q hp;rw[h] at this;simp only[Option.some.injEq,Prod.mk.injEq] at this;rw[this.2.1]
noncomputable abbrev azv:a_:=[(36,Ed),(43,Eb),(63,CP),(64,De)]
theorem adg:aQ O (aW ad azv):=aV ⟨LM,LL,JZ,Ki,⟨⟩⟩
abbrev zX:Shape:=⟨[ay 3 3 0,aI 11 .pack,ag 12,ag 13],[bp 5000193 .u8 3 1,ax 3 [.dx,.own 5000193]],28⟩
abbrev Hm:List aP:=[(.exit 0,⟨[ay 3 3 0],[bp 5000193 .u8 3 1,ax 3 [.dx,.own 5000193]],28⟩)]
noncomputable def vF(y:zX.J):bG zX Hm:=
 bif(decide (y.1.2.2.2.1<y.1.2.2.1)) then
(aO y.1.2.1 y.1.2.2.2.1).bind fun a=>
(f36 (((a.name,a.aX,a.bi,a.bx,()),()),())).bind fun b=>
(if-9223372036854775808<=(b.1.1.length:Int)/\(b.1.1.length:Int)<=9223372036854775807 then some () else none).bind fun c=>
(bZ (Lib.itoa (b.1.1.length:Int)) ([10]:B)).bind fun d=>
(bZ d b.1.1).bind fun e=>
(me (((),e,()),y.2.1,((),(),()),())).bind fun f=>
 some (.inl (((),y.1.2.1,y.1.2.2.1,(IntKind.i64.wrap (y.1.2.2.2.1+(1:Int))),()),f.2.1,((),(),()),()))
else
 some (.inr (((),()),y.2.1,((),(),()),()))
noncomputable def If:zX.J->Option (aB Hm):=br vF
theorem alO:aS O (am (codeOf Tryz.f34) 1 122) (aU zX Hm If):=bH adg (by kernel_rfl) ae fun y=>by kernel_rfl
abbrev i34:Shape:=⟨[b_ 0 [bn .pack]],[],28⟩
abbrev abn:Shape:=⟨[aj 2],[],28⟩
noncomputable def f34(a:i34.J):Option abn.J:=
(f43 (((a.1.1.1,()),()),())).bind fun b=>
 bif(!b.1.1) then
 some ((([]:B),()),())
else
(If (((),a.1.1.1,(a.1.1.1.length:Int),(0:Int),()),([]:List Int),((),(),()),())).bind fun c=>
 some (((strOf c.2.1),()),())
noncomputable def Ef:aD:=aG ad Tryz.f34 i34 abn [] f34
theorem LO:aA O 34 Ef:=aK adg Tryz.func34 (by kernel_rfl) (a7 alO ae) (fun y=>by kernel_rfl) fun a=>by kernel_rfl
theorem xM{aH mH:Type}{D:Option aH}{x:aH}{k:aH->Option mH}(h:D=some x):D.bind k=k x:=by rw[h];rfl
theorem amY(ps:List aL)(hb:gp ps)(hk:∀p,p∈ps->ch p=true)(bk:ps.length<=5)(i:Nat)(hi:i<ps.length):
  vF (((),(ps,((ps.length:Int),((i:Int),())))),(bytesOf ((ps.take i).flatMap (fun p=>dD (bA p))),(((),((),())),())))=some (.inl (((),(ps,((ps.length:Int),(((i+1:Nat):Int),())))),(bytesOf ((ps.take (i+1)).flatMap (fun p=>dD (bA p))),(((),((),())),())))):=by
 obtain⟨p,he⟩:∃p,ps[i]? =some p:=⟨ps[i],List.getElem?_eq_getElem hi⟩;have en:=List.mem_of_getElem? he;have iH:((ps.take i).flatMap fun p=>dD (bA p)).length<=503317500:=by
  have h1:=nY (f:=fun p=>dD (bA p)) (xs:=ps.take i) (n:=100663500) fun p hp=>P8 (hb.2 p (qo hp)) (hk p (qo hp))
  have h2:=(List.take_sublist i ps).length_le;have aC:(ps.take i).length*100663500<=5*100663500:=Nat.mul_le_mul_right _ (by omega)
  omega
 have ht:=Gx (hb.2 p en) (hk p en);have h2:=lm (bA p).length (by omega)
 have abV:=hk p en;have Mn:=yr p (hb.2 p en);simp only[abV,cond_true] at Mn;have ab6:(ps.take (i+1)).flatMap (fun p=>dD (bA p))=(ps.take i).flatMap (fun p=>dD (bA p))++dD (bA p):=mR (fun p=>dD (bA p)) he
 rw[ab6];clear ab6 abV hk;generalize bA p=bq at ht h2 Mn ⊢;generalize List.flatMap (fun p=>dD (bA p)) (List.take i ps)=A at iH ⊢
 have i2:=JJ (n:=(bq.length:Int)) ⟨by omega,by omega⟩
 have e1:=dH (s:=Lib.itoa (bq.length:Int)) (t:=[10]) (by simp;omega)
 have e2:=dH (s:=Lib.itoa (bq.length:Int)++[10]) (t:=bq) (by simp;omega)
 have dy:Lib.itoa (bq.length:Int)++[10]++bq=dD bq:=rfl;have fT:(dD bq).length<=100663500:=by unfold dD;simp;omega
 rw[dy] at e2;generalize dD bq=C at e2 fT ⊢;have bC:=pb (bytesOf A) C (by unfold ar;rw[jf];omega)
 simp only[vF,ce hi,cond_true,b4,he,Option.bind_some];refine(xM Mn).trans ((xM (if_pos ⟨?_,?_⟩)).trans ((xM e1).trans ((xM e2).trans ((xM bC).trans ?_))))
 ·rw[bU (i:=i) (by unfold ar;omega),oX]
 ·show-9223372036854775808<=(bq.length:Int);omega
 ·show(bq.length:Int)<=9223372036854775807;omega
theorem O4(ps:List aL)(hb:gp ps)(hv:lX ps):f34 (((ps,()),()),())=some ((bif fe ps then dd ps else [],()),()):=by
 have h0:=Fl (((ps,()),()),()) hb hv;have h0:f43 (((ps,()),()),())=some ((fe ps,()),()):=h0;simp only[f34,h0,Option.bind_some];cases hr:fe ps with
 |false=>rfl
 |true=>
  have hk:=(mO hr).1;have bk:=(mO hr).2;have aE:If (((),(ps,((ps.length:Int),((0:Int),())))),(([]:List Int),(((),((),())),())))=some (((),()),(bytesOf (dd ps),(((),((),())),()))):=by
   refine fB (g:=vF) (fun i=>(((),(ps,((ps.length:Int),((i:Int),())))),(bytesOf ((ps.take i).flatMap (fun p=>dD (bA p))),(((),((),())),())))) ps.length (fun i hi=>amY ps hb hk bk i hi) ?_ ps.length 0 (by omega)
   simp only[vF,du,cond_false,List.take_length,dd]
  simp only[Bool.not_true,cond_false,cond_true,aE,Option.bind_some,uT]
abbrev i186:Shape:=⟨[b_ 0 [ah,aZ,ah],ag 1],[],20⟩
abbrev X9:Shape:=⟨[ag 4],[],20⟩
noncomputable def f186(a:i186.J):Option X9.J:=
 bif(decide ((IntKind.i64.wrap (a.1.2.1-(a.1.1.1.length:Int)))<(0:Int))) then
 some ((((-1):Int),()),())
else
 bif(decide ((IntKind.i64.wrap ((IntKind.i64.wrap (a.1.2.1-(a.1.1.1.length:Int)))-(a.1.1.2.2.1.length:Int)))<(0:Int))) then
 some ((((-1):Int),()),())
else
 some (((IntKind.i64.wrap ((IntKind.i64.wrap (a.1.2.1-(a.1.1.1.length:Int)))-(a.1.1.2.2.1.length:Int))),()),())
noncomputable def _j:aD:=aG ad Tryz.f186 i186 X9 [] f186
theorem arP:aA O 186 _j:=aK g0 Tryz.func186 (by kernel_rfl) ae (fun y=>by kernel_rfl) fun a=>by kernel_rfl
noncomputable abbrev auO:a_:=[(186,_j)]
theorem aaq:aQ O (aW ad auO):=aV ⟨arP,⟨⟩⟩
abbrev zu:Shape:=⟨[aI 0 .need,ag 1,ag 5],[],27⟩
abbrev Gp:List aP:=[(.ret,⟨[ag 4],[],27⟩),(.exit 0,⟨[ag 1],[],27⟩)]
noncomputable def akU(y:zu.J):bG zu Gp:=
 bif(decide (y.1.2.2.1<(y.1.1.length:Int))) then
(aO y.1.1 y.1.2.2.1).bind fun a=>
(f186 (((a.name,a.kind,a.aX,()),y.1.2.1,()),())).bind fun b=>
 bif(decide (b.1.1<(0:Int))) then
 some (.inr (.inl ((((-1):Int),()),())))
else
 some (.inl ((y.1.1,b.1.1,(IntKind.i64.wrap (y.1.2.2.1+(1:Int))),()),()))
else
 some (.inr (.inr ((y.1.2.1,()),())))
noncomputable def RS:zu.J->Option (aB Gp):=br akU
theorem aki:aS O (am (codeOf Tryz.f134) 1 122) (aU zu Gp RS):=bH aaq (by kernel_rfl) ae fun y=>by kernel_rfl
abbrev i134:Shape:=⟨[aI 0 .need,ag 1],[],27⟩
abbrev YL:Shape:=⟨[ag 4],[],27⟩
noncomputable def f134(a:i134.J):Option YL.J:=
 bif(decide ((IntKind.i64.wrap (a.1.2.1-(a.1.1.length:Int)))<(0:Int))) then
 some ((((-1):Int),()),())
else
(RS ((a.1.1,(IntKind.i64.wrap (a.1.2.1-(a.1.1.length:Int))),(0:Int),()),())).bind fun b=>
(match b with
|.inl c=>
 some ((c.1.1,()),())
|.inr d=>
 some ((d.1.1,()),()))
noncomputable def _P:aD:=aG ad Tryz.f134 i134 YL [] f134
theorem ar9:aA O 134 _P:=aK aaq Tryz.func134 (by kernel_rfl) (a7 aki ae) (fun y=>by kernel_rfl) fun a=>by kernel_rfl
abbrev i187:Shape:=⟨[b_ 0 [ah,aZ,aZ,ah],ag 1],[],20⟩
abbrev X8:Shape:=⟨[ag 4],[],20⟩
noncomputable def f187(a:i187.J):Option X8.J:=
 bif(decide ((IntKind.i64.wrap (a.1.2.1-(a.1.1.1.length:Int)))<(0:Int))) then
 some ((((-1):Int),()),())
else
 bif(decide ((IntKind.i64.wrap ((IntKind.i64.wrap (a.1.2.1-(a.1.1.1.length:Int)))-(a.1.1.2.2.2.1.length:Int)))<(0:Int))) then
 some ((((-1):Int),()),())
else
 some (((IntKind.i64.wrap ((IntKind.i64.wrap (a.1.2.1-(a.1.1.1.length:Int)))-(a.1.1.2.2.2.1.length:Int))),()),())
noncomputable def _i:aD:=aG ad Tryz.f187 i187 X8 [] f187
theorem arO:aA O 187 _i:=aK g0 Tryz.func187 (by kernel_rfl) ae (fun y=>by kernel_rfl) fun a=>by kernel_rfl
noncomputable abbrev auN:a_:=[(187,_i)]
theorem aap:aQ O (aW ad auN):=aV ⟨arO,⟨⟩⟩
abbrev zt:Shape:=⟨[aI 0 .entry,ag 1,ag 5],[],27⟩
abbrev Gn:List aP:=[(.ret,⟨[ag 4],[],27⟩),(.exit 0,⟨[ag 1],[],27⟩)]
noncomputable def akT(y:zt.J):bG zt Gn:=
 bif(decide (y.1.2.2.1<(y.1.1.length:Int))) then
(aO y.1.1 y.1.2.2.1).bind fun a=>
(f187 (((a.path,a.kind,a.mode,a.text,()),y.1.2.1,()),())).bind fun b=>
 bif(decide (b.1.1<(0:Int))) then
 some (.inr (.inl ((((-1):Int),()),())))
else
 some (.inl ((y.1.1,b.1.1,(IntKind.i64.wrap (y.1.2.2.1+(1:Int))),()),()))
else
 some (.inr (.inr ((y.1.2.1,()),())))
noncomputable def RR:zt.J->Option (aB Gn):=br akT
theorem akh:aS O (am (codeOf Tryz.f135) 1 122) (aU zt Gn RR):=bH aap (by kernel_rfl) ae fun y=>by kernel_rfl
abbrev i135:Shape:=⟨[aI 0 .entry,ag 1],[],27⟩
abbrev YK:Shape:=⟨[ag 4],[],27⟩
noncomputable def f135(a:i135.J):Option YK.J:=
 bif(decide ((IntKind.i64.wrap (a.1.2.1-(a.1.1.length:Int)))<(0:Int))) then
 some ((((-1):Int),()),())
else
(RR ((a.1.1,(IntKind.i64.wrap (a.1.2.1-(a.1.1.length:Int))),(0:Int),()),())).bind fun b=>
(match b with
|.inl c=>
 some ((c.1.1,()),())
|.inr d=>
 some ((d.1.1,()),()))
noncomputable def _O:aD:=aG ad Tryz.f135 i135 YK [] f135
theorem ar8:aA O 135 _O:=aK aap Tryz.func135 (by kernel_rfl) (a7 akh ae) (fun y=>by kernel_rfl) fun a=>by kernel_rfl
abbrev i188:Shape:=⟨[b_ 0 [ah,aZ,ah]],[],14⟩
abbrev X7:Shape:=⟨[ay 2 2 0],[ax 2 [ah,aZ,ah]],14⟩
noncomputable def f188(a:i188.J):Option X7.J:=
 some (((),()),(a.1.1.1,a.1.1.2.1,a.1.1.2.2.1,()),())
noncomputable def _h:aD:=aG ad Tryz.f188 i188 X7 [] f188
theorem arN:aA O 188 _h:=aK g0 Tryz.func188 (by kernel_rfl) ae (fun y=>by kernel_rfl) fun a=>by kernel_rfl
noncomputable abbrev auM:a_:=[(188,_h)]
theorem aao:aQ O (aW ad auM):=aV ⟨arN,⟨⟩⟩
abbrev Ay:Shape:=⟨[aI 0 .need,ba 3 3000192,ag 4],[a' 3000192 .need 3 0],23⟩
abbrev HU:List aP:=[(.exit 0,⟨[ba 3 3000192],[a' 3000192 .need 3 0],23⟩)]
noncomputable def ana(y:Ay.J):bG Ay HU:=
 bif(decide (y.1.2.2.1<(y.1.1.length:Int))) then
(aO y.1.1 y.1.2.2.1).bind fun a=>
(f188 (((a.name,a.kind,a.aX,()),()),())).bind fun b=>
(be y.2.1.length y.1.2.2.1).bind fun c=>
((y.2.1[c]?).bind fun q=>some (bv.mk b.2.1.1 b.2.1.2.1 b.2.1.2.2.1)).bind fun d=>
 some (.inl ((y.1.1,(),(IntKind.i64.wrap (y.1.2.2.1+(1:Int))),()),(y.2.1.set c d),()))
else
 some (.inr (((),()),y.2.1,()))
noncomputable def Tr:Ay.J->Option (aB HU):=br ana
theorem amx:aS O (am (codeOf Tryz.f136) 1 58) (aU Ay HU Tr):=bH aao (by kernel_rfl) ae fun y=>by kernel_rfl
abbrev i136:Shape:=⟨[aI 0 .need],[],23⟩
abbrev YJ:Shape:=⟨[ba 2 3000128],[a' 3000128 .need 2 0],23⟩
noncomputable def f136(a:i136.J):Option YJ.J:=
(jY 40 (a.1.1.length:Int) (a.1.1.length:Int) (bv.mk ([]:B) (0:Int) ([]:B))).bind fun b=>
(Tr ((a.1.1,(),(0:Int),()),b,())).bind fun c=>
 some (((),()),c.2.1,())
noncomputable def _N:aD:=aG ad Tryz.f136 i136 YJ [] f136
theorem ar7:aA O 136 _N:=aK aao Tryz.func136 (by kernel_rfl) (a7 amx ae) (fun y=>by kernel_rfl) fun a=>by kernel_rfl
abbrev i189:Shape:=⟨[b_ 0 [ah,aZ,aZ,ah]],[],17⟩
abbrev X6:Shape:=⟨[ay 2 2 0],[ax 2 [ah,aZ,aZ,ah]],17⟩
noncomputable def f189(a:i189.J):Option X6.J:=
 some (((),()),(a.1.1.1,a.1.1.2.1,a.1.1.2.2.1,a.1.1.2.2.2.1,()),())
noncomputable def _g:aD:=aG ad Tryz.f189 i189 X6 [] f189
theorem arM:aA O 189 _g:=aK g0 Tryz.func189 (by kernel_rfl) ae (fun y=>by kernel_rfl) fun a=>by kernel_rfl
noncomputable abbrev auL:a_:=[(189,_g)]
theorem aan:aQ O (aW ad auL):=aV ⟨arM,⟨⟩⟩
abbrev Ax:Shape:=⟨[aI 0 .entry,ba 3 3000192,ag 4],[a' 3000192 .entry 3 0],23⟩
abbrev HT:List aP:=[(.exit 0,⟨[ba 3 3000192],[a' 3000192 .entry 3 0],23⟩)]
noncomputable def am9(y:Ax.J):bG Ax HT:=
 bif(decide (y.1.2.2.1<(y.1.1.length:Int))) then
(aO y.1.1 y.1.2.2.1).bind fun a=>
(f189 (((a.path,a.kind,a.mode,a.text,()),()),())).bind fun b=>
(be y.2.1.length y.1.2.2.1).bind fun c=>
((y.2.1[c]?).bind fun q=>some (aw.mk b.2.1.1 b.2.1.2.1 b.2.1.2.2.1 b.2.1.2.2.2.1)).bind fun d=>
 some (.inl ((y.1.1,(),(IntKind.i64.wrap (y.1.2.2.1+(1:Int))),()),(y.2.1.set c d),()))
else
 some (.inr (((),()),y.2.1,()))
noncomputable def Tq:Ax.J->Option (aB HT):=br am9
theorem amw:aS O (am (codeOf Tryz.f137) 1 58) (aU Ax HT Tq):=bH aan (by kernel_rfl) ae fun y=>by kernel_rfl
abbrev i137:Shape:=⟨[aI 0 .entry],[],23⟩
abbrev YI:Shape:=⟨[ba 2 3000128],[a' 3000128 .entry 2 0],23⟩
noncomputable def f137(a:i137.J):Option YI.J:=
(jY 48 (a.1.1.length:Int) (a.1.1.length:Int) (aw.mk ([]:B) (0:Int) (0:Int) ([]:B))).bind fun b=>
(Tq ((a.1.1,(),(0:Int),()),b,())).bind fun c=>
 some (((),()),c.2.1,())
noncomputable def _M:aD:=aG ad Tryz.f137 i137 YI [] f137
theorem ar6:aA O 137 _M:=aK aan Tryz.func137 (by kernel_rfl) (a7 amw ae) (fun y=>by kernel_rfl) fun a=>by kernel_rfl
abbrev i190:Shape:=⟨[b_ 0 [ah,aZ,ah],b_ 1 [ah,aZ,ah]],[],20⟩
abbrev X5:Shape:=⟨[ao 4],[],20⟩
noncomputable def f190(a:i190.J):Option X5.J:=
 bif(!(a.1.1.1==a.1.2.1.1)) then
 some ((false,()),())
else
 bif(a.1.1.2.1 !=a.1.2.1.2.1) then
 some ((false,()),())
else
 bif(!(a.1.1.2.2.1==a.1.2.1.2.2.1)) then
 some ((false,()),())
else
 some ((true,()),())
noncomputable def _f:aD:=aG ad Tryz.f190 i190 X5 [] f190
theorem arL:aA O 190 _f:=aK g0 Tryz.func190 (by kernel_rfl) ae (fun y=>by kernel_rfl) fun a=>by kernel_rfl
noncomputable abbrev auK:a_:=[(190,_f)]
theorem aam:aQ O (aW ad auK):=aV ⟨arL,⟨⟩⟩
abbrev Aw:Shape:=⟨[aI 0 .need,aI 1 .need,ag 5],[],27⟩
abbrev HS:List aP:=[(.ret,⟨[ao 4],[],27⟩),(.exit 0,⟨[],[],27⟩)]
noncomputable def am8(y:Aw.J):bG Aw HS:=
 bif(decide (y.1.2.2.1<(y.1.1.length:Int))) then
(aO y.1.1 y.1.2.2.1).bind fun a=>
(aO y.1.2.1 y.1.2.2.1).bind fun b=>
(f190 (((a.name,a.kind,a.aX,()),(b.name,b.kind,b.aX,()),()),())).bind fun c=>
 bif(!c.1.1) then
 some (.inr (.inl ((false,()),())))
else
 some (.inl ((y.1.1,y.1.2.1,(IntKind.i64.wrap (y.1.2.2.1+(1:Int))),()),()))
else
 some (.inr (.inr ((),())))
noncomputable def Tp:Aw.J->Option (aB HS):=br am8
theorem amv:aS O (am (codeOf Tryz.f138) 1 58) (aU Aw HS Tp):=bH aam (by kernel_rfl) ae fun y=>by kernel_rfl
abbrev i138:Shape:=⟨[aI 0 .need,aI 1 .need],[],27⟩
abbrev YH:Shape:=⟨[ao 4],[],27⟩
noncomputable def f138(a:i138.J):Option YH.J:=
 bif((a.1.1.length:Int) !=(a.1.2.1.length:Int)) then
 some ((false,()),())
else
(Tp ((a.1.1,a.1.2.1,(0:Int),()),())).bind fun b=>
(match b with
|.inl c=>
 some ((c.1.1,()),())
|.inr d=>
 some ((true,()),()))
noncomputable def _L:aD:=aG ad Tryz.f138 i138 YH [] f138
theorem z138:aA O 138 _L:=aK aam Tryz.func138 (by kernel_rfl) (a7 amv ae) (fun y=>by kernel_rfl) fun a=>by kernel_rfl
abbrev i191:Shape:=⟨[b_ 0 [ah,aZ,aZ,ah],b_ 1 [ah,aZ,aZ,ah]],[],25⟩
abbrev X4:Shape:=⟨[ao 4],[],25⟩
noncomputable def f191(a:i191.J):Option X4.J:=
 bif(!(a.1.1.1==a.1.2.1.1)) then
 some ((false,()),())
else
 bif(a.1.1.2.1 !=a.1.2.1.2.1) then
 some ((false,()),())
else
 bif(a.1.1.2.2.1 !=a.1.2.1.2.2.1) then
 some ((false,()),())
else
 bif(!(a.1.1.2.2.2.1==a.1.2.1.2.2.2.1)) then
 some ((false,()),())
else
 some ((true,()),())
noncomputable def _e:aD:=aG ad Tryz.f191 i191 X4 [] f191
theorem arK:aA O 191 _e:=aK g0 Tryz.func191 (by kernel_rfl) ae (fun y=>by kernel_rfl) fun a=>by kernel_rfl
noncomputable abbrev auJ:a_:=[(191,_e)]
theorem aal:aQ O (aW ad auJ):=aV ⟨arK,⟨⟩⟩
abbrev Av:Shape:=⟨[aI 0 .entry,aI 1 .entry,ag 5],[],27⟩
abbrev HR:List aP:=[(.ret,⟨[ao 4],[],27⟩),(.exit 0,⟨[],[],27⟩)]
noncomputable def am7(y:Av.J):bG Av HR:=
 bif(decide (y.1.2.2.1<(y.1.1.length:Int))) then
(aO y.1.1 y.1.2.2.1).bind fun a=>
(aO y.1.2.1 y.1.2.2.1).bind fun b=>
(f191 (((a.path,a.kind,a.mode,a.text,()),(b.path,b.kind,b.mode,b.text,()),()),())).bind fun c=>
 bif(!c.1.1) then
 some (.inr (.inl ((false,()),())))
else
 some (.inl ((y.1.1,y.1.2.1,(IntKind.i64.wrap (y.1.2.2.1+(1:Int))),()),()))
else
 some (.inr (.inr ((),())))
noncomputable def To:Av.J->Option (aB HR):=br am7
theorem amu:aS O (am (codeOf Tryz.f139) 1 58) (aU Av HR To):=bH aal (by kernel_rfl) ae fun y=>by kernel_rfl
abbrev i139:Shape:=⟨[aI 0 .entry,aI 1 .entry],[],27⟩
abbrev YG:Shape:=⟨[ao 4],[],27⟩
noncomputable def f139(a:i139.J):Option YG.J:=
 bif((a.1.1.length:Int) !=(a.1.2.1.length:Int)) then
 some ((false,()),())
else
(To ((a.1.1,a.1.2.1,(0:Int),()),())).bind fun b=>
(match b with
|.inl c=>
 some ((c.1.1,()),())
|.inr d=>
 some ((true,()),()))
noncomputable def _K:aD:=aG ad Tryz.f139 i139 YG [] f139
theorem z139:aA O 139 _K:=aK aal Tryz.func139 (by kernel_rfl) (a7 amu ae) (fun y=>by kernel_rfl) fun a=>by kernel_rfl
noncomputable abbrev ay8:a_:=[(134,_P),(135,_O)]
theorem azP:aQ O (aW ad ay8):=aV ⟨ar9,ar8,⟨⟩⟩
abbrev i82:Shape:=⟨[b_ 0 [ah,ah,bn .need,bn .entry],ag 1],[],32⟩
abbrev aaZ:Shape:=⟨[ag 4],[],32⟩
noncomputable def f82(a:i82.J):Option aaZ.J:=
 bif(decide ((IntKind.i64.wrap (a.1.2.1-(a.1.1.1.length:Int)))<(0:Int))) then
 some ((((-1):Int),()),())
else
 bif(decide ((IntKind.i64.wrap ((IntKind.i64.wrap (a.1.2.1-(a.1.1.1.length:Int)))-(a.1.1.2.1.length:Int)))<(0:Int))) then
 some ((((-1):Int),()),())
else
(f134 ((a.1.1.2.2.1,(IntKind.i64.wrap ((IntKind.i64.wrap (a.1.2.1-(a.1.1.1.length:Int)))-(a.1.1.2.1.length:Int))),()),())).bind fun b=>
 bif(decide (b.1.1<(0:Int))) then
 some ((((-1):Int),()),())
else
(f135 ((a.1.1.2.2.2.1,b.1.1,()),())).bind fun c=>
 bif(decide (c.1.1<(0:Int))) then
 some ((((-1):Int),()),())
else
 some ((c.1.1,()),())
noncomputable def acB:aD:=aG ad Tryz.f82 i82 aaZ [] f82
theorem avT:aA O 82 acB:=aK azP Tryz.func82 (by kernel_rfl) ae (fun y=>by kernel_rfl) fun a=>by kernel_rfl
noncomputable abbrev azo:a_:=[(82,acB)]
theorem adf:aQ O (aW ad azo):=aV ⟨avT,⟨⟩⟩
abbrev zW:Shape:=⟨[aI 0 .pack,ag 1,ag 5],[],27⟩
abbrev Hl:List aP:=[(.ret,⟨[ag 4],[],27⟩),(.exit 0,⟨[ag 1],[],27⟩)]
noncomputable def am4(y:zW.J):bG zW Hl:=
 bif(decide (y.1.2.2.1<(y.1.1.length:Int))) then
(aO y.1.1 y.1.2.2.1).bind fun a=>
(f82 (((a.name,a.aX,a.bi,a.bx,()),y.1.2.1,()),())).bind fun b=>
 bif(decide (b.1.1<(0:Int))) then
 some (.inr (.inl ((((-1):Int),()),())))
else
 some (.inl ((y.1.1,b.1.1,(IntKind.i64.wrap (y.1.2.2.1+(1:Int))),()),()))
else
 some (.inr (.inr ((y.1.2.1,()),())))
noncomputable def Tg:zW.J->Option (aB Hl):=br am4
theorem alM:aS O (am (codeOf Tryz.f44) 1 122) (aU zW Hl Tg):=bH adf (by kernel_rfl) ae fun y=>by kernel_rfl
abbrev i44:Shape:=⟨[aI 0 .pack,ag 1],[],27⟩
abbrev abi:Shape:=⟨[ag 4],[],27⟩
noncomputable def f44(a:i44.J):Option abi.J:=
 bif(decide ((IntKind.i64.wrap (a.1.2.1-(a.1.1.length:Int)))<(0:Int))) then
 some ((((-1):Int),()),())
else
(Tg ((a.1.1,(IntKind.i64.wrap (a.1.2.1-(a.1.1.length:Int))),(0:Int),()),())).bind fun b=>
(match b with
|.inl c=>
 some ((c.1.1,()),())
|.inr d=>
 some ((d.1.1,()),()))
noncomputable def acO:aD:=aG ad Tryz.f44 i44 abi [] f44
theorem av4:aA O 44 acO:=aK adf Tryz.func44 (by kernel_rfl) (a7 alM ae) (fun y=>by kernel_rfl) fun a=>by kernel_rfl
noncomputable abbrev azH:a_:=[(44,acO)]
theorem az5:aQ O (aW ad azH):=aV ⟨av4,⟨⟩⟩
abbrev i15:Shape:=⟨[b_ 0 [bn .pack],ag 1],[],12⟩
abbrev abC:Shape:=⟨[ag 4],[],12⟩
noncomputable def f15(a:i15.J):Option abC.J:=
(f44 ((a.1.1.1,a.1.2.1,()),())).bind fun b=>
 bif(decide (b.1.1<(0:Int))) then
 some ((((-1):Int),()),())
else
 some ((b.1.1,()),())
noncomputable def xR:aD:=aG ad Tryz.f15 i15 abC [] f15
theorem awd:aA O 15 xR:=aK az5 Tryz.func15 (by kernel_rfl) ae (fun y=>by kernel_rfl) fun a=>by kernel_rfl
noncomputable abbrev ay6:a_:=[(136,_N),(137,_M)]
theorem azN:aQ O (aW ad ay6):=aV ⟨ar7,ar6,⟨⟩⟩
abbrev i84:Shape:=⟨[b_ 0 [ah,ah,bn .need,bn .entry]],[],19⟩
abbrev aaY:Shape:=⟨[ay 2 2 0],[bp 5000130 .need 2 2,bp 5000131 .entry 2 3,ax 2 [ah,ah,.own 5000130,.own 5000131]],19⟩
noncomputable def f84(a:i84.J):Option aaY.J:=
(f136 ((a.1.1.2.2.1,()),())).bind fun b=>
(f137 ((a.1.1.2.2.2.1,()),())).bind fun c=>
 some (((),()),b.2.1,c.2.1,(a.1.1.1,a.1.1.2.1,(),(),()),())
noncomputable def acA:aD:=aG ad Tryz.f84 i84 aaY [] f84
theorem avS:aA O 84 acA:=aK azN Tryz.func84 (by kernel_rfl) ae (fun y=>by kernel_rfl) fun a=>by kernel_rfl
noncomputable abbrev azm:a_:=[(84,acA)]
theorem ade:aQ O (aW ad azm):=aV ⟨avS,⟨⟩⟩
abbrev BM:Shape:=⟨[aI 0 .pack,ba 3 3000192,ag 4],[a' 3000192 .pack 3 0],23⟩
abbrev Jj:List aP:=[(.exit 0,⟨[ba 3 3000192],[a' 3000192 .pack 3 0],23⟩)]
noncomputable def aoV(y:BM.J):bG BM Jj:=
 bif(decide (y.1.2.2.1<(y.1.1.length:Int))) then
(aO y.1.1 y.1.2.2.1).bind fun a=>
(f84 (((a.name,a.aX,a.bi,a.bx,()),()),())).bind fun b=>
(be y.2.1.length y.1.2.2.1).bind fun c=>
((y.2.1[c]?).bind fun q=>some (aL.mk b.2.2.2.1.1 b.2.2.2.1.2.1 b.2.1 b.2.2.1)).bind fun d=>
 some (.inl ((y.1.1,(),(IntKind.i64.wrap (y.1.2.2.1+(1:Int))),()),(y.2.1.set c d),()))
else
 some (.inr (((),()),y.2.1,()))
noncomputable def UV:BM.J->Option (aB Jj):=br aoV
theorem aos:aS O (am (codeOf Tryz.f46) 1 58) (aU BM Jj UV):=bH ade (by kernel_rfl) ae fun y=>by kernel_rfl
abbrev i46:Shape:=⟨[aI 0 .pack],[],23⟩
abbrev abg:Shape:=⟨[ba 2 3000128],[a' 3000128 .pack 2 0],23⟩
noncomputable def f46(a:i46.J):Option abg.J:=
(jY 80 (a.1.1.length:Int) (a.1.1.length:Int) (aL.mk ([]:B) ([]:B) ([]:List bv) ([]:List aw))).bind fun b=>
(UV ((a.1.1,(),(0:Int),()),b,())).bind fun c=>
 some (((),()),c.2.1,())
noncomputable def acM:aD:=aG ad Tryz.f46 i46 abg [] f46
theorem z46:aA O 46 acM:=aK ade Tryz.func46 (by kernel_rfl) (a7 aos ae) (fun y=>by kernel_rfl) fun a=>by kernel_rfl
noncomputable abbrev azF:a_:=[(46,acM)]
theorem az4:aQ O (aW ad azF):=aV ⟨z46,⟨⟩⟩
abbrev i17:Shape:=⟨[b_ 0 [bn .pack]],[],9⟩
abbrev abA:Shape:=⟨[ay 2 2 0],[bp 5000128 .pack 2 0,ax 2 [.own 5000128]],9⟩
noncomputable def f17(a:i17.J):Option abA.J:=
(f46 ((a.1.1.1,()),())).bind fun b=>
 some (((),()),b.2.1,((),()),())
noncomputable def acY:aD:=aG ad Tryz.f17 i17 abA [] f17
theorem awb:aA O 17 acY:=aK az4 Tryz.func17 (by kernel_rfl) ae (fun y=>by kernel_rfl) fun a=>by kernel_rfl
noncomputable abbrev ay5:a_:=[(138,_L),(139,_K)]
theorem azM:aQ O (aW ad ay5):=aV ⟨z138,z139,⟨⟩⟩
abbrev i85:Shape:=⟨[b_ 0 [ah,ah,bn .need,bn .entry],b_ 1 [ah,ah,bn .need,bn .entry]],[],27⟩
abbrev aaX:Shape:=⟨[ao 4],[],27⟩
noncomputable def f85(a:i85.J):Option aaX.J:=
 bif(!(a.1.1.1==a.1.2.1.1)) then
 some ((false,()),())
else
 bif(!(a.1.1.2.1==a.1.2.1.2.1)) then
 some ((false,()),())
else
(f138 ((a.1.1.2.2.1,a.1.2.1.2.2.1,()),())).bind fun b=>
 bif(!b.1.1) then
 some ((false,()),())
else
(f139 ((a.1.1.2.2.2.1,a.1.2.1.2.2.2.1,()),())).bind fun c=>
 bif(!c.1.1) then
 some ((false,()),())
else
 some ((true,()),())
noncomputable def acz:aD:=aG ad Tryz.f85 i85 aaX [] f85
theorem z85:aA O 85 acz:=aK azM Tryz.func85 (by kernel_rfl) ae (fun y=>by kernel_rfl) fun a=>by kernel_rfl
noncomputable abbrev azk:a_:=[(85,acz)]
theorem adb:aQ O (aW ad azk):=aV ⟨z85,⟨⟩⟩
abbrev BL:Shape:=⟨[aI 0 .pack,aI 1 .pack,ag 5],[],27⟩
abbrev Ji:List aP:=[(.ret,⟨[ao 4],[],27⟩),(.exit 0,⟨[],[],27⟩)]
noncomputable def aoU(y:BL.J):bG BL Ji:=
 bif(decide (y.1.2.2.1<(y.1.1.length:Int))) then
(aO y.1.1 y.1.2.2.1).bind fun a=>
(aO y.1.2.1 y.1.2.2.1).bind fun b=>
(f85 (((a.name,a.aX,a.bi,a.bx,()),(b.name,b.aX,b.bi,b.bx,()),()),())).bind fun c=>
 bif(!c.1.1) then
 some (.inr (.inl ((false,()),())))
else
 some (.inl ((y.1.1,y.1.2.1,(IntKind.i64.wrap (y.1.2.2.1+(1:Int))),()),()))
else
 some (.inr (.inr ((),())))
noncomputable def UU:BL.J->Option (aB Ji):=br aoU
theorem aor:aS O (am (codeOf Tryz.f48) 1 58) (aU BL Ji UU):=bH adb (by kernel_rfl) ae fun y=>by kernel_rfl
abbrev i48:Shape:=⟨[aI 0 .pack,aI 1 .pack],[],27⟩
abbrev abe:Shape:=⟨[ao 4],[],27⟩
noncomputable def f48(a:i48.J):Option abe.J:=
 bif((a.1.1.length:Int) !=(a.1.2.1.length:Int)) then
 some ((false,()),())
else
(UU ((a.1.1,a.1.2.1,(0:Int),()),())).bind fun b=>
(match b with
|.inl c=>
 some ((c.1.1,()),())
|.inr d=>
 some ((true,()),()))
noncomputable def acK:aD:=aG ad Tryz.f48 i48 abe [] f48
theorem av1:aA O 48 acK:=aK adb Tryz.func48 (by kernel_rfl) (a7 aor ae) (fun y=>by kernel_rfl) fun a=>by kernel_rfl
noncomputable abbrev azD:a_:=[(48,acK)]
theorem az3:aQ O (aW ad azD):=aV ⟨av1,⟨⟩⟩
abbrev i20:Shape:=⟨[b_ 0 [bn .pack],b_ 1 [bn .pack]],[],11⟩
abbrev abx:Shape:=⟨[ao 4],[],11⟩
noncomputable def f20(a:i20.J):Option abx.J:=
(f48 ((a.1.1.1,a.1.2.1.1,()),())).bind fun b=>
 bif(!b.1.1) then
 some ((false,()),())
else
 some ((true,()),())
noncomputable def acV:aD:=aG ad Tryz.f20 i20 abx [] f20
theorem z20:aA O 20 acV:=aK az3 Tryz.func20 (by kernel_rfl) ae (fun y=>by kernel_rfl) fun a=>by kernel_rfl
abbrev j5(n:Nat):Prop:=n<=1048576
abbrev ayP(n:bv):Prop:=j5 n.name.length/\j5 n.aX.length
abbrev ayQ(e:aw):Prop:=j5 e.path.length/\j5 e.text.length
abbrev atA(l:List bv):Prop:=j5 l.length/\∀n,n∈l->ayP n
abbrev atB(l:List aw):Prop:=j5 l.length/\∀n,n∈l->ayQ n
abbrev ayO(p:aL):Prop:=j5 p.name.length/\j5 p.aX.length/\atA p.bi/\atB p.bx
abbrev ZB(l:List aL):Prop:=j5 l.length/\∀n,n∈l->ayO n
theorem ZB.x'{ps:List aL}(h:ZB ps):gp ps/\lX ps:=by
 obtain⟨h1,h2⟩:=h;have up:∀{n:Nat},j5 n->cj n:=fun h=>Nat.le_trans h (by decide)
 have aaL:∀{n:Nat},j5 n->n<=2097151:=fun h=>Nat.le_trans h (by decide)
 refine⟨⟨up h1,fun p hp=>?_⟩,fun p hp=>?_⟩
 ·obtain⟨a,b,c,d⟩:=h2 p hp;exact⟨up a,up b,⟨up c.1,fun n hn=>⟨up (c.2 n hn).1,up (c.2 n hn).2⟩⟩,up d.1,fun n hn=>⟨up (d.2 n hn).1,up (d.2 n hn).2⟩⟩
 ·obtain⟨a,b,c,d⟩:=h2 p hp;exact⟨aaL b,fun n hn=>aaL (c.2 n hn).2⟩
abbrev i19:Shape:=⟨[b_ 0 [ah,ah],b_ 1 [ah,ah]],[],15⟩
abbrev aby:Shape:=⟨[ao 4],[],15⟩
noncomputable def f19(a:i19.J):Option aby.J:=
 bif(!(a.1.1.1==a.1.2.1.1)) then
 some ((false,()),())
else
 bif(!(a.1.1.2.1==a.1.2.1.2.1)) then
 some ((false,()),())
else
 some ((true,()),())
noncomputable def acW:aD:=aG ad Tryz.f19 i19 aby [] f19
theorem av9:aA O 19 acW:=aK g0 Tryz.func19 (by kernel_rfl) ae (fun y=>by kernel_rfl) fun a=>by kernel_rfl
noncomputable abbrev azB:a_:=[(34,Ef)]
theorem az1:aQ O (aW ad azB):=aV ⟨LO,⟨⟩⟩
abbrev i27:Shape:=⟨[b_ 0 [bn .pack]],[],6⟩
abbrev abv:Shape:=⟨[ay 2 2 0],[ax 2 [ah,ah]],6⟩
noncomputable def f27(a:i27.J):Option abv.J:=
(f34 (((a.1.1.1,()),()),())).bind fun b=>
 some (((),()),(b.1.1,([]:B),()),())
noncomputable def M_:aD:=aG ad Tryz.f27 i27 abv [] f27
theorem aaG:aA O 27 M_:=aK az1 Tryz.func27 (by kernel_rfl) ae (fun y=>by kernel_rfl) fun a=>by kernel_rfl
noncomputable abbrev azA:a_:=[(37,Ec)]
theorem az0:aQ O (aW ad azA):=aV ⟨z37,⟨⟩⟩
abbrev i29:Shape:=⟨[b_ 0 [bn .pack]],[],6⟩
abbrev abt:Shape:=⟨[ay 2 2 0],[ax 2 [ah,ah]],6⟩
noncomputable def f29(a:i29.J):Option abt.J:=
(f37 (((a.1.1.1,()),()),())).bind fun b=>
 some (((),()),(b.1.1,([]:B),()),())
noncomputable def acS:aD:=aG ad Tryz.f29 i29 abt [] f29
theorem av7:aA O 29 acS:=aK az0 Tryz.func29 (by kernel_rfl) ae (fun y=>by kernel_rfl) fun a=>by kernel_rfl
abbrev i11:Shape:=⟨[b_ 0 [ah,ah],ag 1],[],20⟩
abbrev DF:Shape:=⟨[ag 4],[],20⟩
noncomputable def f11(a:i11.J):Option DF.J:=
 bif(decide ((IntKind.i64.wrap (a.1.2.1-(a.1.1.1.length:Int)))<(0:Int))) then
 some ((((-1):Int),()),())
else
 bif(decide ((IntKind.i64.wrap ((IntKind.i64.wrap (a.1.2.1-(a.1.1.1.length:Int)))-(a.1.1.2.1.length:Int)))<(0:Int))) then
 some ((((-1):Int),()),())
else
 some (((IntKind.i64.wrap ((IntKind.i64.wrap (a.1.2.1-(a.1.1.1.length:Int)))-(a.1.1.2.1.length:Int))),()),())
noncomputable def uz:aD:=aG ad Tryz.f11 i11 DF [] f11
theorem aaI:aA O 11 uz:=aK g0 Tryz.func11 (by kernel_rfl) ae (fun y=>by kernel_rfl) fun a=>by kernel_rfl
abbrev i13:Shape:=⟨[b_ 0 [ah,ah]],[],11⟩
abbrev abD:Shape:=⟨[ay 2 2 0],[ax 2 [ah,ah]],11⟩
noncomputable def f13(a:i13.J):Option abD.J:=
 some (((),()),(a.1.1.1,a.1.1.2.1,()),())
noncomputable def xS:aD:=aG ad Tryz.f13 i13 abD [] f13
theorem aaH:aA O 13 xS:=aK g0 Tryz.func13 (by kernel_rfl) ae (fun y=>by kernel_rfl) fun a=>by kernel_rfl
noncomputable abbrev azn:a_:=[(70,D_),(83,xQ)]
theorem azS:aQ O (aW ad azn):=aV ⟨z70,Du,⟨⟩⟩
abbrev i45:Shape:=⟨[b_ 0 [bn .pack]],[],13⟩
abbrev abh:Shape:=⟨[aj 2],[],13⟩
noncomputable def f45(a:i45.J):Option abh.J:=
(f70 (((a.1.1.1,()),()),())).bind fun b=>
(f83 (((b.1.1.length:Int),()),())).bind fun c=>
(bZ c.1.1 ([10]:B)).bind fun d=>
(bZ d b.1.1).bind fun e=>
(bZ e ([101,110,100,10]:B)).bind fun f=>
 some ((f,()),())
noncomputable def acN:aD:=aG ad Tryz.f45 i45 abh [] f45
theorem av3:aA O 45 acN:=aK azS Tryz.func45 (by kernel_rfl) ae (fun y=>by kernel_rfl) fun a=>by kernel_rfl
noncomputable abbrev azG:a_:=[(12,xT),(30,ux),(45,acN)]
theorem Ej:aQ O (aW ad azG):=aV ⟨z12,w9,av3,⟨⟩⟩
abbrev Up:Shape:=⟨[ag 2,ay 3 3 0,ay 4 4 0,ay 6 6 0],[ax 3 [ah,ah],ax 4 [bn .pack],ax 6 [ah,ah]],33⟩
abbrev Ud:List aP:=[(.norm,⟨[ag 2,ay 3 3 0,ay 4 4 0,ay 6 6 0,ao 15],[ax 3 [ah,ah],ax 4 [bn .pack],ax 6 [ah,ah]],33⟩)]
noncomputable def Vu(y:Up.J):Option (aB Ud):=
(f12 (((y.2.1.1,y.2.1.2.1,()),()),())).bind fun a=>
 bif(!(!a.1.1)) then
(f30 (((y.2.2.1.1,()),()),())).bind fun b=>
 some ((y.1.1,(),(),(),(!b.1.1),()),(y.2.1.1,y.2.1.2.1,()),(y.2.2.1.1,()),(y.2.2.2.1.1,y.2.2.2.1.2.1,()),())
else
 some ((y.1.1,(),(),(),true,()),(y.2.1.1,y.2.1.2.1,()),(y.2.2.1.1,()),(y.2.2.2.1.1,y.2.2.2.1.2.1,()),())
theorem aoz:aS O (am (codeOf Tryz.f16) 1 12) (aU Up Ud Vu):=cd Ej (by kernel_rfl) ae fun y=>by kernel_rfl
abbrev Uo:Shape:=⟨[ag 2,ay 3 3 0,ay 6 6 0,aj 7],[ax 3 [ah,ah],ax 6 [ah,ah]],33⟩
abbrev Uc:List aP:=[(.norm,⟨[ag 2,ay 3 3 0,ay 6 6 0,aj 7],[ax 3 [ah,ah],ax 6 [ah,ah]],33⟩)]
noncomputable def Vt(y:Uo.J):Option (aB Uc):=
 bif(decide (y.1.1<(0:Int))) then
 some (((0:Int),(),(),y.1.2.2.2.1,()),(y.2.1.1,y.2.1.2.1,()),(y.2.2.1.1,y.2.2.1.2.1,()),())
else
 some ((y.1.1,(),(),y.1.2.2.2.1,()),(y.2.1.1,y.2.1.2.1,()),(y.2.2.1.1,y.2.2.1.2.1,()),())
theorem aoy:aS O (am (codeOf Tryz.f16) 1 30) (aU Uo Uc Vt):=cd Ej (by kernel_rfl) ae fun y=>by kernel_rfl
abbrev Un:Shape:=⟨[ag 2,ay 3 3 0,ay 6 6 0,aj 7],[ax 3 [ah,ah],ax 6 [ah,ah]],33⟩
abbrev Ub:List aP:=[(.norm,⟨[ag 2,ay 3 3 0,ay 6 6 0,aj 7],[ax 3 [ah,ah],ax 6 [ah,ah]],33⟩)]
noncomputable def Vs(y:Un.J):Option (aB Ub):=
 bif(decide (y.1.1>(y.1.2.2.2.1.length:Int))) then
 some (((y.1.2.2.2.1.length:Int),(),(),y.1.2.2.2.1,()),(y.2.1.1,y.2.1.2.1,()),(y.2.2.1.1,y.2.2.1.2.1,()),())
else
 some ((y.1.1,(),(),y.1.2.2.2.1,()),(y.2.1.1,y.2.1.2.1,()),(y.2.2.1.1,y.2.2.1.2.1,()),())
theorem aox:aS O (am (codeOf Tryz.f16) 1 62) (aU Un Ub Vs):=cd Ej (by kernel_rfl) ae fun y=>by kernel_rfl
abbrev i16:Shape:=⟨[b_ 0 [ah,ah],b_ 1 [bn .pack],ag 2],[],33⟩
abbrev abB:Shape:=⟨[ay 6 6 0],[ax 6 [ah,ah]],33⟩
noncomputable def f16(a:i16.J):Option abB.J:=
(Vu ((a.1.2.2.1,(),(),(),()),(a.1.1.1,a.1.1.2.1,()),(a.1.2.1.1,()),(([]:B),([]:B),()),())).bind fun b=>
 bif b.1.2.2.2.2.1 then
 some (((),()),(([]:B),([]:B),()),())
else
(f45 (((b.2.2.1.1,()),()),())).bind fun c=>
(Vt ((b.1.1,(),(),c.1.1,()),(b.2.1.1,b.2.1.2.1,()),(b.2.2.2.1.1,b.2.2.2.1.2.1,()),())).bind fun d=>
(Vs ((d.1.1,(),(),d.1.2.2.2.1,()),(d.2.1.1,d.2.1.2.1,()),(d.2.2.1.1,d.2.2.1.2.1,()),())).bind fun e=>
(bm e.1.2.2.2.1 (0:Int) e.1.1).bind fun f=>
 some (((),()),(e.2.1.1,f,()),())
noncomputable def acZ:aD:=aG ad Tryz.f16 i16 abB [] f16
theorem awc:aA O 16 acZ:=aK Ej Tryz.func16 (by kernel_rfl) (a7 aoz (a7 aoy (a7 aox ae))) (fun y=>by kernel_rfl) fun a=>by kernel_rfl
noncomputable abbrev azl:a_:=[(64,De)]
theorem azR:aQ O (aW ad azl):=aV ⟨Ki,⟨⟩⟩
abbrev i47:Shape:=⟨[aj 0],[],10⟩
abbrev abf:Shape:=⟨[aj 2],[],10⟩
noncomputable def f47(a:i47.J):Option abf.J:=
(if-9223372036854775808<=(a.1.1.length:Int)/\(a.1.1.length:Int)<=9223372036854775807 then some () else none).bind fun b=>
(bZ (Lib.itoa (a.1.1.length:Int)) ([10]:B)).bind fun c=>
(bZ c a.1.1).bind fun d=>
(bZ d ([101,110,100,10]:B)).bind fun e=>
 some ((e,()),())
noncomputable def acL:aD:=aG ad Tryz.f47 i47 abf [] f47
theorem av2:aA O 47 acL:=aK azR Tryz.func47 (by kernel_rfl) ae (fun y=>by kernel_rfl) fun a=>by kernel_rfl
noncomputable abbrev azE:a_:=[(14,uy),(34,Ef),(43,Eb),(47,acL)]
theorem adi:aQ O (aW ad azE):=aV ⟨LP,LO,LL,av2,⟨⟩⟩
abbrev Um:Shape:=⟨[ag 2,ay 3 3 0,ay 4 4 0,ay 6 6 0],[ax 3 [ah,ah],ax 4 [bn .pack],ax 6 [ah,ah]],30⟩
abbrev Ua:List aP:=[(.norm,⟨[ag 2,ay 3 3 0,ay 4 4 0,ay 6 6 0,ao 15],[ax 3 [ah,ah],ax 4 [bn .pack],ax 6 [ah,ah]],30⟩)]
noncomputable def Vr(y:Um.J):Option (aB Ua):=
(f14 (((y.2.1.1,y.2.1.2.1,()),()),())).bind fun a=>
 bif(!(!a.1.1)) then
(f43 (((y.2.2.1.1,()),()),())).bind fun b=>
 some ((y.1.1,(),(),(),(!b.1.1),()),(y.2.1.1,y.2.1.2.1,()),(y.2.2.1.1,()),(y.2.2.2.1.1,y.2.2.2.1.2.1,()),())
else
 some ((y.1.1,(),(),(),true,()),(y.2.1.1,y.2.1.2.1,()),(y.2.2.1.1,()),(y.2.2.2.1.1,y.2.2.2.1.2.1,()),())
theorem aow:aS O (am (codeOf Tryz.f18) 1 12) (aU Um Ua Vr):=cd adi (by kernel_rfl) ae fun y=>by kernel_rfl
abbrev i18:Shape:=⟨[b_ 0 [ah,ah],b_ 1 [bn .pack],ag 2],[],30⟩
abbrev abz:Shape:=⟨[ay 6 6 0],[ax 6 [ah,ah]],30⟩
noncomputable def f18(a:i18.J):Option abz.J:=
(Vr ((a.1.2.2.1,(),(),(),()),(a.1.1.1,a.1.1.2.1,()),(a.1.2.1.1,()),(([]:B),([]:B),()),())).bind fun b=>
 bif b.1.2.2.2.2.1 then
 some (((),()),(([]:B),([]:B),()),())
else
(f34 (((b.2.2.1.1,()),()),())).bind fun c=>
(f47 ((c.1.1,()),())).bind fun d=>
(bm d.1.1 (0:Int) (lF (gJ b.1.1 (0:Int)) (d.1.1.length:Int))).bind fun e=>
 some (((),()),(b.2.1.1,e,()),())
noncomputable def acX:aD:=aG ad Tryz.f18 i18 abz [] f18
theorem awa:aA O 18 acX:=aK adi Tryz.func18 (by kernel_rfl) (a7 aow ae) (fun y=>by kernel_rfl) fun a=>by kernel_rfl
noncomputable abbrev NR:a_:=[(11,uz),(12,xT),(13,xS),(14,uy)]
theorem NW:aQ O (aW ad NR):=aV ⟨aaI,z12,aaH,LP,⟨⟩⟩
abbrev i3:Shape:=⟨[b_ 0 [ah,ah]],[],20⟩
abbrev o3:Shape:=⟨[ao 2],[],20⟩
noncomputable def f3(a:i3.J):Option o3.J:=
(f11 (((a.1.1.1,a.1.1.2.1,()),(1048576:Int),()),())).bind fun b=>
 bif(decide (b.1.1<(0:Int))) then
 some ((true,()),())
else
(f13 (((a.1.1.1,a.1.1.2.1,()),()),())).bind fun c=>
(f12 (((c.2.1.1,c.2.1.2.1,()),()),())).bind fun d=>
(f13 (((a.1.1.1,a.1.1.2.1,()),()),())).bind fun e=>
(f14 (((e.2.1.1,e.2.1.2.1,()),()),())).bind fun f=>
 bif(!(f.1.1==d.1.1)) then
 some ((false,()),())
else
 some ((true,()),())
noncomputable def je:aD:=aG ad Tryz.f3 i3 o3 [] f3
theorem z3:aA O 3 je:=aK NW Tryz.func3 (by kernel_rfl) ae (fun y=>by kernel_rfl) fun a=>by kernel_rfl
noncomputable abbrev NQ:a_:=[(11,uz),(13,xS),(15,xR),(16,acZ),(17,acY),(18,acX),(19,acW),(20,acV)]
theorem NV:aQ O (aW ad NQ):=aV ⟨aaI,aaH,awd,awc,awb,awa,av9,z20,⟨⟩⟩
abbrev i4:Shape:=⟨[b_ 0 [ah,ah],b_ 1 [bn .pack],ag 2],[],43⟩
abbrev adv:Shape:=⟨[ao 6],[],43⟩
noncomputable def f4(a:i4.J):Option adv.J:=
(f11 (((a.1.1.1,a.1.1.2.1,()),(1048576:Int),()),())).bind fun b=>
 bif(decide (b.1.1<(0:Int))) then
 some ((true,()),())
else
(f15 (((a.1.2.1.1,()),b.1.1,()),())).bind fun c=>
 bif(decide (c.1.1<(0:Int))) then
 some ((true,()),())
else
(f13 (((a.1.1.1,a.1.1.2.1,()),()),())).bind fun d=>
(f17 (((a.1.2.1.1,()),()),())).bind fun e=>
(f16 (((d.2.1.1,d.2.1.2.1,()),(e.2.1,()),a.1.2.2.1,()),())).bind fun f=>
(f17 (((a.1.2.1.1,()),()),())).bind fun g=>
(f13 (((a.1.1.1,a.1.1.2.1,()),()),())).bind fun h=>
(f18 (((h.2.1.1,h.2.1.2.1,()),(g.2.1,()),a.1.2.2.1,()),())).bind fun i=>
(f19 (((i.2.1.1,i.2.1.2.1,()),(f.2.1.1,f.2.1.2.1,()),()),())).bind fun j=>
 bif(!j.1.1) then
 some ((false,()),())
else
(f17 (((a.1.2.1.1,()),()),())).bind fun k=>
(f20 (((g.2.1,()),(k.2.1,()),()),())).bind fun l=>
 bif(!l.1.1) then
 some ((false,()),())
else
 some ((true,()),())
noncomputable def lY:aD:=aG ad Tryz.f4 i4 adv [] f4
theorem z4:aA O 4 lY:=aK NV Tryz.func4 (by kernel_rfl) ae (fun y=>by kernel_rfl) fun a=>by kernel_rfl
abbrev Rt:Shape:=⟨[ay 0 500000 0,ag 1],[ax 500000 [bn .u8,aZ]],99⟩
abbrev Ra:List aP:=[(.norm,⟨[ay 0 500000 0,ag 1,ao 24],[ax 500000 [bn .u8,aZ]],99⟩)]
noncomputable def zE(y:Rt.J):Option (aB Ra):=
 bif(!(decide (y.1.2.1<(1:Int)))) then
 some (((),y.1.2.1,((y.2.1.1.length:Int)==(0:Int)),()),(y.2.1.1,y.2.1.2.1,()),())
else
 some (((),y.1.2.1,true,()),(y.2.1.1,y.2.1.2.1,()),())
theorem ajQ:aS O (am (codeOf Tryz.f78) 1 28) (aU Rt Ra zE):=cd g0 (by kernel_rfl) ae fun y=>by kernel_rfl
abbrev Wt:Shape:=⟨[ay 0 500000 0,ag 1],[ax 500000 [bn .u8,aZ]],99⟩
abbrev Wd:Shape:=⟨[ay 0 500000 0,ag 4],[ax 500000 [bn .u8,aZ]],99⟩
noncomputable def fX(a:Wt.J):Option Wd.J:=
(zE (((),a.1.2.1,()),(a.2.1.1,(IntKind.i64.wrap (a.2.1.2.1+(1:Int))),()),())).bind fun b=>
 bif b.1.2.2.1 then
 some (((),(0:Int),()),(b.2.1.1,b.2.1.2.1,()),())
else
 bif(decide ((IntKind.i64.wrap (b.2.1.2.1-(1:Int)))<(b.2.1.1.length:Int))) then
(aO b.2.1.1 (IntKind.i64.wrap (b.2.1.2.1-(1:Int)))).bind fun c=>
(iG (IntKind.i64.wrap c) b.1.2.1).bind fun d=>
 some (((),d,()),(b.2.1.1,b.2.1.2.1,()),())
else
(iG (IntKind.i64.wrap (b.2.1.2.1-(1:Int))) (b.2.1.1.length:Int)).bind fun e=>
(aO b.2.1.1 e).bind fun f=>
(iG (IntKind.i64.wrap ((IntKind.i64.wrap ((IntKind.i64.wrap (b.2.1.2.1-(1:Int)))*(7:Int)))+(3:Int))) (b.2.1.1.length:Int)).bind fun g=>
(aO b.2.1.1 g).bind fun h=>
(lE .i64 (IntKind.i64.wrap (b.2.1.2.1-(1:Int))) (b.2.1.1.length:Int)).bind fun i=>
(lE .i64 (IntKind.i64.wrap ((IntKind.i64.wrap ((IntKind.i64.wrap ((IntKind.i64.wrap ((IntKind.i64.wrap f)*(131:Int)))+(IntKind.i64.wrap ((IntKind.i64.wrap h)*(1117:Int)))))+(IntKind.i64.wrap ((IntKind.i64.wrap (b.2.1.2.1-(1:Int)))*(29:Int)))))+(IntKind.i64.wrap (i*(53:Int))))) (64:Int)).bind fun j=>
(iG (dl .i64 (IntKind.i64.wrap ((IntKind.i64.wrap ((IntKind.i64.wrap ((IntKind.i64.wrap ((IntKind.i64.wrap f)*(131:Int)))+(IntKind.i64.wrap ((IntKind.i64.wrap h)*(1117:Int)))))+(IntKind.i64.wrap ((IntKind.i64.wrap (b.2.1.2.1-(1:Int)))*(29:Int)))))+(IntKind.i64.wrap (i*(53:Int))))) j) b.1.2.1).bind fun k=>
 some (((),k,()),(b.2.1.1,b.2.1.2.1,()),())
noncomputable def jp:aD:=aG ad Tryz.f78 Wt Wd [0] fX
theorem jM:aA O 78 jp:=aK g0 Tryz.func78 (by kernel_rfl) (a7 ajQ ae) (fun y=>by kernel_rfl) fun a=>by kernel_rfl
noncomputable abbrev aqX:a_:=[(78,jp)]
theorem aq3:aQ O (aW ad aqX):=aV ⟨jM,⟨⟩⟩
abbrev Ws:Shape:=⟨[ay 0 500000 0,aI 1 .str],[ax 500000 [bn .u8,aZ]],12⟩
abbrev Wc:Shape:=⟨[ay 0 500000 0,aj 4],[ax 500000 [bn .u8,aZ]],12⟩
noncomputable def jo(a:Ws.J):Option Wc.J:=
(fX (((),(a.1.2.1.length:Int),()),(a.2.1.1,a.2.1.2.1,()),())).bind fun b=>
(aO a.1.2.1 b.1.2.1).bind fun c=>
 some (((),c,()),(b.2.1.1,b.2.1.2.1,()),())
noncomputable def kE:aD:=aG ad Tryz.f79 Ws Wc [0] jo
theorem lr:aA O 79 kE:=aK aq3 Tryz.func79 (by kernel_rfl) ae (fun y=>by kernel_rfl) fun a=>by kernel_rfl
noncomputable abbrev apo:a_:=[(79,kE)]
theorem apH:aQ O (aW ad apo):=aV ⟨lr,⟨⟩⟩
abbrev U9:Shape:=⟨[ay 0 500000 0],[ax 500000 [bn .u8,aZ]],6⟩
abbrev UE:Shape:=⟨[ay 0 500000 0,aj 2],[ax 500000 [bn .u8,aZ]],6⟩
noncomputable def s7(a:U9.J):Option UE.J:=
(jo (((),([([49]:B),([49,46,48]:B),([49,46,49]:B),([49,46,50]:B),([50]:B),([48,46,57,46,57]:B),([49,46,49,48]:B),([57,57,57,46,57,57,57,46,57,57,57,46,57,57,57]:B)]:List B),()),(a.2.1.1,a.2.1.2.1,()),())).bind fun b=>
 some (((),b.1.2.1,()),(b.2.1.1,b.2.1.2.1,()),())
noncomputable def Co:aD:=aG ad Tryz.f176 U9 UE [0] s7
theorem I5:aA O 176 Co:=aK apH Tryz.func176 (by kernel_rfl) ae (fun y=>by kernel_rfl) fun a=>by kernel_rfl
noncomputable abbrev atV:a_:=[(143,Lp),(144,Lo),(145,Ln),(194,Dg),(202,wZ)]
theorem Lu:aQ O (aW ad atV):=aV ⟨z143,W5,z145,z194,CT,⟨⟩⟩
abbrev RB:Shape:=⟨[aI 0 .entry,ay 3 3 0,ba 4 3000256,ao 5,ag 6,ao 7,ba 8 3000512],[ax 3 [ah,aZ,aZ,ah],a' 3000256 .entry 4 0,a' 3000512 .entry 8 0],68⟩
abbrev Ri:List aP:=[(.norm,⟨[aI 0 .entry,ay 3 3 0,ba 4 3000256,ao 5,ag 6,ao 7,ba 8 3000512,ao 18],[ax 3 [ah,aZ,aZ,ah],a' 3000256 .entry 4 0,a' 3000512 .entry 8 0],68⟩)]
noncomputable def zJ(y:RB.J):Option (aB Ri):=
(f143 (((y.2.1.1,y.2.1.2.1,y.2.1.2.2.1,y.2.1.2.2.2.1,()),()),())).bind fun a=>
 bif(!(!a.1.1)) then
(f145 ((y.2.1.1,()),())).bind fun b=>
(f144 ((y.1.1,b.1.1,()),())).bind fun c=>
 some ((y.1.1,(),(),y.1.2.2.2.1,y.1.2.2.2.2.1,y.1.2.2.2.2.2.1,(),(!c.1.1),()),(y.2.1.1,y.2.1.2.1,y.2.1.2.2.1,y.2.1.2.2.2.1,()),y.2.2.1,y.2.2.2.1,())
else
 some ((y.1.1,(),(),y.1.2.2.2.1,y.1.2.2.2.2.1,y.1.2.2.2.2.2.1,(),true,()),(y.2.1.1,y.2.1.2.1,y.2.1.2.2.1,y.2.1.2.2.2.1,()),y.2.2.1,y.2.2.2.1,())
theorem aj6:aS O (am (codeOf Tryz.f223) 1 120) (aU RB Ri zJ):=cd Lu (by kernel_rfl) ae fun y=>by kernel_rfl
abbrev RA:Shape:=⟨[aI 0 .entry,ay 3 3 0,ba 4 3000256,ao 5,ag 6,ao 7,ba 8 3000512],[ax 3 [ah,aZ,aZ,ah],a' 3000256 .entry 4 0,a' 3000512 .entry 8 0],68⟩
abbrev Rh:List aP:=[(.norm,⟨[aI 0 .entry,ay 3 3 0,ba 4 3000256,ao 5,ag 6,ao 7,ba 8 3000512,ao 31],[ax 3 [ah,aZ,aZ,ah],a' 3000256 .entry 4 0,a' 3000512 .entry 8 0],68⟩)]
noncomputable def zI(y:RA.J):Option (aB Rh):=
 bif y.1.2.2.2.2.2.1 then
(aO y.1.1 y.1.2.2.2.2.1).bind fun a=>
 some ((y.1.1,(),(),y.1.2.2.2.1,y.1.2.2.2.2.1,y.1.2.2.2.2.2.1,(),(a.kind !=y.2.1.2.1),()),(y.2.1.1,y.2.1.2.1,y.2.1.2.2.1,y.2.1.2.2.2.1,()),y.2.2.1,y.2.2.2.1,())
else
 some ((y.1.1,(),(),y.1.2.2.2.1,y.1.2.2.2.2.1,y.1.2.2.2.2.2.1,(),false,()),(y.2.1.1,y.2.1.2.1,y.2.1.2.2.1,y.2.1.2.2.2.1,()),y.2.2.1,y.2.2.2.1,())
theorem aj5:aS O (am (codeOf Tryz.f223) 1 486) (aU RA Rh zI):=cd Lu (by kernel_rfl) ae fun y=>by kernel_rfl
abbrev i223:Shape:=⟨[aI 0 .entry,b_ 1 [ah,aZ,aZ,ah]],[],68⟩
abbrev XH:Shape:=⟨[ba 4 3000256,ao 5],[a' 3000256 .entry 4 0],68⟩
noncomputable def f223(a:i223.J):Option XH.J:=
(f194 ((a.1.1,a.1.2.1.1,()),())).bind fun b=>
(f202 ((a.1.1,()),())).bind fun c=>
(zJ ((a.1.1,(),(),false,b.1.1,b.1.2.1,(),()),(a.1.2.1.1,a.1.2.1.2.1,a.1.2.1.2.2.1,a.1.2.1.2.2.2.1,()),([]:List aw),c.2.1,())).bind fun d=>
 bif d.1.2.2.2.2.2.2.2.1 then
 some (((),false,()),d.2.2.2.1,())
else
(zI ((d.1.1,(),(),d.1.2.2.2.1,d.1.2.2.2.2.1,d.1.2.2.2.2.2.1,(),()),(d.2.1.1,d.2.1.2.1,d.2.1.2.2.1,d.2.1.2.2.2.1,()),d.2.2.1,d.2.2.2.1,())).bind fun e=>
 bif e.1.2.2.2.2.2.2.2.1 then
 some (((),false,()),e.2.2.2.1,())
else
 bif e.1.2.2.2.2.2.1 then
(be e.2.2.2.1.length e.1.2.2.2.2.1).bind fun f=>
((e.2.2.2.1[f]?).bind fun q=>some (aw.mk e.2.1.1 e.2.1.2.1 e.2.1.2.2.1 e.2.1.2.2.2.1)).bind fun g=>
 some (((),true,()),(e.2.2.2.1.set f g),())
else
 bif(decide ((e.1.1.length:Int)>=(16:Int))) then
 some (((),false,()),e.2.2.2.1,())
else
(bm e.1.1 (0:Int) e.1.2.2.2.2.1).bind fun h=>
(b9 48 ([]:List aw) h).bind fun i=>
(b9 48 i ([(aw.mk e.2.1.1 e.2.1.2.1 e.2.1.2.2.1 e.2.1.2.2.2.1)]:List aw)).bind fun j=>
(bm e.1.1 e.1.2.2.2.2.1 (e.1.1.length:Int)).bind fun k=>
(b9 48 j k).bind fun l=>
 some (((),true,()),l,())
noncomputable def Z2:aD:=aG ad Tryz.f223 i223 XH [] f223
theorem arz:aA O 223 Z2:=aK Lu Tryz.func223 (by kernel_rfl) (a7 aj6 (a7 aj5 ae)) (fun y=>by kernel_rfl) fun a=>by kernel_rfl
noncomputable abbrev apf:a_:=[(79,kE)]
theorem apB:aQ O (aW ad apf):=aV ⟨lr,⟨⟩⟩
abbrev U0:Shape:=⟨[ay 0 500000 0],[ax 500000 [bn .u8,aZ]],6⟩
abbrev Uw:Shape:=⟨[ay 0 500000 0,aj 2],[ax 500000 [bn .u8,aZ]],6⟩
noncomputable def s6(a:U0.J):Option Uw.J:=
(jo (((),([([97]:B),([98]:B),([97,47,98]:B),([97,47,99]:B),([97,47,98,47,99]:B),([108,105,98]:B),([108,105,98,47,120]:B),([108,105,98,47,120,46,99]:B),([100,111,99,47,121]:B),([98,105,110]:B),([98,105,110,47,122]:B),([97,47,98,47,99,47,100,47,101]:B)]:List B),()),(a.2.1.1,a.2.1.2.1,()),())).bind fun b=>
 some (((),b.1.2.1,()),(b.2.1.1,b.2.1.2.1,()),())
noncomputable def JT:aD:=aG ad Tryz.f261 U0 Uw [0] s6
theorem TU:aA O 261 JT:=aK apB Tryz.func261 (by kernel_rfl) ae (fun y=>by kernel_rfl) fun a=>by kernel_rfl
abbrev Rz:Shape:=⟨[aj 0,ag 1,aj 5],[],20⟩
abbrev Rg:List aP:=[(.norm,⟨[aj 0,ag 1,aj 5],[],20⟩)]
noncomputable def zH(y:Rz.J):Option (aB Rg):=
(iG y.1.2.1 (2:Int)).bind fun a=>
 bif(a==(1:Int)) then
(bZ y.1.2.2.1 y.1.1).bind fun b=>
 some ((y.1.1,y.1.2.1,b,()),())
else
 some ((y.1.1,y.1.2.1,y.1.2.2.1,()),())
theorem aj4:aS O (am (c4 (am (codeOf Tryz.f237) 1 28)) 56 452) (aU Rz Rg zH):=cd g0 (by kernel_rfl) ae fun y=>by kernel_rfl
abbrev Aa:Shape:=⟨[aj 0,ag 1,aj 5],[],20⟩
abbrev Hv:List aP:=[(.exit 0,⟨[aj 5],[],20⟩)]
noncomputable def TF(y:Aa.J):bG Aa Hv:=
 bif(decide (y.1.2.1>(0:Int))) then
(zH ((y.1.1,y.1.2.1,y.1.2.2.1,()),())).bind fun a=>
(bZ a.1.1 a.1.1).bind fun b=>
(lE .i64 a.1.2.1 (2:Int)).bind fun c=>
 some (.inl ((b,c,a.1.2.2.1,()),()))
else
 some (.inr ((y.1.2.2.1,()),()))
noncomputable def Ij:Aa.J->Option (aB Hv):=br TF
theorem alZ:aS O (am (codeOf Tryz.f237) 1 28) (aU Aa Hv Ij):=bH g0 (by kernel_rfl) (a7 aj4 ae) fun y=>by kernel_rfl
abbrev i237:Shape:=⟨[aj 0,ag 1],[],20⟩
abbrev XA:Shape:=⟨[aj 4],[],20⟩
noncomputable def f237(a:i237.J):Option XA.J:=
(Ij ((a.1.1,a.1.2.1,([]:B),()),())).bind fun b=>
 some ((b.1.1,()),())
noncomputable def K':aD:=aG ad Tryz.f237 i237 XA [] f237
theorem WW:aA O 237 K':=aK g0 Tryz.func237 (by kernel_rfl) (a7 alZ ae) (fun y=>by kernel_rfl) fun a=>by kernel_rfl
noncomputable abbrev ape:a_:=[(79,kE),(237,K')]
theorem apA:aQ O (aW ad ape):=aV ⟨lr,WW,⟨⟩⟩
abbrev UZ:Shape:=⟨[ay 0 500000 0],[ax 500000 [bn .u8,aZ]],7⟩
abbrev Uv:Shape:=⟨[ay 0 500000 0,aj 2],[ax 500000 [bn .u8,aZ]],7⟩
noncomputable def Ca(a:UZ.J):Option Uv.J:=
(f237 ((([116]:B),(80:Int),()),())).bind fun b=>
(jo (((),([([]:B),([111,110,101,10]:B),([111,110,101,10,116,119,111,10,116,104,114,101,101,10]:B),([110,111,32,101,110,100]:B),([97,10,98,10,99,10,100,10,101,10,102,10,103,10]:B),b.1.1]:List B),()),(a.2.1.1,a.2.1.2.1,()),())).bind fun c=>
 some (((),c.1.2.1,()),(c.2.1.1,c.2.1.2.1,()),())
noncomputable def VC:aD:=aG ad Tryz.f262 UZ Uv [0] Ca
theorem anz:aA O 262 VC:=aK apA Tryz.func262 (by kernel_rfl) ae (fun y=>by kernel_rfl) fun a=>by kernel_rfl
noncomputable abbrev aqY:a_:=[(78,jp)]
theorem aq4:aQ O (aW ad aqY):=aV ⟨jM,⟨⟩⟩
abbrev Wu:Shape:=⟨[ay 0 500000 0,aI 1 .i64],[ax 500000 [bn .u8,aZ]],12⟩
abbrev We:Shape:=⟨[ay 0 500000 0,ag 4],[ax 500000 [bn .u8,aZ]],12⟩
noncomputable def wv(a:Wu.J):Option We.J:=
(fX (((),(a.1.2.1.length:Int),()),(a.2.1.1,a.2.1.2.1,()),())).bind fun b=>
(aO a.1.2.1 b.1.2.1).bind fun c=>
 some (((),c,()),(b.2.1.1,b.2.1.2.1,()),())
noncomputable def Ke:aD:=aG ad Tryz.f77 Wu We [0] wv
theorem VZ:aA O 77 Ke:=aK aq4 Tryz.func77 (by kernel_rfl) ae (fun y=>by kernel_rfl) fun a=>by kernel_rfl
noncomputable abbrev apj:a_:=[(77,Ke),(78,jp),(261,JT),(262,VC)]
theorem apD:aQ O (aW ad apj):=aV ⟨VZ,jM,TU,anz,⟨⟩⟩
abbrev U4:Shape:=⟨[ay 0 500000 0],[ax 500000 [bn .u8,aZ]],26⟩
abbrev Uz:Shape:=⟨[ay 0 500000 0,ay 2 2 0],[ax 500000 [bn .u8,aZ],ax 2 [ah,aZ,aZ,ah]],26⟩
noncomputable def vX(a:U4.J):Option Uz.J:=
(s6 (((),()),(a.2.1.1,a.2.1.2.1,()),())).bind fun b=>
(wv (((),([(1:Int),(1:Int),(2:Int),(2:Int),(3:Int)]:List Int),()),(b.2.1.1,b.2.1.2.1,()),())).bind fun c=>
(fX (((),(8:Int),()),(c.2.1.1,c.2.1.2.1,()),())).bind fun d=>
 bif(c.1.2.1==(2:Int)) then
(Ca (((),()),(d.2.1.1,d.2.1.2.1,()),())).bind fun e=>
 some (((),(),()),(e.2.1.1,e.2.1.2.1,()),(b.1.2.1,c.1.2.1,d.1.2.1,e.1.2.1,()),())
else
 bif(c.1.2.1==(3:Int)) then
(s6 (((),()),(d.2.1.1,d.2.1.2.1,()),())).bind fun f=>
 some (((),(),()),(f.2.1.1,f.2.1.2.1,()),(b.1.2.1,c.1.2.1,(0:Int),f.1.2.1,()),())
else
 some (((),(),()),(d.2.1.1,d.2.1.2.1,()),(b.1.2.1,c.1.2.1,d.1.2.1,([]:B),()),())
noncomputable def JU:aD:=aG ad Tryz.f224 U4 Uz [0] vX
theorem TV:aA O 224 JU:=aK apD Tryz.func224 (by kernel_rfl) ae (fun y=>by kernel_rfl) fun a=>by kernel_rfl
theorem gU(a)(m:Nat)(h:cX a.2.1.1 a.2.1.2.1 m)(hm:1<=m):Z (fX a) (fun r=>cX r.2.1.1 r.2.1.2.1 (m-1)/\(0:Int)<=r.1.2.1/\((1:Int)<=a.1.2.1->(r.1.2.1:Int)<a.1.2.1)):=by
 obtain⟨⟨u1,(n:Int),u2⟩,⟨⟨(b:List Int),(p:Int),uF⟩,aAn⟩⟩:=a;have h:cX b p m:=h;obtain⟨h1,h2,h3,aC⟩:=h;have e1:IntKind.i64.wrap (p+1)=p+1:=cS (by omega) (by omega)
 have e2:IntKind.i64.wrap (p+1-1)=p:=by rw[show p+1-1=p by omega];exact cS (by omega) (by omega)
 have R:cX b (p+1) (m-1):=⟨h1,h2,by omega,by omega⟩
 unfold fX;simp only[e1];have hg:zE (((),(n,())),((b,(p+1,())),()))=some ((((),(n,((decide (n<1)||(b.length:Int)==0),()))),((b,(p+1,())),()))):=by
  unfold zE;cases decide (n<1)<;>rfl
 refine Z.eq hg ?_
 refine Z.ite (fun hc=>Z.ret ⟨R,Int.le_refl _,fun hn=>hn⟩) fun hc=>?_
 have hc:(decide (n<1)||(b.length:Int)==0)=false:=hc;simp only[Bool.or_eq_false_iff,decide_eq_false_iff_not,beq_eq_false_iff_ne,ne_eq] at hc;have hn:1<=n:=by omega
 have hb:0<b.length:=by omega
 simp only[e2];refine Z.ite (fun aa=>?_) fun aa=>?_
 ·have aa:p<(b.length:Int):=of_decide_eq_true aa;obtain⟨x,aE,aF⟩:=nd (xs:=b) h3 aa;obtain⟨bJ,cB⟩:=h2 x aF;refine Z.eq aE ?_
  have bC:IntKind.i64.wrap x=x:=cS (by omega) (by omega)
  refine Z.eq (x:=x%n) (by show iG (IntKind.i64.wrap x) n=_;rw[bC];exact ob bJ (by omega)) ?_
  exact Z.ret ⟨R,Int.emod_nonneg _ (by omega),fun _=>Int.emod_lt_of_pos _ (by omega)⟩
 ·have hl:0<(b.length:Int):=by omega
  have m7:IntKind.i64.wrap (IntKind.i64.wrap (p*7)+3)=p*7+3:=by rw[cS (n:=p*7) (by omega) (by omega)];exact cS (by omega) (by omega)
  obtain⟨x,aE,aF⟩:=nd (xs:=b) (Int.emod_nonneg p (b:=(b.length:Int)) (by omega)) (Int.emod_lt_of_pos p hl)
  obtain⟨bJ,cB⟩:=h2 x aF;obtain⟨y,dQ,fy⟩:=nd (xs:=b) (Int.emod_nonneg (p*7+3) (b:=(b.length:Int)) (by omega)) (Int.emod_lt_of_pos (p*7+3) hl)
  obtain⟨uH,aCt⟩:=h2 y fy;have q0:0<=p/(b.length:Int):=Int.ediv_nonneg h3 (by omega)
  have q1:p/(b.length:Int)<=p:=Int.ediv_le_self _ h3;refine Z.eq (x:=p%(b.length:Int)) (ob h3 hl) ?_
  refine Z.eq aE ?_
  refine Z.eq (x:=(p*7+3)%(b.length:Int)) (by show iG (IntKind.i64.wrap (IntKind.i64.wrap (p*7)+3)) (b.length:Int)=_;rw[m7];exact ob (by omega) hl) ?_
  refine Z.eq dQ ?_
  refine Z.eq (x:=p/(b.length:Int)) (vQ rfl h3 (by omega) hl) ?_
  have aY:IntKind.i64.wrap x=x:=cS (by omega) (by omega)
  have w2:IntKind.i64.wrap y=y:=cS (by omega) (by omega)
  have cf:IntKind.i64.wrap (x*131)=x*131:=cS (by omega) (by omega)
  have k1:IntKind.i64.wrap (y*1117)=y*1117:=cS (by omega) (by omega)
  have rQ:IntKind.i64.wrap (x*131+y*1117)=x*131+y*1117:=cS (by omega) (by omega)
  have oO:IntKind.i64.wrap (p*29)=p*29:=cS (by omega) (by omega)
  have jD:IntKind.i64.wrap (x*131+y*1117+p*29)=x*131+y*1117+p*29:=cS (by omega) (by omega)
  have oN:IntKind.i64.wrap (p/(b.length:Int)*53)=p/(b.length:Int)*53:=cS (by omega) (by omega)
  have h7:IntKind.i64.wrap (x*131+y*1117+p*29+p/(b.length:Int)*53)=x*131+y*1117+p*29+p/(b.length:Int)*53:=cS (by omega) (by omega)
  simp only[aY,w2,cf,k1,rQ,oO,jD,oN,h7];have n0:0<=x*131+y*1117+p*29+p/(b.length:Int)*53:=by omega
  have n1:x*131+y*1117+p*29+p/(b.length:Int)*53<4611686018427387904:=by omega
  generalize x*131+y*1117+p*29+p/(b.length:Int)*53=X at n0 n1;refine Z.eq (x:=X/64) (vQ rfl n0 (by omega) (by decide)) ?_
  have hx:=anQ n0 n1 (Int.ediv_nonneg n0 (by decide:(0:Int)<=64)) (Int.lt_of_le_of_lt (Int.ediv_le_self 64 n0) n1)
  refine Z.eq (x:=dl .i64 X (X/64)%n) (ob hx (by omega)) ?_
  exact Z.ret ⟨R,Int.emod_nonneg _ (by omega),fun _=>Int.emod_lt_of_pos _ (by omega)⟩
theorem kF(a)(m:Nat)(h:cX a.2.1.1 a.2.1.2.1 m)(hm:1<=m)(hl:(1:Int)<=(a.1.2.1:List B).length):Z (jo a) (fun r=>cX r.2.1.1 r.2.1.2.1 (m-1)/\r.1.2.1∈(a.1.2.1:List B)):=by
 unfold jo;refine Z.bind (gU _ m h hm) fun r hr=>?_
 obtain⟨x,aE,aF⟩:=nd (xs:=(a.1.2.1:List B)) hr.2.1 (hr.2.2 hl);exact Z.eq aE (Z.ret ⟨hr.1,aF⟩)
theorem V3(a)(m:Nat)(h:cX a.2.1.1 a.2.1.2.1 m)(hm:1<=m)(hl:(1:Int)<=(a.1.2.1:List Int).length):Z (wv a) (fun r=>cX r.2.1.1 r.2.1.2.1 (m-1)/\r.1.2.1∈(a.1.2.1:List Int)):=by
 unfold wv;refine Z.bind (gU _ m h hm) fun r hr=>?_
 obtain⟨x,aE,aF⟩:=nd (xs:=(a.1.2.1:List Int)) hr.2.1 (hr.2.2 hl);exact Z.eq aE (Z.ret ⟨hr.1,aF⟩)
abbrev dr(s:B):Prop:=s.length<=200
theorem pf{L:List B}(h:L.all (fun s=>decide (s.length<=200))=true){s:B}(hs:s∈L):dr s:=of_decide_eq_true (List.all_eq_true.1 h s hs)
theorem EI(a)(m:Nat)(h:cX a.2.1.1 a.2.1.2.1 m)(hm:1<=m):Z (s7 a) (fun r=>cX r.2.1.1 r.2.1.2.1 (m-1)/\dr r.1.2.1):=by
 unfold s7;refine Z.bind (kF _ m h hm (by simp)) fun r hr=>Z.ret ⟨hr.1,pf (by rfl) hr.2⟩
theorem Fj(a)(m:Nat)(h:cX a.2.1.1 a.2.1.2.1 m)(hm:1<=m):Z (s6 a) (fun r=>cX r.2.1.1 r.2.1.2.1 (m-1)/\dr r.1.2.1):=by
 unfold s6;refine Z.bind (kF _ m h hm (by simp)) fun r hr=>Z.ret ⟨hr.1,pf (by rfl) hr.2⟩
theorem Q5(a)(hs:(a.1.1:B).length<=1)(h0:(0:Int)<=a.1.2.1)(h1:(a.1.2.1:Int)<=127):Z (f237 a) (fun r=>dr r.1.1):=by
 obtain⟨⟨(s:B),(n:Int),u⟩,bV⟩:=a;unfold f237;have key:Z (Ij ((s,(n,(([]:B),()))),())) (fun r=>dr r.1.1):=by
  refine Z.loop (fun(k:Nat) y=>(0:Int)<=y.1.2.1/\(y.1.2.1:Int).toNat=k/\(y.1.2.1:Int).toNat*(y.1.1:B).length+(y.1.2.2.1:B).length<=127/\(y.1.1:B).length<=256/\(y.1.2.1:Int)<=127) (fun k y hy=>?_) n.toNat _ ⟨h0,rfl,?_,by show s.length<=256;have:s.length<=1:=hs;omega,h1⟩
  ·obtain⟨⟨(s:B),(n:Int),(out:B),u⟩,bV⟩:=y;obtain⟨cH,dm,dK,h6,eQ⟩:=hy;have eQ:n<=127:=eQ;have cH:0<=n:=cH;have dK:n.toNat*s.length+out.length<=127:=dK;have h6:s.length<=256:=h6;unfold TF;refine Z.ite (fun hc=>?_) fun hc=>?_
   ·have hc:n>0:=of_decide_eq_true hc;have eL:1<=n.toNat:=by omega
    have iI:s.length<=127:=by have:=Nat.mul_le_mul_right s.length eL;omega
    have piece:Z (zH ((s,(n,(out,()))),())) (fun r=>r.1.1=s/\r.1.2.1=n/\(n%2=1/\(r.1.2.2.1:B).length=out.length+s.length\/n%2=0/\(r.1.2.2.1:B).length=out.length)):=by
     unfold zH;refine Z.eq (x:=n%2) (ob cH (by decide)) ?_
     refine Z.ite (fun aa=>?_) fun aa=>?_
     ·have aa:n%2=1:=by simpa using aa
      exact Z.eq (dH (s:=out) (t:=s) (by omega)) (Z.ret ⟨rfl,rfl,.inl ⟨aa,by simp⟩⟩)
     ·have aa:¬n%2=1:=by simpa using aa
      exact Z.ret ⟨rfl,rfl,.inr ⟨by omega,rfl⟩⟩
    refine Z.bind piece fun r hr=>?_
    obtain⟨⟨(aN:B),(hH:Int),(Ku:B),v⟩,v'⟩:=r;obtain⟨r1,r2,di⟩:=hr;have r1:aN=s:=r1;have r2:hH=n:=r2;subst r1 r2;refine Z.eq (dH (s:=aN) (t:=aN) (by omega)) ?_
    refine Z.eq (x:=hH/2) (vQ (x:=hH) rfl cH (by omega) (by decide)) ?_
    refine Z.ret ⟨(hH/2).toNat,?_,?_⟩
    ·show(hH/2).toNat<k;have:hH.toNat=k:=dm;omega
    ·refine⟨by show 0<=hH/2;omega,rfl,?_,by show(aN++aN).length<=256;simp;omega,by show hH/2<=127;omega⟩
     show(hH/2).toNat*(aN++aN).length+Ku.length<=127;have di:hH%2=1/\Ku.length=out.length+aN.length\/hH%2=0/\Ku.length=out.length:=di;obtain⟨q,az⟩:∃q:Nat,(hH/2).toNat=q:=⟨_,rfl⟩;rw[az,List.length_append];rcases di with⟨di,gg⟩|⟨di,gg⟩
     ·have e:hH.toNat=2*q+1:=by omega
      rw[e] at dK;rw[gg];have:(2*q+1)*aN.length=q*(aN.length+aN.length)+aN.length:=by rw[Nat.add_mul,Nat.one_mul,Nat.mul_assoc,Nat.mul_add];omega
      omega
     ·have e:hH.toNat=2*q:=by omega
      rw[e] at dK;rw[gg];have:2*q*aN.length=q*(aN.length+aN.length):=by rw[Nat.mul_add,Nat.mul_assoc];omega
      omega
   ·exact Z.ret (show out.length<=200 by omega)
  ·show n.toNat*s.length+0<=127;have hs:s.length<=1:=hs;have h1:n<=127:=h1;have:n.toNat*s.length<=n.toNat*1:=Nat.mul_le_mul_left _ hs;omega
 exact Z.bind key fun r hr=>Z.ret hr
theorem ahx(a)(m:Nat)(h:cX a.2.1.1 a.2.1.2.1 m)(hm:1<=m):Z (Ca a) (fun r=>cX r.2.1.1 r.2.1.2.1 (m-1)/\dr r.1.2.1):=by
 unfold Ca;refine Z.bind (Q5 _ (by simp) (by show(0:Int)<=80;decide) (by show(80:Int)<=127;decide)) fun q az=>?_
 refine Z.bind (kF _ m h hm (by simp)) fun r hr=>Z.ret ⟨hr.1,?_⟩
 have:=hr.2;simp only[List.mem_cons,List.not_mem_nil,or_false] at this;rcases this with e|e|e|e|e|e
 ·show(r.1.2.1:B).length<=200;rw[e];decide
 ·show(r.1.2.1:B).length<=200;rw[e];decide
 ·show(r.1.2.1:B).length<=200;rw[e];decide
 ·show(r.1.2.1:B).length<=200;rw[e];decide
 ·show(r.1.2.1:B).length<=200;rw[e];decide
 ·show(r.1.2.1:B).length<=200;rw[e];exact az
abbrev k0(e:aw):Prop:=dr e.path/\dr e.text
theorem O3(a)(m:Nat)(h:cX a.2.1.1 a.2.1.2.1 m)(hm:4<=m):Z (vX a) (fun r=>cX r.2.1.1 r.2.1.2.1 (m-4)/\k0 ⟨r.2.2.1.1,r.2.2.1.2.1,r.2.2.1.2.2.1,r.2.2.1.2.2.2.1⟩):=by
 unfold vX;refine Z.bind (Fj _ m h (by omega)) fun r1 h1=>?_
 refine Z.bind (V3 _ (m-1) h1.1 (by omega) (by simp)) fun r2 h2=>?_
 refine Z.bind (gU _ (m-1-1) h2.1 (by omega)) fun di h3=>?_
 refine Z.ite (fun _=>?_) fun _=>Z.ite (fun _=>?_) fun _=>?_
 ·exact Z.bind (ahx _ _ h3.1 (by omega)) fun gg aC=>Z.ret ⟨aC.1.less (by omega),h1.2,aC.2⟩
 ·exact Z.bind (Fj _ _ h3.1 (by omega)) fun gg aC=>Z.ret ⟨aC.1.less (by omega),h1.2,aC.2⟩
 ·exact Z.ret ⟨h3.1.less (by omega),h1.2,show(0:Nat)<=200 by decide⟩
theorem F8(a)(h:cj a.1.1.length):f202 a=some (((),()),(a.1.1,())):=by
 obtain⟨⟨t,u⟩,bV⟩:=a;have h:t.length<=2097152:=h;simp only[f202,dh (show(48:Nat)<=100 by decide) (show ar (([]:List aw).length+t.length) by unfold ar;simp;omega),List.nil_append,Option.bind_some]
abbrev jb(t:List aw):Prop:=t.length<=16/\∀e,e∈t->k0 e
theorem SF{t:List aw}{k:Nat}{e:aw}(h:∀e,e∈t->k0 e)(he:k0 e):∀x,x∈t.set k e->k0 x:=by
 intro x hx;rcases List.mem_or_eq_of_mem_set hx with hx|hx
 ·exact h x hx
 ·rw[hx];exact he
theorem Hf(a)(au:jb a.1.1)(he:k0 ⟨a.1.2.1.1,a.1.2.1.2.1,a.1.2.1.2.2.1,a.1.2.1.2.2.2.1⟩):Z (f223 a) (fun r=>jb r.2.1):=by
 obtain⟨⟨t,⟨path,kind,mode,text,mJ⟩,u⟩,bV⟩:=a;obtain⟨h1,h2⟩:=au;have h1:t.length<=16:=h1;have he:k0 ⟨path,kind,mode,text⟩:=he;have hb:cj t.length:=by unfold cj;omega
 unfold f223;refine Z.eq (I7 ((t,(path,())),()) hb) ?_
 refine Z.eq (F8 ((t,()),()) hb) ?_
 have hp:=qE t path;have e1:=PF (((path,(kind,(mode,(text,())))),()),()) (Nat.le_trans he.1 (by decide)) (Nat.le_trans he.2 (by decide))
 have e2:=T2 ((path,()),()) (Nat.le_trans he.1 (by decide))
 have bC:=Sg ((t,(iY path,())),()) hb;obtain⟨c,hc⟩:∃c:Bool,zJ ((t,((),((),(false,((bM t path:Int),(gH t path,((),()))))))),((path,(kind,(mode,(text,())))),(([]:List aw),(t,()))))=
   some ((t,((),((),(false,((bM t path:Int),(gH t path,((),(c,())))))))),((path,(kind,(mode,(text,())))),(([]:List aw),(t,())))):=by
  unfold zJ;simp only[e1,Option.bind_some,Bool.not_not];cases eN ⟨path,kind,mode,text⟩ with
  |false=>exact⟨true,rfl⟩
  |true=>simp only[cond_true,e2,Option.bind_some,bC];exact⟨_,rfl⟩
 refine Z.eq hc ?_
 refine Z.ite (fun _=>Z.ret ⟨h1,h2⟩) fun _=>?_
 obtain⟨d,aa⟩:∃d:Bool,zI ((t,((),((),(false,((bM t path:Int),(gH t path,((),()))))))),((path,(kind,(mode,(text,())))),(([]:List aw),(t,()))))=
   some ((t,((),((),(false,((bM t path:Int),(gH t path,((),(d,())))))))),((path,(kind,(mode,(text,())))),(([]:List aw),(t,())))):=by
  unfold zI;cases bL:gH t path with
  |false=>exact⟨false,rfl⟩
  |true=>
   unfold gH at bL;cases az:t[bM t path]? with
   |none=>rw[az] at bL;cases bL
   |some e=>simp only[cond_true,b4,az,Option.bind_some];exact⟨_,rfl⟩
 refine Z.eq aa ?_
 refine Z.ite (fun _=>Z.ret ⟨h1,h2⟩) fun _=>?_
 refine Z.ite (fun bL=>?_) fun _=>Z.ite (fun _=>Z.ret ⟨h1,h2⟩) fun hl=>?_
 ·have bL:gH t path=true:=bL;unfold gH at bL;cases az:t[bM t path]? with
  |none=>rw[az] at bL;cases bL
  |some e=>
   refine Z.eq (ft (cT az)) ?_
   refine Z.eq (x:=aw.mk path kind mode text) (by show(t[bM t path]?).bind _=_;rw[az];rfl) ?_
   exact Z.ret ⟨by show(t.set _ _).length<=16;rw[List.length_set];exact h1,SF h2 he⟩
 ·have hl:¬((t.length:Int)>=16):=of_decide_eq_false hl;refine Z.eq (gj hp) ?_
  refine Z.eq (dh (by decide) (by unfold ar;simp;omega)) ?_
  refine Z.eq (dh (by decide) (by unfold ar;simp;omega)) ?_
  refine Z.eq (fc hp) ?_
  refine Z.eq (dh (by decide) (by unfold ar;simp;omega)) ?_
  refine Z.ret ⟨?_,fun x hx=>?_⟩
  ·show(([]++t.take (bM t path)++[aw.mk path kind mode text])++t.drop (bM t path)).length<=16;simp;omega
  ·have hx:x∈([]++t.take (bM t path)++[aw.mk path kind mode text])++t.drop (bM t path):=hx;simp only[List.nil_append,List.mem_append,List.mem_singleton] at hx;rcases hx with(hx|hx)|hx
   ·exact h2 x (List.mem_of_mem_take hx)
   ·rw[hx];exact he
   ·exact h2 x (List.mem_of_mem_drop hx)
noncomputable abbrev atF:a_:=[(146,Dh)]
theorem w4:aQ O (aW ad atF):=aV ⟨z146,⟨⟩⟩
abbrev SN:Shape:=⟨[aj 0,ag 3],[],43⟩
abbrev Sr:List aP:=[(.norm,⟨[aj 0,ag 3,ao 12],[],43⟩)]
noncomputable def TB(y:SN.J):Option (aB Sr):=
 bif(decide ((y.1.1.length:Int)>(1:Int))) then
(aO y.1.1 (1:Int)).bind fun a=>
 some ((y.1.1,y.1.2.1,((a.toNat:Int)==(33:Int)),()),())
else
 some ((y.1.1,y.1.2.1,false,()),())
theorem alQ:aS O (am (am (codeOf Tryz.f284) 1 14) 14 28) (aU SN Sr TB):=cd w4 (by kernel_rfl) ae fun y=>by kernel_rfl
abbrev SO:Shape:=⟨[aj 0,ag 3],[],43⟩
abbrev Ss:List aP:=[(.norm,⟨[aj 0,ag 3],[],43⟩)]
noncomputable def TC(y:SO.J):Option (aB Ss):=
(TB ((y.1.1,y.1.2.1,()),())).bind fun a=>
 bif a.1.2.2.1 then
 some ((a.1.1,(2:Int),()),())
else
 some ((a.1.1,a.1.2.1,()),())
theorem alR:aS O (am (codeOf Tryz.f284) 1 14) (aU SO Ss TC):=cd w4 (by kernel_rfl) (a7 alQ ae) fun y=>by kernel_rfl
abbrev zi:Shape:=⟨[aj 0,ag 3,ag 4],[],43⟩
abbrev Gf:List aP:=[(.exit 0,⟨[aj 0,ag 3,ag 4],[],43⟩)]
noncomputable def akS(y:zi.J):bG zi Gf:=
 bif(decide (y.1.2.1<(y.1.1.length:Int))) then
(aO y.1.1 y.1.2.1).bind fun a=>
(f146 (((a.toNat:Int),()),())).bind fun b=>
 bif b.1.1 then
 some (.inl ((y.1.1,(IntKind.i64.wrap (y.1.2.1+(1:Int))),y.1.2.2.1,()),()))
else
 some (.inr ((y.1.1,y.1.2.1,y.1.2.2.1,()),()))
else
 some (.inr ((y.1.1,y.1.2.1,y.1.2.2.1,()),()))
noncomputable def RQ:zi.J->Option (aB Gf):=br akS
theorem ajZ:aS O (am (codeOf Tryz.f284) 1 124) (aU zi Gf RQ):=bH w4 (by kernel_rfl) ae fun y=>by kernel_rfl
abbrev Rx:Shape:=⟨[aj 0,ag 3,ag 4],[],43⟩
abbrev Re:List aP:=[(.norm,⟨[ag 3,ao 40],[],43⟩)]
noncomputable def R3(y:Rx.J):Option (aB Re):=
 bif(!(y.1.2.1==y.1.2.2.1)) then
 bif(!(y.1.2.1==(y.1.1.length:Int))) then
(aO y.1.1 y.1.2.1).bind fun a=>
 some ((y.1.2.1,((a.toNat:Int) !=(93:Int)),()),())
else
 some ((y.1.2.1,true,()),())
else
 some ((y.1.2.1,true,()),())
theorem ajY:aS O (am (codeOf Tryz.f284) 1 252) (aU Rx Re R3):=cd w4 (by kernel_rfl) ae fun y=>by kernel_rfl
abbrev i284:Shape:=⟨[aj 0],[],43⟩
abbrev Xl:Shape:=⟨[ag 2],[],43⟩
noncomputable def f284(a:i284.J):Option Xl.J:=
(TC ((a.1.1,(1:Int),()),())).bind fun b=>
(RQ ((b.1.1,b.1.2.1,b.1.2.1,()),())).bind fun c=>
(R3 ((c.1.1,c.1.2.1,c.1.2.2.1,()),())).bind fun d=>
 bif d.1.2.1 then
 some (((0:Int),()),())
else
 some (((IntKind.i64.wrap (d.1.1+(1:Int))),()),())
noncomputable def K8:aD:=aG ad Tryz.f284 i284 Xl [] f284
theorem WT:aA O 284 K8:=aK w4 Tryz.func284 (by kernel_rfl) (a7 alR (a7 ajZ (a7 ajY ae))) (fun y=>by kernel_rfl) fun a=>by kernel_rfl
noncomputable abbrev atI:a_:=[(146,Dh),(284,K8)]
theorem Ls:aQ O (aW ad atI):=aV ⟨z146,WT,⟨⟩⟩
abbrev Qa:Shape:=⟨[aj 0,ag 3],[],45⟩
abbrev PR:List aP:=[(.norm,⟨[aj 0,ag 3,ao 26],[],45⟩)]
noncomputable def yZ(y:Qa.J):Option (aB PR):=
(aO y.1.1 y.1.2.1).bind fun a=>
 bif(!((a.toNat:Int)==(42:Int))) then
(aO y.1.1 y.1.2.1).bind fun b=>
 some ((y.1.1,y.1.2.1,((b.toNat:Int)==(63:Int)),()),())
else
 some ((y.1.1,y.1.2.1,true,()),())
theorem ah5:aS O (am (c4 (am (codeOf Tryz.f279) 1 26)) 52 6726) (aU Qa PR yZ):=cd Ls (by kernel_rfl) ae fun y=>by kernel_rfl
abbrev z1:Shape:=⟨[aj 0,ag 3],[],45⟩
abbrev Hp:List aP:=[(.ret,⟨[ao 2],[],45⟩),(.exit 0,⟨[aj 0],[],45⟩)]
noncomputable def TD(y:z1.J):bG z1 Hp:=
 bif(decide (y.1.2.1<(y.1.1.length:Int))) then
(aO y.1.1 y.1.2.1).bind fun a=>
 bif((a.toNat:Int)==(91:Int)) then
(bm y.1.1 y.1.2.1 (y.1.1.length:Int)).bind fun b=>
(f284 ((b,()),())).bind fun c=>
 bif(c.1.1==(0:Int)) then
 some (.inr (.inl ((false,()),())))
else
 some (.inl ((y.1.1,(IntKind.i64.wrap ((IntKind.i64.wrap ((IntKind.i64.wrap (y.1.2.1+c.1.1))-(1:Int)))+(1:Int))),()),()))
else
(yZ ((y.1.1,y.1.2.1,()),())).bind fun d=>
 bif d.1.2.2.1 then
 some (.inl ((d.1.1,(IntKind.i64.wrap (d.1.2.1+(1:Int))),()),()))
else
(aO d.1.1 d.1.2.1).bind fun e=>
(f146 (((e.toNat:Int),()),())).bind fun f=>
 bif(!f.1.1) then
 some (.inr (.inl ((false,()),())))
else
 some (.inl ((d.1.1,(IntKind.i64.wrap (d.1.2.1+(1:Int))),()),()))
else
 some (.inr (.inr ((y.1.1,()),())))
noncomputable def Tj:z1.J->Option (aB Hp):=br TD
theorem alT:aS O (am (codeOf Tryz.f279) 1 26) (aU z1 Hp Tj):=bH Ls (by kernel_rfl) (a7 ah5 ae) fun y=>by kernel_rfl
abbrev i279:Shape:=⟨[aj 0],[],45⟩
abbrev Xn:Shape:=⟨[ao 2],[],45⟩
noncomputable def f279(a:i279.J):Option Xn.J:=
(Tj ((a.1.1,(0:Int),()),())).bind fun b=>
(match b with
|.inl c=>
 some ((c.1.1,()),())
|.inr d=>
 some (((!(d.1.1==([]:B))),()),()))
noncomputable def ZJ:aD:=aG ad Tryz.f279 i279 Xn [] f279
theorem arj:aA O 279 ZJ:=aK Ls Tryz.func279 (by kernel_rfl) (a7 alT ae) (fun y=>by kernel_rfl) fun a=>by kernel_rfl
noncomputable abbrev atN:a_:=[(73,p0),(279,ZJ)]
theorem _7:aQ O (aW ad atN):=aV ⟨ri,arj,⟨⟩⟩
abbrev z8:Shape:=⟨[aj 0,ba 3 3000192,ag 4],[a' 3000192 .str 3 0],30⟩
abbrev Hs:List aP:=[(.ret,⟨[ao 2],[],30⟩),(.exit 0,⟨[aj 0,ba 3 3000192],[a' 3000192 .str 3 0],30⟩)]
noncomputable def TE(y:z8.J):bG z8 Hs:=
 bif(decide (y.1.2.2.1<(y.2.1.length:Int))) then
(be y.2.1.length y.1.2.2.1).bind fun a=>
(y.2.1[a]?).bind fun b=>
(f279 ((b,()),())).bind fun c=>
 bif(!c.1.1) then
 some (.inr (.inl ((false,()),())))
else
 some (.inl ((y.1.1,(),(IntKind.i64.wrap (y.1.2.2.1+(1:Int))),()),y.2.1,()))
else
 some (.inr (.inr ((y.1.1,(),()),y.2.1,())))
noncomputable def Tk:z8.J->Option (aB Hs):=br TE
theorem alW:aS O (am (codeOf Tryz.f258) 1 58) (aU z8 Hs Tk):=bH _7 (by kernel_rfl) ae fun y=>by kernel_rfl
abbrev i258:Shape:=⟨[aj 0],[],30⟩
abbrev Xv:Shape:=⟨[ao 2],[],30⟩
noncomputable def f258(a:i258.J):Option Xv.J:=
(f73 ((a.1.1,(47:Int),(IntKind.i64.wrap ((a.1.1.length:Int)+(1:Int))),()),())).bind fun b=>
(Tk ((a.1.1,(),(0:Int),()),b.2.1,())).bind fun c=>
(match c with
|.inl d=>
 some ((d.1.1,()),())
|.inr e=>
 bif(decide ((e.2.1.length:Int)<=(5:Int))) then
 some (((decide ((e.1.1.length:Int)<=(40:Int))),()),())
else
 some ((false,()),()))
noncomputable def ZR:aD:=aG ad Tryz.f258 i258 Xv [] f258
theorem ars:aA O 258 ZR:=aK _7 Tryz.func258 (by kernel_rfl) (a7 alW ae) (fun y=>by kernel_rfl) fun a=>by kernel_rfl
abbrev P':Shape:=⟨[aj 0,(1,.an (.d (.int .u8))),ao 5,ag 6],[],33⟩
abbrev PQ:List aP:=[(.norm,⟨[aj 0,(1,.an (.d (.int .u8))),ao 5,ag 6,ao 29],[],33⟩)]
noncomputable def QH(y:P'.J):Option (aB PQ):=
(aO y.1.1 y.1.2.2.2.1).bind fun a=>
 bif((a.toNat:Int)==y.1.2.1) then
 bif(!(decide (y.1.2.2.2.1>(1:Int)))) then
 some ((y.1.1,y.1.2.1,y.1.2.2.1,y.1.2.2.2.1,(!y.1.2.2.1),()),())
else
 some ((y.1.1,y.1.2.1,y.1.2.2.1,y.1.2.2.2.1,true,()),())
else
 some ((y.1.1,y.1.2.1,y.1.2.2.1,y.1.2.2.2.1,false,()),())
theorem ah4:aS O (am (c4 (am (codeOf Tryz.f285) 1 58)) 116 1864) (aU P' PQ QH):=cd g0 (by kernel_rfl) ae fun y=>by kernel_rfl
abbrev zY:Shape:=⟨[aj 0,(1,.an (.d (.int .u8))),ao 5,ag 6],[],33⟩
abbrev Hn:List aP:=[(.ret,⟨[ao 4],[],33⟩),(.exit 0,⟨[ao 5],[],33⟩)]
noncomputable def am5(y:zY.J):bG zY Hn:=
 bif(decide (y.1.2.2.2.1<(IntKind.i64.wrap ((y.1.1.length:Int)-(1:Int))))) then
(QH ((y.1.1,y.1.2.1,y.1.2.2.1,y.1.2.2.2.1,()),())).bind fun a=>
 bif a.1.2.2.2.2.1 then
 some (.inr (.inl (((!a.1.2.2.1),()),())))
else
 some (.inl ((a.1.1,a.1.2.1,a.1.2.2.1,(IntKind.i64.wrap (a.1.2.2.2.1+(1:Int))),()),()))
else
 some (.inr (.inr ((y.1.2.2.1,()),())))
noncomputable def Ti:zY.J->Option (aB Hn):=br am5
theorem alP:aS O (am (codeOf Tryz.f285) 1 58) (aU zY Hn Ti):=bH g0 (by kernel_rfl) (a7 ah4 ae) fun y=>by kernel_rfl
abbrev i285:Shape:=⟨[aj 0,(1,.an (.d (.int .u8)))],[],33⟩
abbrev Xk:Shape:=⟨[ao 4],[],33⟩
noncomputable def f285(a:i285.J):Option Xk.J:=
(aO a.1.1 (1:Int)).bind fun b=>
(Ti ((a.1.1,a.1.2.1,((b.toNat:Int)==(33:Int)),(1:Int),()),())).bind fun c=>
(match c with
|.inl d=>
 some ((d.1.1,()),())
|.inr e=>
 some ((e.1.1,()),()))
noncomputable def ZF:aD:=aG ad Tryz.f285 i285 Xk [] f285
theorem are:aA O 285 ZF:=aK g0 Tryz.func285 (by kernel_rfl) (a7 alP ae) (fun y=>by kernel_rfl) fun a=>by kernel_rfl
abbrev i280:Shape:=⟨[aj 0,aj 1],[],68⟩
abbrev nh:Shape:=⟨[ao 4],[],68⟩
noncomputable def Kc(aT:i280.J->Option nh.J):aD:=aG ad Tryz.f280 i280 nh [] aT
noncomputable abbrev atH(aT:i280.J->Option nh.J):a_:=[(280,(Kc aT)),(284,K8),(285,ZF)]
theorem avb(aT:i280.J->Option nh.J)(eB:aA O 280 (Kc aT)):aQ O (aW ad (atH aT)):=aV ⟨eB,WT,are,⟨⟩⟩
noncomputable def pw(aT:i280.J->Option nh.J)(a:i280.J):Option nh.J:=
 bif(a.1.1==([]:B)) then
 some (((a.1.2.1==([]:B)),()),())
else
(aO a.1.1 (0:Int)).bind fun b=>
 bif((b.toNat:Int)==(42:Int)) then
(bm a.1.1 (1:Int) (a.1.1.length:Int)).bind fun c=>
(aT ((c,a.1.2.1,()),())).bind fun d=>
 bif(!d.1.1) then
 bif(!(a.1.2.1==([]:B))) then
(bm a.1.2.1 (1:Int) (a.1.2.1.length:Int)).bind fun e=>
(aT ((a.1.1,e,()),())).bind fun f=>
 some ((f.1.1,()),())
else
 some ((false,()),())
else
 some ((true,()),())
else
 bif(a.1.2.1==([]:B)) then
 some ((false,()),())
else
(aO a.1.1 (0:Int)).bind fun g=>
 bif((g.toNat:Int)==(63:Int)) then
(bm a.1.1 (1:Int) (a.1.1.length:Int)).bind fun h=>
(bm a.1.2.1 (1:Int) (a.1.2.1.length:Int)).bind fun i=>
(aT ((h,i,()),())).bind fun j=>
 some ((j.1.1,()),())
else
 bif((g.toNat:Int)==(91:Int)) then
(f284 ((a.1.1,()),())).bind fun k=>
(bm a.1.1 (0:Int) k.1.1).bind fun l=>
(aO a.1.2.1 (0:Int)).bind fun m=>
(f285 ((l,(m.toNat:Int),()),())).bind fun n=>
 bif n.1.1 then
(bm a.1.1 k.1.1 (a.1.1.length:Int)).bind fun D=>
(bm a.1.2.1 (1:Int) (a.1.2.1.length:Int)).bind fun p=>
(aT ((D,p,()),())).bind fun q=>
 some ((q.1.1,()),())
else
 some ((false,()),())
else
(aO a.1.1 (0:Int)).bind fun r=>
(aO a.1.2.1 (0:Int)).bind fun s=>
 bif((r.toNat:Int)==(s.toNat:Int)) then
(bm a.1.1 (1:Int) (a.1.1.length:Int)).bind fun t=>
(bm a.1.2.1 (1:Int) (a.1.2.1.length:Int)).bind fun u=>
(aT ((t,u,()),())).bind fun v=>
 some ((v.1.1,()),())
else
 some ((false,()),())
theorem apQ(aT:i280.J->Option nh.J)(eB:aA O 280 (Kc aT)):aA O 280 (aG ad Tryz.f280 i280 nh [] (pw aT)):=aK (avb aT eB) Tryz.func280 (by kernel_rfl) ae (fun y=>by kernel_rfl) fun a=>by kernel_rfl
noncomputable def f280:i280.J->Option nh.J:=jP pw ke
noncomputable def ZI:aD:=aG ad Tryz.f280 i280 nh [] f280
theorem ari:aA O 280 ZI:=Jn (ff:=pw) apQ ke
abbrev i259:Shape:=⟨[aI 0 .str,aI 1 .str],[],49⟩
abbrev ni:Shape:=⟨[ao 4],[],49⟩
noncomputable def Kd(aT:i259.J->Option ni.J):aD:=aG ad Tryz.f259 i259 ni [] aT
noncomputable abbrev atM(aT:i259.J->Option ni.J):a_:=[(259,(Kd aT)),(280,ZI)]
theorem ave(aT:i259.J->Option ni.J)(eB:aA O 259 (Kd aT)):aQ O (aW ad (atM aT)):=aV ⟨eB,ari,⟨⟩⟩
noncomputable def qY(aT:i259.J->Option ni.J)(a:i259.J):Option ni.J:=
 bif((a.1.1.length:Int)==(0:Int)) then
 some ((((a.1.2.1.length:Int)==(0:Int)),()),())
else
(aO a.1.1 (0:Int)).bind fun b=>
 bif(b==([42,42]:B)) then
(bm a.1.1 (1:Int) (a.1.1.length:Int)).bind fun c=>
(aT ((c,a.1.2.1,()),())).bind fun d=>
 bif(!d.1.1) then
 bif(decide ((a.1.2.1.length:Int)>(0:Int))) then
(bm a.1.2.1 (1:Int) (a.1.2.1.length:Int)).bind fun e=>
(aT ((a.1.1,e,()),())).bind fun f=>
 some ((f.1.1,()),())
else
 some ((false,()),())
else
 some ((true,()),())
else
 bif(decide ((a.1.2.1.length:Int)>(0:Int))) then
(aO a.1.1 (0:Int)).bind fun g=>
(aO a.1.2.1 (0:Int)).bind fun h=>
(f280 ((g,h,()),())).bind fun i=>
 bif i.1.1 then
(bm a.1.1 (1:Int) (a.1.1.length:Int)).bind fun j=>
(bm a.1.2.1 (1:Int) (a.1.2.1.length:Int)).bind fun k=>
(aT ((j,k,()),())).bind fun l=>
 some ((l.1.1,()),())
else
 some ((false,()),())
else
 some ((false,()),())
theorem apR(aT:i259.J->Option ni.J)(eB:aA O 259 (Kd aT)):aA O 259 (aG ad Tryz.f259 i259 ni [] (qY aT)):=aK (ave aT eB) Tryz.func259 (by kernel_rfl) ae (fun y=>by kernel_rfl) fun a=>by kernel_rfl
noncomputable def f259:i259.J->Option ni.J:=jP qY ke
noncomputable def ZQ:aD:=aG ad Tryz.f259 i259 ni [] f259
theorem arq:aA O 259 ZQ:=Jn (ff:=qY) apR ke
noncomputable abbrev atX:a_:=[(73,p0),(193,Lg),(258,ZR),(259,ZQ)]
theorem avj:aQ O (aW ad atX):=aV ⟨ri,z193,ars,arq,⟨⟩⟩
abbrev i221:Shape:=⟨[aj 0,aj 1],[],24⟩
abbrev XJ:Shape:=⟨[ao 4],[],24⟩
noncomputable def f221(a:i221.J):Option XJ.J:=
(f258 ((a.1.1,()),())).bind fun b=>
 bif b.1.1 then
(f193 ((a.1.2.1,()),())).bind fun c=>
 bif c.1.1 then
(f73 ((a.1.1,(47:Int),(IntKind.i64.wrap ((a.1.1.length:Int)+(1:Int))),()),())).bind fun d=>
(f73 ((a.1.2.1,(47:Int),(IntKind.i64.wrap ((a.1.2.1.length:Int)+(1:Int))),()),())).bind fun e=>
(f259 ((d.2.1,e.2.1,()),())).bind fun f=>
 some ((f.1.1,()),())
else
 some ((false,()),())
else
 some ((false,()),())
noncomputable def Lb:aD:=aG ad Tryz.f221 i221 XJ [] f221
theorem WY:aA O 221 Lb:=aK avj Tryz.func221 (by kernel_rfl) ae (fun y=>by kernel_rfl) fun a=>by kernel_rfl
abbrev i260:Shape:=⟨[aj 0,aj 1],[],30⟩
abbrev Xu:Shape:=⟨[ao 4],[],30⟩
noncomputable def f260(a:i260.J):Option Xu.J:=
 bif(!(a.1.2.1==a.1.1)) then
 bif(decide ((a.1.2.1.length:Int)>(a.1.1.length:Int))) then
(bm a.1.2.1 (0:Int) (a.1.1.length:Int)).bind fun b=>
 bif(b==a.1.1) then
(aO a.1.2.1 (a.1.1.length:Int)).bind fun c=>
 some ((((c.toNat:Int)==(47:Int)),()),())
else
 some ((false,()),())
else
 some ((false,()),())
else
 some ((true,()),())
noncomputable def ZP:aD:=aG ad Tryz.f260 i260 Xu [] f260
theorem arp:aA O 260 ZP:=aK g0 Tryz.func260 (by kernel_rfl) ae (fun y=>by kernel_rfl) fun a=>by kernel_rfl
noncomputable abbrev atW:a_:=[(221,Lb),(260,ZP)]
theorem Lv:aQ O (aW ad atW):=aV ⟨WY,arp,⟨⟩⟩
abbrev RC:Shape:=⟨[aI 0 .entry,aj 1,aj 2,ag 7],[],30⟩
abbrev Rj:List aP:=[(.norm,⟨[aI 0 .entry,aj 1,aj 2,ag 7,ao 29],[],30⟩)]
noncomputable def zK(y:RC.J):Option (aB Rj):=
(aO y.1.1 y.1.2.2.2.1).bind fun a=>
(f260 ((y.1.2.2.1,a.path,()),())).bind fun b=>
 bif b.1.1 then
(aO y.1.1 y.1.2.2.2.1).bind fun c=>
(f221 ((y.1.2.1,c.path,()),())).bind fun d=>
 some ((y.1.1,y.1.2.1,y.1.2.2.1,y.1.2.2.2.1,d.1.1,()),())
else
 some ((y.1.1,y.1.2.1,y.1.2.2.1,y.1.2.2.2.1,false,()),())
theorem aj7:aS O (am (c4 (am (codeOf Tryz.f222) 1 26)) 52 840) (aU RC Rj zK):=cd Lv (by kernel_rfl) ae fun y=>by kernel_rfl
abbrev Ab:Shape:=⟨[aI 0 .entry,aj 1,aj 2,ag 7],[],30⟩
abbrev Hw:List aP:=[(.ret,⟨[ao 6],[],30⟩),(.exit 0,⟨[],[],30⟩)]
noncomputable def TG(y:Ab.J):bG Ab Hw:=
 bif(decide (y.1.2.2.2.1<(y.1.1.length:Int))) then
(zK ((y.1.1,y.1.2.1,y.1.2.2.1,y.1.2.2.2.1,()),())).bind fun a=>
 bif a.1.2.2.2.2.1 then
 some (.inr (.inl ((true,()),())))
else
 some (.inl ((a.1.1,a.1.2.1,a.1.2.2.1,(IntKind.i64.wrap (a.1.2.2.2.1+(1:Int))),()),()))
else
 some (.inr (.inr ((),())))
noncomputable def Tl:Ab.J->Option (aB Hw):=br TG
theorem al1:aS O (am (codeOf Tryz.f222) 1 26) (aU Ab Hw Tl):=bH Lv (by kernel_rfl) (a7 aj7 ae) fun y=>by kernel_rfl
abbrev i222:Shape:=⟨[aI 0 .entry,aj 1,aj 2],[],30⟩
abbrev XI:Shape:=⟨[ao 6],[],30⟩
noncomputable def f222(a:i222.J):Option XI.J:=
(Tl ((a.1.1,a.1.2.1,a.1.2.2.1,(0:Int),()),())).bind fun b=>
(match b with
|.inl c=>
 some ((c.1.1,()),())
|.inr d=>
 some ((false,()),()))
noncomputable def Z3:aD:=aG ad Tryz.f222 i222 XI [] f222
theorem z222:aA O 222 Z3:=aK Lv Tryz.func222 (by kernel_rfl) (a7 al1 ae) (fun y=>by kernel_rfl) fun a=>by kernel_rfl
noncomputable abbrev auk:a_:=[(90,xP),(221,Lb),(222,Z3)]
theorem Ly:aQ O (aW ad auk):=aV ⟨Dt,WY,z222,⟨⟩⟩
abbrev Qe:Shape:=⟨[aI 0 .entry,aj 1,ba 5 3000320,ag 6],[a' 3000320 .entry 5 0],51⟩
abbrev PV:List aP:=[(.norm,⟨[aI 0 .entry,aj 1,ba 5 3000320,ag 6,ao 42],[a' 3000320 .entry 5 0],51⟩)]
noncomputable def y2(y:Qe.J):Option (aB PV):=
(aO y.1.1 y.1.2.2.2.1).bind fun a=>
(f221 ((y.1.2.1,a.path,()),())).bind fun b=>
 bif(!b.1.1) then
(aO y.1.1 y.1.2.2.2.1).bind fun c=>
 bif(c.kind==(1:Int)) then
(aO y.1.1 y.1.2.2.2.1).bind fun d=>
(f222 ((y.1.1,y.1.2.1,d.path,()),())).bind fun e=>
 some ((y.1.1,y.1.2.1,(),y.1.2.2.2.1,e.1.1,()),y.2.1,())
else
 some ((y.1.1,y.1.2.1,(),y.1.2.2.2.1,false,()),y.2.1,())
else
 some ((y.1.1,y.1.2.1,(),y.1.2.2.2.1,true,()),y.2.1,())
theorem aic:aS O (am (c4 (am (codeOf Tryz.f177) 1 58)) 116 1864) (aU Qe PV y2):=cd Ly (by kernel_rfl) ae fun y=>by kernel_rfl
abbrev Ak:Shape:=⟨[aI 0 .entry,aj 1,ba 5 3000320,ag 6],[a' 3000320 .entry 5 0],51⟩
abbrev HF:List aP:=[(.exit 0,⟨[ba 5 3000320],[a' 3000320 .entry 5 0],51⟩)]
noncomputable def TH(y:Ak.J):bG Ak HF:=
 bif(decide (y.1.2.2.2.1<(y.1.1.length:Int))) then
(f90 ((y.1.1,()),())).bind fun a=>
 bif a.1.1 then
(y2 ((y.1.1,y.1.2.1,(),y.1.2.2.2.1,()),y.2.1,())).bind fun b=>
 bif b.1.2.2.2.2.1 then
(aO b.1.1 b.1.2.2.2.1).bind fun c=>
(b9 48 b.2.1 ([c]:List aw)).bind fun d=>
 some (.inl ((b.1.1,b.1.2.1,(),(IntKind.i64.wrap (b.1.2.2.2.1+(1:Int))),()),d,()))
else
 some (.inl ((b.1.1,b.1.2.1,(),(IntKind.i64.wrap (b.1.2.2.2.1+(1:Int))),()),b.2.1,()))
else
 some (.inr (((),()),y.2.1,()))
else
 some (.inr (((),()),y.2.1,()))
noncomputable def Tn:Ak.J->Option (aB HF):=br TH
theorem ame:aS O (am (codeOf Tryz.f177) 1 58) (aU Ak HF Tn):=bH Ly (by kernel_rfl) (a7 aic ae) fun y=>by kernel_rfl
abbrev i177:Shape:=⟨[aI 0 .entry,aj 1],[],51⟩
abbrev Yd:Shape:=⟨[ba 4 3000256],[a' 3000256 .entry 4 0],51⟩
noncomputable def f177(a:i177.J):Option Yd.J:=
(Tn ((a.1.1,a.1.2.1,(),(0:Int),()),([]:List aw),())).bind fun b=>
 some (((),()),b.2.1,())
noncomputable def _o:aD:=aG ad Tryz.f177 i177 Yd [] f177
theorem arT:aA O 177 _o:=aK Ly Tryz.func177 (by kernel_rfl) (a7 ame ae) (fun y=>by kernel_rfl) fun a=>by kernel_rfl
noncomputable abbrev apn:a_:=[(78,jp),(83,xQ),(223,Z2),(224,JU)]
theorem Cr:aQ O (aW ad apn):=aV ⟨jM,Du,arz,TV,⟨⟩⟩
abbrev yx:Shape:=⟨[ay 0 500000 0,ba 3 3000192,ba 4 3000256,ag 5],[ax 500000 [bn .u8,aZ],a' 3000192 .entry 3 0,a' 3000256 .str 4 0],59⟩
abbrev E2:List aP:=[(.exit 0,⟨[ay 0 500000 0,ba 3 3000192],[ax 500000 [bn .u8,aZ],a' 3000192 .entry 3 0],59⟩)]
noncomputable def Pr(y:yx.J):bG yx E2:=
 bif(decide (y.1.2.2.2.1<(y.2.2.2.1.length:Int))) then
(fX (((),(2:Int),()),(y.2.1.1,y.2.1.2.1,()),())).bind fun a=>
 bif(a.1.2.1==(0:Int)) then
(be y.2.2.2.1.length y.1.2.2.2.1).bind fun b=>
(y.2.2.2.1[b]?).bind fun c=>
(f223 ((y.2.2.1,(c,(1:Int),(7:Int),([]:B),()),()),())).bind fun d=>
 some (.inl (((),(),(),(IntKind.i64.wrap (y.1.2.2.2.1+(1:Int))),()),(a.2.1.1,a.2.1.2.1,()),d.2.1,y.2.2.2.1,()))
else
 some (.inl (((),(),(),(IntKind.i64.wrap (y.1.2.2.2.1+(1:Int))),()),(a.2.1.1,a.2.1.2.1,()),y.2.2.1,y.2.2.2.1,()))
else
 some (.inr (((),(),()),(y.2.1.1,y.2.1.2.1,()),y.2.2.1,()))
noncomputable def Pm:yx.J->Option (aB E2):=br Pr
theorem agJ:aS O (am (codeOf Tryz.f178) 1 122) (aU yx E2 Pm):=bH Cr (by kernel_rfl) ae fun y=>by kernel_rfl
abbrev yw:Shape:=⟨[ay 0 500000 0,ba 3 3000192,ag 6],[ax 500000 [bn .u8,aZ],a' 3000192 .entry 3 0],59⟩
abbrev E1:List aP:=[(.exit 2,⟨[ay 0 500000 0,ba 3 3000192],[ax 500000 [bn .u8,aZ],a' 3000192 .entry 3 0],59⟩)]
noncomputable def Pq(y:yw.J):bG yw E1:=
 bif(decide (y.1.2.2.1>(0:Int))) then
(vX (((),()),(y.2.1.1,y.2.1.2.1,()),())).bind fun a=>
(f223 ((y.2.2.1,(a.2.2.1.1,a.2.2.1.2.1,a.2.2.1.2.2.1,a.2.2.1.2.2.2.1,()),()),())).bind fun b=>
 some (.inl (((),(),(IntKind.i64.wrap (y.1.2.2.1-(1:Int))),()),(a.2.1.1,a.2.1.2.1,()),b.2.1,()))
else
 some (.inr (((),(),()),(y.2.1.1,y.2.1.2.1,()),y.2.2.1,()))
noncomputable def Pl:yw.J->Option (aB E1):=br Pq
theorem agI:aS O (am (codeOf Tryz.f178) 1 250) (aU yw E1 Pl):=bH Cr (by kernel_rfl) ae fun y=>by kernel_rfl
abbrev yo:Shape:=⟨[ay 0 500000 0,ba 3 3000192,ag 7],[ax 500000 [bn .u8,aZ],a' 3000192 .entry 3 0],59⟩
abbrev EQ:List aP:=[(.exit 4,⟨[ay 0 500000 0,ba 3 3000192],[ax 500000 [bn .u8,aZ],a' 3000192 .entry 3 0],59⟩)]
noncomputable def OU(y:yo.J):bG yo EQ:=
 bif(decide (y.1.2.2.1<(16:Int))) then
(f83 ((y.1.2.2.1,()),())).bind fun a=>
(bZ ([102]:B) a.1.1).bind fun b=>
(f223 ((y.2.2.1,(b,(2:Int),(0:Int),([]:B),()),()),())).bind fun c=>
 some (.inl (((),(),(IntKind.i64.wrap (y.1.2.2.1+(1:Int))),()),(y.2.1.1,y.2.1.2.1,()),c.2.1,()))
else
 some (.inr (((),(),()),(y.2.1.1,y.2.1.2.1,()),y.2.2.1,()))
noncomputable def OO:yo.J->Option (aB EQ):=br OU
theorem afK:aS O (am (codeOf Tryz.f178) 1 2026) (aU yo EQ OO):=bH Cr (by kernel_rfl) ae fun y=>by kernel_rfl
abbrev U8:Shape:=⟨[ay 0 500000 0],[ax 500000 [bn .u8,aZ]],59⟩
abbrev UD:Shape:=⟨[ay 0 500000 0,ba 2 3000128],[ax 500000 [bn .u8,aZ],a' 3000128 .entry 2 0],59⟩
noncomputable def vZ(a:U8.J):Option UD.J:=
(Pm (((),(),(),(0:Int),()),(a.2.1.1,a.2.1.2.1,()),([]:List aw),([([97]:B),([108,105,98]:B),([98,105,110]:B),([100,111,99]:B),([97,47,98]:B)]:List B),())).bind fun b=>
(fX (((),(7:Int),()),(b.2.1.1,b.2.1.2.1,()),())).bind fun c=>
(Pl (((),(),c.1.2.1,()),(c.2.1.1,c.2.1.2.1,()),b.2.2.1,())).bind fun d=>
(fX (((),(30:Int),()),(d.2.1.1,d.2.1.2.1,()),())).bind fun e=>
 bif(e.1.2.1==(0:Int)) then
(OO (((),(),(0:Int),()),(e.2.1.1,e.2.1.2.1,()),d.2.2.1,())).bind fun f=>
 some (((),(),()),(f.2.1.1,f.2.1.2.1,()),f.2.2.1,())
else
 some (((),(),()),(e.2.1.1,e.2.1.2.1,()),d.2.2.1,())
noncomputable def JV:aD:=aG ad Tryz.f178 U8 UD [0] vZ
theorem TW:aA O 178 JV:=aK Cr Tryz.func178 (by kernel_rfl) (a7 agJ (a7 agI (a7 afK ae))) (fun y=>by kernel_rfl) fun a=>by kernel_rfl
abbrev kN(g:B):Prop:=∀b,b∈g->b.toNat≠91
theorem BU{s:B}{i:Int}(h0:0<=i)(h1:i<(s.length:Int)):∃x,aO s i=some x/\x∈s:=nd h0 h1
theorem afr(a)(hs:cj a.1.1.length)(hn:kN a.1.1):Z (f279 a) (fun _=>True):=by
 obtain⟨⟨(s:B),u⟩,bV⟩:=a;have hs:s.length<=2097152:=hs;unfold f279;refine Z.bind (P:=fun _=>True) ?_ fun r _=>?_
 ·refine Z.loop (fun(k:Nat) y=>y.1.1=s/\(0:Int)<=y.1.2.1/\(y.1.2.1:Int)+k=s.length) (fun k y hy=>?_) s.length _ ⟨rfl,Int.le_refl _,by show(0:Int)+s.length=s.length;omega⟩
  obtain⟨⟨(s1:B),(i:Int),u⟩,bV⟩:=y;obtain⟨cH,dm,dK⟩:=hy;have cH:s1=s:=cH;subst cH;have dm:0<=i:=dm;have dK:i+k=s1.length:=dK;unfold TD;refine Z.ite (fun hc=>?_) fun _=>Z.ret trivial
  have hc:i<(s1.length:Int):=of_decide_eq_true hc;obtain⟨x,aE,aF⟩:=BU dm hc;have hx:((x.toNat:Int)==91)=false:=by
   have:=hn x aF;simp only[beq_eq_false_iff_ne,ne_eq];omega
  have hw:IntKind.i64.wrap (i+1)=i+1:=cS (by omega) (by omega)
  refine Z.eq aE ?_
  refine Z.ite (fun aa=>by rw[hx] at aa;cases aa) fun _=>?_
  have piece:Z (yZ ((s1,(i,())),())) (fun r=>r.1.1=s1/\r.1.2.1=i):=by
   unfold yZ;refine Z.eq aE ?_
   exact Z.ite (fun _=>Z.eq aE (Z.ret ⟨rfl,rfl⟩)) fun _=>Z.ret ⟨rfl,rfl⟩
  refine Z.bind piece fun r hr=>?_
  obtain⟨⟨(s2:B),(i2:Int),(c:Bool),v⟩,v'⟩:=r;obtain⟨r1,r2⟩:=hr;have r1:s2=s1:=r1;have r2:i2=i:=r2;subst r1 r2;refine Z.ite (fun _=>?_) fun _=>?_
  ·refine Z.ret ⟨k-1,by omega,rfl,?_,?_⟩
   ·show 0<=IntKind.i64.wrap (i2+1);rw[hw];omega
   ·show IntKind.i64.wrap (i2+1)+((k-1:Nat):Int)=_;rw[hw];omega
  ·refine Z.eq aE ?_
   refine Z.eq (PG (((x.toNat:Int),()),())) ?_
   refine Z.ite (fun _=>Z.ret trivial) fun _=>?_
   refine Z.ret ⟨k-1,by omega,rfl,?_,?_⟩
   ·show 0<=IntKind.i64.wrap (i2+1);rw[hw];omega
   ·show IntKind.i64.wrap (i2+1)+((k-1:Nat):Int)=_;rw[hw];omega
 ·cases r with
  |inl r=>exact Z.ret trivial
  |inr r=>exact Z.ret trivial
theorem OE{g:B}(h:kN g):∀x,x∈bF 47 g->kN x:=by
 induction g with
 |nil=>
  intro x hx b hb;simp[bF] at hx;subst hx;cases hb
 |cons c g ih=>
  have ih:=ih fun b hb=>h b (List.mem_cons_of_mem _ hb)
  intro x hx b hb;simp only[bF] at hx;cases hc:(c==47) with
  |true=>
   simp only[hc,cond_true,List.mem_cons] at hx;rcases hx with rfl|hx
   ·cases hb
   ·exact ih x hx b hb
  |false=>
   simp only[hc,cond_false] at hx;cases dR:bF 47 g with
   |nil=>exact absurd dR (oY 47 g)
   |cons y L=>
    rw[dR] at hx ih;simp only[List.mem_cons] at hx;rcases hx with rfl|hx
    ·rcases List.mem_cons.1 hb with rfl|hb
     ·exact h _ List.mem_cons_self
     ·exact ih y List.mem_cons_self b hb
    ·exact ih x (List.mem_cons_of_mem _ hx) b hb
theorem ajs(a)(hs:a.1.1.length<=200)(hn:kN a.1.1):Z (f258 a) (fun _=>True):=by
 obtain⟨⟨(g:B),u⟩,bV⟩:=a;have hs:g.length<=200:=hs;unfold f258;have hw:IntKind.i64.wrap ((g.length:Int)+1)=((g.length+1:Nat):Int):=bU (by unfold ar;omega)
 refine Z.eq (vm 47 ((g,((47:Int),(IntKind.i64.wrap ((g.length:Int)+1),()))),()) (by show g.length<=2097152;omega) rfl hw) ?_
 have dR:(bF 47 g).length<=201:=by have:=nS 47 g;omega
 refine Z.bind (P:=fun _=>True) ?_ fun r _=>?_
 ·refine Z.loop (fun(k:Nat) y=>y.2.1=bF 47 g/\(0:Int)<=y.1.2.2.1/\(y.1.2.2.1:Int)+k=(bF 47 g).length) (fun k y hy=>?_) (bF 47 g).length _ ⟨rfl,Int.le_refl _,by show(0:Int)+_=_;omega⟩
  obtain⟨⟨(g1:B),u1,(i:Int),u⟩,(L:List B),bV⟩:=y;obtain⟨cH,dm,dK⟩:=hy;have cH:L=bF 47 g:=cH;have dm:0<=i:=dm;have dK:i+k=(bF 47 g).length:=dK;subst cH;unfold TE;refine Z.ite (fun hc=>?_) fun _=>Z.ret trivial
  have hc:i<((bF 47 g).length:Int):=of_decide_eq_true hc;obtain⟨j,rfl⟩:=Int.eq_ofNat_of_zero_le dm;have hj:j<(bF 47 g).length:=by omega
  have hw:IntKind.i64.wrap ((j:Int)+1)=(j:Int)+1:=cS (by omega) (by omega)
  refine Z.eq (ft hj) ?_
  refine Z.eq (List.getElem?_eq_getElem hj) ?_
  have hm:=List.getElem_mem hj;refine Z.bind (afr (((bF 47 g)[j],()),()) (by have:=qg 47 g _ hm;show((bF 47 g)[j]).length<=2097152;omega) (OE hn _ hm)) fun r _=>?_
  refine Z.ite (fun _=>Z.ret trivial) fun _=>?_
  refine Z.ret ⟨k-1,by omega,rfl,?_,?_⟩
  ·show 0<=IntKind.i64.wrap ((j:Int)+1);rw[hw];omega
  ·show IntKind.i64.wrap ((j:Int)+1)+((k-1:Nat):Int)=_;rw[hw];omega
 ·cases r with
  |inl r=>exact Z.ret trivial
  |inr r=>exact Z.ite (fun _=>Z.ret trivial) fun _=>Z.ret trivial
theorem tg{s:B}(h:s≠[]):bm s (1:Int) (s.length:Int)=some (s.drop 1):=fc (a:=1) (by have:=List.length_pos_iff.2 h;omega)
theorem Bw{s:List B}(h:0<s.length):bm s (1:Int) (s.length:Int)=some (s.drop 1):=fc (a:=1) h
theorem Qu{s:B}(h:(s==([]:B))=false):s≠[]:=by simpa using h
theorem anc:∀(n:Nat) (g s:B),kN g->g.length+s.length<n->Z (jP pw n ((g,(s,())),())) (fun _=>True):=by
 intro n;induction n with
 |zero=>intro g s _ h;omega
 |succ n ih=>
  intro g s hn hl;show Z (pw (jP pw n) _) _;unfold pw;refine Z.ite (fun _=>Z.ret trivial) fun hg=>?_
  have hg:g≠[]:=Qu hg;have MB:=List.length_pos_iff.2 hg;obtain⟨x,aE,aF⟩:=BU (s:=g) (i:=0) (by omega) (by omega)
  refine Z.eq aE ?_
  have hd1:kN (g.drop 1):=fun b hb=>hn b (List.mem_of_mem_drop hb)
  have hdl:(g.drop 1).length+1=g.length:=by rw[List.length_drop];omega
  refine Z.ite (fun _=>?_) fun _=>?_
  ·refine Z.eq (tg hg) ?_
   refine Z.bind (ih (g.drop 1) s hd1 (by omega)) fun r _=>?_
   refine Z.ite (fun _=>?_) fun _=>Z.ret trivial
   refine Z.ite (fun hs=>?_) fun _=>Z.ret trivial
   have hs:s≠[]:=by
    have hs:(!(s==([]:B)))=true:=hs;intro e;subst e;cases hs
   have j0:=List.length_pos_iff.2 hs;refine Z.eq (tg hs) ?_
   exact Z.bind (ih g (s.drop 1) hn (by rw[List.length_drop];omega)) fun r _=>Z.ret trivial
  ·refine Z.ite (fun _=>Z.ret trivial) fun hs=>?_
   have hs:s≠[]:=Qu hs;have j0:=List.length_pos_iff.2 hs;have step:Z (jP pw n ((g.drop 1,(s.drop 1,())),())) (fun _=>True):=ih _ _ hd1 (by rw[List.length_drop];rw[List.length_drop];omega)
   refine Z.eq aE ?_
   refine Z.ite (fun _=>?_) fun _=>?_
   ·refine Z.eq (tg hg) ?_
    refine Z.eq (tg hs) ?_
    exact Z.bind step fun r _=>Z.ret trivial
   ·have hx:((x.toNat:Int)==91)=false:=by
     have:=hn x aF;simp only[beq_eq_false_iff_ne,ne_eq];omega
    refine Z.ite (fun aa=>by rw[hx] at aa;cases aa) fun _=>?_
    refine Z.eq aE ?_
    obtain⟨y,dQ,fy⟩:=BU (s:=s) (i:=0) (by omega) (by omega)
    refine Z.eq dQ ?_
    refine Z.ite (fun _=>?_) fun _=>Z.ret trivial
    refine Z.eq (tg hg) ?_
    refine Z.eq (tg hs) ?_
    exact Z.bind step fun r _=>Z.ret trivial
theorem ajl(a)(h1:cj a.1.1.length)(h2:cj a.1.2.1.length)(hn:kN a.1.1):Z (f280 a) (fun _=>True):=by
 obtain⟨⟨(g:B),(s:B),u⟩,bV⟩:=a;have h1:g.length<=2097152:=h1;have h2:s.length<=2097152:=h2;exact anc ke g s hn (by unfold ke;omega)
theorem akz:∀(n:Nat) (g s:List B),(∀x,x∈g->kN x/\cj x.length)->(∀x,x∈s->cj x.length)->g.length+s.length<n->Z (jP qY n ((g,(s,())),())) (fun _=>True):=by
 intro n;induction n with
 |zero=>intro g s _ _ h;omega
 |succ n ih=>
  intro g s hn hs hl;show Z (qY (jP qY n) _) _;unfold qY;refine Z.ite (fun _=>Z.ret trivial) fun hg=>?_
  have MB:0<g.length:=by
   have hg:((g.length:Int)==0)=false:=hg;simp only[beq_eq_false_iff_ne,ne_eq] at hg;omega
  obtain⟨x,aE,aF⟩:=nd (xs:=g) (i:=0) (by omega) (by omega)
  refine Z.eq aE ?_
  have hd1:∀x,x∈g.drop 1->kN x/\cj x.length:=fun b hb=>hn b (List.mem_of_mem_drop hb)
  have jy:∀x,x∈s.drop 1->cj x.length:=fun b hb=>hs b (List.mem_of_mem_drop hb)
  have hdl:(g.drop 1).length+1=g.length:=by rw[List.length_drop];omega
  refine Z.ite (fun _=>?_) fun _=>?_
  ·refine Z.eq (Bw MB) ?_
   refine Z.bind (ih (g.drop 1) s hd1 hs (by omega)) fun r _=>?_
   refine Z.ite (fun _=>?_) fun _=>Z.ret trivial
   refine Z.ite (fun hc=>?_) fun _=>Z.ret trivial
   have hc:(s.length:Int)>0:=of_decide_eq_true hc;refine Z.eq (Bw (s:=s) (by omega)) ?_
   exact Z.bind (ih g (s.drop 1) hn jy (by rw[List.length_drop];omega)) fun r _=>Z.ret trivial
  ·refine Z.ite (fun hc=>?_) fun _=>Z.ret trivial
   have hc:(s.length:Int)>0:=of_decide_eq_true hc;refine Z.eq aE ?_
   obtain⟨y,dQ,fy⟩:=nd (xs:=s) (i:=0) (by omega) (by omega)
   refine Z.eq dQ ?_
   refine Z.bind (ajl ((x,(y,())),()) (hn x aF).2 (hs y fy) (hn x aF).1) fun r _=>?_
   refine Z.ite (fun _=>?_) fun _=>Z.ret trivial
   refine Z.eq (Bw MB) ?_
   refine Z.eq (Bw (s:=s) (by omega)) ?_
   exact Z.bind (ih (g.drop 1) (s.drop 1) hd1 jy (by rw[List.length_drop];rw[List.length_drop];omega)) fun r _=>Z.ret trivial
theorem PO(a)(h1:a.1.1.length<=200)(h2:a.1.2.1.length<=1048576)(hn:kN a.1.1):Z (f221 a) (fun _=>True):=by
 obtain⟨⟨(g:B),(s:B),u⟩,bV⟩:=a;have h1:g.length<=200:=h1;have h2:s.length<=1048576:=h2;unfold f221;refine Z.bind (ajs ((g,()),()) h1 hn) fun r _=>?_
 refine Z.ite (fun _=>?_) fun _=>Z.ret trivial
 refine Z.eq (F9 ((s,()),()) (by show s.length<=2097152;omega)) ?_
 refine Z.ite (fun _=>?_) fun _=>Z.ret trivial
 refine Z.eq (vm 47 ((g,((47:Int),(IntKind.i64.wrap ((g.length:Int)+1),()))),()) (by show g.length<=2097152;omega) rfl (bU (by unfold ar;omega))) ?_
 refine Z.eq (vm 47 ((s,((47:Int),(IntKind.i64.wrap ((s.length:Int)+1),()))),()) (by show s.length<=2097152;omega) rfl (bU (by unfold ar;omega))) ?_
 have g1:=nS 47 g;have s1:=nS 47 s;refine Z.bind (P:=fun _=>True) ?_ fun r _=>Z.ret trivial
 exact akz ke (bF 47 g) (bF 47 s) (fun x hx=>⟨OE hn x hx,by have:=qg 47 g x hx;unfold cj;omega⟩) (fun x hx=>by have:=qg 47 s x hx;unfold cj;omega) (by unfold ke;omega)
theorem ahw(a)(h1:cj a.1.1.length):Z (f260 a) (fun _=>True):=by
 obtain⟨⟨(g:B),(s:B),u⟩,bV⟩:=a;unfold f260;refine Z.ite (fun _=>?_) fun _=>Z.ret trivial
 refine Z.ite (fun hc=>?_) fun _=>Z.ret trivial
 have hc:(s.length:Int)>(g.length:Int):=of_decide_eq_true hc;refine Z.eq (gj (xs:=s) (b:=g.length) (by omega)) ?_
 refine Z.ite (fun _=>?_) fun _=>Z.ret trivial
 obtain⟨x,aE,_⟩:=BU (s:=s) (i:=(g.length:Int)) (by omega) (by omega)
 exact Z.eq aE (Z.ret trivial)
theorem agm(a)(au:jb a.1.1)(hg:a.1.2.1.length<=200)(hn:kN a.1.2.1)(aa:dr a.1.2.2.1):Z (f222 a) (fun _=>True):=by
 obtain⟨⟨(t:List aw),(g:B),(d:B),u⟩,bV⟩:=a;obtain⟨nC,lN⟩:=au;have nC:t.length<=16:=nC;have aa:d.length<=200:=aa;unfold f222;refine Z.bind (P:=fun _=>True) ?_ fun r _=>?_
 ·refine Z.loop (fun(k:Nat) y=>y.1.1=t/\y.1.2.1=g/\y.1.2.2.1=d/\(0:Int)<=y.1.2.2.2.1/\(y.1.2.2.2.1:Int)+k=t.length) (fun k y hy=>?_) t.length _ ⟨rfl,rfl,rfl,Int.le_refl _,by show(0:Int)+_=_;omega⟩
  obtain⟨⟨(t1:List aw),(g1:B),(d1:B),(i:Int),u⟩,bV⟩:=y;obtain⟨cH,dm,dK,h6,eQ⟩:=hy;have cH:t1=t:=cH;have dm:g1=g:=dm;have dK:d1=d:=dK;subst cH dm dK;have h6:0<=i:=h6;have eQ:i+k=t1.length:=eQ;unfold TG;refine Z.ite (fun hc=>?_) fun _=>Z.ret trivial
  have hc:i<(t1.length:Int):=of_decide_eq_true hc;have hw:IntKind.i64.wrap (i+1)=i+1:=cS (by omega) (by omega)
  obtain⟨x,aE,aF⟩:=nd (xs:=t1) h6 hc;have piece:Z (zK ((t1,(g1,(d1,(i,())))),())) (fun r=>r.1.1=t1/\r.1.2.1=g1/\r.1.2.2.1=d1/\r.1.2.2.2.1=i):=by
   unfold zK;refine Z.eq aE ?_
   refine Z.bind (ahw ((d1,(x.path,())),()) (by show d1.length<=2097152;omega)) fun r _=>?_
   refine Z.ite (fun _=>?_) fun _=>Z.ret ⟨rfl,rfl,rfl,rfl⟩
   refine Z.eq aE ?_
   exact Z.bind (PO ((g1,(x.path,())),()) hg (Nat.le_trans (lN x aF).1 (by decide)) hn) fun r _=>Z.ret ⟨rfl,rfl,rfl,rfl⟩
  refine Z.bind piece fun r hr=>?_
  obtain⟨⟨(LV:List aw),(g2:B),(d2:B),(i2:Int),(c:Bool),v⟩,v'⟩:=r;obtain⟨r1,r2,di,gg⟩:=hr;have r1:LV=t1:=r1;have r2:g2=g1:=r2;have di:d2=d1:=di;have gg:i2=i:=gg;subst r1 r2 di gg;refine Z.ite (fun _=>Z.ret trivial) fun _=>?_
  refine Z.ret ⟨k-1,by omega,rfl,rfl,rfl,?_,?_⟩
  ·show 0<=IntKind.i64.wrap (i2+1);rw[hw];omega
  ·show IntKind.i64.wrap (i2+1)+((k-1:Nat):Int)=_;rw[hw];omega
 ·cases r with
  |inl r=>exact Z.ret trivial
  |inr r=>exact Z.ret trivial
theorem agq(a)(au:jb a.1.1)(hg:a.1.2.1.length<=200)(hn:kN a.1.2.1):Z (f177 a) (fun r=>jb r.2.1):=by
 obtain⟨⟨(t:List aw),(g:B),u⟩,bV⟩:=a;obtain⟨nC,lN⟩:=au;have nC:t.length<=16:=nC;have hg:g.length<=200:=hg;have axX:iq t:=⟨by show t.length<=2097152;omega,fun e he=>⟨Nat.le_trans (lN e he).1 (by decide),Nat.le_trans (lN e he).2 (by decide)⟩⟩
 unfold f177;refine Z.bind (P:=fun r=>jb r.2.1) ?_ fun r hr=>Z.ret hr
 refine Z.loop (fun(k:Nat) y=>y.1.1=t/\y.1.2.1=g/\(0:Int)<=y.1.2.2.2.1/\(y.1.2.2.2.1:Int)+k=t.length/\((y.2.1:List aw).length:Int)<=y.1.2.2.2.1/\∀e,e∈(y.2.1:List aw)->k0 e) (fun k y hy=>?_) t.length _
  ⟨rfl,rfl,Int.le_refl _,by show(0:Int)+_=_;omega,by show(0:Int)<=0;omega,fun e he=>by cases he⟩
 obtain⟨⟨(t1:List aw),(g1:B),u1,(i:Int),u⟩,(out:List aw),bV⟩:=y;obtain⟨cH,dm,dK,h6,eQ,eZ⟩:=hy;have cH:t1=t:=cH;have dm:g1=g:=dm;subst cH dm;have dK:0<=i:=dK;have h6:i+k=t1.length:=h6;have eQ:(out.length:Int)<=i:=eQ;unfold TH;refine Z.ite (fun hc=>?_) fun _=>Z.ret ⟨by show out.length<=16;omega,eZ⟩
 have hc:i<(t1.length:Int):=of_decide_eq_true hc;have hw:IntKind.i64.wrap (i+1)=i+1:=cS (by omega) (by omega)
 obtain⟨x,aE,aF⟩:=nd (xs:=t1) dK hc;refine Z.eq (vd ((t1,()),()) axX) ?_
 refine Z.ite (fun _=>?_) fun _=>Z.ret ⟨by show out.length<=16;omega,eZ⟩
 have piece:Z (y2 ((t1,(g1,((),(i,())))),(out,()))) (fun r=>r.1.1=t1/\r.1.2.1=g1/\r.1.2.2.2.1=i/\r.2.1=out):=by
  unfold y2;refine Z.eq aE ?_
  refine Z.bind (PO ((g1,(x.path,())),()) hg (Nat.le_trans (lN x aF).1 (by decide)) hn) fun r _=>?_
  refine Z.ite (fun _=>?_) fun _=>Z.ret ⟨rfl,rfl,rfl,rfl⟩
  refine Z.eq aE ?_
  refine Z.ite (fun _=>?_) fun _=>Z.ret ⟨rfl,rfl,rfl,rfl⟩
  refine Z.eq aE ?_
  exact Z.bind (agm ((t1,(g1,(x.path,()))),()) ⟨nC,lN⟩ hg hn (lN x aF).1) fun r _=>Z.ret ⟨rfl,rfl,rfl,rfl⟩
 refine Z.bind piece fun r hr=>?_
 obtain⟨⟨(LV:List aw),(g2:B),aY,(i2:Int),(c:Bool),v⟩,(C1:List aw),v'⟩:=r;obtain⟨r1,r2,di,gg⟩:=hr;have r1:LV=t1:=r1;have r2:g2=g1:=r2;have di:i2=i:=di;have gg:C1=out:=gg;subst r1 r2 di gg;refine Z.ite (fun _=>?_) fun _=>?_
 ·refine Z.eq aE ?_
  refine Z.eq (dh (by decide) (by unfold ar;simp;omega)) ?_
  refine Z.ret ⟨k-1,by omega,rfl,rfl,?_,?_,?_,fun e he=>?_⟩
  ·show 0<=IntKind.i64.wrap (i2+1);rw[hw];omega
  ·show IntKind.i64.wrap (i2+1)+((k-1:Nat):Int)=_;rw[hw];omega
  ·show((C1++[x]).length:Int)<=IntKind.i64.wrap (i2+1);rw[hw];simp;omega
  ·have he:e∈C1++[x]:=he;rcases List.mem_append.1 he with he|he
   ·exact eZ e he
   ·rw[List.mem_singleton.1 he];exact lN x aF
 ·refine Z.ret ⟨k-1,by omega,rfl,rfl,?_,?_,?_,eZ⟩
  ·show 0<=IntKind.i64.wrap (i2+1);rw[hw];omega
  ·show IntKind.i64.wrap (i2+1)+((k-1:Nat):Int)=_;rw[hw];omega
  ·show(C1.length:Int)<=IntKind.i64.wrap (i2+1);rw[hw];omega
theorem ao4:∀(n:Nat) (x:Int),0<=x->x<=100000->x<n->Z (jP lI n ((x,()),())) (fun r=>((r.1.1:B).length:Int)<=x+1):=by
 intro n;induction n with
 |zero=>intro x h0 _ h;omega
 |succ n ih=>
  intro x h0 h1 hl;show Z (lI (jP lI n) _) _;unfold lI;refine Z.ite (fun hc=>?_) fun _=>?_
  ·have hc:x< -9223372036854775807:=of_decide_eq_true hc;omega
  refine Z.ite (fun hc=>?_) fun _=>?_
  ·have hc:x<0:=of_decide_eq_true hc;omega
  refine Z.ite (fun hc=>?_) fun hc=>?_
  ·exact Z.ret (by show((strOf [_]).length:Int)<=x+1;simp[strOf];omega)
  ·have hc:¬x<10:=of_decide_eq_false hc;refine Z.eq (vQ (x:=x) rfl h0 (by omega) (by decide)) ?_
   refine Z.bind (ih (x/10) (by omega) (by omega) (by omega)) fun r hr=>?_
   refine Z.eq (ob (x:=x) h0 (by decide)) ?_
   have hr:((r.1.1:B).length:Int)<=x/10+1:=hr;refine Z.eq (dH (s:=r.1.1) (by simp[strOf];omega)) ?_
   exact Z.ret (by show(((r.1.1:B)++strOf [_]).length:Int)<=x+1;rw[List.length_append];simp[strOf];omega)
theorem ajn(a)(h0:(0:Int)<=a.1.1)(h1:(a.1.1:Int)<=100):Z (f83 a) (fun r=>(r.1.1:B).length<=101):=by
 obtain⟨⟨(x:Int),u⟩,bV⟩:=a;have h0:0<=x:=h0;have h1:x<=100:=h1;exact(ao4 ke x h0 (by omega) (by unfold ke;omega)).mono fun r hr=>by have hr:((r.1.1:B).length:Int)<=x+1:=hr;omega
theorem PH(a)(m:Nat)(h:cX a.2.1.1 a.2.1.2.1 m)(hm:40<=m):Z (vZ a) (fun r=>cX r.2.1.1 r.2.1.2.1 (m-40)/\jb r.2.2.1):=by
 obtain⟨⟨u1,u2⟩,⟨⟨(b:List Int),(p:Int),uF⟩,aAn⟩⟩:=a;have h:cX b p m:=h;unfold vZ;refine Z.bind (P:=fun r=>cX r.2.1.1 r.2.1.2.1 (m-5)/\jb r.2.2.1) ?_ fun r1 h1=>?_
 ·refine Z.loop (fun(k:Nat) y=>k<=5/\(0:Int)<=y.1.2.2.2.1/\(y.1.2.2.2.1:Int)+k=5/\(y.2.2.2.1:List B)=[[97],[108,105,98],[98,105,110],[100,111,99],[97,47,98]]/\cX y.2.1.1 y.2.1.2.1 (m-(5-k))/\jb y.2.2.1) (fun k y hy=>?_) 5 _
   ⟨Nat.le_refl _,Int.le_refl _,by show(0:Int)+(5:Nat)=5;rfl,rfl,h,by show(0:Nat)<=16;decide,fun e he=>by cases he⟩
  obtain⟨⟨aY,w2,cf,(i:Int),k1⟩,⟨⟨(bI:List Int),(hF:Int),rQ⟩,(t:List aw),(L:List B),oO⟩⟩:=y;obtain⟨cH,dm,dK,h6,eQ,eZ⟩:=hy;have dm:0<=i:=dm;have dK:i+k=5:=dK;have h6:L=_:=h6;have dR:L.length=5:=by rw[h6];rfl
  have ax4:∀s,s∈L->dr s:=by rw[h6];exact fun s hs=>pf (by rfl) hs
  have eQ:cX bI hF (m-(5-k)):=eQ;have eZ:jb t:=eZ;unfold Pr;refine Z.ite (fun hc=>?_) fun hc=>?_
  ·have hc:i<(L.length:Int):=of_decide_eq_true hc;have hw:IntKind.i64.wrap (i+1)=i+1:=cS (by omega) (by omega)
   obtain⟨j,rfl⟩:=Int.eq_ofNat_of_zero_le dm;have hj:j<L.length:=by omega
   refine Z.bind (gU _ _ eQ (by omega)) fun r hr=>?_
   have hR:cX r.2.1.1 r.2.1.2.1 (m-(5-(k-1))):=hr.1.less (by omega)
   refine Z.ite (fun _=>?_) fun _=>?_
   ·refine Z.eq (ft hj) ?_
    refine Z.eq (List.getElem?_eq_getElem hj) ?_
    have hsh:dr L[j]:=ax4 _ (List.getElem_mem hj);refine Z.bind (Hf ((t,((L[j],((1:Int),((7:Int),(([]:B),())))),())),()) eZ ⟨hsh,by show(0:Nat)<=200;decide⟩) fun r2 h2=>?_
    refine Z.ret ⟨k-1,by omega,by omega,?_,?_,h6,hR,h2⟩
    ·show 0<=IntKind.i64.wrap ((j:Int)+1);rw[hw];omega
    ·show IntKind.i64.wrap ((j:Int)+1)+((k-1:Nat):Int)=5;rw[hw];omega
   ·refine Z.ret ⟨k-1,by omega,by omega,?_,?_,h6,hR,eZ⟩
    ·show 0<=IntKind.i64.wrap ((j:Int)+1);rw[hw];omega
    ·show IntKind.i64.wrap ((j:Int)+1)+((k-1:Nat):Int)=5;rw[hw];omega
  ·exact Z.ret ⟨eQ.less (by omega),eZ⟩
 refine Z.bind (gU _ _ h1.1 (by omega)) fun r2 h2=>?_
 obtain⟨⟨v1,(q:Int),v2⟩,⟨⟨(b1:List Int),(h9:Int),v3⟩,v4⟩⟩:=r2;have aCd:q<7:=h2.2.2 (by show(1:Int)<=7;decide)
 have aCe:0<=q:=h2.2.1;refine Z.bind (P:=fun r=>cX r.2.1.1 r.2.1.2.1 (m-34)/\jb r.2.2.1) ?_ fun di h3=>?_
 ·refine Z.loop (fun(k:Nat) y=>k<=6/\(y.1.2.2.1:Int)=k/\cX y.2.1.1 y.2.1.2.1 (m-34+4*k)/\jb y.2.2.1) (fun k y hy=>?_) q.toNat _
   ⟨by omega,by show q=_;omega,(by refine h2.1.less ?_;omega),h1.2⟩
  obtain⟨⟨aY,w2,(i:Int),k1⟩,⟨⟨(bI:List Int),(hF:Int),rQ⟩,(t:List aw),oO⟩⟩:=y;obtain⟨cH,dK,eQ,eZ⟩:=hy;have dK:i=k:=dK;subst dK;have eQ:cX bI hF (m-34+4*k):=eQ;have eZ:jb t:=eZ;unfold Pq;refine Z.ite (fun hc=>?_) fun hc=>?_
  ·have hc:(k:Int)>0:=of_decide_eq_true hc;have hw:IntKind.i64.wrap ((k:Int)-1)=((k-1:Nat):Int):=by rw[cS (by omega) (by omega)];omega
   refine Z.bind (O3 _ _ eQ (by omega)) fun r hr=>?_
   refine Z.bind (Hf ((t,((r.2.2.1.1,(r.2.2.1.2.1,(r.2.2.1.2.2.1,(r.2.2.1.2.2.2.1,())))),())),()) eZ hr.2) fun r2 h2=>?_
   exact Z.ret ⟨k-1,by omega,by omega,hw,hr.1.less (by omega),h2⟩
  ·exact Z.ret ⟨eQ.less (by omega),eZ⟩
 refine Z.bind (gU _ _ h3.1 (by omega)) fun gg aC=>?_
 refine Z.ite (fun _=>?_) fun _=>Z.ret ⟨aC.1.less (by omega),h3.2⟩
 refine Z.bind (P:=fun r=>cX r.2.1.1 r.2.1.2.1 (m-34-1)/\jb r.2.2.1) ?_ fun r5 bk=>Z.ret ⟨bk.1.less (by omega),bk.2⟩
 refine Z.loop (fun(k:Nat) y=>(0:Int)<=y.1.2.2.1/\(y.1.2.2.1:Int)+k=16/\cX y.2.1.1 y.2.1.2.1 (m-34-1)/\jb y.2.2.1) (fun k y hy=>?_) 16 _ ⟨Int.le_refl _,by show(0:Int)+(16:Nat)=16;rfl,aC.1,h3.2⟩
 obtain⟨⟨aY,w2,(i:Int),k1⟩,⟨⟨(bI:List Int),(hF:Int),rQ⟩,(t:List aw),oO⟩⟩:=y;obtain⟨cH,dK,eQ,eZ⟩:=hy;have cH:0<=i:=cH;have dK:i+k=16:=dK;have eZ:jb t:=eZ;unfold OU;refine Z.ite (fun hc=>?_) fun hc=>Z.ret ⟨eQ,eZ⟩
 have hc:i<16:=of_decide_eq_true hc;have hw:IntKind.i64.wrap (i+1)=i+1:=cS (by omega) (by omega)
 refine Z.bind (ajn ((i,()),()) cH (by show i<=100;omega)) fun r hr=>?_
 have hr:(r.1.1:B).length<=101:=hr;refine Z.eq (dH (s:=[102]) (t:=r.1.1) (by show 1+_<=_;omega)) ?_
 refine Z.bind (Hf ((t,(((([102]:B)++r.1.1,((2:Int),((0:Int),(([]:B),()))))),())),()) eZ ⟨by show((([102]:B)++r.1.1).length)<=200;simp;omega,by show(0:Nat)<=200;decide⟩) fun r2 h2=>?_
 refine Z.ret ⟨k-1,by omega,?_,?_,eQ,h2⟩
 ·show 0<=IntKind.i64.wrap (i+1);rw[hw];omega
 ·show IntKind.i64.wrap (i+1)+((k-1:Nat):Int)=16;rw[hw];omega
noncomputable abbrev apq:a_:=[(78,jp),(79,kE),(176,Co)]
theorem apJ:aQ O (aW ad apq):=aV ⟨jM,lr,I5,⟨⟩⟩
abbrev U':Shape:=⟨[ay 0 500000 0],[ax 500000 [bn .u8,aZ]],17⟩
abbrev UG:Shape:=⟨[ay 0 500000 0,ay 2 2 0],[ax 500000 [bn .u8,aZ],ax 2 [ah,aZ,ah]],17⟩
noncomputable def s8(a:U'.J):Option UG.J:=
(jo (((),([([111,110,101]:B),([116,119,111]:B),([116,104,114,101,101]:B),([122,105,112]:B)]:List B),()),(a.2.1.1,a.2.1.2.1,()),())).bind fun b=>
(fX (((),(4:Int),()),(b.2.1.1,b.2.1.2.1,()),())).bind fun c=>
 bif(c.1.2.1 !=(0:Int)) then
(s7 (((),()),(c.2.1.1,c.2.1.2.1,()),())).bind fun d=>
 some (((),(),()),(d.2.1.1,d.2.1.2.1,()),(b.1.2.1,c.1.2.1,d.1.2.1,()),())
else
 some (((),(),()),(c.2.1.1,c.2.1.2.1,()),(b.1.2.1,c.1.2.1,([]:B),()),())
noncomputable def Cp:aD:=aG ad Tryz.f157 U' UG [0] s8
theorem I6:aA O 157 Cp:=aK apJ Tryz.func157 (by kernel_rfl) ae (fun y=>by kernel_rfl) fun a=>by kernel_rfl
noncomputable abbrev apw:a_:=[(78,jp),(79,kE),(157,Cp),(176,Co),(177,_o),(178,JV)]
theorem apO:aQ O (aW ad apw):=aV ⟨jM,lr,I6,I5,arT,TW,⟨⟩⟩
abbrev Vg:Shape:=⟨[ay 0 500000 0,aj 1],[ax 500000 [bn .u8,aZ]],27⟩
abbrev UN:Shape:=⟨[ay 0 500000 0,ay 4 4 0],[ax 500000 [bn .u8,aZ],bp 5000258 .need 4 2,bp 5000259 .entry 4 3,ax 4 [ah,ah,.own 5000258,.own 5000259]],27⟩
noncomputable def v7(a:Vg.J):Option UN.J:=
(s7 (((),()),(a.2.1.1,a.2.1.2.1,()),())).bind fun b=>
(vZ (((),()),(b.2.1.1,b.2.1.2.1,()),())).bind fun c=>
(jo (((),([([42,42]:B),([97,47,42,42]:B),([108,105,98,47,42,42]:B),([100,111,99,47,42,42]:B),([98,42]:B)]:List B),()),(c.2.1.1,c.2.1.2.1,()),())).bind fun d=>
(f177 ((c.2.2.1,d.1.2.1,()),())).bind fun e=>
(fX (((),(3:Int),()),(d.2.1.1,d.2.1.2.1,()),())).bind fun f=>
 bif(f.1.2.1==(0:Int)) then
(s8 (((),()),(f.2.1.1,f.2.1.2.1,()),())).bind fun g=>
(b9 40 ([]:List bv) ([(bv.mk g.2.2.1.1 g.2.2.1.2.1 g.2.2.1.2.2.1)]:List bv)).bind fun h=>
 some (((),(),()),(g.2.1.1,g.2.1.2.1,()),h,e.2.1,(a.1.2.1,b.1.2.1,(),(),()),())
else
 some (((),(),()),(f.2.1.1,f.2.1.2.1,()),([]:List bv),e.2.1,(a.1.2.1,b.1.2.1,(),(),()),())
noncomputable def JX:aD:=aG ad Tryz.f125 Vg UN [0] v7
theorem TY:aA O 125 JX:=aK apO Tryz.func125 (by kernel_rfl) ae (fun y=>by kernel_rfl) fun a=>by kernel_rfl
noncomputable abbrev aps:a_:=[(78,jp),(79,kE),(176,Co)]
theorem apL:aQ O (aW ad aps):=aV ⟨jM,lr,I5,⟨⟩⟩
abbrev Vb:Shape:=⟨[ay 0 500000 0],[ax 500000 [bn .u8,aZ]],11⟩
abbrev UI:Shape:=⟨[ay 0 500000 0,aj 2],[ax 500000 [bn .u8,aZ]],11⟩
noncomputable def v6(a:Vb.J):Option UI.J:=
(fX (((),(6:Int),()),(a.2.1.1,a.2.1.2.1,()),())).bind fun b=>
 bif(b.1.2.1==(0:Int)) then
(jo (((),([([]:B),([46]:B),([49,46]:B),([48,49]:B),([49,48,48,48]:B),([49,46,50,46,51,46,52,46,53]:B),([97]:B),([49,46,45,49]:B)]:List B),()),(b.2.1.1,b.2.1.2.1,()),())).bind fun c=>
 some (((),c.1.2.1,()),(c.2.1.1,c.2.1.2.1,()),())
else
(s7 (((),()),(b.2.1.1,b.2.1.2.1,()),())).bind fun d=>
 some (((),d.1.2.1,()),(d.2.1.1,d.2.1.2.1,()),())
noncomputable def JW:aD:=aG ad Tryz.f155 Vb UI [0] v6
theorem TX:aA O 155 JW:=aK apL Tryz.func155 (by kernel_rfl) ae (fun y=>by kernel_rfl) fun a=>by kernel_rfl
noncomputable abbrev apr:a_:=[(78,jp),(79,kE),(155,JW),(157,Cp)]
theorem apK:aQ O (aW ad apr):=aV ⟨jM,lr,TX,I6,⟨⟩⟩
abbrev Va:Shape:=⟨[ay 0 500000 0],[ax 500000 [bn .u8,aZ]],26⟩
abbrev UH:Shape:=⟨[ay 0 500000 0,ay 2 2 0],[ax 500000 [bn .u8,aZ],ax 2 [ah,aZ,ah]],26⟩
noncomputable def Cg(a:Va.J):Option UH.J:=
(s8 (((),()),(a.2.1.1,a.2.1.2.1,()),())).bind fun b=>
(fX (((),(14:Int),()),(b.2.1.1,b.2.1.2.1,()),())).bind fun c=>
 bif(c.1.2.1==(0:Int)) then
(jo (((),([([]:B),([57]:B),([79,110,101]:B),([101,108,101,118,101,110,108,101,116,116,101]:B)]:List B),()),(c.2.1.1,c.2.1.2.1,()),())).bind fun d=>
 some (((),(),()),(d.2.1.1,d.2.1.2.1,()),(d.1.2.1,b.2.2.1.2.1,b.2.2.1.2.2.1,()),())
else
 bif(c.1.2.1==(1:Int)) then
(fX (((),(6:Int),()),(c.2.1.1,c.2.1.2.1,()),())).bind fun e=>
 some (((),(),()),(e.2.1.1,e.2.1.2.1,()),(b.2.2.1.1,(IntKind.i64.wrap (e.1.2.1-(1:Int))),b.2.2.1.2.2.1,()),())
else
 bif(c.1.2.1==(2:Int)) then
(v6 (((),()),(c.2.1.1,c.2.1.2.1,()),())).bind fun f=>
 some (((),(),()),(f.2.1.1,f.2.1.2.1,()),(b.2.2.1.1,b.2.2.1.2.1,f.1.2.1,()),())
else
 some (((),(),()),(c.2.1.1,c.2.1.2.1,()),(b.2.2.1.1,b.2.2.1.2.1,b.2.2.1.2.2.1,()),())
noncomputable def VK:aD:=aG ad Tryz.f156 Va UH [0] Cg
theorem anH:aA O 156 VK:=aK apK Tryz.func156 (by kernel_rfl) ae (fun y=>by kernel_rfl) fun a=>by kernel_rfl
noncomputable abbrev apg:a_:=[(78,jp),(79,kE),(261,JT)]
theorem apC:aQ O (aW ad apg):=aV ⟨jM,lr,TU,⟨⟩⟩
abbrev U1:Shape:=⟨[ay 0 500000 0],[ax 500000 [bn .u8,aZ]],11⟩
abbrev Ux:Shape:=⟨[ay 0 500000 0,aj 2],[ax 500000 [bn .u8,aZ]],11⟩
noncomputable def Cb(a:U1.J):Option Ux.J:=
(fX (((),(6:Int),()),(a.2.1.1,a.2.1.2.1,()),())).bind fun b=>
 bif(b.1.2.1==(0:Int)) then
(jo (((),([([]:B),([47]:B),([97,47]:B),([47,97]:B),([46]:B),([46,46]:B),([97,47,47,98]:B),([65]:B),([97,47,98,47,99,47,100,47,101,47,102]:B),([101,108,101,118,101,110,108,101,116,116,101]:B),([97,32,98]:B),([120,47,46,46,47,121]:B)]:List B),()),(b.2.1.1,b.2.1.2.1,()),())).bind fun c=>
 some (((),c.1.2.1,()),(c.2.1.1,c.2.1.2.1,()),())
else
(s6 (((),()),(b.2.1.1,b.2.1.2.1,()),())).bind fun d=>
 some (((),d.1.2.1,()),(d.2.1.1,d.2.1.2.1,()),())
noncomputable def VD:aD:=aG ad Tryz.f236 U1 Ux [0] Cb
theorem anA:aA O 236 VD:=aK apC Tryz.func236 (by kernel_rfl) ae (fun y=>by kernel_rfl) fun a=>by kernel_rfl
noncomputable abbrev apk:a_:=[(77,Ke),(78,jp),(79,kE),(224,JU),(236,VD),(237,K')]
theorem apE:aQ O (aW ad apk):=aV ⟨VZ,jM,lr,TV,anA,WW,⟨⟩⟩
abbrev U5:Shape:=⟨[ay 0 500000 0],[ax 500000 [bn .u8,aZ]],32⟩
abbrev UA:Shape:=⟨[ay 0 500000 0,ay 2 2 0],[ax 500000 [bn .u8,aZ],ax 2 [ah,aZ,aZ,ah]],32⟩
noncomputable def vY(a:U5.J):Option UA.J:=
(vX (((),()),(a.2.1.1,a.2.1.2.1,()),())).bind fun b=>
(fX (((),(14:Int),()),(b.2.1.1,b.2.1.2.1,()),())).bind fun c=>
 bif(c.1.2.1==(0:Int)) then
(Cb (((),()),(c.2.1.1,c.2.1.2.1,()),())).bind fun d=>
 some (((),(),()),(d.2.1.1,d.2.1.2.1,()),(d.1.2.1,b.2.2.1.2.1,b.2.2.1.2.2.1,b.2.2.1.2.2.2.1,()),())
else
 bif(c.1.2.1==(1:Int)) then
(fX (((),(5:Int),()),(c.2.1.1,c.2.1.2.1,()),())).bind fun e=>
 some (((),(),()),(e.2.1.1,e.2.1.2.1,()),(b.2.2.1.1,e.1.2.1,b.2.2.1.2.2.1,b.2.2.1.2.2.2.1,()),())
else
 bif(c.1.2.1==(2:Int)) then
(wv (((),([((-1):Int),(8:Int),(0:Int)]:List Int),()),(c.2.1.1,c.2.1.2.1,()),())).bind fun f=>
 some (((),(),()),(f.2.1.1,f.2.1.2.1,()),(b.2.2.1.1,b.2.2.1.2.1,f.1.2.1,b.2.2.1.2.2.2.1,()),())
else
 bif(c.1.2.1==(3:Int)) then
(f237 ((([117]:B),(81:Int),()),())).bind fun g=>
(jo (((),([([1]:B),g.1.1,([120]:B),([]:B)]:List B),()),(c.2.1.1,c.2.1.2.1,()),())).bind fun h=>
 some (((),(),()),(h.2.1.1,h.2.1.2.1,()),(b.2.2.1.1,b.2.2.1.2.1,b.2.2.1.2.2.1,h.1.2.1,()),())
else
 some (((),(),()),(c.2.1.1,c.2.1.2.1,()),(b.2.2.1.1,b.2.2.1.2.1,b.2.2.1.2.2.1,b.2.2.1.2.2.2.1,()),())
noncomputable def VG:aD:=aG ad Tryz.f203 U5 UA [0] vY
theorem anD:aA O 203 VG:=aK apE Tryz.func203 (by kernel_rfl) ae (fun y=>by kernel_rfl) fun a=>by kernel_rfl
noncomputable abbrev app:a_:=[(78,jp),(178,JV),(202,wZ),(203,VG)]
theorem apI:aQ O (aW ad app):=aV ⟨jM,TW,CT,anD,⟨⟩⟩
abbrev U_:Shape:=⟨[ay 0 500000 0],[ax 500000 [bn .u8,aZ]],30⟩
abbrev UF:Shape:=⟨[ay 0 500000 0,ba 2 3000128],[ax 500000 [bn .u8,aZ],a' 3000128 .entry 2 0],30⟩
noncomputable def Cf(a:U_.J):Option UF.J:=
(vZ (((),()),(a.2.1.1,a.2.1.2.1,()),())).bind fun b=>
(f202 ((b.2.2.1,()),())).bind fun c=>
(fX (((),(14:Int),()),(b.2.1.1,b.2.1.2.1,()),())).bind fun d=>
 bif(d.1.2.1==(0:Int)) then
(vY (((),()),(d.2.1.1,d.2.1.2.1,()),())).bind fun e=>
(b9 48 c.2.1 ([(aw.mk e.2.2.1.1 e.2.2.1.2.1 e.2.2.1.2.2.1 e.2.2.1.2.2.2.1)]:List aw)).bind fun f=>
 some (((),(),()),(e.2.1.1,e.2.1.2.1,()),f,())
else
 bif(d.1.2.1==(1:Int)) then
 bif(decide ((c.2.1.length:Int)>(0:Int))) then
(fX (((),(c.2.1.length:Int),()),(d.2.1.1,d.2.1.2.1,()),())).bind fun g=>
(vY (((),()),(g.2.1.1,g.2.1.2.1,()),())).bind fun h=>
(be c.2.1.length g.1.2.1).bind fun i=>
((c.2.1[i]?).bind fun q=>some (aw.mk h.2.2.1.1 h.2.2.1.2.1 h.2.2.1.2.2.1 h.2.2.1.2.2.2.1)).bind fun j=>
 some (((),(),()),(h.2.1.1,h.2.1.2.1,()),(c.2.1.set i j),())
else
 some (((),(),()),(d.2.1.1,d.2.1.2.1,()),c.2.1,())
else
 some (((),(),()),(d.2.1.1,d.2.1.2.1,()),c.2.1,())
noncomputable def VJ:aD:=aG ad Tryz.f158 U_ UF [0] Cf
theorem anG:aA O 158 VJ:=aK apI Tryz.func158 (by kernel_rfl) ae (fun y=>by kernel_rfl) fun a=>by kernel_rfl
noncomputable abbrev apx:a_:=[(78,jp),(79,kE),(125,JX),(155,JW),(156,VK),(157,Cp),(158,VJ)]
theorem apP:aQ O (aW ad apx):=aV ⟨jM,lr,TY,TX,anH,I6,anG,⟨⟩⟩
abbrev Vi:Shape:=⟨[ay 0 500000 0],[ax 500000 [bn .u8,aZ]],39⟩
abbrev UP:Shape:=⟨[ay 0 500000 0,ay 2 2 0],[ax 500000 [bn .u8,aZ],bp 5000130 .need 2 2,bp 5000131 .entry 2 3,ax 2 [ah,ah,.own 5000130,.own 5000131]],39⟩
noncomputable def Ch(a:Vi.J):Option UP.J:=
(jo (((),([([111,110,101]:B),([116,119,111]:B),([116,104,114,101,101]:B),([122,105,112]:B)]:List B),()),(a.2.1.1,a.2.1.2.1,()),())).bind fun b=>
(v7 (((),b.1.2.1,()),(b.2.1.1,b.2.1.2.1,()),())).bind fun c=>
(fX (((),(14:Int),()),(c.2.1.1,c.2.1.2.1,()),())).bind fun d=>
 bif(d.1.2.1==(0:Int)) then
(jo (((),([([]:B),([79,110,101]:B)]:List B),()),(d.2.1.1,d.2.1.2.1,()),())).bind fun e=>
 some (((),(),()),(e.2.1.1,e.2.1.2.1,()),c.2.2.1,c.2.2.2.1,(e.1.2.1,c.2.2.2.2.1.2.1,(),(),()),())
else
 bif(d.1.2.1==(1:Int)) then
(v6 (((),()),(d.2.1.1,d.2.1.2.1,()),())).bind fun f=>
 some (((),(),()),(f.2.1.1,f.2.1.2.1,()),c.2.2.1,c.2.2.2.1,(c.2.2.2.2.1.1,f.1.2.1,(),(),()),())
else
 bif(d.1.2.1==(2:Int)) then
(Cg (((),()),(d.2.1.1,d.2.1.2.1,()),())).bind fun g=>
(s8 (((),()),(g.2.1.1,g.2.1.2.1,()),())).bind fun h=>
(b9 40 c.2.2.1 ([(bv.mk g.2.2.1.1 g.2.2.1.2.1 g.2.2.1.2.2.1),(bv.mk h.2.2.1.1 h.2.2.1.2.1 h.2.2.1.2.2.1)]:List bv)).bind fun i=>
 some (((),(),()),(h.2.1.1,h.2.1.2.1,()),i,c.2.2.2.1,(c.2.2.2.2.1.1,c.2.2.2.2.1.2.1,(),(),()),())
else
 bif(d.1.2.1==(3:Int)) then
(Cf (((),()),(d.2.1.1,d.2.1.2.1,()),())).bind fun j=>
 some (((),(),()),(j.2.1.1,j.2.1.2.1,()),c.2.2.1,j.2.2.1,(c.2.2.2.2.1.1,c.2.2.2.2.1.2.1,(),(),()),())
else
 some (((),(),()),(d.2.1.1,d.2.1.2.1,()),c.2.2.1,c.2.2.2.1,(c.2.2.2.2.1.1,c.2.2.2.2.1.2.1,(),(),()),())
noncomputable def VQ:aD:=aG ad Tryz.f108 Vi UP [0] Ch
theorem anN:aA O 108 VQ:=aK apP Tryz.func108 (by kernel_rfl) ae (fun y=>by kernel_rfl) fun a=>by kernel_rfl
abbrev xU(p:aL):Prop:=jB p/\p.aX.length<=2097151/\∀n,n∈p.bi->n.aX.length<=2097151
abbrev oM(k:Nat)(ps:List aL):Prop:=ps.length<=k/\∀p,p∈ps->xU p
theorem oM.x'{k:Nat}{ps:List aL}(h:oM k ps)(hk:k<=2097152):gp ps:=⟨Nat.le_trans h.1 hk,fun p hp=>(h.2 p hp).1⟩
theorem oM.vs{k:Nat}{ps:List aL}(h:oM k ps):lX ps:=fun p hp=>(h.2 p hp).2
abbrev D7(n:bv):Prop:=dr n.name/\dr n.aX
def Wl(s:B):Bool:=!(s==[102,114,101,115,104])&&!(s==[110,111,98,111,100,121,115])
abbrev Nb(s:B):Prop:=dr s/\Wl s=true
theorem Jr{L:List B}(h:L.all (fun s=>decide (s.length<=200)&&Wl s)=true){s:B}(hs:s∈L):Nb s:=by
 have:=List.all_eq_true.1 h s hs;simp only[Bool.and_eq_true,decide_eq_true_eq] at this;exact this
abbrev rN(p:aL):Prop:=Nb p.name/\dr p.aX/\(p.bi.length<=3/\∀n,n∈p.bi->D7 n)/\(p.bx.length<=17/\∀e,e∈p.bx->k0 e)
theorem rN.ok{p:aL}(h:rN p):xU p:=by
 obtain⟨a,b,⟨c1,c2⟩,d1,d2⟩:=h;have up:∀{s:B},dr s->cj s.length:=fun h=>Nat.le_trans h (by decide)
 exact⟨⟨up a.1,up b,⟨Nat.le_trans c1 (by decide),fun n hn=>⟨up (c2 n hn).1,up (c2 n hn).2⟩⟩,Nat.le_trans d1 (by decide),fun e he=>⟨up (d2 e he).1,up (d2 e he).2⟩⟩,Nat.le_trans b (by decide),fun n hn=>Nat.le_trans (c2 n hn).2 (by decide)⟩
theorem Fk(a)(m:Nat)(h:cX a.2.1.1 a.2.1.2.1 m)(hm:3<=m):Z (s8 a) (fun r=>cX r.2.1.1 r.2.1.2.1 (m-3)/\D7 ⟨r.2.2.1.1,r.2.2.1.2.1,r.2.2.1.2.2.1⟩):=by
 unfold s8;refine Z.bind (kF _ m h (by omega) (by simp)) fun r1 h1=>?_
 have s1:dr r1.1.2.1:=pf (by rfl) h1.2
 refine Z.bind (gU _ _ h1.1 (by omega)) fun r2 h2=>?_
 refine Z.ite (fun _=>?_) fun _=>Z.ret ⟨h2.1.less (by omega),s1,by show(0:Nat)<=200;decide⟩
 exact Z.bind (EI _ _ h2.1 (by omega)) fun di h3=>Z.ret ⟨h3.1.less (by omega),s1,h3.2⟩
theorem PJ(a)(m:Nat)(h:cX a.2.1.1 a.2.1.2.1 m)(hm:50<=m)(hn:Nb a.1.2.1):Z (v7 a) (fun r=>cX r.2.1.1 r.2.1.2.1 (m-50)/\rN ⟨r.2.2.2.2.1.1,r.2.2.2.2.1.2.1,r.2.2.1,r.2.2.2.1⟩/\(r.2.2.1:List bv).length<=1):=by
 unfold v7;refine Z.bind (EI _ m h (by omega)) fun r1 h1=>?_
 refine Z.bind (PH _ _ h1.1 (by omega)) fun r2 h2=>?_
 refine Z.bind (kF _ _ h2.1 (by omega) (by simp)) fun di h3=>?_
 have hg:(di.1.2.1:B).length<=200/\kN di.1.2.1:=by
  have:=h3.2;simp only[List.mem_cons,List.not_mem_nil,or_false] at this;rcases this with e|e|e|e|e
  all_goals(rw[e];exact⟨by decide,by decide⟩)
 refine Z.bind (agq ((r2.2.2.1,(di.1.2.1,())),()) h2.2 hg.1 hg.2) fun gg aC=>?_
 refine Z.bind (gU _ _ h3.1 (by omega)) fun r5 bk=>?_
 have au:(gg.2.1:List aw).length<=17/\∀e,e∈(gg.2.1:List aw)->k0 e:=⟨Nat.le_succ_of_le aC.1,aC.2⟩;refine Z.ite (fun _=>?_) fun _=>Z.ret ⟨bk.1.less (by omega),⟨hn,h1.2,⟨by show(0:Nat)<=3;decide,fun n hn=>by cases hn⟩,au⟩,by show(0:Nat)<=1;decide⟩
 refine Z.bind (Fk _ _ bk.1 (by omega)) fun rV ca=>?_
 refine Z.eq (dh (by decide) (by unfold ar;simp)) ?_
 refine Z.ret ⟨ca.1.less (by omega),⟨hn,h1.2,⟨by show(1:Nat)<=3;decide,fun n hn=>?_⟩,au⟩,by show(1:Nat)<=1;decide⟩
 have hn:n∈([]:List bv)++[_]:=hn;rw[List.nil_append,List.mem_singleton] at hn;rw[hn];exact ca.2
theorem N7(a)(m:Nat)(h:cX a.2.1.1 a.2.1.2.1 m)(hm:2<=m):Z (v6 a) (fun r=>cX r.2.1.1 r.2.1.2.1 (m-2)/\dr r.1.2.1):=by
 unfold v6;refine Z.bind (gU _ m h (by omega)) fun r1 h1=>?_
 refine Z.ite (fun _=>?_) fun _=>?_
 ·exact Z.bind (kF _ _ h1.1 (by omega) (by simp)) fun r hr=>Z.ret ⟨hr.1.less (by omega),pf (by rfl) hr.2⟩
 ·exact Z.bind (EI _ _ h1.1 (by omega)) fun r hr=>Z.ret ⟨hr.1.less (by omega),hr.2⟩
theorem aeN(a)(m:Nat)(h:cX a.2.1.1 a.2.1.2.1 m)(hm:2<=m):Z (Cb a) (fun r=>cX r.2.1.1 r.2.1.2.1 (m-2)/\dr r.1.2.1):=by
 unfold Cb;refine Z.bind (gU _ m h (by omega)) fun r1 h1=>?_
 refine Z.ite (fun _=>?_) fun _=>?_
 ·exact Z.bind (kF _ _ h1.1 (by omega) (by simp)) fun r hr=>Z.ret ⟨hr.1.less (by omega),pf (by rfl) hr.2⟩
 ·exact Z.bind (Fj _ _ h1.1 (by omega)) fun r hr=>Z.ret ⟨hr.1.less (by omega),hr.2⟩
theorem aeP(a)(m:Nat)(h:cX a.2.1.1 a.2.1.2.1 m)(hm:7<=m):Z (Cg a) (fun r=>cX r.2.1.1 r.2.1.2.1 (m-7)/\D7 ⟨r.2.2.1.1,r.2.2.1.2.1,r.2.2.1.2.2.1⟩):=by
 unfold Cg;refine Z.bind (Fk _ m h (by omega)) fun r1 h1=>?_
 refine Z.bind (gU _ _ h1.1 (by omega)) fun r2 h2=>?_
 refine Z.ite (fun _=>?_) fun _=>Z.ite (fun _=>?_) fun _=>Z.ite (fun _=>?_) fun _=>?_
 ·exact Z.bind (kF _ _ h2.1 (by omega) (by simp)) fun r hr=>Z.ret ⟨hr.1.less (by omega),pf (by rfl) hr.2,h1.2.2⟩
 ·exact Z.bind (gU _ _ h2.1 (by omega)) fun r hr=>Z.ret ⟨hr.1.less (by omega),h1.2⟩
 ·exact Z.bind (N7 _ _ h2.1 (by omega)) fun r hr=>Z.ret ⟨hr.1.less (by omega),h1.2.1,hr.2⟩
 ·exact Z.ret ⟨h2.1.less (by omega),h1.2⟩
theorem Ob(a)(m:Nat)(h:cX a.2.1.1 a.2.1.2.1 m)(hm:8<=m):Z (vY a) (fun r=>cX r.2.1.1 r.2.1.2.1 (m-8)/\k0 ⟨r.2.2.1.1,r.2.2.1.2.1,r.2.2.1.2.2.1,r.2.2.1.2.2.2.1⟩):=by
 unfold vY;refine Z.bind (O3 _ m h (by omega)) fun r1 h1=>?_
 refine Z.bind (gU _ _ h1.1 (by omega)) fun r2 h2=>?_
 refine Z.ite (fun _=>?_) fun _=>Z.ite (fun _=>?_) fun _=>Z.ite (fun _=>?_) fun _=>Z.ite (fun _=>?_) fun _=>?_
 ·exact Z.bind (aeN _ _ h2.1 (by omega)) fun r hr=>Z.ret ⟨hr.1.less (by omega),hr.2,h1.2.2⟩
 ·exact Z.bind (gU _ _ h2.1 (by omega)) fun r hr=>Z.ret ⟨hr.1.less (by omega),h1.2⟩
 ·exact Z.bind (V3 _ _ h2.1 (by omega) (by simp)) fun r hr=>Z.ret ⟨hr.1.less (by omega),h1.2⟩
 ·refine Z.bind (Q5 _ (by simp) (by show(0:Int)<=81;decide) (by show(81:Int)<=127;decide)) fun q az=>?_
  refine Z.bind (kF _ _ h2.1 (by omega) (by simp)) fun r hr=>Z.ret ⟨hr.1.less (by omega),h1.2.1,?_⟩
  have:=hr.2;simp only[List.mem_cons,List.not_mem_nil,or_false] at this;rcases this with e|e|e|e
  ·show(r.1.2.1:B).length<=200;rw[e];decide
  ·show(r.1.2.1:B).length<=200;rw[e];exact az
  ·show(r.1.2.1:B).length<=200;rw[e];decide
  ·show(r.1.2.1:B).length<=200;rw[e];decide
 ·exact Z.ret ⟨h2.1.less (by omega),h1.2⟩
abbrev ZC(t:List aw):Prop:=t.length<=17/\∀e,e∈t->k0 e
theorem aeL(a)(m:Nat)(h:cX a.2.1.1 a.2.1.2.1 m)(hm:50<=m):Z (Cf a) (fun r=>cX r.2.1.1 r.2.1.2.1 (m-50)/\ZC r.2.2.1):=by
 unfold Cf;refine Z.bind (PH _ m h (by omega)) fun r1 h1=>?_
 obtain⟨mJ,⟨u1,(t:List aw),u2⟩⟩:=r1;have au:jb t:=h1.2;have abT:=au.1;refine Z.eq (F8 ((t,()),()) (by show t.length<=2097152;omega)) ?_
 refine Z.bind (gU _ _ h1.1 (by omega)) fun r2 h2=>?_
 have nD:ZC t:=⟨Nat.le_succ_of_le au.1,au.2⟩;refine Z.ite (fun _=>?_) fun _=>Z.ite (fun _=>?_) fun _=>Z.ret ⟨h2.1.less (by omega),nD⟩
 ·refine Z.bind (Ob _ _ h2.1 (by omega)) fun di h3=>?_
  refine Z.eq (dh (xs:=t) (by decide) (by unfold ar;simp;omega)) ?_
  refine Z.ret ⟨h3.1.less (by omega),by show(t++[_]).length<=17;simp;omega,fun e he=>?_⟩
  have he:e∈t++[_]:=he;rcases List.mem_append.1 he with he|he
  ·exact au.2 e he
  ·rw[List.mem_singleton.1 he];exact h3.2
 ·refine Z.ite (fun hc=>?_) fun _=>Z.ret ⟨h2.1.less (by omega),nD⟩
  have hc:(t.length:Int)>0:=of_decide_eq_true hc;refine Z.bind (gU _ _ h2.1 (by omega)) fun di h3=>?_
  obtain⟨⟨v1,(q:Int),v2⟩,v3⟩:=di;have xx:0<=q:=h3.2.1;have aB5:q<(t.length:Int):=h3.2.2 (by show(1:Int)<=(t.length:Int);omega)
  obtain⟨j,rfl⟩:=Int.eq_ofNat_of_zero_le xx;have hj:j<t.length:=by omega
  refine Z.bind (Ob _ _ h3.1 (by omega)) fun gg aC=>?_
  refine Z.eq (ft (n:=t.length) (i:=j) hj) ?_
  refine Z.eq (x:=aw.mk gg.2.2.1.1 gg.2.2.1.2.1 gg.2.2.1.2.2.1 gg.2.2.1.2.2.2.1) (by show(t[j]?).bind _=_;rw[List.getElem?_eq_getElem hj];rfl) ?_
  exact Z.ret ⟨aC.1.less (by omega),by show(t.set _ _).length<=17;rw[List.length_set];omega,SF au.2 aC.2⟩
theorem aeO(a)(m:Nat)(h:cX a.2.1.1 a.2.1.2.1 m)(hm:110<=m):Z (Ch a) (fun r=>cX r.2.1.1 r.2.1.2.1 (m-110)/\rN ⟨r.2.2.2.2.1.1,r.2.2.2.2.1.2.1,r.2.2.1,r.2.2.2.1⟩):=by
 unfold Ch;refine Z.bind (kF _ m h (by omega) (by simp)) fun r1 h1=>?_
 refine Z.bind (PJ _ _ h1.1 (by omega) (Jr (by rfl) h1.2)) fun r2 h2=>?_
 obtain⟨uf,DS,xy,oC⟩:=h2.2.1;refine Z.bind (gU _ _ h2.1 (by omega)) fun di h3=>?_
 refine Z.ite (fun _=>?_) fun _=>Z.ite (fun _=>?_) fun _=>Z.ite (fun _=>?_) fun _=>Z.ite (fun _=>?_) fun _=>?_
 ·exact Z.bind (kF _ _ h3.1 (by omega) (by simp)) fun r hr=>Z.ret ⟨hr.1.less (by omega),Jr (by rfl) hr.2,DS,xy,oC⟩
 ·exact Z.bind (N7 _ _ h3.1 (by omega)) fun r hr=>Z.ret ⟨hr.1.less (by omega),uf,hr.2,xy,oC⟩
 ·refine Z.bind (aeP _ _ h3.1 (by omega)) fun gg aC=>?_
  refine Z.bind (Fk _ _ aC.1 (by omega)) fun r5 bk=>?_
  have hl:=h2.2.2;refine Z.eq (dh (xs:=(r2.2.2.1:List bv)) (by decide) (by unfold ar;simp;omega)) ?_
  refine Z.ret ⟨bk.1.less (by omega),uf,DS,⟨by show((r2.2.2.1:List bv)++[_,_]).length<=3;simp;omega,fun n hn=>?_⟩,oC⟩
  have hn:n∈(r2.2.2.1:List bv)++[_,_]:=hn;rcases List.mem_append.1 hn with hn|hn
  ·exact xy.2 n hn
  ·simp only[List.mem_cons,List.not_mem_nil,or_false] at hn;rcases hn with rfl|rfl
   ·exact aC.2
   ·exact bk.2
 ·exact Z.bind (aeL _ _ h3.1 (by omega)) fun r hr=>Z.ret ⟨hr.1.less (by omega),uf,DS,xy,hr.2⟩
 ·exact Z.ret ⟨h3.1.less (by omega),uf,DS,xy,oC⟩
noncomputable abbrev auy:a_:=[(202,wZ)]
theorem avy:aQ O (aW ad auy):=aV ⟨CT,⟨⟩⟩
abbrev i154:Shape:=⟨[b_ 0 [ah,ah,bn .need,bn .entry]],[],13⟩
abbrev Ys:Shape:=⟨[ay 2 2 0],[bp 5000130 .need 2 2,bp 5000131 .entry 2 3,ax 2 [ah,ah,.own 5000130,.own 5000131]],13⟩
noncomputable def f154(a:i154.J):Option Ys.J:=
(b9 40 ([]:List bv) a.1.1.2.2.1).bind fun b=>
(f202 ((a.1.1.2.2.2.1,()),())).bind fun c=>
 some (((),()),b,c.2.1,(a.1.1.1,a.1.1.2.1,(),(),()),())
noncomputable def Ll:aD:=aG ad Tryz.f154 i154 Ys [] f154
theorem z154:aA O 154 Ll:=aK avy Tryz.func154 (by kernel_rfl) ae (fun y=>by kernel_rfl) fun a=>by kernel_rfl
noncomputable abbrev au5:a_:=[(154,Ll)]
theorem aav:aQ O (aW ad au5):=aV ⟨z154,⟨⟩⟩
abbrev AH:Shape:=⟨[ay 1 1 0,ay 2 2 0,ay 3 3 0,ag 4],[ax 1 [bn .pack],bp 5000128 .pack 2 0,ax 2 [.own 5000128],bp 5000192 .pack 3 0,ax 3 [.own 5000192]],25⟩
abbrev H1:List aP:=[(.exit 0,⟨[ay 2 2 0,ay 3 3 0],[bp 5000128 .pack 2 0,ax 2 [.own 5000128],bp 5000192 .pack 3 0,ax 3 [.own 5000192]],25⟩)]
noncomputable def Bf(y:AH.J):bG AH H1:=
 bif(decide (y.1.2.2.2.1<(y.2.1.1.length:Int))) then
(aO y.2.1.1 y.1.2.2.2.1).bind fun a=>
(f154 (((a.name,a.aX,a.bi,a.bx,()),()),())).bind fun b=>
(b9 80 y.2.2.2.2.1 ([(aL.mk b.2.2.2.1.1 b.2.2.2.1.2.1 b.2.1 b.2.2.1)]:List aL)).bind fun c=>
 some (.inl (((),(),(),(IntKind.i64.wrap (y.1.2.2.2.1+(1:Int))),()),(y.2.1.1,()),y.2.2.1,((),()),c,((),()),()))
else
 some (.inr (((),(),()),y.2.2.1,((),()),y.2.2.2.2.1,((),()),()))
noncomputable def ID:AH.J->Option (aB H1):=br Bf
theorem amH:aS O (am (codeOf Tryz.f107) 1 58) (aU AH H1 ID):=bH aav (by kernel_rfl) ae fun y=>by kernel_rfl
abbrev i107:Shape:=⟨[b_ 0 [bn .pack]],[],25⟩
abbrev Y2:Shape:=⟨[ay 2 2 0],[bp 5000128 .pack 2 0,ax 2 [.own 5000128]],25⟩
noncomputable def f107(a:i107.J):Option Y2.J:=
(ID (((),(),(),(0:Int),()),(a.1.1.1,()),([]:List aL),((),()),([]:List aL),((),()),())).bind fun b=>
 some (((),()),b.2.2.2.1,((),()),())
noncomputable def _4:aD:=aG ad Tryz.f107 i107 Y2 [] f107
theorem z107:aA O 107 _4:=aK aav Tryz.func107 (by kernel_rfl) (a7 amH ae) (fun y=>by kernel_rfl) fun a=>by kernel_rfl
noncomputable abbrev aum:a_:=[(60,M7)]
theorem avs:aQ O (aW ad aum):=aV ⟨aaD,⟨⟩⟩
abbrev i174:Shape:=⟨[b_ 0 [bn .pack],aI 1 .pack],[],15⟩
abbrev Yf:Shape:=⟨[ay 4 4 0,ag 5],[ax 4 [bn .pack]],15⟩
noncomputable def f174(a:i174.J):Option Yf.J:=
(f60 ((a.1.2.1,()),())).bind fun b=>
 bif(b.1.1 !=(0:Int)) then
 some (((),b.1.1,()),(a.1.1.1,()),())
else
 some (((),(0:Int),()),(a.1.2.1,()),())
noncomputable def _q:aD:=aG ad Tryz.f174 i174 Yf [] f174
theorem arU:aA O 174 _q:=aK avs Tryz.func174 (by kernel_rfl) ae (fun y=>by kernel_rfl) fun a=>by kernel_rfl
noncomputable abbrev aul:a_:=[(154,Ll)]
theorem aaf:aQ O (aW ad aul):=aV ⟨z154,⟨⟩⟩
abbrev Al:Shape:=⟨[aI 0 .pack,ay 3 3 0,ba 4 3000256,ag 5],[ax 3 [ah,ah,bn .need,bn .entry],a' 3000256 .pack 4 0],35⟩
abbrev HG:List aP:=[(.exit 0,⟨[aI 0 .pack,ay 3 3 0,ba 4 3000256,ag 5],[ax 3 [ah,ah,bn .need,bn .entry],a' 3000256 .pack 4 0],35⟩)]
noncomputable def vH(y:Al.J):bG Al HG:=
 bif(decide (y.1.2.2.2.1<(y.1.1.length:Int))) then
(aO y.1.1 y.1.2.2.2.1).bind fun a=>
 bif(Op.bytesLess a.name y.2.1.1) then
 some (.inl ((y.1.1,(),(),(IntKind.i64.wrap (y.1.2.2.2.1+(1:Int))),()),(y.2.1.1,y.2.1.2.1,y.2.1.2.2.1,y.2.1.2.2.2.1,()),y.2.2.1,()))
else
 some (.inr ((y.1.1,(),(),y.1.2.2.2.1,()),(y.2.1.1,y.2.1.2.1,y.2.1.2.2.1,y.2.1.2.2.2.1,()),y.2.2.1,()))
else
 some (.inr ((y.1.1,(),(),y.1.2.2.2.1,()),(y.2.1.1,y.2.1.2.1,y.2.1.2.2.1,y.2.1.2.2.2.1,()),y.2.2.1,()))
noncomputable def AN:Al.J->Option (aB HG):=br vH
theorem amf:aS O (am (codeOf Tryz.f175) 1 28) (aU Al HG AN):=bH aaf (by kernel_rfl) ae fun y=>by kernel_rfl
abbrev i175:Shape:=⟨[aI 0 .pack,b_ 1 [ah,ah,bn .need,bn .entry]],[],35⟩
abbrev Ye:Shape:=⟨[ba 4 3000256],[a' 3000256 .pack 4 0],35⟩
noncomputable def f175(a:i175.J):Option Ye.J:=
(AN ((a.1.1,(),(),(0:Int),()),(a.1.2.1.1,a.1.2.1.2.1,a.1.2.1.2.2.1,a.1.2.1.2.2.2.1,()),([]:List aL),())).bind fun b=>
(bm b.1.1 (0:Int) b.1.2.2.2.1).bind fun c=>
(b9 80 ([]:List aL) c).bind fun d=>
(f154 (((b.2.1.1,b.2.1.2.1,b.2.1.2.2.1,b.2.1.2.2.2.1,()),()),())).bind fun e=>
(b9 80 d ([(aL.mk e.2.2.2.1.1 e.2.2.2.1.2.1 e.2.1 e.2.2.1)]:List aL)).bind fun f=>
(bm b.1.1 b.1.2.2.2.1 (b.1.1.length:Int)).bind fun g=>
(b9 80 f g).bind fun h=>
 some (((),()),h,())
noncomputable def _p:aD:=aG ad Tryz.f175 i175 Ye [] f175
theorem z175:aA O 175 _p:=aK aaf Tryz.func175 (by kernel_rfl) (a7 amf ae) (fun y=>by kernel_rfl) fun a=>by kernel_rfl
noncomputable abbrev auT:a_:=[(50,Ea),(160,Lk),(174,_q),(175,_p)]
theorem avE:aQ O (aW ad auT):=aV ⟨LK,z160,arU,z175,⟨⟩⟩
abbrev i124:Shape:=⟨[b_ 0 [bn .pack],b_ 1 [ah,ah,bn .need,bn .entry]],[],27⟩
abbrev YP:Shape:=⟨[ay 4 4 0,ag 5],[ax 4 [bn .pack]],27⟩
noncomputable def f124(a:i124.J):Option YP.J:=
(f50 (((a.1.2.1.1,a.1.2.1.2.1,a.1.2.1.2.2.1,a.1.2.1.2.2.2.1,()),()),())).bind fun b=>
 bif(!b.1.1) then
 some (((),(1:Int),()),(a.1.1.1,()),())
else
(f160 ((a.1.1.1,a.1.2.1.1,()),())).bind fun c=>
 bif(decide (c.1.1>=(0:Int))) then
 some (((),(2:Int),()),(a.1.1.1,()),())
else
(f175 ((a.1.1.1,(a.1.2.1.1,a.1.2.1.2.1,a.1.2.1.2.2.1,a.1.2.1.2.2.2.1,()),()),())).bind fun d=>
(f174 (((a.1.1.1,()),d.2.1,()),())).bind fun e=>
 some (((),e.1.2.1,()),(e.2.1.1,()),())
noncomputable def _U:aD:=aG ad Tryz.f124 i124 YP [] f124
theorem z124:aA O 124 _U:=aK avE Tryz.func124 (by kernel_rfl) ae (fun y=>by kernel_rfl) fun a=>by kernel_rfl
noncomputable abbrev aqZ:a_:=[(78,jp),(79,kE),(124,_U),(125,JX)]
theorem WQ:aQ O (aW ad aqZ):=aV ⟨jM,lr,z124,TY,⟨⟩⟩
abbrev ze:Shape:=⟨[ay 0 500000 0,ay 2 2 0,ay 3 3 0,ag 4],[ax 500000 [bn .u8,aZ],bp 5000128 .pack 2 0,ax 2 [.own 5000128],ax 3 [bn .pack]],23⟩
abbrev Gb:List aP:=[(.exit 0,⟨[ay 0 500000 0,ay 2 2 0,ay 3 3 0],[ax 500000 [bn .u8,aZ],bp 5000128 .pack 2 0,ax 2 [.own 5000128],ax 3 [bn .pack]],23⟩)]
noncomputable def R1(y:ze.J):bG ze Gb:=
 bif(decide (y.1.2.2.2.1>(0:Int))) then
(jo (((),([([111,110,101]:B),([116,119,111]:B),([116,104,114,101,101]:B),([122,105,112]:B)]:List B),()),(y.2.1.1,y.2.1.2.1,()),())).bind fun a=>
(v7 (((),a.1.2.1,()),(a.2.1.1,a.2.1.2.1,()),())).bind fun b=>
(f124 (((y.2.2.2.2.1.1,()),(b.2.2.2.2.1.1,b.2.2.2.2.1.2.1,b.2.2.1,b.2.2.2.1,()),()),())).bind fun c=>
 some (.inl (((),(),(),(IntKind.i64.wrap (y.1.2.2.2.1-(1:Int))),()),(b.2.1.1,b.2.1.2.1,()),y.2.2.1,((),()),(c.2.1.1,()),()))
else
 some (.inr (((),(),(),()),(y.2.1.1,y.2.1.2.1,()),y.2.2.1,((),()),(y.2.2.2.2.1.1,()),()))
noncomputable def RP:ze.J->Option (aB Gb):=br R1
theorem ajS:aS O (am (codeOf Tryz.f72) 1 58) (aU ze Gb RP):=bH WQ (by kernel_rfl) ae fun y=>by kernel_rfl
abbrev Wv:Shape:=⟨[ay 0 500000 0],[ax 500000 [bn .u8,aZ]],23⟩
abbrev Wf:Shape:=⟨[ay 0 500000 0,ay 2 2 0],[ax 500000 [bn .u8,aZ],ax 2 [bn .pack]],23⟩
noncomputable def ww(a:Wv.J):Option Wf.J:=
(fX (((),(5:Int),()),(a.2.1.1,a.2.1.2.1,()),())).bind fun b=>
(RP (((),(),(),b.1.2.1,()),(b.2.1.1,b.2.1.2.1,()),([]:List aL),((),()),(([]:List aL),()),())).bind fun c=>
 some (((),(),()),(c.2.1.1,c.2.1.2.1,()),(c.2.2.2.2.1.1,()),())
noncomputable def Kf:aD:=aG ad Tryz.f72 Wv Wf [0] ww
theorem V0:aA O 72 Kf:=aK WQ Tryz.func72 (by kernel_rfl) (a7 ajS ae) (fun y=>by kernel_rfl) fun a=>by kernel_rfl
noncomputable abbrev aq1:a_:=[(72,Kf),(78,jp),(107,_4),(108,VQ)]
theorem aq6:aQ O (aW ad aq1):=aV ⟨V0,jM,z107,anN,⟨⟩⟩
abbrev Wy:Shape:=⟨[ay 0 500000 0],[ax 500000 [bn .u8,aZ]],29⟩
abbrev Wi:Shape:=⟨[ay 0 500000 0,ay 2 2 0],[ax 500000 [bn .u8,aZ],ax 2 [bn .pack]],29⟩
noncomputable def wy(a:Wy.J):Option Wi.J:=
(ww (((),()),(a.2.1.1,a.2.1.2.1,()),())).bind fun b=>
(f107 (((b.2.2.1.1,()),()),())).bind fun c=>
(fX (((),(12:Int),()),(b.2.1.1,b.2.1.2.1,()),())).bind fun d=>
 bif(d.1.2.1==(0:Int)) then
(Ch (((),()),(d.2.1.1,d.2.1.2.1,()),())).bind fun e=>
(b9 80 c.2.1 ([(aL.mk e.2.2.2.2.1.1 e.2.2.2.2.1.2.1 e.2.2.1 e.2.2.2.1)]:List aL)).bind fun f=>
 some (((),(),()),(e.2.1.1,e.2.1.2.1,()),(f,()),())
else
 bif(d.1.2.1==(1:Int)) then
 bif(decide ((c.2.1.length:Int)>(0:Int))) then
(bm c.2.1 (1:Int) (c.2.1.length:Int)).bind fun g=>
 some (((),(),()),(d.2.1.1,d.2.1.2.1,()),(g,()),())
else
 some (((),(),()),(d.2.1.1,d.2.1.2.1,()),(c.2.1,()),())
else
 some (((),(),()),(d.2.1.1,d.2.1.2.1,()),(c.2.1,()),())
noncomputable def Kg:aD:=aG ad Tryz.f58 Wy Wi [0] wy
theorem V1:aA O 58 Kg:=aK aq6 Tryz.func58 (by kernel_rfl) ae (fun y=>by kernel_rfl) fun a=>by kernel_rfl
theorem ahp(a)(hb:gp a.1.1)(hv:lX a.1.1):f60 a=some ((jS a.1.1,()),()):=by
 obtain⟨⟨ps,u⟩,bV⟩:=a;have hl:ps.length<=2097152:=hb.1;have key:BT ((ps,((0:Int),())),())=some (bif allI (tX ps) 0 ps then .inr ((ps,()),()) else .inl (((1:Int),()),())):=by
  refine fV qP ps (fun i=>((ps,((i:Int),())),())) _ _ _ (fun i x hx=>?_) ?_
  ·have hi:=cT hx;have hw:ar i:=by unfold ar;omega
   have pV:=hb.2 x (List.mem_of_getElem? hx);simp only[qP,ce hi,cond_true,AV,b4,hx,Option.bind_some];rw[vf _ pV];simp only[Option.bind_some,tX,Da];cases ch x with
   |false=>rfl
   |true=>
    simp only[Bool.not_true,cond_false,Bool.true_and,nc];cases i with
    |zero=>simp only[beq_self_eq_true,Bool.not_true,cond_false,Option.bind_some,Bool.true_or,cond_true,bU hw]
    |succ i=>
     have h0:(i+1==0)=false:=rfl;have jz:i<ps.length:=by omega
     obtain⟨q,az⟩:∃q,ps[i]? =some q:=⟨ps[i],List.getElem?_eq_getElem jz⟩;simp only[h0,Bool.not_false,cond_true,u3 (i:=i) (by unfold ar;omega),b4,az,hx,Option.bind_some,Bool.false_or,Nat.add_sub_cancel]
     cases Op.bytesLess q.name x.name with
     |false=>rfl
     |true=>simp only[Bool.not_true,cond_false,cond_true,bU hw]
  ·simp only[qP,du,cond_false]
 rw[S_] at key;have bk:decide ((ps.length:Int)>5)=!decide (ps.length<=5):=by by_cases h:ps.length<=5<;>simp only[h,decide_true,decide_false,Bool.not_true,Bool.not_false,decide_eq_true_eq,decide_eq_false_iff_not]<;>omega
 simp only[f60,key,Option.bind_some,jS];cases dY:(ps.all ch&&kM ps) with
 |false=>rfl
 |true=>
  have hk:ps.all ch=true:=by simp only[Bool.and_eq_true] at dY;exact dY.1
  obtain⟨out,au⟩:=QZ ((ps,()),()) hb hk;have hn:=PE ((ps,()),()) hb hv;simp only[cond_true,Option.bind_some,au,bk];cases decide (ps.length<=5) with
  |false=>rfl
  |true=>
   simp only[Bool.not_true,cond_false,hn,Option.bind_some];cases ps.all (fun p=>p.bi.all (iC ps))<;>cases (fu [] ps).isSome<;>rfl
theorem Q0(a)(h:jB ⟨a.1.1.1,a.1.1.2.1,a.1.1.2.2.1,a.1.1.2.2.2.1⟩):f154 a=some (((),()),(a.1.1.2.2.1,(a.1.1.2.2.2.1,((a.1.1.1,(a.1.1.2.1,((),((),())))),())))):=by
 obtain⟨⟨⟨name,aX,bi,bx,u⟩,bV⟩,nr⟩:=a;have h1:bi.length<=2097152:=h.2.2.1.1;have h2:=F8 ((bx,()),()) h.2.2.2.1;simp only[f154,dh (show(40:Nat)<=100 by decide) (show ar (([]:List bv).length+bi.length) by unfold ar;simp;omega),List.nil_append,Option.bind_some,h2]
def CZ(ps:List aL)(n:B):Nat:=(ps.takeWhile fun p=>Op.bytesLess p.name n).length
theorem S4(ps:List aL)(n:B):CZ ps n<=ps.length:=(List.takeWhile_prefix _).length_le
def ls(ps:List aL)(p:aL):List aL:=ps.take (CZ ps p.name)++[p]++ps.drop (CZ ps p.name)
theorem PC(ps:List aL)(p:aL):(ls ps p).length=ps.length+1:=by
 have:=S4 ps p.name;unfold ls;simp only[List.length_append,List.length_take,List.length_drop,List.length_cons,List.length_nil];omega
theorem PB{ps:List aL}{p x:aL}(h:x∈ls ps p):x=p\/x∈ps:=by
 unfold ls at h;simp only[List.mem_append,List.mem_singleton] at h;rcases h with(h|h)|h
 ·exact .inr (List.mem_of_mem_take h)
 ·exact .inl h
 ·exact .inr (List.mem_of_mem_drop h)
theorem aja{k:Nat}{ps:List aL}{p:aL}(h:oM k ps)(hp:xU p):oM (k+1) (ls ps p):=
 ⟨by rw[PC];exact Nat.succ_le_succ h.1,fun x hx=>by
  rcases PB hx with rfl|hx
  ·exact hp
  ·exact h.2 x hx⟩
theorem ajd(a)(h1:a.1.1.length<=2097151)(hp:jB ⟨a.1.2.1.1,a.1.2.1.2.1,a.1.2.1.2.2.1,a.1.2.1.2.2.2.1⟩):f175 a=some (((),()),(ls a.1.1 ⟨a.1.2.1.1,a.1.2.1.2.1,a.1.2.1.2.2.1,a.1.2.1.2.2.2.1⟩,())):=by
 obtain⟨⟨ps,⟨name,aX,bi,bx,mJ⟩,u⟩,bV⟩:=a;have h1:ps.length<=2097151:=h1;have key:∀(r:List aL) (k:Nat),ps.drop k=r->k<=ps.length->AN ((ps,((),((),((k:Int),())))),((name,(aX,(bi,(bx,())))),(([]:List aL),())))=
   some ((ps,((),((),(((k+(r.takeWhile fun p=>Op.bytesLess p.name name).length:Nat):Int),())))),((name,(aX,(bi,(bx,())))),(([]:List aL),()))):=by
  intro r;induction r with
  |nil=>
   intro k hr hk;have:=drop_nil hr;obtain rfl:k=ps.length:=by omega
   refine cp ?_
   simp only[vH,du,cond_false,List.takeWhile_nil,List.length_nil,Nat.add_zero]
  |cons q r ih=>
   intro k hr hk;obtain⟨c1,c2,c3⟩:=drop_cons hr;have hw:ar k:=by unfold ar;omega
   rw[List.takeWhile_cons];cases az:Op.bytesLess q.name name with
   |false=>
    refine cp ?_
    simp only[vH,ce c3,cond_true,b4,c1,Option.bind_some,az,cond_false];rfl
   |true=>
    have step:vH ((ps,((),((),((k:Int),())))),((name,(aX,(bi,(bx,())))),(([]:List aL),())))=some (.inl ((ps,((),((),(((k+1:Nat):Int),())))),((name,(aX,(bi,(bx,())))),(([]:List aL),())))):=by
     simp only[vH,ce c3,cond_true,b4,c1,Option.bind_some,az,bU hw]
    refine Eq.trans (dN step) (Eq.trans (ih (k+1) c2 c3) ?_);simp only[if_true,List.length_cons];have e:k+1+(r.takeWhile fun p=>Op.bytesLess p.name name).length=k+((r.takeWhile fun p=>Op.bytesLess p.name name).length+1):=by omega
    rw[e]
 have key:=key ps 0 rfl (Nat.zero_le _);rw[Nat.zero_add] at key;have hk:(ps.takeWhile fun p=>Op.bytesLess p.name name).length=CZ ps name:=rfl
 rw[hk] at key;have key:AN ((ps,((),((),((0:Int),())))),((name,(aX,(bi,(bx,())))),(([]:List aL),())))=_:=key;have hle:=S4 ps name;have e2:=Q0 (((name,(aX,(bi,(bx,())))),()),()) hp;simp only[f175,key,Option.bind_some,gj hle,fc hle,e2];rw[dh (show(80:Nat)<=100 by decide) (by unfold ar;simp;omega)]
 simp only[List.nil_append,Option.bind_some];rw[dh (show(80:Nat)<=100 by decide) (by unfold ar;simp;omega)]
 simp only[Option.bind_some];rw[dh (show(80:Nat)<=100 by decide) (by unfold ar;simp;omega)]
 rfl
theorem als(a)(hb:gp a.1.2.1)(hv:lX a.1.2.1):f174 a=some (((),(jS a.1.2.1,())),(((bif jS a.1.2.1==0 then a.1.2.1 else a.1.1.1),()),())):=by
 obtain⟨⟨⟨r,mJ⟩,list,u⟩,bV⟩:=a;have e:=ahp ((list,()),()) hb hv;simp only[f174,e,Option.bind_some];have z:(jS list !=0)=!(jS list==0):=rfl;rw[z];cases hc:(jS list==0) with
 |false=>rfl
 |true=>
  have hc:jS list=0:=by simpa using hc
  simp only[Bool.not_true,cond_false,cond_true];rw[hc]
def xo(ps:List aL)(p:aL):List aL×Int:=bif ch p then(match ps.find? (fun q=>q.name==p.name) with
 |some _=>(ps,2)
 |none=>(bif jS (ls ps p)==0 then ls ps p else ps,jS (ls ps p))) else(ps,1)
theorem anU(a)(k:Nat)(hk:k<=2000000)(h:oM k a.1.1.1)(hp:xU ⟨a.1.2.1.1,a.1.2.1.2.1,a.1.2.1.2.2.1,a.1.2.1.2.2.2.1⟩):f124 a=some (((),((xo a.1.1.1 ⟨a.1.2.1.1,a.1.2.1.2.1,a.1.2.1.2.2.1,a.1.2.1.2.2.2.1⟩).2,())),(((xo a.1.1.1 ⟨a.1.2.1.1,a.1.2.1.2.1,a.1.2.1.2.2.1,a.1.2.1.2.2.2.1⟩).1,()),())):=by
 obtain⟨⟨⟨ps,mJ⟩,⟨name,aX,bi,bx,u1⟩,u⟩,bV⟩:=a;have h:oM k ps:=h;have hp:xU ⟨name,aX,bi,bx⟩:=hp;have hl:ps.length<=2000000:=Nat.le_trans h.1 hk;have e1:=vf (((name,(aX,(bi,(bx,())))),()),()) hp.1;simp only[f124,e1,Option.bind_some,xo];cases ch ⟨name,aX,bi,bx⟩ with
 |false=>rfl
 |true=>
  simp only[Bool.not_true,cond_false,cond_true];rcases Q1 ((ps,(name,())),()) (show ps.length<=2097152 by omega) with⟨j,q,g1,g2,g3⟩|⟨g1,g2⟩
  ·have g3:ps.find? (fun p=>p.name==name)=some q:=g3
   have hj:decide ((j:Int)>=0)=true:=by simp
   simp only[g1,Option.bind_some,hj,cond_true,g3]
  ·have g2:ps.find? (fun p=>p.name==name)=none:=g2
   have hj:decide ((-1:Int)>=0)=false:=rfl;have hw:=aja h hp;have e2:=ajd ((ps,((name,(aX,(bi,(bx,())))),())),()) (show ps.length<=2097151 by omega) hp.1
   have bC:=als (((ps,()),(ls ps ⟨name,aX,bi,bx⟩,())),()) (hw.x' (by omega)) hw.vs
   simp only[g1,Option.bind_some,hj,cond_false,g2,e2,bC]
theorem aje(a)(h:gp a.1.1.1):f107 a=some (((),()),(a.1.1.1,(((),()),()))):=by
 obtain⟨⟨⟨ps,mJ⟩,u⟩,bV⟩:=a;have hl:ps.length<=2097152:=h.1;have key:=Qy (S:=List aL) Bf ps (fun i acc=>(((),((),((),((i:Int),())))),((ps,()),(([]:List aL),(((),()),(acc,(((),()),()))))))) (fun x acc=>acc++[x]) (fun acc=>(((),((),())),(([]:List aL),(((),()),(acc,(((),()),())))))) (fun i acc=>acc.length=i) [] rfl (fun i x acc hx dq=>?_) (fun acc dq=>?_)
 ·have key:ID (((),((),((),((0:Int),())))),((ps,()),(([]:List aL),(((),()),(([]:List aL),(((),()),()))))))=_:=key;have e:∀(l acc:List aL),l.foldl (fun s x=>s++[x]) acc=acc++l:=by
   intro l;induction l with
   |nil=>intro acc;simp
   |cons x l ih=>intro acc;simp only[List.foldl_cons];rw[ih];simp
  simp only[f107,key,Option.bind_some];rw[e];rfl
 ·have hi:=cT hx;have hw:ar i:=by unfold ar;omega
  have e2:=Q0 (((x.name,(x.aX,(x.bi,(x.bx,())))),()),()) (h.2 x (List.mem_of_getElem? hx));have ha:b9 80 acc [x]=some (acc++[x]):=dh (by decide) (by unfold ar;simp;omega)
  simp only[Bf,ce hi,cond_true,b4,hx,Option.bind_some,e2,ha,bU hw];exact⟨trivial,by simp[dq]⟩
 ·simp only[Bf,du,cond_false]
abbrev iK(k:Nat)(ps:List aL):Prop:=ps.length<=k/\∀p,p∈ps->rN p
theorem iK.ok{k:Nat}{ps:List aL}(h:iK k ps):oM k ps:=⟨h.1,fun p hp=>(h.2 p hp).ok⟩
theorem aoL{k:Nat}{ps:List aL}{p:aL}(h:iK k ps)(hp:rN p):iK (k+1) (xo ps p).1:=by
 have ak:iK (k+1) ps:=⟨Nat.le_succ_of_le h.1,h.2⟩;unfold xo;cases ch p with
 |false=>exact ak
 |true=>
  simp only[cond_true];cases ps.find? (fun q=>q.name==p.name) with
  |some q=>exact ak
  |none=>
   simp only;cases jS (ls ps p)==0 with
   |false=>exact ak
   |true=>
    refine⟨by show(ls ps p).length<=k+1;rw[PC];exact Nat.succ_le_succ h.1,fun x hx=>?_⟩
    rcases PB hx with rfl|hx
    ·exact hp
    ·exact h.2 x hx
theorem PI(a)(m:Nat)(h:cX a.2.1.1 a.2.1.2.1 m)(hm:300<=m):Z (ww a) (fun r=>cX r.2.1.1 r.2.1.2.1 (m-300)/\iK 4 r.2.2.1.1):=by
 unfold ww;refine Z.bind (gU _ m h (by omega)) fun r1 h1=>?_
 obtain⟨⟨v1,(q:Int),v2⟩,⟨⟨(b1:List Int),(h9:Int),v3⟩,v4⟩⟩:=r1;have hn:q<5:=h1.2.2 (by show(1:Int)<=5;decide)
 have h0:0<=q:=h1.2.1;refine Z.bind (P:=fun r=>cX r.2.1.1 r.2.1.2.1 (m-300)/\iK 4 r.2.2.2.2.1.1) ?_ fun r hr=>Z.ret hr
 refine Z.loop (fun(k:Nat) y=>k<=4/\(y.1.2.2.2.1:Int)=k/\cX y.2.1.1 y.2.1.2.1 (m-300+55*k)/\iK (4-k) y.2.2.2.2.1.1) (fun k y hy=>?_) q.toNat _ ⟨by omega,by show q=_;omega,h1.1.less (by omega),by show(0:Nat)<=_;omega,fun p hp=>by cases hp⟩
 obtain⟨⟨aY,w2,cf,(i:Int),k1⟩,⟨⟨(bI:List Int),(hF:Int),rQ⟩,oO,jD,⟨(ps:List aL),oN⟩,h7⟩⟩:=y;obtain⟨cH,dK,eQ,eZ⟩:=hy;have dK:i=k:=dK;subst dK;have eQ:cX bI hF (m-300+55*k):=eQ;have eZ:iK (4-k) ps:=eZ;unfold R1;refine Z.ite (fun hc=>?_) fun hc=>Z.ret ⟨eQ.less (by omega),Nat.le_trans eZ.1 (by omega),eZ.2⟩
 have hc:(k:Int)>0:=of_decide_eq_true hc;have hw:IntKind.i64.wrap ((k:Int)-1)=((k-1:Nat):Int):=by rw[cS (by omega) (by omega)];omega
 refine Z.bind (kF _ _ eQ (by omega) (by simp)) fun r2 h2=>?_
 refine Z.bind (PJ _ _ h2.1 (by omega) (Jr (by rfl) h2.2)) fun di h3=>?_
 refine Z.eq (anU (((ps,()),((di.2.2.2.2.1.1,(di.2.2.2.2.1.2.1,(di.2.2.1,(di.2.2.2.1,())))),())),()) (4-k) (by omega) eZ.ok h3.2.1.ok) ?_
 refine Z.ret ⟨k-1,by omega,by omega,hw,h3.1.less (by omega),?_⟩
 have:=aoL eZ h3.2.1;exact⟨Nat.le_trans this.1 (by omega),this.2⟩
theorem aeM(a)(m:Nat)(h:cX a.2.1.1 a.2.1.2.1 m)(hm:500<=m):Z (wy a) (fun r=>cX r.2.1.1 r.2.1.2.1 (m-500)/\iK 5 r.2.2.1.1):=by
 unfold wy;refine Z.bind (PI _ m h (by omega)) fun r1 h1=>?_
 obtain⟨mJ,⟨u1,⟨(ps:List aL),u2⟩,uF⟩⟩:=r1;have hr:iK 4 ps:=h1.2;have my:=hr.1;refine Z.eq (aje (((ps,()),()),()) (hr.ok.x' (by decide))) ?_
 refine Z.bind (gU _ _ h1.1 (by omega)) fun r2 h2=>?_
 have c_:iK 5 ps:=⟨Nat.le_succ_of_le hr.1,hr.2⟩;refine Z.ite (fun _=>?_) fun _=>Z.ite (fun _=>?_) fun _=>Z.ret ⟨h2.1.less (by omega),c_⟩
 ·refine Z.bind (aeO _ _ h2.1 (by omega)) fun di h3=>?_
  refine Z.eq (dh (xs:=ps) (by decide) (by unfold ar;simp;omega)) ?_
  refine Z.ret ⟨h3.1.less (by omega),by show(ps++[_]).length<=5;simp;omega,fun e he=>?_⟩
  have he:e∈ps++[_]:=he;rcases List.mem_append.1 he with he|he
  ·exact hr.2 e he
  ·rw[List.mem_singleton.1 he];exact h3.2
 ·refine Z.ite (fun hc=>?_) fun _=>Z.ret ⟨h2.1.less (by omega),c_⟩
  have hc:(ps.length:Int)>0:=of_decide_eq_true hc;refine Z.eq (fc (xs:=ps) (a:=1) (by omega)) ?_
  exact Z.ret ⟨h2.1.less (by omega),by show(ps.drop 1).length<=5;rw[List.length_drop];omega,fun e he=>hr.2 e (List.mem_of_mem_drop he)⟩
def tL(t:List aw)(p:B):Option aw:=match t[bM t p]? with
 |some e=>bif e.path==p then some e else none
 |none=>none
theorem am3{t:List aw}{p:B}{e:aw}(h:tL t p=some e):t[bM t p]? =some e/\e.path=p:=by
 unfold tL at h;cases au:t[bM t p]? with
 |none=>rw[au] at h;cases h
 |some x=>
  rw[au] at h;cases hx:(x.path==p) with
  |false=>simp[hx] at h
  |true=>simp only[hx,cond_true,Option.some.injEq] at h;subst h;exact⟨rfl,eq_of_beq hx⟩
theorem aoB{t:List aw}(ha:fH t){k:Nat}{e:aw}(h:t[k]? =some e):bM t e.path=k:=by
 have h1:=kv (p:=e.path) ha k e h;have h2:Op.bytesLess e.path e.path=false:=v8 _;rw[h1] at h2;have h2:¬k<bM t e.path:=of_decide_eq_false h2;rcases Nat.lt_or_ge (bM t e.path) k with h3|h3
 ·exfalso
  have aC:bM t e.path<t.length:=Nat.lt_trans h3 (cT h);have bk:=List.getElem?_eq_getElem aC;have ca:=kv (p:=e.path) ha (bM t e.path) t[bM t e.path] bk;have ia:Op.bytesLess (t[bM t e.path]).path e.path=true:=by
   have hp:=List.pairwise_iff_getElem.1 ha (bM t e.path) k aC (cT h) h3;have:t[k]'(cT h)=e:=by
    have:=List.getElem?_eq_getElem (cT h);rw[h] at this;exact(Option.some.inj this).symm
   rw[this] at hp;exact hp
  rw[ia] at ca;have:=of_decide_eq_true ca.symm;omega
 ·omega
theorem R0{t:List aw}(ha:fH t){p:B}{e:aw}:tL t p=some e <-> e∈t/\e.path=p:=by
 constructor
 ·intro h;obtain⟨h1,h2⟩:=am3 h;exact⟨List.mem_of_getElem? h1,h2⟩
 ·rintro⟨h1,rfl⟩;obtain⟨k,hk⟩:=List.mem_iff_getElem?.1 h1;have:=aoB ha hk;unfold tL;rw[this,hk];simp
theorem ao1{a b:aw}(h:kr a b=true):a=b:=by
 unfold kr at h;simp only[Bool.and_eq_true,beq_iff_eq] at h;obtain⟨h1,h2,h3,aC⟩:=h;cases a;cases b;simp only at h1 h2 h3 aC;subst h1 h2 h3 aC;rfl
theorem RT{t:List aw}{k:Nat}{e x:aw}:x∈jQ t k e <-> x=e\/x∈t:=by
 constructor
 ·exact FU
 ·unfold jQ;intro h;rcases h with rfl|h
  ·simp
  ·have:x∈t.take k++t.drop k:=by rw[List.take_append_drop];exact h
   simp only[List.mem_append,List.mem_singleton] at this ⊢;rcases this with h|h
   ·exact .inl (.inl h)
   ·exact .inr h
theorem ajE{out D:List aw}{e:aw}(h:hQ out e=some D)(x:aw):x∈D <-> x=e\/x∈out:=by
 unfold hQ at h;split at h
 ·rename_i q az;cases hp:(q.path==e.path) with
  |true=>
   rw[hp] at h;cases hc:mo e q with
   |true=>rw[hc] at h;cases h
   |false=>
    rw[hc] at h;cases h;have:kr e q=true:=by
     unfold mo at hc;simp only[Bool.or_eq_false_iff,Bool.not_eq_false'] at hc;exact hc.2
    have:=ao1 this;subst this;constructor
    ·exact .inr
    ·rintro(rfl|h)
     ·exact List.mem_of_getElem? az
     ·exact h
  |false=>rw[hp] at h;cases h;exact RT
 ·cases h;exact RT
theorem akI:∀{es out D:List aw},gF out es=some D->∀x,x∈D <-> x∈out\/x∈es:=by
 intro es;induction es with
 |nil=>intro out D h x;simp only[gF,Option.some.injEq] at h;subst h;simp
 |cons e r ih=>
  intro out D h x;rw[uX] at h;obtain⟨o1,h1,h2⟩:=Option.bind_eq_some_iff.1 h;rw[ih h2,ajE h1,List.mem_cons];constructor
  ·rintro((h|h)|h)
   ·exact .inr (.inl h)
   ·exact .inl h
   ·exact .inr (.inr h)
  ·rintro(h|h|h)
   ·exact .inl (.inr h)
   ·exact .inl (.inl h)
   ·exact .inr h
theorem ahI:∀{ps:List aL} {out t:List aw},fu out ps=some t->∀x,x∈t <-> x∈out\/∃p,p∈ps/\x∈p.bx:=by
 intro ps;induction ps with
 |nil=>intro out t h x;simp only[fu,Option.some.injEq] at h;subst h;simp
 |cons p r ih=>
  intro out t h x;rw[ym] at h;obtain⟨D,h1,h2⟩:=Option.bind_eq_some_iff.1 h;rw[ih h2,akI (zd h1).2];constructor
  ·rintro((h|h)|⟨q,h,ak⟩)
   ·exact .inl h
   ·exact .inr ⟨p,List.mem_cons_self,h⟩
   ·exact .inr ⟨q,List.mem_cons_of_mem _ h,ak⟩
  ·rintro(h|⟨q,h,ak⟩)
   ·exact .inl (.inl h)
   ·rcases List.mem_cons.1 h with rfl|h
    ·exact .inl (.inr ak)
    ·exact .inr ⟨q,h,ak⟩
theorem ahH:∀{ps:List aL} {out t:List aw},dB out=true->fu out ps=some t->dB t=true:=by
 intro ps;induction ps with
 |nil=>intro out t aM h;simp only[fu,Option.some.injEq] at h;subst h;exact aM
 |cons p r ih=>
  intro out t aM h;rw[ym] at h;obtain⟨D,h1,h2⟩:=Option.bind_eq_some_iff.1 h;exact ih (zd h1).1 h2
structure yg(ps:List aL)(t:List aw):Prop where
 bx:fu [] ps=some t
 aqm:ps.all ch=true
 aCh:ps.Pairwise fun p q=>Op.bytesLess p.name q.name=true
section
variable {ps:List aL}{t:List aw}(R:yg ps t)
include R
theorem yg.ok:dB t=true:=ahH (by rfl) R.bx
theorem yg.aAu{p:aL}(h:p∈ps):iz p.name=true/\dB p.bx=true:=by
 have:=List.all_eq_true.1 R.aqm p h;unfold ch at this;simp only[Bool.and_eq_true] at this;exact⟨this.1.1.1,this.2⟩
theorem yg.aAp{p:aL}(h:p∈ps):fH p.bx:=EZ (R.aAu h).2
theorem yg.up{p:aL}(h:p∈ps){path:B}{e:aw}(he:tL p.bx path=some e):tL t path=some e:=by
 obtain⟨aE,aF⟩:=(R0 (R.aAp h)).1 he;exact(R0 (EZ R.ok)).2 ⟨(ahI R.bx e).2 (.inr ⟨p,h,aE⟩),aF⟩
end
abbrev An:Shape:=⟨[aI 0 .entry,aI 1 .entry,ag 5],[],26⟩
abbrev HI:List aP:=[(.ret,⟨[ao 4],[],26⟩),(.exit 0,⟨[],[],26⟩)]
noncomputable def A5(y:An.J):bG An HI:=
 bif(decide (y.1.2.2.1<(y.1.1.length:Int))) then
(aO y.1.1 y.1.2.2.1).bind fun a=>
(aO y.1.2.1 y.1.2.2.1).bind fun b=>
 bif(!((a.path==b.path)&&((a.kind==b.kind)&&((a.mode==b.mode)&&(a.text==b.text))))) then
 some (.inr (.inl ((false,()),())))
else
 some (.inl ((y.1.1,y.1.2.1,(IntKind.i64.wrap (y.1.2.2.1+(1:Int))),()),()))
else
 some (.inr (.inr ((),())))
noncomputable def Ir:An.J->Option (aB HI):=br A5
theorem amk:aS O (am (codeOf Tryz.f163) 1 58) (aU An HI Ir):=bH g0 (by kernel_rfl) ae fun y=>by kernel_rfl
abbrev i163:Shape:=⟨[aI 0 .entry,aI 1 .entry],[],26⟩
abbrev Yn:Shape:=⟨[ao 4],[],26⟩
noncomputable def f163(a:i163.J):Option Yn.J:=
 bif((a.1.1.length:Int) !=(a.1.2.1.length:Int)) then
 some ((false,()),())
else
(Ir ((a.1.1,a.1.2.1,(0:Int),()),())).bind fun b=>
(match b with
|.inl c=>
 some ((c.1.1,()),())
|.inr d=>
 some ((true,()),()))
noncomputable def _y:aD:=aG ad Tryz.f163 i163 Yn [] f163
theorem arZ:aA O 163 _y:=aK g0 Tryz.func163 (by kernel_rfl) (a7 amk ae) (fun y=>by kernel_rfl) fun a=>by kernel_rfl
theorem ap2{t:bf}{xs:List (den t)}(h:kZ (.sl t xs)):xs.length<=maxLen/\∀x,x∈xs->∀d,d∈enc t x->kZ d:=by cases h;exact⟨by assumption,by assumption⟩
theorem QX{xs:List Int}(h:kZ (.sl .u8 xs)):∀x,x∈xs->0<=x/\x<=255:=by
 intro x hx;have:=(ap2 h).2 x hx (.int .u8 x) (by simp[enc])
 cases this with
 |int k n hw=>
  simp only[Lit.wf,Bool.and_eq_true,decide_eq_true_eq] at hw;have h1:(0:Int)<=x:=hw.1;have h2:x<=(255:Int):=hw.2;exact⟨h1,h2⟩
theorem S1{code:List Int}(h:∀x,x∈code->0<=x/\x<=255):cX (code.take 2000) 0 1000000:=
 ⟨by rw[List.length_take];omega,fun x hx=>h x (List.mem_of_mem_take hx),Int.le_refl _,by decide⟩
theorem Ff{aH:Type}:∀(xs:List aH) (i:Nat),allI (fun _ _=>true) i xs=true:=by
 intro xs;induction xs with
 |nil=>intro i;rfl
 |cons x r ih=>intro i;simp only[allI,ih,Bool.and_self]
theorem ajp(a)(h:a.1.1=a.1.2.1)(hl:cj a.1.1.length):f163 a=some ((true,()),()):=by
 obtain⟨⟨xs,bj,u⟩,bV⟩:=a;have h:xs=bj:=h;subst h;have hs:xs.length<=2097152:=hl;have key:Ir ((xs,(xs,((0:Int),()))),())=some (bif allI (fun _ _=>true) 0 xs then .inr ((),()) else .inl ((false,()),())):=by
  refine fV A5 xs (fun i=>((xs,(xs,((i:Int),()))),())) _ _ _ (fun i x hx=>?_) ?_
  ·have hi:=cT hx;have hw:ar i:=by unfold ar;omega
   simp only[A5,ce hi,cond_true,b4,hx,Option.bind_some,beq_self_eq_true,Bool.and_self,Bool.not_true,cond_false,bU hw]
  ·simp only[A5,du,cond_false]
 rw[Ff] at key;have hb:((xs.length:Int) !=(xs.length:Int))=false:=by simp
 simp only[f163,hb,cond_false,key,cond_true,Option.bind_some]
abbrev Ao:Shape:=⟨[aI 0 .need,aI 1 .need,ag 5],[],26⟩
abbrev HJ:List aP:=[(.ret,⟨[ao 4],[],26⟩),(.exit 0,⟨[],[],26⟩)]
noncomputable def A6(y:Ao.J):bG Ao HJ:=
 bif(decide (y.1.2.2.1<(y.1.1.length:Int))) then
(aO y.1.1 y.1.2.2.1).bind fun a=>
(aO y.1.2.1 y.1.2.2.1).bind fun b=>
 bif(!((a.name==b.name)&&((a.kind==b.kind)&&(a.aX==b.aX)))) then
 some (.inr (.inl ((false,()),())))
else
 some (.inl ((y.1.1,y.1.2.1,(IntKind.i64.wrap (y.1.2.2.1+(1:Int))),()),()))
else
 some (.inr (.inr ((),())))
noncomputable def Is:Ao.J->Option (aB HJ):=br A6
theorem aml:aS O (am (codeOf Tryz.f162) 1 58) (aU Ao HJ Is):=bH g0 (by kernel_rfl) ae fun y=>by kernel_rfl
abbrev i162:Shape:=⟨[aI 0 .need,aI 1 .need],[],26⟩
abbrev Yo:Shape:=⟨[ao 4],[],26⟩
noncomputable def f162(a:i162.J):Option Yo.J:=
 bif((a.1.1.length:Int) !=(a.1.2.1.length:Int)) then
 some ((false,()),())
else
(Is ((a.1.1,a.1.2.1,(0:Int),()),())).bind fun b=>
(match b with
|.inl c=>
 some ((c.1.1,()),())
|.inr d=>
 some ((true,()),()))
noncomputable def _z:aD:=aG ad Tryz.f162 i162 Yo [] f162
theorem z162:aA O 162 _z:=aK g0 Tryz.func162 (by kernel_rfl) (a7 aml ae) (fun y=>by kernel_rfl) fun a=>by kernel_rfl
noncomputable abbrev au2:a_:=[(162,_z),(163,_y)]
theorem avJ:aQ O (aW ad au2):=aV ⟨z162,arZ,⟨⟩⟩
abbrev i111:Shape:=⟨[b_ 0 [ah,ah,bn .need,bn .entry],b_ 1 [ah,ah,bn .need,bn .entry]],[],31⟩
abbrev YZ:Shape:=⟨[ao 4],[],31⟩
noncomputable def f111(a:i111.J):Option YZ.J:=
 bif(a.1.1.1==a.1.2.1.1) then
 bif(a.1.1.2.1==a.1.2.1.2.1) then
(f162 ((a.1.1.2.2.1,a.1.2.1.2.2.1,()),())).bind fun b=>
 bif b.1.1 then
(f163 ((a.1.1.2.2.2.1,a.1.2.1.2.2.2.1,()),())).bind fun c=>
 some ((c.1.1,()),())
else
 some ((false,()),())
else
 some ((false,()),())
else
 some ((false,()),())
noncomputable def _1:aD:=aG ad Tryz.f111 i111 YZ [] f111
theorem asf:aA O 111 _1:=aK avJ Tryz.func111 (by kernel_rfl) ae (fun y=>by kernel_rfl) fun a=>by kernel_rfl
noncomputable abbrev azf:a_:=[(111,_1)]
theorem ac8:aQ O (aW ad azf):=aV ⟨asf,⟨⟩⟩
abbrev BI:Shape:=⟨[aI 0 .pack,aI 1 .pack,ag 5],[],27⟩
abbrev Jf:List aP:=[(.ret,⟨[ao 4],[],27⟩),(.exit 0,⟨[],[],27⟩)]
noncomputable def B9(y:BI.J):bG BI Jf:=
 bif(decide (y.1.2.2.1<(y.1.1.length:Int))) then
(aO y.1.1 y.1.2.2.1).bind fun a=>
(aO y.1.2.1 y.1.2.2.1).bind fun b=>
(f111 (((a.name,a.aX,a.bi,a.bx,()),(b.name,b.aX,b.bi,b.bx,()),()),())).bind fun c=>
 bif(!c.1.1) then
 some (.inr (.inl ((false,()),())))
else
 some (.inl ((y.1.1,y.1.2.1,(IntKind.i64.wrap (y.1.2.2.1+(1:Int))),()),()))
else
 some (.inr (.inr ((),())))
noncomputable def JE:BI.J->Option (aB Jf):=br B9
theorem aom:aS O (am (codeOf Tryz.f62) 1 58) (aU BI Jf JE):=bH ac8 (by kernel_rfl) ae fun y=>by kernel_rfl
abbrev i62:Shape:=⟨[aI 0 .pack,aI 1 .pack],[],27⟩
abbrev aa8:Shape:=⟨[ao 4],[],27⟩
noncomputable def f62(a:i62.J):Option aa8.J:=
 bif((a.1.1.length:Int) !=(a.1.2.1.length:Int)) then
 some ((false,()),())
else
(JE ((a.1.1,a.1.2.1,(0:Int),()),())).bind fun b=>
(match b with
|.inl c=>
 some ((c.1.1,()),())
|.inr d=>
 some ((true,()),()))
noncomputable def acH:aD:=aG ad Tryz.f62 i62 aa8 [] f62
theorem avY:aA O 62 acH:=aK ac8 Tryz.func62 (by kernel_rfl) (a7 aom ae) (fun y=>by kernel_rfl) fun a=>by kernel_rfl
noncomputable abbrev azx:a_:=[(62,acH)]
theorem azY:aQ O (aW ad azx):=aV ⟨avY,⟨⟩⟩
abbrev i32:Shape:=⟨[b_ 0 [bn .pack],b_ 1 [bn .pack]],[],10⟩
abbrev abp:Shape:=⟨[ao 4],[],10⟩
noncomputable def f32(a:i32.J):Option abp.J:=
(f62 ((a.1.1.1,a.1.2.1.1,()),())).bind fun b=>
 some ((b.1.1,()),())
noncomputable def M9:aD:=aG ad Tryz.f32 i32 abp [] f32
theorem aaF:aA O 32 M9:=aK azY Tryz.func32 (by kernel_rfl) ae (fun y=>by kernel_rfl) fun a=>by kernel_rfl
theorem ahy(a)(h:a.1.1=a.1.2.1)(hl:cj a.1.1.length):f162 a=some ((true,()),()):=by
 obtain⟨⟨xs,bj,u⟩,bV⟩:=a;have h:xs=bj:=h;subst h;have hs:xs.length<=2097152:=hl;have key:Is ((xs,(xs,((0:Int),()))),())=some (bif allI (fun _ _=>true) 0 xs then .inr ((),()) else .inl ((false,()),())):=by
  refine fV A6 xs (fun i=>((xs,(xs,((i:Int),()))),())) _ _ _ (fun i x hx=>?_) ?_
  ·have hi:=cT hx;have hw:ar i:=by unfold ar;omega
   simp only[A6,ce hi,cond_true,b4,hx,Option.bind_some,beq_self_eq_true,Bool.and_self,Bool.not_true,cond_false,bU hw]
  ·simp only[A6,du,cond_false]
 rw[Ff] at key;have hb:((xs.length:Int) !=(xs.length:Int))=false:=by simp
 simp only[f162,hb,cond_false,key,cond_true,Option.bind_some]
theorem F_(a)(h:a.1.1.1=a.1.2.1.1)(hl:gp a.1.1.1):f32 a=some ((true,()),()):=by
 obtain⟨⟨⟨xs,mJ⟩,⟨bj,u1⟩,u⟩,bV⟩:=a;have h:xs=bj:=h;subst h;have hs:xs.length<=2097152:=hl.1;have key:JE ((xs,(xs,((0:Int),()))),())=some (bif allI (fun _ _=>true) 0 xs then .inr ((),()) else .inl ((false,()),())):=by
  refine fV B9 xs (fun i=>((xs,(xs,((i:Int),()))),())) _ _ _ (fun i x hx=>?_) ?_
  ·have hi:=cT hx;have hw:ar i:=by unfold ar;omega
   have pV:=hl.2 x (List.mem_of_getElem? hx);have e1:=ahy ((x.bi,(x.bi,())),()) rfl pV.2.2.1.1;have e2:=ajp ((x.bx,(x.bx,())),()) rfl pV.2.2.2.1;simp only[B9,ce hi,cond_true,b4,hx,Option.bind_some,f111,beq_self_eq_true,e1,e2,Bool.not_true,cond_false,bU hw]
  ·simp only[B9,du,cond_false]
 rw[Ff] at key;have hb:((xs.length:Int) !=(xs.length:Int))=false:=by simp
 simp only[f32,f62,hb,cond_false,key,cond_true,Option.bind_some]
noncomputable abbrev azC:a_:=[(58,Kg)]
theorem az2:aQ O (aW ad azC):=aV ⟨V1,⟨⟩⟩
abbrev i26:Shape:=⟨[aI 0 .u8],[],6⟩
abbrev abw:Shape:=⟨[ay 2 2 0],[ax 2 [bn .pack]],6⟩
noncomputable def f26(a:i26.J):Option abw.J:=
(wy (((),()),((a.1.1.take 2000),(0:Int),()),())).bind fun b=>
 some (((),()),(b.2.2.1.1,()),())
noncomputable def acU:aD:=aG ad Tryz.f26 i26 abw [] f26
theorem av8:aA O 26 acU:=aK az2 Tryz.func26 (by kernel_rfl) ae (fun y=>by kernel_rfl) fun a=>by kernel_rfl
abbrev i28:Shape:=⟨[b_ 0 [ah,ah],b_ 1 [ah,ah]],[],17⟩
abbrev abu:Shape:=⟨[ao 4],[],17⟩
noncomputable def f28(a:i28.J):Option abu.J:=
 bif(a.1.1.1==a.1.2.1.1) then
 some (((a.1.1.2.1==a.1.2.1.2.1),()),())
else
 some ((false,()),())
noncomputable def acT:aD:=aG ad Tryz.f28 i28 abu [] f28
theorem z28:aA O 28 acT:=aK g0 Tryz.func28 (by kernel_rfl) ae (fun y=>by kernel_rfl) fun a=>by kernel_rfl
noncomputable abbrev azg:a_:=[(66,M6)]
theorem ac9:aQ O (aW ad azg):=aV ⟨aaC,⟨⟩⟩
abbrev Uj:Shape:=⟨[aj 4,aj 5,ao 6],[],20⟩
abbrev T9:List aP:=[(.norm,⟨[aj 4,ao 18],[],20⟩)]
noncomputable def Vp(y:Uj.J):Option (aB T9):=
 bif(!(!y.1.2.2.1)) then
 some ((y.1.1,(!(y.1.2.1==([101,110,100,10]:B))),()),())
else
 some ((y.1.1,true,()),())
theorem aon:aS O (am (codeOf Tryz.f61) 1 28) (aU Uj T9 Vp):=cd ac9 (by kernel_rfl) ae fun y=>by kernel_rfl
abbrev i61:Shape:=⟨[aj 0],[],20⟩
abbrev aa9:Shape:=⟨[aj 2,ao 3],[],20⟩
noncomputable def f61(a:i61.J):Option aa9.J:=
(f66 ((a.1.1,()),())).bind fun b=>
(Vp ((b.1.1,b.1.2.1,b.1.2.2.1,()),())).bind fun c=>
 bif c.1.2.1 then
 some ((([]:B),false,()),())
else
 some ((c.1.1,true,()),())
noncomputable def acI:aD:=aG ad Tryz.f61 i61 aa9 [] f61
theorem avZ:aA O 61 acI:=aK ac9 Tryz.func61 (by kernel_rfl) (a7 aon ae) (fun y=>by kernel_rfl) fun a=>by kernel_rfl
noncomputable abbrev azy:a_:=[(27,M_),(35,Ee),(61,acI)]
theorem adh:aQ O (aW ad azy):=aV ⟨aaG,LN,avZ,⟨⟩⟩
abbrev Ul:Shape:=⟨[ay 1 1 0,ay 2 2 0,ay 3 3 0,ao 4,aj 5,ao 6],[ax 1 [ah,ah],bp 5000128 .pack 2 0,ax 2 [.own 5000128],ax 3 [ah,ah]],31⟩
abbrev T':List aP:=[(.norm,⟨[ay 2 2 0,ay 3 3 0,ao 4,aj 5],[bp 5000128 .pack 2 0,ax 2 [.own 5000128],ax 3 [ah,ah]],31⟩)]
noncomputable def Vq(y:Ul.J):Option (aB T'):=
 bif(!y.1.2.2.2.2.2.1) then
 some (((),(),y.1.2.2.2.1,y.2.1.1,()),y.2.2.1,((),()),(y.2.2.2.2.1.1,y.2.2.2.2.1.2.1,()),())
else
 some (((),(),y.1.2.2.2.1,y.1.2.2.2.2.1,()),y.2.2.1,((),()),(y.2.2.2.2.1.1,y.2.2.2.2.1.2.1,()),())
theorem aov:aS O (am (codeOf Tryz.f31) 1 14) (aU Ul T' Vq):=cd adh (by kernel_rfl) ae fun y=>by kernel_rfl
abbrev i31:Shape:=⟨[b_ 0 [ah,ah]],[],31⟩
abbrev abq:Shape:=⟨[ay 2 2 0,ay 3 3 0,ao 4],[bp 5000128 .pack 2 0,ax 2 [.own 5000128],ax 3 [ah,ah]],31⟩
noncomputable def f31(a:i31.J):Option abq.J:=
(f61 ((a.1.1.2.1,()),())).bind fun b=>
(Vq (((),(),(),false,b.1.1,b.1.2.1,()),(a.1.1.1,a.1.1.2.1,()),([]:List aL),((),()),(([]:B),([]:B),()),())).bind fun c=>
(f35 ((c.1.2.2.2.1,()),())).bind fun d=>
 bif(!d.1.2.1) then
 some (((),(),false,()),([]:List aL),((),()),(([]:B),([]:B),()),())
else
(f27 (((d.2.1,()),()),())).bind fun e=>
 some (((),(),true,()),d.2.1,((),()),(e.2.1.1,e.2.1.2.1,()),())
noncomputable def acR:aD:=aG ad Tryz.f31 i31 abq [] f31
theorem z31:aA O 31 acR:=aK adh Tryz.func31 (by kernel_rfl) (a7 aov ae) (fun y=>by kernel_rfl) fun a=>by kernel_rfl
noncomputable abbrev aAT:a_:=[(14,uy),(26,acU),(27,M_),(28,acT),(29,acS),(30,ux),(31,acR),(32,M9)]
theorem Ez:aQ O (aW ad aAT):=aV ⟨LP,av8,aaG,z28,av7,w9,z31,aaF,⟨⟩⟩
abbrev Uh:Shape:=⟨[ao 2,ay 3 3 0,ay 4 4 0],[ax 3 [bn .pack],ax 4 [ah,ah]],53⟩
abbrev T7:List aP:=[(.norm,⟨[ao 2,ay 3 3 0,ay 4 4 0,ao 24],[ax 3 [bn .pack],ax 4 [ah,ah]],53⟩)]
noncomputable def Vo(y:Uh.J):Option (aB T7):=
(f29 (((y.2.1.1,()),()),())).bind fun a=>
(f28 (((y.2.2.1.1,y.2.2.1.2.1,()),(a.2.1.1,a.2.1.2.1,()),()),())).bind fun b=>
 bif(!b.1.1) then
 some ((y.1.1,(),(),true,()),(y.2.1.1,()),(y.2.2.1.1,y.2.2.1.2.1,()),())
else
(f30 (((y.2.1.1,()),()),())).bind fun c=>
 some ((y.1.1,(),(),(!c.1.1),()),(y.2.1.1,()),(y.2.2.1.1,y.2.2.1.2.1,()),())
theorem aoj:aS O (am (codeOf Tryz.f6) 1 124) (aU Uh T7 Vo):=cd Ez (by kernel_rfl) ae fun y=>by kernel_rfl
abbrev i6:Shape:=⟨[aI 0 .u8],[],53⟩
abbrev En:Shape:=⟨[ao 2],[],53⟩
noncomputable def f6(a:i6.J):Option En.J:=
 bif(decide ((a.1.1.length:Int)>(1048576:Int))) then
 some ((true,()),())
else
(f26 ((a.1.1,()),())).bind fun b=>
(f27 (((b.2.1.1,()),()),())).bind fun c=>
(Vo ((false,(),(),()),(b.2.1.1,()),(c.2.1.1,c.2.1.2.1,()),())).bind fun d=>
 bif d.1.2.2.2.1 then
(f29 (((d.2.1.1,()),()),())).bind fun e=>
(f28 (((d.2.2.1.1,d.2.2.1.2.1,()),(e.2.1.1,e.2.1.2.1,()),()),())).bind fun f=>
 some ((f.1.1,()),())
else
(f31 (((d.2.2.1.1,d.2.2.1.2.1,()),()),())).bind fun g=>
(f14 (((d.2.2.1.1,d.2.2.1.2.1,()),()),())).bind fun h=>
 bif(h.1.1==g.1.2.2.1) then
 bif(!(!g.1.2.2.1)) then
(f32 (((g.2.1,()),(d.2.1.1,()),()),())).bind fun i=>
 bif i.1.1 then
(f28 (((g.2.2.2.1.1,g.2.2.2.1.2.1,()),(d.2.2.1.1,d.2.2.1.2.1,()),()),())).bind fun j=>
 some ((j.1.1,()),())
else
 some ((false,()),())
else
 some ((true,()),())
else
 some ((false,()),())
noncomputable def NM:aD:=aG ad Tryz.f6 i6 En [] f6
theorem Nh:aA O 6 NM:=aK Ez Tryz.func6 (by kernel_rfl) (a7 aoj ae) (fun y=>by kernel_rfl) fun a=>by kernel_rfl
theorem akC{e:aw}(h:nN e)(he:k0 e):(dZ e).length<=500:=by
 have h1:=AP h;have aC:e.text.length<=200:=he.2;have h3:e.path.length<=200:=he.1;have h2:=lm e.text.length (by omega)
 unfold dZ;cases e.kind==1<;>cases e.kind==3<;>simp<;>omega
theorem akv{n:bv}(h:D7 n):(cz n).length<=410:=by
 have h1:n.name.length<=200:=h.1;have h2:n.aX.length<=200:=h.2;have h3:=FB n.kind;unfold cz cK;simp;omega
theorem amK{p:aL}(h:rN p)(hk:ch p=true):(bA p).length<=15000:=by
 obtain⟨_,_,_,_,_,au⟩:=mQ hk;obtain⟨⟨h1,_⟩,h2,⟨h3,aC⟩,bk,ca⟩:=h;have h1:p.name.length<=200:=h1;have h2:p.aX.length<=200:=h2;have aE:=nY (f:=cz) (xs:=p.bi) (n:=410) fun n hn=>akv (aC n hn)
 have aF:(da p.bx).length<=p.bx.length*500:=nY (f:=dZ) (xs:=p.bx) (n:=500) fun e he=>akC (qj au e he) (ca e he)
 have bJ:p.bi.length*410<=3*410:=Nat.mul_le_mul_right _ h3;have cB:p.bx.length*500<=17*500:=Nat.mul_le_mul_right _ bk;unfold bA dt ij;generalize p.bi.flatMap cz=A at aE ⊢;generalize da p.bx=bq at aF ⊢;simp[zc];omega
theorem amJ{ps:List aL}(h:iK 5 ps)(hr:fe ps=true):(dd ps).length<=100000:=by
 have hk:=(mO hr).1;have h1:=nY (f:=fun p=>dD (bA p)) (xs:=ps) (n:=16000) fun p hp=>by
  have:=amK (h.2 p hp) (hk p hp);have:=lm (bA p).length (by omega)
  show(dD (bA p)).length<=16000;unfold dD;simp;omega
 have aC:ps.length*16000<=5*16000:=Nat.mul_le_mul_right _ h.1;have e:(dd ps).length=(ps.flatMap fun p=>dD (bA p)).length:=rfl
 omega
theorem TN{ps:List aL}(h:iK 5 ps):(bif fe ps then dd ps else []).length<=100000:=by
 cases hr:fe ps with
 |false=>exact Nat.zero_le _
 |true=>exact amJ h hr
noncomputable abbrev azw:a_:=[(58,Kg)]
theorem azX:aQ O (aW ad azw):=aV ⟨V1,⟨⟩⟩
abbrev i33:Shape:=⟨[aI 0 .u8],[],6⟩
abbrev abo:Shape:=⟨[ay 2 2 0],[ax 2 [bn .pack]],6⟩
noncomputable def f33(a:i33.J):Option abo.J:=
(wy (((),()),((a.1.1.take 2000),(0:Int),()),())).bind fun b=>
 some (((),()),(b.2.2.1.1,()),())
noncomputable def acQ:aD:=aG ad Tryz.f33 i33 abo [] f33
theorem av6:aA O 33 acQ:=aK azX Tryz.func33 (by kernel_rfl) ae (fun y=>by kernel_rfl) fun a=>by kernel_rfl
noncomputable abbrev aq0:a_:=[(78,jp),(79,kE)]
theorem aq5:aQ O (aW ad aq0):=aV ⟨jM,lr,⟨⟩⟩
abbrev Ww:Shape:=⟨[ay 0 500000 0,aj 1],[ax 500000 [bn .u8,aZ]],32⟩
abbrev Wg:Shape:=⟨[ay 0 500000 0,aj 4],[ax 500000 [bn .u8,aZ]],32⟩
noncomputable def CI(a:Ww.J):Option Wg.J:=
(fX (((),(IntKind.i64.wrap ((a.1.2.1.length:Int)+(1:Int))),()),(a.2.1.1,a.2.1.2.1,()),())).bind fun b=>
(fX (((),(5:Int),()),(b.2.1.1,b.2.1.2.1,()),())).bind fun c=>
 bif(c.1.2.1==(0:Int)) then
(bm a.1.2.1 (0:Int) b.1.2.1).bind fun d=>
(jo (((),([([32]:B),([10]:B),([48]:B),([120]:B),([47]:B),([45]:B)]:List B),()),(c.2.1.1,c.2.1.2.1,()),())).bind fun e=>
(bZ d e.1.2.1).bind fun f=>
(bm a.1.2.1 b.1.2.1 (a.1.2.1.length:Int)).bind fun g=>
(bZ f g).bind fun h=>
 some (((),h,()),(e.2.1.1,e.2.1.2.1,()),())
else
 bif(c.1.2.1==(1:Int)) then
(bm a.1.2.1 (0:Int) b.1.2.1).bind fun i=>
 some (((),i,()),(c.2.1.1,c.2.1.2.1,()),())
else
 some (((),a.1.2.1,()),(c.2.1.1,c.2.1.2.1,()),())
noncomputable def WO:aD:=aG ad Tryz.f71 Ww Wg [0] CI
theorem apW:aA O 71 WO:=aK aq5 Tryz.func71 (by kernel_rfl) ae (fun y=>by kernel_rfl) fun a=>by kernel_rfl
noncomputable abbrev azr:a_:=[(37,Ec),(71,WO),(72,Kf)]
theorem azU:aQ O (aW ad azr):=aV ⟨z37,apW,V0,⟨⟩⟩
abbrev i38:Shape:=⟨[aI 0 .u8],[],11⟩
abbrev abk:Shape:=⟨[aj 2],[],11⟩
noncomputable def f38(a:i38.J):Option abk.J:=
(ww (((),()),((a.1.1.take 2000),(0:Int),()),())).bind fun b=>
(f37 (((b.2.2.1.1,()),()),())).bind fun c=>
(CI (((),c.1.1,()),(b.2.1.1,b.2.1.2.1,()),())).bind fun d=>
 some ((d.1.2.1,()),())
noncomputable def acP:aD:=aG ad Tryz.f38 i38 abk [] f38
theorem av5:aA O 38 acP:=aK azU Tryz.func38 (by kernel_rfl) ae (fun y=>by kernel_rfl) fun a=>by kernel_rfl
noncomputable abbrev aAS:a_:=[(30,ux),(32,M9),(33,acQ),(34,Ef),(35,Ee),(36,Ed),(37,Ec),(38,acP),(39,M8)]
theorem uO:aQ O (aW ad aAS):=aV ⟨w9,aaF,av6,LO,LN,LM,z37,av5,aaE,⟨⟩⟩
abbrev V_:Shape:=⟨[aI 0 .u8,aI 1 .u8],[],102⟩
abbrev V6:List aP:=[(.norm,⟨[aI 0 .u8,aI 1 .u8,ao 23],[],102⟩)]
noncomputable def CH(y:V_.J):Option (aB V6):=
 bif(!(decide ((y.1.1.length:Int)>(1048576:Int)))) then
 some ((y.1.1,y.1.2.1,(decide ((y.1.2.1.length:Int)>(1048576:Int))),()),())
else
 some ((y.1.1,y.1.2.1,true,()),())
theorem aqk:aS O (am (codeOf Tryz.f7) 1 12) (aU V_ V6 CH):=cd uO (by kernel_rfl) ae fun y=>by kernel_rfl
abbrev zS:Shape:=⟨[aI 1 .u8,ay 5 5 0,aj 6,ay 7 7 0,ao 8,ao 9,ag 10],[ax 5 [bn .pack],bp 5000448 .pack 7 0,ax 7 [.own 5000448]],102⟩
abbrev Hi:List aP:=[(.exit 0,⟨[aI 1 .u8,ay 5 5 0,aj 6,ay 7 7 0,ao 8,ao 9],[ax 5 [bn .pack],bp 5000448 .pack 7 0,ax 7 [.own 5000448]],102⟩)]
noncomputable def AT(y:zS.J):bG zS Hi:=
 bif(decide (y.1.2.2.2.2.2.2.1<(y.2.1.1.length:Int))) then
 bif y.1.2.2.2.2.2.1 then
(aO y.2.1.1 y.1.2.2.2.2.2.2.1).bind fun a=>
(f36 (((a.name,a.aX,a.bi,a.bx,()),()),())).bind fun b=>
 some (.inl ((y.1.1,(),y.1.2.2.1,(),y.1.2.2.2.2.1,(decide ((b.1.1.length:Int)<=(4000:Int))),(IntKind.i64.wrap (y.1.2.2.2.2.2.2.1+(1:Int))),()),(y.2.1.1,()),y.2.2.1,((),()),()))
else
 some (.inl ((y.1.1,(),y.1.2.2.1,(),y.1.2.2.2.2.1,false,(IntKind.i64.wrap (y.1.2.2.2.2.2.2.1+(1:Int))),()),(y.2.1.1,()),y.2.2.1,((),()),()))
else
 some (.inr ((y.1.1,(),y.1.2.2.1,(),y.1.2.2.2.2.1,y.1.2.2.2.2.2.1,()),(y.2.1.1,()),y.2.2.1,((),()),()))
noncomputable def H':zS.J->Option (aB Hi):=br AT
theorem alG:aS O (am (codeOf Tryz.f7) 1 1018) (aU zS Hi H'):=bH uO (by kernel_rfl) ae fun y=>by kernel_rfl
abbrev SJ:Shape:=⟨[aI 1 .u8,ay 5 5 0,aj 6,ay 7 7 0,ao 8,ao 9],[ax 5 [bn .pack],bp 5000448 .pack 7 0,ax 7 [.own 5000448]],102⟩
abbrev Sn:List aP:=[(.norm,⟨[aI 1 .u8,ao 71],[],102⟩)]
noncomputable def AS(y:SJ.J):Option (aB Sn):=
(f37 (((y.2.1.1,()),()),())).bind fun a=>
 bif(!(!(y.1.2.2.1==a.1.1))) then
(f30 (((y.2.1.1,()),()),())).bind fun b=>
 bif b.1.1 then
 bif y.1.2.2.2.2.2.1 then
 bif(!(!y.1.2.2.2.2.1)) then
(f32 (((y.2.2.1,()),(y.2.1.1,()),()),())).bind fun c=>
 some ((y.1.1,(!c.1.1),()),())
else
 some ((y.1.1,true,()),())
else
 some ((y.1.1,false,()),())
else
 some ((y.1.1,false,()),())
else
 some ((y.1.1,true,()),())
theorem alF:aS O (am (codeOf Tryz.f7) 1 1020) (aU SJ Sn AS):=cd uO (by kernel_rfl) ae fun y=>by kernel_rfl
abbrev i7:Shape:=⟨[aI 0 .u8,aI 1 .u8],[],102⟩
abbrev uG:Shape:=⟨[ao 4],[],102⟩
noncomputable def f7(a:i7.J):Option uG.J:=
(CH ((a.1.1,a.1.2.1,()),())).bind fun b=>
 bif b.1.2.2.1 then
 some ((true,()),())
else
(f33 ((b.1.1,()),())).bind fun c=>
(f34 (((c.2.1.1,()),()),())).bind fun d=>
(f35 ((d.1.1,()),())).bind fun e=>
(H' ((b.1.2.1,(),d.1.1,(),e.1.2.1,true,(0:Int),()),(c.2.1.1,()),e.2.1,((),()),())).bind fun f=>
(AS ((f.1.1,(),f.1.2.2.1,(),f.1.2.2.2.2.1,f.1.2.2.2.2.2.1,()),(f.2.1.1,()),f.2.2.1,((),()),())).bind fun g=>
 bif g.1.2.1 then
 some ((false,()),())
else
(f38 ((g.1.1,()),())).bind fun h=>
(f35 ((h.1.1,()),())).bind fun i=>
(f39 ((h.1.1,()),())).bind fun j=>
 bif(i.1.2.1==j.1.2.1) then
(f32 (((i.2.1,()),(j.2.1,()),()),())).bind fun k=>
 bif k.1.1 then
 bif(!(!i.1.2.1)) then
(f34 (((i.2.1,()),()),())).bind fun l=>
 some (((l.1.1==h.1.1),()),())
else
 some ((true,()),())
else
 some ((false,()),())
else
 some ((false,()),())
noncomputable def oT:aD:=aG ad Tryz.f7 i7 uG [] f7
theorem uD:aA O 7 oT:=aK uO Tryz.func7 (by kernel_rfl) (a7 aqk (a7 alG (a7 alF ae))) (fun y=>by kernel_rfl) fun a=>by kernel_rfl
theorem ajo(a)(m:Nat)(h:cX a.2.1.1 a.2.1.2.1 m)(hm:3<=m)(hs:a.1.2.1.length<=1000000):Z (CI a) (fun r=>(r.1.2.1:B).length<=a.1.2.1.length+200):=by
 obtain⟨⟨mJ,(s:B),u1⟩,⟨(b1:List Int),(h9:Int),u2⟩,uF⟩:=a;have hs:s.length<=1000000:=hs;unfold CI;refine Z.bind (gU _ m h (by omega)) fun r1 h1=>?_
 have hw:IntKind.i64.wrap ((s.length:Int)+1)=((s.length+1:Nat):Int):=bU (by unfold ar;omega)
 obtain⟨⟨v0,(q:Int),v1⟩,⟨⟨(b2:List Int),(iM:Int),v2⟩,v3⟩⟩:=r1;have h0:0<=q:=h1.2.1;have az:q<((s.length+1:Nat):Int):=by
  have:=h1.2.2;have this:(1:Int)<=IntKind.i64.wrap ((s.length:Int)+1)->q<IntKind.i64.wrap ((s.length:Int)+1):=this;rw[hw] at this;exact this (by omega)
 obtain⟨k,rfl⟩:=Int.eq_ofNat_of_zero_le h0;have hk:k<=s.length:=by omega
 have s1:bm s 0 ((k:Nat):Int)=some (s.take k):=gj hk;have s2:bm s ((k:Nat):Int) ((s.length:Nat):Int)=some (s.drop k):=fc hk;refine Z.bind (gU _ _ h1.1 (by omega)) fun r2 h2=>?_
 refine Z.ite (fun _=>?_) fun _=>Z.ite (fun _=>?_) fun _=>Z.ret (by show s.length<=s.length+200;omega)
 ·refine Z.eq s1 ?_
  refine Z.bind (kF _ _ h2.1 (by omega) (by simp)) fun di h3=>?_
  have hx:=pf (L:=[[32],[10],[48],[120],[47],[45]]) (by rfl) h3.2
  obtain⟨⟨U,(x:B),aY⟩,w2⟩:=di;have hx:x.length<=200:=hx;refine Z.eq (dH (s:=s.take k) (t:=x) (by simp;omega)) ?_
  refine Z.eq s2 ?_
  refine Z.eq (dH (s:=s.take k++x) (t:=s.drop k) (by simp;omega)) ?_
  exact Z.ret (by show(s.take k++x++s.drop k).length<=s.length+200;simp;omega)
 ·refine Z.eq s1 ?_
  exact Z.ret (by show(s.take k).length<=s.length+200;simp;omega)
theorem aep(a)(h:cX (a.1.1.take 2000) 0 1000000):Z (f38 a) (fun r=>(r.1.1:B).length<=200000):=by
 unfold f38;refine Z.bind (PI _ 1000000 h (by decide)) fun r1 h1=>?_
 obtain⟨mJ,⟨⟨(b1:List Int),(h9:Int),u1⟩,⟨(xf:List aL),u2⟩,uF⟩⟩:=r1;have hr:iK 4 xf:=h1.2;have c_:iK 5 xf:=⟨Nat.le_succ_of_le hr.1,hr.2⟩;have hl:=TN c_;refine Z.eq (PM xf (c_.ok.x' (by decide)) c_.ok.vs) ?_
 generalize(bif fe xf then dd xf else [])=s at hl
 refine Z.bind (ajo _ _ h1.1 (by decide) (show s.length<=1000000 by omega)) fun r2 h2=>?_
 have h2:(r2.1.2.1:B).length<=s.length+200:=h2;exact Z.ret (by show(r2.1.2.1:B).length<=200000;omega)
theorem aeo(a)(h:cX (a.1.1.take 2000) 0 1000000):Z (f33 a) (fun r=>iK 5 r.2.1.1):=by
 unfold f33;exact Z.bind (aeM _ 1000000 h (by decide)) fun r hr=>Z.ret hr.2
def qN(p:aL):Bool:=decide (((bif ch p then bA p else []).length:Int)<=4000)
theorem ali{aH:Type}(f:aH->Bool){xs:List aH}{i:Nat}{x:aH}(h:xs[i]? =some x):(xs.take (i+1)).all f=((xs.take i).all f&&f x):=by
 rw[List.take_add_one,h];simp
theorem agz(code more:List Int)(s:B)(ok:Bool)(ps:List aL)(xs:List aL)(hb:gp ps):
  H' ((more,((),(s,((),(ok,(true,((0:Int),()))))))),((ps,()),(xs,(((),()),()))))=some ((more,((),(s,((),(ok,(ps.all qN,())))))),((ps,()),(xs,(((),()),())))):=by
 have hl:ps.length<=2097152:=hb.1;refine fB (g:=AT) (fun i=>((more,((),(s,((),(ok,((ps.take i).all qN,((i:Int),()))))))),((ps,()),(xs,(((),()),()))))) ps.length (fun i hi=>?_) ?_ ps.length 0 (by omega)
 ·obtain⟨p,he⟩:∃p,ps[i]? =some p:=⟨ps[i],List.getElem?_eq_getElem hi⟩;have e1:=yr p (hb.2 p (List.mem_of_getElem? he));rw[ali qN he];simp only[AT,ce hi,cond_true];cases (ps.take i).all qN with
  |false=>simp only[cond_false,bU (i:=i) (by unfold ar;omega),Bool.false_and]
  |true=>
   simp only[cond_true,b4,he,Option.bind_some,e1,bU (i:=i) (by unfold ar;omega),Bool.true_and]
   rfl
 ·simp only[AT,du,cond_false,List.take_length]
theorem aeS(a)(h:∀x,x∈(a.1.1:List Int)->0<=x/\x<=255)(ak:∀x,x∈(a.1.2.1:List Int)->0<=x/\x<=255):Z (f7 a) (fun r=>r.1.1=true):=by
 obtain⟨⟨(code:List Int),(more:List Int),u⟩,bV⟩:=a;unfold f7;have key:∃b:Bool,CH ((code,(more,())),())=some ((code,(more,(b,()))),()):=by
  simp only[CH];cases decide ((code.length:Int)>1048576)<;>exact⟨_,rfl⟩
 obtain⟨b,hb0⟩:=key;refine Z.eq hb0 ?_
 refine Z.ite (fun _=>Z.ret rfl) fun _=>?_
 refine Z.bind (aeo _ (S1 h)) fun r hr=>?_
 obtain⟨mJ,⟨⟨(ps:List aL),u1⟩,u2⟩⟩:=r;have hr:iK 5 ps:=hr;have hb:=hr.ok.x' (by decide)
 have hv:=hr.ok.vs;have hl:=TN hr;have e2:=PM ps hb hv;have bC:=za (((ps,()),()),()) hb hv;have bC:f30 (((ps,()),()),())=some ((fe ps,()),()):=bC;refine Z.eq (O4 ps hb hv) ?_
 obtain⟨D,dy,cB⟩:=O5 (bif fe ps then dd ps else []) (by omega)
 refine Z.eq dy ?_
 refine Z.eq (agz code more _ _ ps _ hb) ?_
 have half:∃w:List Int,AS ((more,((),((bif fe ps then dd ps else []),((),((D6 D).1.2.1,(ps.all qN,())))))),((ps,()),((D6 D).2.1,(((),()),()))))=some ((more,(false,())),()):=by
  refine⟨[],?_⟩;simp only[AS,e2,Option.bind_some,beq_self_eq_true,Bool.not_true,Bool.not_false,cond_true,bC];cases hk:fe ps with
  |false=>simp only[cond_false]
  |true=>
   cases hs:ps.all qN with
   |false=>simp only[cond_true,cond_false]
   |true=>
    have hi:oo ps:=fun p hp=>by
     have h1:=(mO hk).1 p hp;have h2:=List.all_eq_true.1 hs p hp;unfold qN at h2;rw[h1,cond_true,decide_eq_true_eq] at h2;exact⟨h1,by omega⟩
    rw[hk] at cB;have aM:=(cB ps).2 ⟨hk,rfl,hi⟩;subst aM;have rZ:=F_ (((ps,()),((ps,()),())),()) rfl hb;have rZ:f32 (((ps,()),((ps,()),())),())=some ((true,()),()):=rZ;simp only[D6,cond_true,Bool.not_true,Bool.not_false,rZ,Option.bind_some]
 obtain⟨_,p'⟩:=half;refine Z.eq p' ?_
 simp only[cond_false];refine Z.bind (aep ((more,()),()) (S1 ak)) fun r5 bk=>?_
 obtain⟨⟨(X:B),aY⟩,w2⟩:=r5;have bk:X.length<=200000:=bk;obtain⟨o1,r3,p4⟩:=O5 X (by omega)
 obtain⟨o2,x_,x6⟩:=ahC X (by omega)
 cases p4.asw x6;refine Z.eq r3 ?_
 refine Z.eq x_ ?_
 cases o1 with
 |none=>
  have rZ:=F_ (((([]:List aL),()),((([]:List aL),()),())),()) rfl ⟨by decide,fun p hp=>by cases hp⟩
  show Z ((f32 (((([]:List aL),()),((([]:List aL),()),())),())).bind _) _;refine Z.eq rZ ?_
  exact Z.ret rfl
 |some bY=>
  obtain⟨q1,q2,dF⟩:=(p4 bY).1 rfl;obtain⟨hb2,nz⟩:=vC dF (by have:=(mO q1).2;omega)
  have rZ:=F_ (((bY,()),((bY,()),())),()) rfl hb2;show Z ((f32 (((bY,()),((bY,()),())),())).bind _) _;refine Z.eq rZ ?_
  simp only[cond_true];have uI:=O4 bY hb2 nz;rw[q1,q2] at uI;show Z ((f34 (((bY,()),()),())).bind _) _;refine Z.eq uI ?_
  exact Z.ret (beq_self_eq_true X)
theorem pure_FnRootText:LawOk oT [(false,[.sl .u8]),(false,[.sl .u8])]:=by
 rintro⟨⟨code,u⟩,⟨more,u2⟩,bV⟩ ⟨h,h2,_⟩;obtain⟨r,hr,az⟩:=aeS ((code,(more,())),()) (QX (h (.sl .u8 code) (by simp[fw,dL.mk]))) (QX (h2 (.sl .u8 more) (by simp[fw,dL.mk])))
 obtain⟨⟨b,v⟩,v'⟩:=r;have az:b=true:=az;subst az;exact⟨((true,()),()),hr,rfl⟩
end Go.Proofs
