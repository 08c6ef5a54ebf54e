/- FnDiskTear: writing a root is atomic. (part 6 of 7: JkKF126, JkKF127, JkKPuGq, JkKF76, JkKPuGr, JkKF39, JkKF12, JkKPuGs, JkKF34, JkKPuPc, JkKF186, JkKF134, JkKF187, JkKF135, JkKF188, JkKF136, JkKF189, JkKF137, JkKF190, JkKF138, JkKF191, JkKF139, JkKF82) Conditions: none beyond the statement. -/
import Derived.Test.YthhecoidfjkmeaaGreatDoorZFnDiskTear4
import Derived.Tactics
import Derived.Deep.RegionLaw
import Derived.Shelf.Abstract
import Derived.Test.YthhecoidfjkmeaaGreatDoorProg
import Derived.KernelRfl
set_option linter.unusedSimpArgs false
set_option maxRecDepth 100000
set_option linter.unusedVariables false
namespace Go.Proofs
open Go.Jk
noncomputable abbrev au8:a_:=[(73,qd),(179,_u)]
theorem xh:aR O (aX ad au8):=aV ⟨rs,ar9,⟨⟩⟩
abbrev O4:Shape:=⟨[ay 2 2 0,ay 5 5 0,ba 6 3000384,ak 7,ag 8,ba 9 3000576],[bp 5000130 .need 2 2,bp 5000131 .entry 2 3,ax 2 [ah,ah,.own 5000130,.own 5000131],bp 5000322 .need 5 2,bp 5000323 .entry 5 3,ax 5 [ah,ah,.own 5000322,.own 5000323],a' 3000384 .str 6 0,a' 3000576 .str 9 0],118⟩
abbrev OX:List aP:=[(.norm,⟨[ay 2 2 0,ay 5 5 0,ba 6 3000384,ak 7,ag 8,ba 9 3000576,ap 52],[bp 5000130 .need 2 2,bp 5000131 .entry 2 3,ax 2 [ah,ah,.own 5000130,.own 5000131],bp 5000322 .need 5 2,bp 5000323 .entry 5 3,ax 5 [ah,ah,.own 5000322,.own 5000323],a' 3000384 .str 6 0,a' 3000576 .str 9 0],118⟩)]
noncomputable def lo(y:O4.J):Option (aC OX):=
 bif(y.1.2.2.2.2.1==(1:Int)) then
(be y.2.2.2.2.2.2.2.2.1.length (0:Int)).bind fun a=>
(y.2.2.2.2.2.2.2.2.1[a]?).bind fun b=>
 bif(b==([112,97,99,107]:B)) then
 some (((),(),(),y.1.2.2.2.1,y.1.2.2.2.2.1,(),((y.2.2.2.2.2.2.2.2.1.length:Int)==(3:Int)),()),y.2.1,y.2.2.1,(y.2.2.2.1.1,y.2.2.2.1.2.1,(),(),()),y.2.2.2.2.1,y.2.2.2.2.2.1,(y.2.2.2.2.2.2.1.1,y.2.2.2.2.2.2.1.2.1,(),(),()),y.2.2.2.2.2.2.2.1,y.2.2.2.2.2.2.2.2.1,())
else
 some (((),(),(),y.1.2.2.2.1,y.1.2.2.2.2.1,(),false,()),y.2.1,y.2.2.1,(y.2.2.2.1.1,y.2.2.2.1.2.1,(),(),()),y.2.2.2.2.1,y.2.2.2.2.2.1,(y.2.2.2.2.2.2.1.1,y.2.2.2.2.2.2.1.2.1,(),(),()),y.2.2.2.2.2.2.2.1,y.2.2.2.2.2.2.2.2.1,())
else
 some (((),(),(),y.1.2.2.2.1,y.1.2.2.2.2.1,(),false,()),y.2.1,y.2.2.1,(y.2.2.2.1.1,y.2.2.2.1.2.1,(),(),()),y.2.2.2.2.1,y.2.2.2.2.2.1,(y.2.2.2.2.2.2.1.1,y.2.2.2.2.2.2.1.2.1,(),(),()),y.2.2.2.2.2.2.2.1,y.2.2.2.2.2.2.2.2.1,())
theorem afU:aT O (an (c4 (an (codeOf Tryz.f126) 1 250)) 500 128156) (aU O4 OX lo):=ce xh (by kernel_rfl) ae fun y=>by kernel_rfl
abbrev O3:Shape:=⟨[ay 2 2 0,ay 5 5 0,ba 6 3000384,ak 7,ag 8,ba 9 3000576],[bp 5000130 .need 2 2,bp 5000131 .entry 2 3,ax 2 [ah,ah,.own 5000130,.own 5000131],bp 5000322 .need 5 2,bp 5000323 .entry 5 3,ax 5 [ah,ah,.own 5000322,.own 5000323],a' 3000384 .str 6 0,a' 3000576 .str 9 0],118⟩
abbrev OW:List aP:=[(.norm,⟨[ay 2 2 0,ay 5 5 0,ba 6 3000384,ak 7,ag 8,ba 9 3000576,ap 74],[bp 5000130 .need 2 2,bp 5000131 .entry 2 3,ax 2 [ah,ah,.own 5000130,.own 5000131],bp 5000322 .need 5 2,bp 5000323 .entry 5 3,ax 5 [ah,ah,.own 5000322,.own 5000323],a' 3000384 .str 6 0,a' 3000576 .str 9 0],118⟩)]
noncomputable def l7(y:O3.J):Option (aC OW):=
 bif(decide (y.1.2.2.2.2.1>(1:Int))) then
(be y.2.2.2.2.2.2.2.1.length y.1.2.2.2.2.1).bind fun a=>
(y.2.2.2.2.2.2.2.1[a]?).bind fun b=>
 some (((),(),(),y.1.2.2.2.1,y.1.2.2.2.2.1,(),(b==([]:B)),()),y.2.1,y.2.2.1,(y.2.2.2.1.1,y.2.2.2.1.2.1,(),(),()),y.2.2.2.2.1,y.2.2.2.2.2.1,(y.2.2.2.2.2.2.1.1,y.2.2.2.2.2.2.1.2.1,(),(),()),y.2.2.2.2.2.2.2.1,y.2.2.2.2.2.2.2.2.1,())
else
 some (((),(),(),y.1.2.2.2.1,y.1.2.2.2.2.1,(),false,()),y.2.1,y.2.2.1,(y.2.2.2.1.1,y.2.2.2.1.2.1,(),(),()),y.2.2.2.2.1,y.2.2.2.2.2.1,(y.2.2.2.2.2.2.1.1,y.2.2.2.2.2.2.1.2.1,(),(),()),y.2.2.2.2.2.2.2.1,y.2.2.2.2.2.2.2.2.1,())
theorem afT:aT O (an (c4 (an (codeOf Tryz.f126) 1 250)) 500 512630) (aU O3 OW l7):=ce xh (by kernel_rfl) ae fun y=>by kernel_rfl
abbrev OF:Shape:=⟨[ay 2 2 0,ay 5 5 0,ba 6 3000384,ak 7,ag 8,ba 9 3000576],[bp 5000130 .need 2 2,bp 5000131 .entry 2 3,ax 2 [ah,ah,.own 5000130,.own 5000131],bp 5000322 .need 5 2,bp 5000323 .entry 5 3,ax 5 [ah,ah,.own 5000322,.own 5000323],a' 3000384 .str 6 0,a' 3000576 .str 9 0],118⟩
abbrev OD:List aP:=[(.norm,⟨[ay 2 2 0,ay 5 5 0,ba 6 3000384,ak 7,ag 8,ba 9 3000576,ap 86],[bp 5000130 .need 2 2,bp 5000131 .entry 2 3,ax 2 [ah,ah,.own 5000130,.own 5000131],bp 5000322 .need 5 2,bp 5000323 .entry 5 3,ax 5 [ah,ah,.own 5000322,.own 5000323],a' 3000384 .str 6 0,a' 3000576 .str 9 0],118⟩)]
noncomputable def nX(y:OF.J):Option (aC OD):=
 bif(decide (y.1.2.2.2.2.1>(1:Int))) then
(be y.2.2.2.2.2.2.2.2.1.length (0:Int)).bind fun a=>
(y.2.2.2.2.2.2.2.2.1[a]?).bind fun b=>
 bif(b==([110,101,101,100]:B)) then
 some (((),(),(),y.1.2.2.2.1,y.1.2.2.2.2.1,(),((y.2.2.2.2.2.2.2.2.1.length:Int)==(2:Int)),()),y.2.1,y.2.2.1,(y.2.2.2.1.1,y.2.2.2.1.2.1,(),(),()),y.2.2.2.2.1,y.2.2.2.2.2.1,(y.2.2.2.2.2.2.1.1,y.2.2.2.2.2.2.1.2.1,(),(),()),y.2.2.2.2.2.2.2.1,y.2.2.2.2.2.2.2.2.1,())
else
 some (((),(),(),y.1.2.2.2.1,y.1.2.2.2.2.1,(),false,()),y.2.1,y.2.2.1,(y.2.2.2.1.1,y.2.2.2.1.2.1,(),(),()),y.2.2.2.2.1,y.2.2.2.2.2.1,(y.2.2.2.2.2.2.1.1,y.2.2.2.2.2.2.1.2.1,(),(),()),y.2.2.2.2.2.2.2.1,y.2.2.2.2.2.2.2.2.1,())
else
 some (((),(),(),y.1.2.2.2.1,y.1.2.2.2.2.1,(),false,()),y.2.1,y.2.2.1,(y.2.2.2.1.1,y.2.2.2.1.2.1,(),(),()),y.2.2.2.2.1,y.2.2.2.2.2.1,(y.2.2.2.2.2.2.1.1,y.2.2.2.2.2.2.1.2.1,(),(),()),y.2.2.2.2.2.2.2.1,y.2.2.2.2.2.2.2.2.1,())
theorem afb:aT O (an (c4 (an (codeOf Tryz.f126) 1 250)) 500 2050526) (aU OF OD nX):=ce xh (by kernel_rfl) ae fun y=>by kernel_rfl
abbrev vr:Shape:=⟨[ay 2 2 0,ay 5 5 0,ba 6 3000384,ak 7,ag 8],[bp 5000130 .need 2 2,bp 5000131 .entry 2 3,ax 2 [ah,ah,.own 5000130,.own 5000131],bp 5000322 .need 5 2,bp 5000323 .entry 5 3,ax 5 [ah,ah,.own 5000322,.own 5000323],a' 3000384 .str 6 0],118⟩
abbrev zm:List aP:=[(.ret,⟨[ay 2 2 0,ak 3,ap 4],[bp 5000130 .need 2 2,bp 5000131 .entry 2 3,ax 2 [ah,ah,.own 5000130,.own 5000131]],118⟩),(.exit 0,⟨[ay 2 2 0,ay 5 5 0],[bp 5000130 .need 2 2,bp 5000131 .entry 2 3,ax 2 [ah,ah,.own 5000130,.own 5000131],bp 5000322 .need 5 2,bp 5000323 .entry 5 3,ax 5 [ah,ah,.own 5000322,.own 5000323]],118⟩)]
noncomputable def hN(y:vr.J):bG vr zm:=
 bif(decide (y.1.2.2.2.2.1<(y.2.2.2.2.2.2.2.1.length:Int))) then
 bif(decide (y.1.2.2.2.2.1<=(8:Int))) then
(be y.2.2.2.2.2.2.2.1.length y.1.2.2.2.2.1).bind fun a=>
(y.2.2.2.2.2.2.2.1[a]?).bind fun b=>
(f73 ((b,(32:Int),(2:Int),()),())).bind fun c=>
(be y.2.2.2.2.2.2.2.1.length y.1.2.2.2.2.1).bind fun d=>
(y.2.2.2.2.2.2.2.1[d]?).bind fun e=>
 bif(decide ((y.1.2.2.2.1.length:Int)<(IntKind.i64.wrap ((e.length:Int)+(1:Int))))) then
 some (.inr (.inl (((),([]:B),false,()),y.2.2.2.2.1,y.2.2.2.2.2.1,(y.2.2.2.2.2.2.1.1,y.2.2.2.2.2.2.1.2.1,(),(),()),())))
else
(be y.2.2.2.2.2.2.2.1.length y.1.2.2.2.2.1).bind fun f=>
(y.2.2.2.2.2.2.2.1[f]?).bind fun g=>
(bm y.1.2.2.2.1 (IntKind.i64.wrap ((g.length:Int)+(1:Int))) (y.1.2.2.2.1.length:Int)).bind fun h=>
(lo (((),(),(),h,y.1.2.2.2.2.1,(),()),y.2.1,y.2.2.1,(y.2.2.2.1.1,y.2.2.2.1.2.1,(),(),()),y.2.2.2.2.1,y.2.2.2.2.2.1,(y.2.2.2.2.2.2.1.1,y.2.2.2.2.2.2.1.2.1,(),(),()),y.2.2.2.2.2.2.2.1,c.2.1,())).bind fun i=>
 bif i.1.2.2.2.2.2.2.1 then
(be i.2.2.2.2.2.2.2.2.1.length (1:Int)).bind fun j=>
(i.2.2.2.2.2.2.2.2.1[j]?).bind fun k=>
(be i.2.2.2.2.2.2.2.2.1.length (2:Int)).bind fun l=>
(i.2.2.2.2.2.2.2.2.1[l]?).bind fun m=>
 some (.inl (((),(),(),i.1.2.2.2.1,(IntKind.i64.wrap (i.1.2.2.2.2.1+(1:Int))),()),i.2.1,i.2.2.1,(i.2.2.2.1.1,i.2.2.2.1.2.1,(),(),()),i.2.2.2.2.1,i.2.2.2.2.2.1,(k,m,(),(),()),i.2.2.2.2.2.2.2.1,()))
else
(l7 (((),(),(),i.1.2.2.2.1,i.1.2.2.2.2.1,(),()),i.2.1,i.2.2.1,(i.2.2.2.1.1,i.2.2.2.1.2.1,(),(),()),i.2.2.2.2.1,i.2.2.2.2.2.1,(i.2.2.2.2.2.2.1.1,i.2.2.2.2.2.2.1.2.1,(),(),()),i.2.2.2.2.2.2.2.1,i.2.2.2.2.2.2.2.2.1,())).bind fun n=>
 bif n.1.2.2.2.2.2.2.1 then
 some (.inr (.inl (((),n.1.2.2.2.1,true,()),n.2.2.2.2.1,n.2.2.2.2.2.1,(n.2.2.2.2.2.2.1.1,n.2.2.2.2.2.2.1.2.1,(),(),()),())))
else
(nX (((),(),(),n.1.2.2.2.1,n.1.2.2.2.2.1,(),()),n.2.1,n.2.2.1,(n.2.2.2.1.1,n.2.2.2.1.2.1,(),(),()),n.2.2.2.2.1,n.2.2.2.2.2.1,(n.2.2.2.2.2.2.1.1,n.2.2.2.2.2.2.1.2.1,(),(),()),n.2.2.2.2.2.2.2.1,n.2.2.2.2.2.2.2.2.1,())).bind fun D=>
 bif D.1.2.2.2.2.2.2.1 then
(be D.2.2.2.2.2.2.2.2.1.length (1:Int)).bind fun p=>
(D.2.2.2.2.2.2.2.2.1[p]?).bind fun q=>
(f179 ((q,()),())).bind fun r=>
(b9 40 D.2.2.2.2.1 ([(bx.mk r.2.1.1 r.2.1.2.1 r.2.1.2.2.1)]:List bx)).bind fun s=>
 some (.inl (((),(),(),D.1.2.2.2.1,(IntKind.i64.wrap (D.1.2.2.2.2.1+(1:Int))),()),D.2.1,D.2.2.1,(D.2.2.2.1.1,D.2.2.2.1.2.1,(),(),()),s,D.2.2.2.2.2.1,(D.2.2.2.2.2.2.1.1,D.2.2.2.2.2.2.1.2.1,(),(),()),D.2.2.2.2.2.2.2.1,()))
else
 bif(decide (D.1.2.2.2.2.1>(0:Int))) then
 some (.inr (.inl (((),([]:B),false,()),D.2.2.2.2.1,D.2.2.2.2.2.1,(D.2.2.2.2.2.2.1.1,D.2.2.2.2.2.2.1.2.1,(),(),()),())))
else
 some (.inl (((),(),(),D.1.2.2.2.1,(IntKind.i64.wrap (D.1.2.2.2.2.1+(1:Int))),()),D.2.1,D.2.2.1,(D.2.2.2.1.1,D.2.2.2.1.2.1,(),(),()),D.2.2.2.2.1,D.2.2.2.2.2.1,(D.2.2.2.2.2.2.1.1,D.2.2.2.2.2.2.1.2.1,(),(),()),D.2.2.2.2.2.2.2.1,()))
else
 some (.inr (.inr (((),(),()),y.2.1,y.2.2.1,(y.2.2.2.1.1,y.2.2.2.1.2.1,(),(),()),y.2.2.2.2.1,y.2.2.2.2.2.1,(y.2.2.2.2.2.2.1.1,y.2.2.2.2.2.2.1.2.1,(),(),()),())))
else
 some (.inr (.inr (((),(),()),y.2.1,y.2.2.1,(y.2.2.2.1.1,y.2.2.2.1.2.1,(),(),()),y.2.2.2.2.1,y.2.2.2.2.2.1,(y.2.2.2.2.2.2.1.1,y.2.2.2.2.2.2.1.2.1,(),(),()),())))
noncomputable def lu:vr.J->Option (aC zm):=bu hN
theorem akD:aT O (an (codeOf Tryz.f126) 1 250) (aU vr zm lu):=bI xh (by kernel_rfl) (a8 afU (a8 afT (a8 afb ae))) fun y=>by kernel_rfl
abbrev i126:Shape:=⟨[ak 0],[],118⟩
abbrev KO:Shape:=⟨[ay 2 2 0,ak 3,ap 4],[bp 5000130 .need 2 2,bp 5000131 .entry 2 3,ax 2 [ah,ah,.own 5000130,.own 5000131]],118⟩
noncomputable def f126(a:i126.J):Option KO.J:=
(f73 ((a.1.1,(10:Int),(IntKind.i64.wrap ((a.1.1.length:Int)+(1:Int))),()),())).bind fun b=>
(lu (((),(),(),a.1.1,(0:Int),()),([]:List bx),([]:List aw),(([]:B),([]:B),(),(),()),([]:List bx),([]:List aw),(([]:B),([]:B),(),(),()),b.2.1,())).bind fun c=>
(match c with
|.inl d=>
 some (((),d.1.2.1,d.1.2.2.1,()),d.2.1,d.2.2.1,(d.2.2.2.1.1,d.2.2.2.1.2.1,(),(),()),())
|.inr e=>
 some (((),([]:B),false,()),e.2.2.2.2.1,e.2.2.2.2.2.1,(e.2.2.2.2.2.2.1.1,e.2.2.2.2.2.2.1.2.1,(),(),()),()))
noncomputable def _0:aD:=aH ad Tryz.f126 i126 KO [] f126
theorem ast:aB O 126 _0:=aK xh Tryz.func126 (by kernel_rfl) (a8 akD ae) (fun y=>by kernel_rfl) fun a=>by kernel_rfl
noncomputable abbrev au7:a_:=[(90,xY),(180,_t),(181,Lv)]
theorem aaz:aR O (aX ad au7):=aV ⟨DE,ar8,W_,⟨⟩⟩
abbrev AO:Shape:=⟨[ak 0,ba 4 3000256,ak 5],[a' 3000256 .entry 4 0],41⟩
abbrev H2:List aP:=[(.ret,⟨[ba 2 3000128,ap 3],[a' 3000128 .entry 2 0],41⟩),(.exit 0,⟨[ak 0,ba 4 3000256],[a' 3000256 .entry 4 0],41⟩)]
noncomputable def qS(y:AO.J):bG AO H2:=
 bif(!(y.1.2.2.1==([]:B))) then
 bif(decide ((y.2.1.length:Int)<=(16:Int))) then
(f180 ((y.1.2.2.1,()),())).bind fun a=>
 bif(!a.1.2.2.1) then
 some (.inr (.inl (((),false,()),y.2.1,())))
else
(b9 48 y.2.1 ([(aw.mk a.2.1.1 a.2.1.2.1 a.2.1.2.2.1 a.2.1.2.2.2.1)]:List aw)).bind fun b=>
 some (.inl ((y.1.1,(),a.1.2.1,()),b,()))
else
 some (.inr (.inr ((y.1.1,(),()),y.2.1,())))
else
 some (.inr (.inr ((y.1.1,(),()),y.2.1,())))
noncomputable def vL:AO.J->Option (aC H2):=bu qS
theorem amS:aT O (an (codeOf Tryz.f127) 1 60) (aU AO H2 vL):=bI aaz (by kernel_rfl) ae fun y=>by kernel_rfl
abbrev i127:Shape:=⟨[ak 0],[],41⟩
abbrev YV:Shape:=⟨[ba 2 3000128,ap 3],[a' 3000128 .entry 2 0],41⟩
noncomputable def f127(a:i127.J):Option YV.J:=
(vL ((a.1.1,(),a.1.1,()),([]:List aw),())).bind fun b=>
(match b with
|.inl c=>
 some (((),c.1.2.1,()),c.2.1,())
|.inr d=>
(f90 ((d.2.1,()),())).bind fun e=>
 bif e.1.1 then
(f181 ((d.2.1,()),())).bind fun f=>
 some (((),(f.1.1==d.1.1),()),d.2.1,())
else
 some (((),false,()),d.2.1,()))
noncomputable def _Z:aD:=aH ad Tryz.f127 i127 YV [] f127
theorem z127:aB O 127 _Z:=aK aaz Tryz.func127 (by kernel_rfl) (a8 amS ae) (fun y=>by kernel_rfl) fun a=>by kernel_rfl
theorem ao5(s:B):∀(m:Nat) (r:B) (t:List aw),r.length<=m->m<=2000000->t.length<=17->pS 2000000 t->
  ∃ns:List aw,ns.length<=17/\pS 2000000 ns/\(vL ((s,((),(r,()))),(t,()))=some (.inr ((s,((),())),(ns,())))\/vL ((s,((),(r,()))),(t,()))=some (.inl (((),(false,())),(ns,())))):=by
 intro m;induction m with
 |zero=>
  intro r t hs _ aq ha;have:r=[]:=List.length_eq_zero_iff.1 (by omega)
  subst this;exact⟨t,aq,ha,.inl (cp rfl)⟩
 |succ m ih=>
  intro r t hs hm aq ha;cases r with
  |nil=>exact⟨t,aq,ha,.inl (cp rfl)⟩
  |cons b r0=>
   have hne:((b::r0)==([]:B))=false:=rfl;generalize eI:b::r0=r at hs hne;by_cases xV:t.length<=16
   ·have d:decide (((t.length:Nat):Int)<=16)=true:=decide_eq_true (by omega)
    obtain⟨eH,e,h1,h2⟩:=Rk r (by omega)
    cases hr:nC r with
    |none=>
     rw[hr] at h1;refine⟨t,aq,ha,.inr (cp ?_)⟩;simp only[qS,hne,Bool.not_false,cond_true,d,h1,Option.bind_some,Option.isSome_none]
    |some q=>
     have az:=h2 q hr;subst az;rw[hr] at h1;obtain⟨dP,fC,uP⟩:=Ti hr;have fr:b9 48 t ([(aw.mk e.path e.kind e.mode e.text)]:List aw)=some (t++[e]):=di (by decide) (by unfold au;simp;omega)
     have st:qS ((s,((),(r,()))),(t,()))=some (.inl ((s,((),(eH,()))),(t++[e],()))):=by
      simp only[qS,hne,Bool.not_false,cond_true,d,h1,Option.bind_some,Option.isSome_some,Bool.not_true,cond_false,fr]
     obtain⟨ns,g1,g2,g3⟩:=ih eH (t++[e]) (by omega) (by omega) (by simp;omega) (fun x hx=>by
      rcases List.mem_append.1 hx with hx|hx
      ·exact ha x hx
      ·rw[List.mem_singleton.1 hx];exact⟨by omega,by omega⟩)
     exact⟨ns,g1,g2,g3.imp (dM st).trans (dM st).trans⟩
   ·have d:decide (((t.length:Nat):Int)<=16)=false:=decide_eq_false (by omega)
    refine⟨t,aq,ha,.inl (cp ?_)⟩;simp only[qS,hne,Bool.not_false,cond_true,d,cond_false]
theorem ao4(s:B):∀(ch t:List aw),(∀e,e∈ch->eN e=true)->t.length+ch.length<=16->(dd ch).length<=2000000->
  vL ((s,((),(dd ch,()))),(t,()))=some (.inr ((s,((),())),(t++ch,()))):=by
 intro ch;induction ch with
 |nil=>intro t _ _ _;rw[List.append_nil];exact cp rfl
 |cons e ch ih=>
  intro t h aq hl;have he:=h e List.mem_cons_self;have hr:=alV he (dd ch);have hE:dd (e::ch)=dY e++dd ch:=by unfold dd;rw[List.flatMap_cons]
  rw[hE] at hl ⊢;have hlen:=(Ti hr).2.2;have hne:((dY e++dd ch)==([]:B))=false:=by
   cases hx:dY e++dd ch with
   |nil=>rw[hx] at hlen;simp at hlen
   |cons b r=>rfl
  obtain⟨r,cI,h1,h2⟩:=Rk (dY e++dd ch) hl;have az:=h2 _ hr;simp only[Prod.mk.injEq] at az;obtain⟨rfl,rfl⟩:=az;rw[hr] at h1;have d:decide (((t.length:Nat):Int)<=16)=true:=decide_eq_true (by omega)
  have fr:b9 48 t ([(aw.mk e.path e.kind e.mode e.text)]:List aw)=some (t++[e]):=di (by decide) (by unfold au;simp;simp at aq;omega)
  have st:qS ((s,((),(dY e++dd ch,()))),(t,()))=some (.inl ((s,((),(dd ch,()))),(t++[e],()))):=by
   simp only[qS,hne,Bool.not_false,cond_true,d,h1,Option.bind_some,Option.isSome_some,Bool.not_true,cond_false,fr]
  have:=ih (t++[e]) (fun x hx=>h x (List.mem_cons_of_mem _ hx)) (by simp at aq ⊢;omega) (by omega)
  rw[List.append_assoc] at this;exact(dM st).trans this
theorem T8{t:List aw}(hl:t.length<=17)(h:pS 2000000 t):is t:=⟨by show t.length<=2097152;omega,fun e he=>by have:=h e he;exact⟨by show e.path.length<=2097152;omega,by show e.text.length<=2097152;omega⟩⟩
theorem aeh(s:B)(hs:s.length<=2000000):∃(ok:Bool) (t:List aw),f127 ((s,()),())=some (((),(ok,())),(t,()))/\t.length<=17/\pS 2000000 t:=by
 obtain⟨ns,g1,g2,g3⟩:=ao5 s s.length s [] (Nat.le_refl _) hs (by decide) (fun x hx=>by cases hx)
 rcases g3 with g3|g3
 ·have hb:=T8 g1 g2;have aq:=vo ((ns,()),()) hb;have aq:f90 ((ns,()),())=some ((dC ns,()),()):=aq;cases hk:dC ns with
  |false=>
   rw[hk] at aq;exact⟨false,ns,by simp only[f127,g3,Option.bind_some,aq,cond_false],g1,g2⟩
  |true=>
   rw[hk] at aq;have hl:=Fv ns (qu hk) hb (jJ hk);exact⟨_,ns,by simp only[f127,g3,Option.bind_some,aq,cond_true,hl];rfl,g1,g2⟩
 ·exact⟨false,ns,by simp only[f127,g3,Option.bind_some],g1,g2⟩
theorem aeg(t:List aw)(h:dC t=true)(hs:(dd t).length<=2000000)(hb:is t):
  f127 ((dd t,()),())=some (((),(true,())),(t,())):=by
 have g1:=ao4 (dd t) t [] (u7 h) (by have:=jJ h;simpa using this) hs
 have aq:=vo ((t,()),()) hb;have aq:f90 ((t,()),())=some ((dC t,()),()):=aq;rw[h] at aq;have hl:=Fv t (qu h) hb (jJ h);simp only[f127,g1,List.nil_append,Option.bind_some,aq,cond_true,hl,beq_self_eq_true]
theorem aiK{n:bx}(h:dD n=true):b' 32 (cK n):=by
 obtain⟨h1,h2⟩:=yu h;have hs:b' 32 (dN n.kind):=by unfold dN;cases n.kind==1<;>cases n.kind==2<;>cases n.kind==3<;>exact b'.lit (by decide)
 refine((Xl h1).cY hs).cY ?_
 rcases h2 with⟨_,h2⟩|⟨_,h2⟩
 ·rw[h2];exact b'.nil _
 ·exact Xd h2
abbrev ig(rest:B)(i:Int)(ns:List bx)(bN vs:B)(lines:List B):vr.J:=(((),((),((),(rest,(i,()))))),(([]:List bx),(([]:List aw),((([]:B),(([]:B),((),((),())))),(ns,(([]:List aw),((bN,(vs,((),((),())))),(lines,()))))))))
abbrev ql(r:B)(ok:Bool)(ns:List bx)(bN vs:B):KO.J:=(((),(r,(ok,()))),(ns,(([]:List aw),((bN,(vs,((),((),())))),()))))
abbrev Od(ns:List bx)(bN vs:B):aC zm:=.inr (((),((),())),(([]:List bx),(([]:List aw),((([]:B),(([]:B),((),((),())))),(ns,(([]:List aw),((bN,(vs,((),((),())))),())))))))
abbrev qm(k:Nat)(r:B)(ns:List bx)(bN vs:B):Prop:=r.length<=k/\ns.length<=9/\ub k ns/\bN.length<=k/\vs.length<=k
theorem ao2(K:Nat)(bT:K<=2000000)(lines:List B)(dK:∀x,x∈lines->x.length<=K):∀(k i:Nat) (rest:B) (ns:List bx) (bN vs:B),k+i=9->rest.length<=K->ns.length<=i->ub K ns->bN.length<=K->vs.length<=K->
  ∃(r:B) (ok:Bool) (kY:List bx) (kZ cv:B),qm K r kY kZ cv/\(lu (ig rest (i:Int) ns bN vs lines)=some (.inl (ql r ok kY kZ cv))\/lu (ig rest (i:Int) ns bN vs lines)=some (Od kY kZ cv)):=by
 intro k;induction k with
 |zero=>
  intro i rest ns bN vs hi hr hn ha h1 h2;refine⟨[],false,ns,bN,vs,⟨Nat.zero_le _,by omega,ha,h1,h2⟩,.inr (cp ?_)⟩
  have d:decide ((i:Int)<=8)=false:=decide_eq_false (by omega)
  simp only[hN,d,cond_false];cases decide ((i:Int)<(lines.length:Int))<;>rfl
 |succ k ih=>
  intro i rest ns bN vs hi hr hn ha h1 h2;have d:decide ((i:Int)<=8)=true:=decide_eq_true (by omega)
  by_cases hlt:i<lines.length
  ·have hx:lines[i]? =some lines[i]:=List.getElem?_eq_getElem hlt;have hxl:=dK _ (List.getElem_mem hlt);generalize lines[i]=x at hx hxl;have hin:be lines.length (i:Int)=some i:=fx hlt;have hw1:IntKind.i64.wrap (((x.length:Nat):Int)+1)=((x.length+1:Nat):Int):=bX (by unfold au;omega)
   have k0:IntKind.i64.wrap (((i:Nat):Int)+1)=((i+1:Nat):Int):=bX (by unfold au;omega)
   have c2:=l8 32 x (by omega) 2
   have c2:f73 ((x,((32:Int),((2:Int),()))),())=_:=c2;have hm:=qo 32 2 x;have hp:=Pw 32 2 x;generalize splitN 32 2 x=ws at c2 hm hp;obtain⟨U,more,rfl⟩:∃U more,ws=U::more:=by
    cases ws with
    |nil=>exact absurd hp (by decide)
    |cons a b=>exact⟨a,b,rfl⟩
   have hJ:be (U::more).length (0:Int)=some 0:=Mh (by simp)
   have dE:(U::more)[0]? =some U:=rfl;by_cases hlen:rest.length<x.length+1
   ·have jG:decide (((rest.length:Nat):Int)<((x.length+1:Nat):Int))=true:=decide_eq_true (by omega)
    refine⟨[],false,ns,bN,vs,⟨Nat.zero_le _,by omega,ha,h1,h2⟩,.inl (cp ?_)⟩
    simp only[hN,cf hlt,d,cond_true,hin,Option.bind_some,hx,c2,hw1,jG]
   ·have jG:decide (((rest.length:Nat):Int)<((x.length+1:Nat):Int))=false:=decide_eq_false (by omega)
    have hs:bm rest ((x.length+1:Nat):Int) ((rest.length:Nat):Int)=some (rest.drop (x.length+1)):=fw (by omega)
    have mG:(rest.drop (x.length+1)).length<=K:=by simp;omega
    generalize rest.drop (x.length+1)=r1 at hs mG;have go:∀(xw:List bx) (DS xm:B),xw.length<=i+1->ub K xw->DS.length<=K->xm.length<=K->hN (ig rest (i:Int) ns bN vs lines)=some (.inl (ig r1 ((i+1:Nat):Int) xw DS xm lines))->
      ∃(r:B) (ok:Bool) (kY:List bx) (kZ cv:B),qm K r kY kZ cv/\(lu (ig rest (i:Int) ns bN vs lines)=some (.inl (ql r ok kY kZ cv))\/lu (ig rest (i:Int) ns bN vs lines)=some (Od kY kZ cv)):=by
     intro xw DS xm q1 q2 dF mR Ew;obtain⟨r,ok,kY,kZ,cv,b,e⟩:=ih (i+1) r1 xw DS xm (by omega) mG q1 q2 dF mR
     exact⟨r,ok,kY,kZ,cv,b,e.imp (dM Ew).trans (dM Ew).trans⟩
    have stop:∀(r:B) (ok:Bool),r.length<=K->hN (ig rest (i:Int) ns bN vs lines)=some (.inr (.inl (ql r ok ns bN vs)))->
      ∃(r:B) (ok:Bool) (kY:List bx) (kZ cv:B),qm K r kY kZ cv/\(lu (ig rest (i:Int) ns bN vs lines)=some (.inl (ql r ok kY kZ cv))\/lu (ig rest (i:Int) ns bN vs lines)=some (Od kY kZ cv)):=
     fun r ok q1 q2=>⟨r,ok,ns,bN,vs,⟨q1,by omega,ha,h1,h2⟩,.inl (cp q2)⟩
    match i,hn,hi,hin,k0,hlt,hx,d,go,stop,ih with
    |0,hn,hi,hin,k0,hlt,hx,d,go,stop,ih=>
     refine go ns bN vs (by omega) ha h1 h2 ?_
     have t1:((((0:Nat):Int))==1)=false:=rfl;have t2:decide ((((0:Nat):Int))>1)=false:=rfl;have t3:decide ((((0:Nat):Int))>0)=false:=rfl;simp only[hN,cf hlt,d,cond_true,hin,Option.bind_some,hx,c2,hw1,jG,cond_false,hs,lo,t1,l7,t2,nX,t3,k0]
    |1,hn,hi,hin,k0,hlt,hx,d,go,stop,ih=>
     have t1:((((1:Nat):Int))==1)=true:=rfl;have t2:decide ((((1:Nat):Int))>1)=false:=rfl;have t3:decide ((((1:Nat):Int))>0)=true:=rfl;cases hc:(U==([112,97,99,107]:B))&&(((U::more).length:Int)==3) with
     |true=>
      rw[Bool.and_eq_true] at hc;obtain⟨aZ,w2,rfl⟩:∃aZ w2,more=[aZ,w2]:=by
       have:more.length=2:=by have:=eq_of_beq hc.2;simp at this;omega
       match more,this with
       |[a,b],_=>exact⟨a,b,rfl⟩
      refine go ns aZ w2 (by omega) ha (by have:=hm aZ (by simp);omega) (by have:=hm w2 (by simp);omega) ?_
      have l2:be ([U,aZ,w2]:List B).length (1:Int)=some 1:=rfl;have qg:be ([U,aZ,w2]:List B).length (2:Int)=some 2:=rfl;have cH:([U,aZ,w2]:List B)[1]? =some aZ:=rfl;have dm:([U,aZ,w2]:List B)[2]? =some w2:=rfl;simp only[hN,cf hlt,d,cond_true,hin,Option.bind_some,hx,c2,hw1,jG,cond_false,hs,lo,t1,hJ,dE,hc.1,hc.2,l2,qg,cH,dm,k0]
     |false=>
      refine stop [] false (Nat.zero_le _) ?_
      simp only[hN,cf hlt,d,cond_true,hin,Option.bind_some,hx,c2,hw1,jG,cond_false,hs,lo,t1,hJ,dE];cases bl:U==([112,97,99,107]:B) with
      |false=>simp only[cond_false,Option.bind_some,l7,t2,nX,t3,cond_true]
      |true=>
       rw[bl,Bool.true_and] at hc;simp only[cond_true,hc,cond_false,Option.bind_some,l7,t2,nX,t3]
    |j+2,hn,hi,hin,k0,hlt,hx,d,go,stop,ih=>
     have t1:((((j+2:Nat):Int))==1)=false:=by rw[beq_eq_false_iff_ne];omega
     have t2:decide ((((j+2:Nat):Int))>1)=true:=decide_eq_true (by omega)
     have t3:decide ((((j+2:Nat):Int))>0)=true:=decide_eq_true (by omega)
     cases hxe:x==([]:B) with
     |true=>
      refine stop r1 true mG ?_
      simp only[hN,cf hlt,d,cond_true,hin,Option.bind_some,hx,c2,hw1,jG,cond_false,hs,lo,t1,l7,t2,hxe]
     |false=>
      cases hc:(U==([110,101,101,100]:B))&&(((U::more).length:Int)==2) with
      |true=>
       rw[Bool.and_eq_true] at hc;obtain⟨aZ,rfl⟩:∃aZ,more=[aZ]:=by
        have:more.length=1:=by have:=eq_of_beq hc.2;simp at this;omega
        match more,this with
        |[a],_=>exact⟨a,rfl⟩
       have aBT:=hm aZ (by simp)
       obtain⟨n,ok,e1,e2,br⟩:=afx aZ (by omega)
       have fr:b9 40 ns ([(bx.mk n.name n.kind n.aW)]:List bx)=some (ns++[n]):=di (by decide) (by unfold au;simp;omega)
       refine go (ns++[n]) bN vs (by simp;omega) (fun z hz=>by
        rcases List.mem_append.1 hz with hz|hz
        ·exact ha z hz
        ·rw[List.mem_singleton.1 hz];exact⟨by omega,by omega⟩) h1 h2 ?_
       have l2:be ([U,aZ]:List B).length (1:Int)=some 1:=rfl;have cH:([U,aZ]:List B)[1]? =some aZ:=rfl;simp only[hN,cf hlt,d,cond_true,hin,Option.bind_some,hx,c2,hw1,jG,cond_false,hs,lo,t1,l7,t2,hxe,nX,hJ,dE,hc.1,hc.2,l2,cH,e1,fr,k0]
      |false=>
       refine stop [] false (Nat.zero_le _) ?_
       simp only[hN,cf hlt,d,cond_true,hin,Option.bind_some,hx,c2,hw1,jG,cond_false,hs,lo,t1,l7,t2,hxe,nX,hJ,dE];cases bl:U==([110,101,101,100]:B) with
       |false=>simp only[cond_false,Option.bind_some,t3,cond_true]
       |true=>
        rw[bl,Bool.true_and] at hc;simp only[cond_true,hc,cond_false,Option.bind_some,t3]
  ·have aAV:decide ((i:Int)<(lines.length:Int))=false:=decide_eq_false (by omega)
   refine⟨[],false,ns,bN,vs,⟨Nat.zero_le _,by omega,ha,h1,h2⟩,.inr (cp ?_)⟩
   simp only[hN,aAV,cond_false]
theorem aeS(s:B)(hs:s.length<=2000000):∃(r:B) (ok:Bool) (ns:List bx) (bN vs:B),f126 ((s,()),())=some (ql r ok ns bN vs)/\qm s.length r ns bN vs:=by
 have hw:IntKind.i64.wrap (((s.length:Nat):Int)+1)=((s.length+1:Nat):Int):=bX (by unfold au;omega)
 have c1:=l8 10 s (by omega) (s.length+1)
 have c1:f73 ((s,((10:Int),(((s.length+1:Nat):Int),()))),())=_:=c1;obtain⟨r,ok,ns,bN,vs,hb,e⟩:=ao2 s.length hs (splitN 10 (s.length+1) s) (qo 10 _ s) 9 0 s [] [] [] rfl (Nat.le_refl _) (Nat.zero_le _) (fun x hx=>by cases hx) (Nat.zero_le _) (Nat.zero_le _)
 rcases e with e|e
 ·have e:lu (ig s (0:Int) [] [] [] (splitN 10 (s.length+1) s))=_:=e;refine⟨r,ok,ns,bN,vs,?_,hb⟩;simp only[f126,hw,c1,Option.bind_some,e]
 ·have e:lu (ig s (0:Int) [] [] [] (splitN 10 (s.length+1) s))=_:=e;refine⟨[],false,ns,bN,vs,?_,⟨Nat.zero_le _,hb.2⟩⟩;simp only[f126,hw,c1,Option.bind_some,e]
noncomputable abbrev azn:a_:=[(50,El),(123,LF),(126,_0),(127,_Z)]
theorem Ny:aR O (aX ad azn):=aV ⟨LY,Xc,ast,z127,⟨⟩⟩
abbrev Uy:Shape:=⟨[ak 0,ay 2 2 0,ay 4 4 0,ak 5,ap 6],[bp 5000130 .need 2 2,bp 5000131 .entry 2 3,ax 2 [ah,ah,.own 5000130,.own 5000131],bp 5000258 .need 4 2,bp 5000259 .entry 4 3,ax 4 [ah,ah,.own 5000258,.own 5000259]],45⟩
abbrev Ul:List aP:=[(.norm,⟨[ak 0,ay 2 2 0,ay 4 4 0,ak 5,ap 21],[bp 5000130 .need 2 2,bp 5000131 .entry 2 3,ax 2 [ah,ah,.own 5000130,.own 5000131],bp 5000258 .need 4 2,bp 5000259 .entry 4 3,ax 4 [ah,ah,.own 5000258,.own 5000259]],45⟩)]
noncomputable def ol(y:Uy.J):Option (aC Ul):=
 bif(!(!y.1.2.2.2.2.1)) then
 some ((y.1.1,(),(),y.1.2.2.2.1,(decide ((y.1.1.length:Int)>(4000:Int))),()),y.2.1,y.2.2.1,(y.2.2.2.1.1,y.2.2.2.1.2.1,(),(),()),y.2.2.2.2.1,y.2.2.2.2.2.1,(y.2.2.2.2.2.2.1.1,y.2.2.2.2.2.2.1.2.1,(),(),()),())
else
 some ((y.1.1,(),(),y.1.2.2.2.1,true,()),y.2.1,y.2.2.1,(y.2.2.2.1.1,y.2.2.2.1.2.1,(),(),()),y.2.2.2.2.1,y.2.2.2.2.2.1,(y.2.2.2.2.2.2.1.1,y.2.2.2.2.2.2.1.2.1,(),(),()),())
theorem aoA:aT O (an (codeOf Tryz.f76) 1 28) (aU Uy Ul ol):=ce Ny (by kernel_rfl) ae fun y=>by kernel_rfl
abbrev S4:Shape:=⟨[ak 0,ay 2 2 0,ay 4 4 0,ap 8],[bp 5000130 .need 2 2,bp 5000131 .entry 2 3,ax 2 [ah,ah,.own 5000130,.own 5000131],bp 5000258 .need 4 2,bp 5000259 .entry 4 3,ax 4 [ah,ah,.own 5000258,.own 5000259]],45⟩
abbrev SI:List aP:=[(.norm,⟨[ay 2 2 0,ay 4 4 0,ap 42],[bp 5000130 .need 2 2,bp 5000131 .entry 2 3,ax 2 [ah,ah,.own 5000130,.own 5000131],bp 5000258 .need 4 2,bp 5000259 .entry 4 3,ax 4 [ah,ah,.own 5000258,.own 5000259]],45⟩)]
noncomputable def qQ(y:S4.J):Option (aC SI):=
 bif(!(!y.1.2.2.2.1)) then
(f50 (((y.2.2.2.2.2.2.1.1,y.2.2.2.2.2.2.1.2.1,y.2.2.2.2.1,y.2.2.2.2.2.1,()),()),())).bind fun a=>
 bif(!(!a.1.1)) then
(f123 (((y.2.2.2.2.2.2.1.1,y.2.2.2.2.2.2.1.2.1,y.2.2.2.2.1,y.2.2.2.2.2.1,()),()),())).bind fun b=>
 some (((),(),(!(b.1.1==y.1.1)),()),y.2.1,y.2.2.1,(y.2.2.2.1.1,y.2.2.2.1.2.1,(),(),()),y.2.2.2.2.1,y.2.2.2.2.2.1,(y.2.2.2.2.2.2.1.1,y.2.2.2.2.2.2.1.2.1,(),(),()),())
else
 some (((),(),true,()),y.2.1,y.2.2.1,(y.2.2.2.1.1,y.2.2.2.1.2.1,(),(),()),y.2.2.2.2.1,y.2.2.2.2.2.1,(y.2.2.2.2.2.2.1.1,y.2.2.2.2.2.2.1.2.1,(),(),()),())
else
 some (((),(),true,()),y.2.1,y.2.2.1,(y.2.2.2.1.1,y.2.2.2.1.2.1,(),(),()),y.2.2.2.2.1,y.2.2.2.2.2.1,(y.2.2.2.2.2.2.1.1,y.2.2.2.2.2.2.1.2.1,(),(),()),())
theorem alZ:aT O (an (codeOf Tryz.f76) 1 252) (aU S4 SI qQ):=ce Ny (by kernel_rfl) ae fun y=>by kernel_rfl
abbrev i76:Shape:=⟨[ak 0],[],45⟩
abbrev xq:Shape:=⟨[ay 2 2 0,ap 3],[bp 5000130 .need 2 2,bp 5000131 .entry 2 3,ax 2 [ah,ah,.own 5000130,.own 5000131]],45⟩
noncomputable def f76(a:i76.J):Option xq.J:=
(f126 ((a.1.1,()),())).bind fun b=>
(ol ((a.1.1,(),(),b.1.2.1,b.1.2.2.1,()),([]:List bx),([]:List aw),(([]:B),([]:B),(),(),()),b.2.1,b.2.2.1,(b.2.2.2.1.1,b.2.2.2.1.2.1,(),(),()),())).bind fun c=>
 bif c.1.2.2.2.2.1 then
 some (((),false,()),([]:List bx),([]:List aw),(([]:B),([]:B),(),(),()),())
else
(f127 ((c.1.2.2.2.1,()),())).bind fun d=>
(qQ ((c.1.1,(),(),d.1.2.1,()),c.2.1,c.2.2.1,(c.2.2.2.1.1,c.2.2.2.1.2.1,(),(),()),c.2.2.2.2.1,d.2.1,(c.2.2.2.2.2.2.1.1,c.2.2.2.2.2.2.1.2.1,(),(),()),())).bind fun e=>
 bif e.1.2.2.1 then
 some (((),false,()),([]:List bx),([]:List aw),(([]:B),([]:B),(),(),()),())
else
 some (((),true,()),e.2.2.2.2.1,e.2.2.2.2.2.1,(e.2.2.2.2.2.2.1.1,e.2.2.2.2.2.2.1.2.1,(),(),()),())
noncomputable def acN:aD:=aH ad Tryz.f76 i76 xq [] f76
theorem z76:aB O 76 acN:=aK Ny Tryz.func76 (by kernel_rfl) (a8 aoA (a8 alZ ae)) (fun y=>by kernel_rfl) fun a=>by kernel_rfl
def eo(n:bx):B:=fO++32::cK n
theorem apd{n:bx}(h:dD n=true):b' 10 (eo n):=(b'.lit (by decide)).cY fun z hz=>by
 rcases List.mem_cons.1 hz with rfl|hz
 ·decide
 ·exact Tj h z hz
theorem R8(n:bx)(r:B):cz n++r=eo n++10::r:=by unfold cz eo fO;simp
theorem ao1:∀(ns acc:List bx) (pre more:List B) (L bN vs:B),(∀n,n∈ns->dD n=true)->2<=pre.length->acc.length<=pre.length->pre.length+ns.length<=8->(ns.flatMap cz++10::L).length<=2000000->
  lu (ig (ns.flatMap cz++10::L) (pre.length:Int) acc bN vs (pre++(ns.map eo++[]::more)))=some (.inl (ql L true (acc++ns) bN vs)):=by
 intro ns;induction ns with
 |nil=>
  intro acc pre more L bN vs _ hp _ hi hs;have hlt:pre.length<(pre++(([]:List bx).map eo++[]::more)).length:=by simp
  have hx:(pre++(([]:List bx).map eo++[]::more))[pre.length]? =some []:=by rw[List.getElem?_append_right (Nat.le_refl _)];simp
  have hin:=fx hlt;have d:decide ((pre.length:Int)<=8)=true:=decide_eq_true (by simp at hi;omega)
  have c2:=l8 32 [] (by simp) 2
  have c2:f73 ((([]:B),((32:Int),((2:Int),()))),())=some (((),()),([[]],())):=c2;have hw1:IntKind.i64.wrap (((([]:B).length:Nat):Int)+1)=((1:Nat):Int):=by decide
  have jG:decide (((((10:UInt8)::L).length:Nat):Int)<((1:Nat):Int))=false:=decide_eq_false (by simp only[List.length_cons];omega)
  have jA:bm ((10:UInt8)::L) ((1:Nat):Int) ((((10:UInt8)::L).length:Nat):Int)=some L:=fw (xs:=(10:UInt8)::L) (by simp)
  have t1:((pre.length:Int)==1)=false:=by rw[beq_eq_false_iff_ne];omega
  have t2:decide ((pre.length:Int)>1)=true:=decide_eq_true (by omega)
  have hxe:(([]:B)==([]:B))=true:=rfl;rw[List.append_nil];refine cp ?_
  show hN (ig (10::L) (pre.length:Int) acc bN vs _)=_;simp only[hN,cf hlt,d,cond_true,hin,Option.bind_some,hx,c2,hw1,jG,cond_false,jA,lo,t1,l7,t2,hxe]
 |cons n ns ih=>
  intro acc pre more L bN vs h hp ha hi hs;have hk:=h n List.mem_cons_self;have hE:(n::ns).flatMap cz++10::L=eo n++10::(ns.flatMap cz++10::L):=by rw[List.flatMap_cons,List.append_assoc,R8]
  rw[hE] at hs ⊢;have hR:pre++((n::ns).map eo++[]::more)=(pre++[eo n])++(ns.map eo++[]::more):=by simp
  have hlt:pre.length<(pre++((n::ns).map eo++[]::more)).length:=by simp
  have hx:(pre++((n::ns).map eo++[]::more))[pre.length]? =some (eo n):=by rw[List.getElem?_append_right (Nat.le_refl _)];simp
  have hin:=fx hlt;have aCj:(eo n).length=fO.length+1+(cK n).length:=by unfold eo;simp;omega
  simp only[List.length_append,List.length_cons] at hs hi;have d:decide ((pre.length:Int)<=8)=true:=decide_eq_true (by omega)
  have rA:splitN 32 2 (eo n)=[fO,cK n]:=by
   have hn:b' 32 fO:=b'.lit (by decide)
   unfold eo;rw[Px hn,Qp (aiK hk)]
  have c2:=l8 32 (eo n) (by omega) 2
  rw[rA] at c2;have c2:f73 ((eo n,((32:Int),((2:Int),()))),())=some (((),()),([fO,cK n],())):=c2;have hw1:IntKind.i64.wrap ((((eo n).length:Nat):Int)+1)=(((eo n).length+1:Nat):Int):=bX (by unfold au;omega)
  have k0:IntKind.i64.wrap (((pre.length:Nat):Int)+1)=((pre.length+1:Nat):Int):=bX (by unfold au;omega)
  have jG:decide ((((eo n++10::(ns.flatMap cz++10::L)).length:Nat):Int)<(((eo n).length+1:Nat):Int))=false:=decide_eq_false (by simp;omega)
  have jA:bm (eo n++10::(ns.flatMap cz++10::L)) (((eo n).length+1:Nat):Int) (((eo n++10::(ns.flatMap cz++10::L)).length:Nat):Int)=some (ns.flatMap cz++10::L):=by
   rw[fw (by simp only[List.length_append,List.length_cons];omega)]
   refine congrArg some ?_
   rw[show eo n++10::(ns.flatMap cz++10::L)=(eo n++[10])++(ns.flatMap cz++10::L) by simp,List.drop_left' (by simp)]
  have t1:((pre.length:Int)==1)=false:=by rw[beq_eq_false_iff_ne];omega
  have t2:decide ((pre.length:Int)>1)=true:=decide_eq_true (by omega)
  have hxe:(eo n==([]:B))=false:=rfl;have hJ:be ([fO,cK n]:List B).length (0:Int)=some 0:=rfl;have l2:be ([fO,cK n]:List B).length (1:Int)=some 1:=rfl;have dE:([fO,cK n]:List B)[0]? =some fO:=rfl;have cH:([fO,cK n]:List B)[1]? =some (cK n):=rfl;have q0:(fO==([110,101,101,100]:B))=true:=rfl;have q2:((([fO,cK n]:List B).length:Int)==2)=true:=rfl;obtain⟨ok,e1⟩:=afw hk (by omega)
  have fr:b9 40 acc ([(bx.mk n.name n.kind n.aW)]:List bx)=some (acc++[n]):=di (by decide) (by unfold au;simp;omega)
  have st:hN (ig (eo n++10::(ns.flatMap cz++10::L)) (pre.length:Int) acc bN vs (pre++((n::ns).map eo++[]::more)))=some (.inl (ig (ns.flatMap cz++10::L) ((pre.length+1:Nat):Int) (acc++[n]) bN vs (pre++((n::ns).map eo++[]::more)))):=by
   simp only[hN,cf hlt,d,cond_true,hin,Option.bind_some,hx,c2,hw1,jG,cond_false,jA,lo,t1,l7,t2,hxe,nX,hJ,dE,q0,q2,l2,cH,e1,fr,k0]
  have:=ih (acc++[n]) (pre++[eo n]) more L bN vs (fun x hx=>h x (List.mem_cons_of_mem _ hx)) (by simp;omega) (by simp;omega) (by simp;omega) (by simp only[List.length_append,List.length_cons];omega)
  rw[<-hR,List.append_assoc] at this;have pX:(pre++[eo n]).length=pre.length+1:=by simp
  rw[pX] at this;exact(dM st).trans this
theorem af5(ns:List bx)(r:B)(h:∀n,n∈ns->dD n=true):bF 10 (ns.flatMap cz++10::r)=ns.map eo++[]::bF 10 r:=by
 induction ns with
 |nil=>exact su (a:=[]) (b'.nil 10)
 |cons n ns ih=>
  rw[List.flatMap_cons,List.append_assoc,R8,su (apd (h n List.mem_cons_self)),ih fun x hx=>h x (List.mem_cons_of_mem _ hx)]
  rfl
theorem alR(p:aG):b' 10 (eO p):=(b'.lit (by decide)).cY (SY _)
theorem aeR(p:aG)(hk:cj p=true)(hs:(bw p).length<=2000000):f126 ((bw p,()),())=some (ql (dd p.bB) true p.bi p.name p.aW):=by
 have hw:IntKind.i64.wrap ((((bw p).length:Nat):Int)+1)=(((bw p).length+1:Nat):Int):=bX (by unfold au;omega)
 have c1:=l8 10 (bw p) (by omega) ((bw p).length+1)
 obtain⟨h1,h2,h3,aA,_,ca⟩:=mW hk;have j6:splitN 10 ((bw p).length+1) (bw p)=eO p::d' p::(p.bi.map eo++[]::bF 10 (dd p.bB)):=by
  rw[yB 10 _ _ (by omega),vG,su (alR p),vx,su (Sg hk),iR,af5 _ _ h3]
 rw[j6] at c1;have c1:f73 ((bw p,((10:Int),((((bw p).length+1:Nat):Int),()))),())=_:=c1;generalize aAO:p.bi.map eo++[]::bF 10 (dd p.bB)=fi at c1;have uQ:bw p=eO p++10::dv p:=vG p;have hB:dv p=d' p++10::iR p:=vx p;have dP:(bw p).length=(eO p).length+1+(dv p).length:=by rw[uQ];simp;omega
 have fC:(dv p).length=(d' p).length+1+(iR p).length:=by rw[hB];simp;omega
 have hlt:∀i,i<2->decide (((i:Nat):Int)<(((eO p::d' p::fi).length:Nat):Int))=true:=fun i hi=>decide_eq_true (by simp;omega)
 have i0:be (eO p::d' p::fi).length (0:Int)=some 0:=Mh (by simp)
 have i1:be (eO p::d' p::fi).length ((0+1:Nat):Int)=some 1:=Mg (by simp)
 have fh:(eO p::d' p::fi)[0]? =some (eO p):=rfl;have eh:(eO p::d' p::fi)[1]? =some (d' p):=rfl;have iz:hN (ig (bw p) (0:Int) [] [] [] (eO p::d' p::fi))=some (.inl (ig (dv p) ((0+1:Nat):Int) [] [] [] (eO p::d' p::fi))):=by
  have d:decide ((0:Int)<=8)=true:=rfl;have d0:decide ((0:Int)<(((eO p::d' p::fi).length:Nat):Int))=true:=hlt 0 (by decide)
  have c2:=l8 32 (eO p) (by omega) 2
  have c2:f73 ((eO p,((32:Int),((2:Int),()))),())=_:=c2;have hw1:IntKind.i64.wrap ((((eO p).length:Nat):Int)+1)=(((eO p).length+1:Nat):Int):=bX (by unfold au;omega)
  have jG:decide ((((bw p).length:Nat):Int)<(((eO p).length+1:Nat):Int))=false:=decide_eq_false (by omega)
  have jA:bm (bw p) (((eO p).length+1:Nat):Int) (((bw p).length:Nat):Int)=some (dv p):=by
   rw[fw (by omega)]
   refine congrArg some ?_
   rw[uQ,show eO p++10::dv p=(eO p++[10])++dv p by simp,List.drop_left' (by simp)]
  have t1:((0:Int)==1)=false:=rfl;have t2:decide ((0:Int)>1)=false:=rfl;have t3:decide ((0:Int)>0)=false:=rfl;have k0:IntKind.i64.wrap ((0:Int)+1)=((0+1:Nat):Int):=by decide
  simp only[hN,d0,d,cond_true,i0,Option.bind_some,fh,c2,hw1,jG,cond_false,jA,lo,t1,l7,t2,nX,t3,k0]
 have s1:hN (ig (dv p) ((0+1:Nat):Int) [] [] [] (eO p::d' p::fi))=some (.inl (ig (iR p) ((([eO p,d' p]:List B).length:Nat):Int) [] p.name p.aW (eO p::d' p::fi))):=by
  have d:decide (((0+1:Nat):Int)<=8)=true:=rfl;have d0:=hlt 1 (by decide)
  have d0:decide (((0+1:Nat):Int)<(((eO p::d' p::fi).length:Nat):Int))=true:=d0;have rA:splitN 32 2 (d' p)=[iF,p.name,p.aW]:=by
   rw[yC 32 2 _ (by rw[E5 hk];exact Nat.le_refl 3),E5 hk]
  have c2:=l8 32 (d' p) (by omega) 2
  rw[rA] at c2;have c2:f73 ((d' p,((32:Int),((2:Int),()))),())=some (((),()),([iF,p.name,p.aW],())):=c2;have hw1:IntKind.i64.wrap ((((d' p).length:Nat):Int)+1)=(((d' p).length+1:Nat):Int):=bX (by unfold au;omega)
  have jG:decide ((((dv p).length:Nat):Int)<(((d' p).length+1:Nat):Int))=false:=decide_eq_false (by omega)
  have jA:bm (dv p) (((d' p).length+1:Nat):Int) (((dv p).length:Nat):Int)=some (iR p):=by
   rw[fw (by omega)]
   refine congrArg some ?_
   rw[hB,show d' p++10::iR p=(d' p++[10])++iR p by simp,List.drop_left' (by simp)]
  have t1:(((0+1:Nat):Int)==1)=true:=rfl;have hJ:be ([iF,p.name,p.aW]:List B).length (0:Int)=some 0:=rfl;have l2:be ([iF,p.name,p.aW]:List B).length (1:Int)=some 1:=rfl;have qg:be ([iF,p.name,p.aW]:List B).length (2:Int)=some 2:=rfl;have dE:([iF,p.name,p.aW]:List B)[0]? =some iF:=rfl;have cH:([iF,p.name,p.aW]:List B)[1]? =some p.name:=rfl;have dm:([iF,p.name,p.aW]:List B)[2]? =some p.aW:=rfl;have q0:(iF==([112,97,99,107]:B))=true:=rfl;have dF:((([iF,p.name,p.aW]:List B).length:Int)==3)=true:=rfl;have k0:IntKind.i64.wrap (((0+1:Nat):Int)+1)=((([eO p,d' p]:List B).length:Nat):Int):=by show IntKind.i64.wrap (((0+1:Nat):Int)+1)=((2:Nat):Int);decide
  simp only[hN,d0,d,cond_true,i1,Option.bind_some,eh,c2,hw1,jG,cond_false,jA,lo,t1,hJ,dE,q0,dF,l2,qg,cH,dm,k0]
 have s2:=ao1 p.bi [] [eO p,d' p] (bF 10 (dd p.bB)) (dd p.bB) p.name p.aW h3 (Nat.le_refl 2) (Nat.zero_le _) (by simp;omega) (by show(iR p).length<=_;omega)
 rw[aAO] at s2;have e:lu (ig (bw p) (0:Int) [] [] [] (eO p::d' p::fi))=some (.inl (ql (dd p.bB) true p.bi p.name p.aW)):=(dM iz).trans ((dM s1).trans s2);simp only[f126,hw,c1,Option.bind_some,e]
abbrev si(p:aG):xq.J:=(((),(true,())),(p.bi,(p.bB,((p.name,(p.aW,((),((),())))),()))))
abbrev N_:xq.J:=(((),(false,())),(([]:List bx),(([]:List aw),((([]:B),(([]:B),((),((),())))),()))))
theorem apw{p q:aG}(h:si p=si q):p=q:=by
 obtain⟨a,b,c,d⟩:=p;obtain⟨cS,bH,fu,adQ⟩:=q;simp only[si,Prod.mk.injEq] at h;obtain⟨_,rfl,rfl,⟨rfl,rfl,_⟩,_⟩:=h;rfl
theorem EP{p:aG}(hk:cj p=true)(hl:(bw p).length<=4000):f76 ((bw p,()),())=some (si p):=by
 have hb:=Jt hk hl;obtain⟨h1,h2,h3,aA,_,ca⟩:=mW hk;obtain⟨q1,q2,dF,mR⟩:=yJ p;have c1:=aeR p hk (by omega)
 have d:decide (((bw p).length:Int)>4000)=false:=decide_eq_false (by omega)
 have c2:=aeg p.bB ca (by omega) hb.2.2.2
 have c3:=vq (((p.name,(p.aW,(p.bi,(p.bB,())))),()),()) hb;have c3:f50 (((p.name,(p.aW,(p.bi,(p.bB,())))),()),())=some ((cj p,()),()):=c3;rw[hk] at c3;have df:=Hm p hb hk;simp only[f76,c1,Option.bind_some,ol,Bool.not_true,Bool.not_false,cond_true,d,cond_false,c2,qQ,c3,df,beq_self_eq_true]
theorem aex(s:B)(hs:s.length<=2000000):f76 ((s,()),())=some N_\/∃p:aG,f76 ((s,()),())=some (si p)/\cj p=true/\bw p=s/\s.length<=4000:=by
 obtain⟨r,ok,ns,bN,vs,c1,aE,aF,bJ,cL,fV⟩:=aeS s hs;cases ok with
 |false=>
  refine .inl ?_
  simp only[f76,c1,Option.bind_some,ol,Bool.not_true,Bool.not_false,cond_true,cond_false]
 |true=>
  by_cases hl:s.length<=4000
  ·have d:decide ((s.length:Int)>4000)=false:=decide_eq_false (by omega)
   obtain⟨L9,t,c2,iB,yd⟩:=aeh r (by omega)
   cases L9 with
   |false=>
    refine .inl ?_
    simp only[f76,c1,Option.bind_some,ol,Bool.not_true,Bool.not_false,cond_true,d,cond_false,c2,qQ]
   |true=>
    have hb:jD ⟨bN,vs,ns,t⟩:=⟨by show bN.length<=2097152;omega,by show vs.length<=2097152;omega,⟨by show ns.length<=2097152;omega,fun n hn=>by have:=bJ n hn;exact⟨by show n.name.length<=2097152;omega,by show n.aW.length<=2097152;omega⟩⟩,T8 iB yd⟩
    have c3:=vq (((bN,(vs,(ns,(t,())))),()),()) hb;have c3:f50 (((bN,(vs,(ns,(t,())))),()),())=some ((cj ⟨bN,vs,ns,t⟩,()),()):=c3;cases hk:cj ⟨bN,vs,ns,t⟩ with
    |false=>
     rw[hk] at c3;refine .inl ?_
     simp only[f76,c1,Option.bind_some,ol,Bool.not_true,Bool.not_false,cond_true,d,cond_false,c2,qQ,c3]
    |true=>
     rw[hk] at c3;have df:=Hm ⟨bN,vs,ns,t⟩ hb hk;have df:f123 (((bN,(vs,(ns,(t,())))),()),())=_:=df;cases he:bw ⟨bN,vs,ns,t⟩==s with
     |false=>
      refine .inl ?_
      simp only[f76,c1,Option.bind_some,ol,Bool.not_true,Bool.not_false,cond_true,d,cond_false,c2,qQ,c3,df,he]
     |true=>
      refine .inr ⟨⟨bN,vs,ns,t⟩,?_,hk,eq_of_beq he,hl⟩;simp only[f76,c1,Option.bind_some,ol,Bool.not_true,Bool.not_false,cond_true,d,cond_false,c2,qQ,c3,df,he]
  ·have d:decide ((s.length:Int)>4000)=true:=decide_eq_true (by omega)
   refine .inl ?_
   simp only[f76,c1,Option.bind_some,ol,Bool.not_true,Bool.not_false,cond_true,d]
def aA0(D:Option aG):xq.J:=match D with|some p=>si p|none=>N_
theorem ahQ(s:B)(hs:s.length<=2000000):∃D:Option aG,f76 ((s,()),())=some (aA0 D)/\ly D (abT s):=by
 rcases aex s hs with h|⟨p,h,h1,h2,h3⟩
 ·refine⟨none,h,fun p=>⟨fun hp=>(by cases hp),fun⟨q1,q2,dF⟩=>?_⟩⟩
  subst q2;have:=EP q1 dF;rw[h] at this;simp only[Option.some.injEq,Prod.mk.injEq] at this;exact absurd this.1.2.1 (by decide)
 ·refine⟨some p,h,fun q=>⟨fun hp=>?_,fun⟨q1,q2,dF⟩=>?_⟩⟩
  ·cases hp;exact⟨h1,h2,h3⟩
  ·subst q2;have:=EP q1 dF;rw[h] at this;rw[apw (Option.some.inj this)]
noncomputable abbrev azF:a_:=[(30,uH),(70,Ej),(73,qd),(74,Ei),(75,oS),(76,acN)]
theorem Er:aR O (aX ad azF):=aV ⟨xk,z70,rs,LW,z75,z76,⟨⟩⟩
abbrev RQ:Shape:=⟨[ak 0,ay 2 2 0,ay 4 4 0,ba 6 3000384,ag 7],[bp 5000128 .pack 2 0,ax 2 [.own 5000128],bp 5000256 .pack 4 0,ax 4 [.own 5000256],a' 3000384 .str 6 0],73⟩
abbrev Rw:List aP:=[(.norm,⟨[ak 0,ay 2 2 0,ay 4 4 0,ba 6 3000384,ag 7,ap 37],[bp 5000128 .pack 2 0,ax 2 [.own 5000128],bp 5000256 .pack 4 0,ax 4 [.own 5000256],a' 3000384 .str 6 0],73⟩)]
noncomputable def qE(y:RQ.J):Option (aC Rw):=
 bif(!(decide ((y.2.2.2.2.2.1.length:Int)<(2:Int)))) then
(be y.2.2.2.2.2.1.length (1:Int)).bind fun a=>
(y.2.2.2.2.2.1[a]?).bind fun b=>
(f75 ((y.1.2.2.2.2.1,(1:Int),(b.length:Int),()),())).bind fun c=>
 some ((y.1.1,(),(),(),y.1.2.2.2.2.1,(!c.1.1),()),y.2.1,((),()),y.2.2.2.1,((),()),y.2.2.2.2.2.1,())
else
 some ((y.1.1,(),(),(),y.1.2.2.2.2.1,true,()),y.2.1,((),()),y.2.2.2.1,((),()),y.2.2.2.2.2.1,())
theorem akg:aT O (an (c4 (an (codeOf Tryz.f39) 1 60)) 120 7724) (aU RQ Rw qE):=ce Er (by kernel_rfl) ae fun y=>by kernel_rfl
abbrev vZ:Shape:=⟨[ak 0,ay 2 2 0,ay 4 4 0,ak 5],[bp 5000128 .pack 2 0,ax 2 [.own 5000128],bp 5000256 .pack 4 0,ax 4 [.own 5000256]],73⟩
abbrev BH:List aP:=[(.ret,⟨[ay 2 2 0,ap 3],[bp 5000128 .pack 2 0,ax 2 [.own 5000128]],73⟩),(.exit 0,⟨[ak 0,ay 2 2 0,ay 4 4 0],[bp 5000128 .pack 2 0,ax 2 [.own 5000128],bp 5000256 .pack 4 0,ax 4 [.own 5000256]],73⟩)]
noncomputable def om(y:vZ.J):bG vZ BH:=
 bif(!(y.1.2.2.2.1==([]:B))) then
 bif(decide ((y.2.2.2.1.length:Int)<=(5:Int))) then
(f73 ((y.1.2.2.2.1,(10:Int),(1:Int),()),())).bind fun a=>
(be a.2.1.length (0:Int)).bind fun b=>
(a.2.1[b]?).bind fun c=>
(f74 ((c,()),())).bind fun d=>
(qE ((y.1.1,(),(),(),d.1.1,()),y.2.1,((),()),y.2.2.2.1,((),()),a.2.1,())).bind fun e=>
 bif e.1.2.2.2.2.2.1 then
 some (.inr (.inl (((),false,()),([]:List aG),((),()),())))
else
(be e.2.2.2.2.2.1.length (1:Int)).bind fun f=>
(e.2.2.2.2.2.1[f]?).bind fun g=>
(bm g (0:Int) e.1.2.2.2.2.1).bind fun h=>
(f76 ((h,()),())).bind fun i=>
 bif(!i.1.2.1) then
 some (.inr (.inl (((),false,()),([]:List aG),((),()),())))
else
(b9 80 e.2.2.2.1 ([(aG.mk i.2.2.2.1.1 i.2.2.2.1.2.1 i.2.1 i.2.2.1)]:List aG)).bind fun j=>
(be e.2.2.2.2.2.1.length (1:Int)).bind fun k=>
(e.2.2.2.2.2.1[k]?).bind fun l=>
(bm l e.1.2.2.2.2.1 (l.length:Int)).bind fun m=>
 some (.inl ((e.1.1,(),(),m,()),e.2.1,((),()),j,((),()),()))
else
 some (.inr (.inr ((y.1.1,(),(),()),y.2.1,((),()),y.2.2.2.1,((),()),())))
else
 some (.inr (.inr ((y.1.1,(),(),()),y.2.1,((),()),y.2.2.2.1,((),()),())))
noncomputable def v_:vZ.J->Option (aC BH):=bu om
theorem aoO:aT O (an (codeOf Tryz.f39) 1 60) (aU vZ BH v_):=bI Er (by kernel_rfl) (a8 akg ae) fun y=>by kernel_rfl
abbrev S6:Shape:=⟨[ak 0,ay 2 2 0,ay 4 4 0],[bp 5000128 .pack 2 0,ax 2 [.own 5000128],bp 5000256 .pack 4 0,ax 4 [.own 5000256]],73⟩
abbrev SK:List aP:=[(.norm,⟨[ay 2 2 0,ay 4 4 0,ap 70],[bp 5000128 .pack 2 0,ax 2 [.own 5000128],bp 5000256 .pack 4 0,ax 4 [.own 5000256]],73⟩)]
noncomputable def sW(y:S6.J):Option (aC SK):=
(f30 (((y.2.2.2.1,()),()),())).bind fun a=>
 bif(!(!a.1.1)) then
(f70 (((y.2.2.2.1,()),()),())).bind fun b=>
 some (((),(),(!(b.1.1==y.1.1)),()),y.2.1,((),()),y.2.2.2.1,((),()),())
else
 some (((),(),true,()),y.2.1,((),()),y.2.2.2.1,((),()),())
theorem al5:aT O (an (codeOf Tryz.f39) 1 124) (aU S6 SK sW):=ce Er (by kernel_rfl) ae fun y=>by kernel_rfl
abbrev i39:Shape:=⟨[ak 0],[],73⟩
abbrev xt:Shape:=⟨[ay 2 2 0,ap 3],[bp 5000128 .pack 2 0,ax 2 [.own 5000128]],73⟩
noncomputable def f39(a:i39.J):Option xt.J:=
(v_ ((a.1.1,(),(),a.1.1,()),([]:List aG),((),()),([]:List aG),((),()),())).bind fun b=>
(match b with
|.inl c=>
 some (((),c.1.2.1,()),c.2.1,((),()),())
|.inr d=>
(sW ((d.1.1,(),(),()),d.2.1,((),()),d.2.2.2.1,((),()),())).bind fun e=>
 bif e.1.2.2.1 then
 some (((),false,()),([]:List aG),((),()),())
else
 some (((),true,()),e.2.2.2.1,((),()),()))
noncomputable def ac0:aD:=aH ad Tryz.f39 i39 xt [] f39
theorem awl:aB O 39 ac0:=aK Er Tryz.func39 (by kernel_rfl) (a8 aoO (a8 al5 ae)) (fun y=>by kernel_rfl) fun a=>by kernel_rfl
noncomputable abbrev azW:a_:=[(39,ac0)]
theorem aAj:aR O (aX ad azW):=aV ⟨awl,⟨⟩⟩
abbrev i12:Shape:=⟨[b_ 0 [ah,ah]],[],17⟩
abbrev abN:Shape:=⟨[ap 2],[],17⟩
noncomputable def f12(a:i12.J):Option abN.J:=
(f39 ((a.1.1.1,()),())).bind fun b=>
 bif b.1.2.1 then
 some (((a.1.1.2.1==([]:B)),()),())
else
 some ((false,()),())
noncomputable def uI:aD:=aH ad Tryz.f12 i12 abN [] f12
theorem z12:aB O 12 uI:=aK aAj Tryz.func12 (by kernel_rfl) ae (fun y=>by kernel_rfl) fun a=>by kernel_rfl
abbrev sn(s rest:B)(ps:List aG):vZ.J:=((s,((),((),(rest,())))),(([]:List aG),(((),()),(ps,(((),()),())))))
abbrev adU(s:B)(ps:List aG):aC BH:=.inr ((s,((),((),()))),(([]:List aG),(((),()),(ps,(((),()),())))))
abbrev N9(ps:List aG):xt.J:=(((),(true,())),(ps,(((),()),())))
abbrev Nv:xt.J:=(((),(false,())),(([]:List aG),(((),()),())))
def azb(D:Option (List aG)):xt.J:=match D with|some ps=>N9 ps|none=>Nv
theorem aom(s:B):∀(m:Nat) (r:B) (ps:List aG),r.length<=m->m<=2000000->ps.length<=6->pL ps->
  v_ (sn s r ps)=some (.inl Nv)\/∃qs:List aG,v_ (sn s r ps)=some (adU s qs)/\pL qs/\qs.length<=6:=by
 intro m;induction m with
 |zero=>
  intro r ps hs _ hl ha;have:r=[]:=List.length_eq_zero_iff.1 (by omega)
  subst this;exact .inr ⟨ps,cp rfl,ha,hl⟩
 |succ m ih=>
  intro r ps hs hm hl ha;cases r with
  |nil=>exact .inr ⟨ps,cp rfl,ha,hl⟩
  |cons b r0=>
   have hne:((b::r0)==([]:B))=false:=rfl;generalize eI:b::r0=r at hs hne;by_cases bl:ps.length<=5
   ·have d:decide (((ps.length:Nat):Int)<=5)=true:=decide_eq_true (by omega)
    have c1:=l8 10 r (by omega) 1
    have c1:f73 ((r,((10:Int),((1:Int),()))),())=_:=c1;cases az:dw 10 r with
    |none=>
     have eL:splitN 10 1 r=[r]:=by unfold splitN;rw[az]
     rw[eL] at c1;have n0:=qx r (by unfold au;omega)
     have i0:be ([r]:List B).length (0:Int)=some 0:=rfl;have fh:([r]:List B)[0]? =some r:=rfl;have d2:decide ((([r]:List B).length:Int)<2)=true:=rfl;refine .inl (cp ?_);simp only[om,hne,Bool.not_false,cond_true,d,c1,Option.bind_some,i0,fh,n0,qE,d2,Bool.not_true,cond_false]
    |some q=>
     obtain⟨bW,rest⟩:=q;have hlen:=(jk az).1;have hlen:r.length=bW.length+1+rest.length:=by rw[hlen];simp;omega
     have eL:splitN 10 1 r=[bW,rest]:=by unfold splitN;rw[az];rfl
     rw[eL] at c1;have n0:=qx bW (by unfold au;omega)
     have i0:be ([bW,rest]:List B).length (0:Int)=some 0:=rfl;have i1:be ([bW,rest]:List B).length (1:Int)=some 1:=rfl;have fh:([bW,rest]:List B)[0]? =some bW:=rfl;have eh:([bW,rest]:List B)[1]? =some rest:=rfl;have d2:decide ((([bW,rest]:List B).length:Int)<2)=false:=rfl;have hin:=og ((gL bW,((1:Int),((rest.length:Int),()))),());have hin:f75 ((gL bW,((1:Int),((rest.length:Int),()))),())=some ((within (gL bW) 1 (rest.length:Int),()),()):=hin;cases hw:within (gL bW) 1 (rest.length:Int) with
     |false=>
      rw[hw] at hin;refine .inl (cp ?_);simp only[om,hne,Bool.not_false,cond_true,d,c1,Option.bind_some,i0,fh,n0,qE,d2,i1,eh,hin]
     |true=>
      rw[hw] at hin;have hb:=sH hw;obtain⟨n,hn⟩:∃n:Nat,gL bW=(n:Int):=⟨(gL bW).toNat,by omega⟩
      rw[hn] at hin n0 hb;have s1:bm rest 0 ((n:Nat):Int)=some (rest.take n):=fY (by omega)
      have s2:bm rest ((n:Nat):Int) ((rest.length:Nat):Int)=some (rest.drop n):=fw (by omega)
      have ab2:(rest.take n).length<=2000000:=by simp;omega
      obtain⟨D,g1,g2⟩:=ahQ (rest.take n) ab2;cases D with
      |none=>
       have g1:f76 ((rest.take n,()),())=some N_:=g1;refine .inl (cp ?_);simp only[om,hne,Bool.not_false,cond_true,d,c1,Option.bind_some,i0,fh,n0,qE,d2,i1,eh,hin,Bool.not_true,cond_false,s1,g1]
      |some p=>
       have g1:f76 ((rest.take n,()),())=some (si p):=g1;obtain⟨iA,je,p3⟩:=(g2 p).1 rfl;have fr:b9 80 ps ([(aG.mk p.name p.aW p.bi p.bB)]:List aG)=some (ps++[p]):=di (by decide) (by unfold au;simp;omega)
       have st:om (sn s r ps)=some (.inl (sn s (rest.drop n) (ps++[p]))):=by
        simp only[om,hne,Bool.not_false,cond_true,d,c1,Option.bind_some,i0,fh,n0,qE,d2,i1,eh,hin,Bool.not_true,cond_false,s1,g1,fr,s2]
       rcases ih (rest.drop n) (ps++[p]) (by simp;omega) (by omega) (by simp;omega) (fun z hz=>by
        rcases List.mem_append.1 hz with hz|hz
        ·exact ha z hz
        ·rw[List.mem_singleton.1 hz];exact⟨iA,by rw[je];exact p3⟩) with e|⟨qs,e1,e2⟩
       ·exact .inl ((dM st).trans e)
       ·exact .inr ⟨qs,(dM st).trans e1,e2⟩
   ·have d:decide (((ps.length:Nat):Int)<=5)=false:=decide_eq_false (by omega)
    refine .inr ⟨ps,cp ?_,ha,hl⟩;simp only[om,hne,Bool.not_false,cond_true,d,cond_false]
theorem akI{ps:List aG}(h:pL ps)(bl:ps.length<=5):(b8 ps).length<=30000:=by
 have h1:=m' (f:=fun p=>cG (bw p)) (xs:=ps) (n:=5000) fun q az=>by
  have:=(h q az).2;have:=jK (bw q).length (by omega)
  show(cG (bw q)).length<=5000;unfold cG;simp;omega
 have e:(b8 ps).length=(ps.flatMap fun p=>cG (bw p)).length:=rfl
 have ca:ps.length*5000<=6*5000:=Nat.mul_le_mul_right _ (by omega)
 omega
theorem aol(s:B):∀(qs ps:List aG),pL qs->ps.length+qs.length<=5->v_ (sn s (b8 qs) ps)=some (adU s (ps++qs)):=by
 intro qs;induction qs with
 |nil=>intro ps _ _;rw[List.append_nil];exact cp rfl
 |cons p qs ih=>
  intro ps h hl;obtain⟨h1,h2⟩:=h p List.mem_cons_self;simp only[List.length_cons] at hl;have hR:b8 (p::qs)=cG (bw p)++b8 qs:=vg p qs;have fR:=yW (bw p) (b8 qs);have hlen:=akI (ps:=p::qs) h (by simp;omega)
  rw[hR] at hlen ⊢;generalize hr:cG (bw p)++b8 qs=r at fR hlen;have eL:splitN 10 1 r=[Lib.itoa ((bw p).length:Int),bw p++b8 qs]:=by unfold splitN;rw[fR];rfl
  have hne:(r==([]:B))=false:=by
   have:=(jk fR).1;cases hx:r with
   |nil=>rw[hx] at this;simp at this
   |cons b r=>rfl
  have d:decide (((ps.length:Nat):Int)<=5)=true:=decide_eq_true (by omega)
  have c1:=l8 10 r (by omega) 1
  rw[eL] at c1;have c1:f73 ((r,((10:Int),((1:Int),()))),())=_:=c1;have aCk:=jK (bw p).length (by omega)
  have n0:=qx (Lib.itoa ((bw p).length:Int)) (by unfold au;omega)
  rw[FQ _ (by omega)] at n0
  generalize Lib.itoa ((bw p).length:Int)=bW at c1 n0;have i0:be ([bW,bw p++b8 qs]:List B).length (0:Int)=some 0:=rfl;have i1:be ([bW,bw p++b8 qs]:List B).length (1:Int)=some 1:=rfl;have fh:([bW,bw p++b8 qs]:List B)[0]? =some bW:=rfl;have eh:([bW,bw p++b8 qs]:List B)[1]? =some (bw p++b8 qs):=rfl;have d2:decide ((([bW,bw p++b8 qs]:List B).length:Int)<2)=false:=rfl;have nw:1<=(bw p).length:=by rw[vG];simp only[List.length_append,List.length_cons];omega
  have hin:=og ((((bw p).length:Int),((1:Int),(((bw p++b8 qs).length:Int),()))),());have hin:f75 ((((bw p).length:Int),((1:Int),(((bw p++b8 qs).length:Int),()))),())=some ((true,()),()):=by
   rw[hin];have:within ((bw p).length:Int) 1 ((bw p++b8 qs).length:Int)=true:=by
    unfold within;rw[decide_eq_true (by omega),decide_eq_true (by simp only[List.length_append];omega)]
    rfl
   show some ((within ((bw p).length:Int) 1 ((bw p++b8 qs).length:Int),()),())=_;rw[this]
  have s1:bm (bw p++b8 qs) 0 (((bw p).length:Nat):Int)=some (bw p):=by rw[fY (by simp),List.take_left' rfl]
  have s2:bm (bw p++b8 qs) (((bw p).length:Nat):Int) (((bw p++b8 qs).length:Nat):Int)=some (b8 qs):=by rw[fw (by simp),List.drop_left' rfl]
  have g1:=EP h1 h2;have fr:b9 80 ps ([(aG.mk p.name p.aW p.bi p.bB)]:List aG)=some (ps++[p]):=di (by decide) (by unfold au;simp;omega)
  have st:om (sn s r ps)=some (.inl (sn s (b8 qs) (ps++[p]))):=by
   simp only[om,hne,Bool.not_false,cond_true,d,c1,Option.bind_some,i0,fh,n0,qE,d2,i1,eh,hin,Bool.not_true,cond_false,s1,g1,fr,s2]
  have:=ih (ps++[p]) (fun r hr=>h r (List.mem_cons_of_mem _ hr)) (by simp;omega)
  rw[List.append_assoc] at this;exact(dM st).trans this
theorem ahP(s:B)(hs:s.length<=2000000):∃D:Option (List aG),f39 ((s,()),())=some (azb D)/\ly D (mC s):=by
 have put:∀ps:List aG,mC s ps->f39 ((s,()),())=some (N9 ps):=by
  intro ps ⟨h1,h2,h3⟩;have hl:ps.length<=5:=(kb h1).2;obtain⟨hb,hv⟩:=sT h3 (by omega)
  have g:=aol s ps [] h3 (by simpa using hl)
  rw[h2] at g;have e:=vp (((ps,()),()),()) hb hv;have e:f30 (((ps,()),()),())=some ((ej ps,()),()):=e;rw[h1] at e;have e2:=z_ ps hb (kb h1).1;simp only[f39,g,List.nil_append,Option.bind_some,sW,e,Bool.not_true,Bool.not_false,cond_true,cond_false,e2,h2,beq_self_eq_true]
 have any:f39 ((s,()),())=some Nv\/∃ps,f39 ((s,()),())=some (N9 ps)/\mC s ps:=by
  rcases aom s s.length s [] (Nat.le_refl _) hs (by decide) (fun x hx=>by cases hx) with g|⟨qs,g,h2,h3⟩
  ·refine .inl ?_
   simp only[f39,g,Option.bind_some]
  ·obtain⟨hb,hv⟩:=sT h2 h3;have e:=vp (((qs,()),()),()) hb hv;have e:f30 (((qs,()),()),())=some ((ej qs,()),()):=e;cases hr:ej qs with
   |false=>
    rw[hr] at e;refine .inl ?_
    simp only[f39,g,Option.bind_some,sW,e,Bool.not_false,Bool.not_true,cond_true,cond_false]
   |true=>
    rw[hr] at e;have e2:=z_ qs hb (kb hr).1;cases he:b8 qs==s with
    |false=>
     refine .inl ?_
     simp only[f39,g,Option.bind_some,sW,e,Bool.not_false,Bool.not_true,cond_true,cond_false,e2,he]
    |true=>
     refine .inr ⟨qs,?_,hr,eq_of_beq he,h2⟩;simp only[f39,g,Option.bind_some,sW,e,Bool.not_false,Bool.not_true,cond_true,cond_false,e2,he]
 rcases any with h|⟨ps,h,hr⟩
 ·refine⟨none,h,fun p=>⟨fun hp=>(by cases hp),fun hp=>?_⟩⟩
  have:=put p hp;rw[h] at this;simp only[Option.some.injEq,Prod.mk.injEq] at this;exact absurd this.1.2.1 (by decide)
 ·refine⟨some ps,h,fun q=>⟨fun hp=>by cases hp;exact hr,fun hp=>?_⟩⟩
  have:=put q hp;rw[h] at this;simp only[Option.some.injEq,Prod.mk.injEq] at this;rw[this.2.1]
theorem ajK(s t:B)(hs:s.length<=2000000):∃D:Option (List aG),f12 (((s,(t,())),()),())=some ((D.isSome&&t==[],()),())/\ly D (mC s):=by
 obtain⟨D,h1,h2⟩:=ahP s hs;refine⟨D,?_,h2⟩;simp only[f12,h1,Option.bind_some];cases D<;>rfl
noncomputable abbrev azJ:a_:=[(36,Nj),(43,Em),(63,C0),(64,Dp)]
theorem adn:aR O (aX ad azJ):=aV ⟨aaL,LZ,J_,Ku,⟨⟩⟩
abbrev Ae:Shape:=⟨[ay 3 3 0,aL 11 .pack,ag 12,ag 13],[bp 5000193 .u8 3 1,ax 3 [.dz,.own 5000193]],28⟩
abbrev Hs:List aP:=[(.exit 0,⟨[ay 3 3 0],[bp 5000193 .u8 3 1,ax 3 [.dz,.own 5000193]],28⟩)]
noncomputable def vP(y:Ae.J):bG Ae Hs:=
 bif(decide (y.1.2.2.2.1<y.1.2.2.1)) then
(aO y.1.2.1 y.1.2.2.2.1).bind fun a=>
(f36 (((a.name,a.aW,a.bi,a.bB,()),()),())).bind fun b=>
(if-9223372036854775808<=(b.1.1.length:Int)/\(b.1.1.length:Int)<=9223372036854775807 then some () else none).bind fun c=>
(b4 (Lib.itoa (b.1.1.length:Int)) ([10]:B)).bind fun d=>
(b4 d b.1.1).bind fun e=>
(mm (((),e,()),y.2.1,((),(),()),())).bind fun f=>
 some (.inl (((),y.1.2.1,y.1.2.2.1,(IntKind.i64.wrap (y.1.2.2.2.1+(1:Int))),()),f.2.1,((),(),()),()))
else
 some (.inr (((),()),y.2.1,((),(),()),()))
noncomputable def Il:Ae.J->Option (aC Hs):=bu vP
theorem al6:aT O (an (codeOf Tryz.f34) 1 122) (aU Ae Hs Il):=bI adn (by kernel_rfl) ae fun y=>by kernel_rfl
abbrev i34:Shape:=⟨[b_ 0 [bn .pack]],[],28⟩
abbrev abz:Shape:=⟨[ak 2],[],28⟩
noncomputable def f34(a:i34.J):Option abz.J:=
(f43 (((a.1.1.1,()),()),())).bind fun b=>
 bif(!b.1.1) then
 some ((([]:B),()),())
else
(Il (((),a.1.1.1,(a.1.1.1.length:Int),(0:Int),()),([]:List Int),((),(),()),())).bind fun c=>
 some (((strOf c.2.1),()),())
noncomputable def Nl:aD:=aH ad Tryz.f34 i34 abz [] f34
theorem aaN:aB O 34 Nl:=aK adn Tryz.func34 (by kernel_rfl) (a8 al6 ae) (fun y=>by kernel_rfl) fun a=>by kernel_rfl
theorem kB{aJ mP:Type}{D:Option aJ}{x:aJ}{k:aJ->Option mP}(h:D=some x):D.bind k=k x:=by rw[h];rfl
theorem anh(ps:List aG)(hb:fb ps)(hk:∀p,p∈ps->cj p=true)(bl:ps.length<=5)(i:Nat)(hi:i<ps.length):
  vP (((),(ps,((ps.length:Int),((i:Int),())))),(bytesOf ((ps.take i).flatMap (fun p=>cG (bw p))),(((),((),())),())))=some (.inl (((),(ps,((ps.length:Int),(((i+1:Nat):Int),())))),(bytesOf ((ps.take (i+1)).flatMap (fun p=>cG (bw p))),(((),((),())),())))):=by
 obtain⟨p,he⟩:∃p,ps[i]? =some p:=⟨ps[i],List.getElem?_eq_getElem hi⟩;have en:=List.mem_of_getElem? he;have iL:((ps.take i).flatMap fun p=>cG (bw p)).length<=503317500:=by
  have h1:=m' (f:=fun p=>cG (bw p)) (xs:=ps.take i) (n:=100663500) fun p hp=>FL (hb.2 p (qz hp)) (hk p (qz hp))
  have h2:=(List.take_sublist i ps).length_le;have aA:(ps.take i).length*100663500<=5*100663500:=Nat.mul_le_mul_right _ (by omega)
  omega
 have hA:=zK (hb.2 p en) (hk p en);have h2:=jK (bw p).length (by omega)
 have ab4:=hk p en;have Mx:=E9 p (hb.2 p en);simp only[ab4,cond_true] at Mx;have ach:(ps.take (i+1)).flatMap (fun p=>cG (bw p))=(ps.take i).flatMap (fun p=>cG (bw p))++cG (bw p):=mX (fun p=>cG (bw p)) he
 rw[ach];clear ach ab4 hk;generalize bw p=bq at hA h2 Mx ⊢;generalize List.flatMap (fun p=>cG (bw p)) (List.take i ps)=A at iL ⊢
 have i2:=JO (n:=(bq.length:Int)) ⟨by omega,by omega⟩
 have e1:=du (s:=Lib.itoa (bq.length:Int)) (t:=[10]) (by simp;omega)
 have e2:=du (s:=Lib.itoa (bq.length:Int)++[10]) (t:=bq) (by simp;omega)
 have da:Lib.itoa (bq.length:Int)++[10]++bq=cG bq:=rfl;have eS:(cG bq).length<=100663500:=by unfold cG;simp;omega
 rw[da] at e2;generalize cG bq=C at e2 eS ⊢;have br:=pi (bytesOf A) C (by unfold au;rw[ji];omega)
 simp only[vP,cf hi,cond_true,b5,he,Option.bind_some];refine(kB Mx).trans ((kB (if_pos ⟨?_,?_⟩)).trans ((kB e1).trans ((kB e2).trans ((kB br).trans ?_))))
 ·rw[bX (i:=i) (by unfold au;omega),o8]
 ·show-9223372036854775808<=(bq.length:Int);omega
 ·show(bq.length:Int)<=9223372036854775807;omega
theorem Pp(ps:List aG)(hb:fb ps)(hv:jI ps):f34 (((ps,()),()),())=some ((bif ej ps then b8 ps else [],()),()):=by
 have h0:=yQ (((ps,()),()),()) hb hv;have h0:f43 (((ps,()),()),())=some ((ej ps,()),()):=h0;simp only[f34,h0,Option.bind_some];cases hr:ej ps with
 |false=>rfl
 |true=>
  have hk:=(kb hr).1;have bl:=(kb hr).2;have aE:Il (((),(ps,((ps.length:Int),((0:Int),())))),(([]:List Int),(((),((),())),())))=some (((),()),(bytesOf (b8 ps),(((),((),())),()))):=by
   refine fK (g:=vP) (fun i=>(((),(ps,((ps.length:Int),((i:Int),())))),(bytesOf ((ps.take i).flatMap (fun p=>cG (bw p))),(((),((),())),())))) ps.length (fun i hi=>anh ps hb hk bl i hi) ?_ ps.length 0 (by omega)
   simp only[vP,dx,cond_false,List.take_length,b8]
  simp only[Bool.not_true,cond_false,cond_true,aE,Option.bind_some,u4]
abbrev i186:Shape:=⟨[b_ 0 [ah,a6,ah],ag 1],[],20⟩
abbrev Yf:Shape:=⟨[ag 4],[],20⟩
noncomputable def f186(a:i186.J):Option Yf.J:=
 bif(decide ((IntKind.i64.wrap (a.1.2.1-(a.1.1.1.length:Int)))<(0:Int))) then
 some ((((-1):Int),()),())
else
 bif(decide ((IntKind.i64.wrap ((IntKind.i64.wrap (a.1.2.1-(a.1.1.1.length:Int)))-(a.1.1.2.2.1.length:Int)))<(0:Int))) then
 some ((((-1):Int),()),())
else
 some (((IntKind.i64.wrap ((IntKind.i64.wrap (a.1.2.1-(a.1.1.1.length:Int)))-(a.1.1.2.2.1.length:Int))),()),())
noncomputable def _q:aD:=aH ad Tryz.f186 i186 Yf [] f186
theorem ar6:aB O 186 _q:=aK g0 Tryz.func186 (by kernel_rfl) ae (fun y=>by kernel_rfl) fun a=>by kernel_rfl
noncomputable abbrev au4:a_:=[(186,_q)]
theorem aax:aR O (aX ad au4):=aV ⟨ar6,⟨⟩⟩
abbrev zF:Shape:=⟨[aL 0 .need,ag 1,ag 5],[],27⟩
abbrev Gz:List aP:=[(.ret,⟨[ag 4],[],27⟩),(.exit 0,⟨[ag 1],[],27⟩)]
noncomputable def ale(y:zF.J):bG zF Gz:=
 bif(decide (y.1.2.2.1<(y.1.1.length:Int))) then
(aO y.1.1 y.1.2.2.1).bind fun a=>
(f186 (((a.name,a.kind,a.aW,()),y.1.2.1,()),())).bind fun b=>
 bif(decide (b.1.1<(0:Int))) then
 some (.inr (.inl ((((-1):Int),()),())))
else
 some (.inl ((y.1.1,b.1.1,(IntKind.i64.wrap (y.1.2.2.1+(1:Int))),()),()))
else
 some (.inr (.inr ((y.1.2.1,()),())))
noncomputable def Sc:zF.J->Option (aC Gz):=bu ale
theorem akC:aT O (an (codeOf Tryz.f134) 1 122) (aU zF Gz Sc):=bI aax (by kernel_rfl) ae fun y=>by kernel_rfl
abbrev i134:Shape:=⟨[aL 0 .need,ag 1],[],27⟩
abbrev YS:Shape:=⟨[ag 4],[],27⟩
noncomputable def f134(a:i134.J):Option YS.J:=
 bif(decide ((IntKind.i64.wrap (a.1.2.1-(a.1.1.length:Int)))<(0:Int))) then
 some ((((-1):Int),()),())
else
(Sc ((a.1.1,(IntKind.i64.wrap (a.1.2.1-(a.1.1.length:Int))),(0:Int),()),())).bind fun b=>
(match b with
|.inl c=>
 some ((c.1.1,()),())
|.inr d=>
 some ((d.1.1,()),()))
noncomputable def _W:aD:=aH ad Tryz.f134 i134 YS [] f134
theorem asr:aB O 134 _W:=aK aax Tryz.func134 (by kernel_rfl) (a8 akC ae) (fun y=>by kernel_rfl) fun a=>by kernel_rfl
abbrev i187:Shape:=⟨[b_ 0 [ah,a6,a6,ah],ag 1],[],20⟩
abbrev Ye:Shape:=⟨[ag 4],[],20⟩
noncomputable def f187(a:i187.J):Option Ye.J:=
 bif(decide ((IntKind.i64.wrap (a.1.2.1-(a.1.1.1.length:Int)))<(0:Int))) then
 some ((((-1):Int),()),())
else
 bif(decide ((IntKind.i64.wrap ((IntKind.i64.wrap (a.1.2.1-(a.1.1.1.length:Int)))-(a.1.1.2.2.2.1.length:Int)))<(0:Int))) then
 some ((((-1):Int),()),())
else
 some (((IntKind.i64.wrap ((IntKind.i64.wrap (a.1.2.1-(a.1.1.1.length:Int)))-(a.1.1.2.2.2.1.length:Int))),()),())
noncomputable def _p:aD:=aH ad Tryz.f187 i187 Ye [] f187
theorem ar5:aB O 187 _p:=aK g0 Tryz.func187 (by kernel_rfl) ae (fun y=>by kernel_rfl) fun a=>by kernel_rfl
noncomputable abbrev au3:a_:=[(187,_p)]
theorem aaw:aR O (aX ad au3):=aV ⟨ar5,⟨⟩⟩
abbrev zE:Shape:=⟨[aL 0 .entry,ag 1,ag 5],[],27⟩
abbrev Gy:List aP:=[(.ret,⟨[ag 4],[],27⟩),(.exit 0,⟨[ag 1],[],27⟩)]
noncomputable def ald(y:zE.J):bG zE Gy:=
 bif(decide (y.1.2.2.1<(y.1.1.length:Int))) then
(aO y.1.1 y.1.2.2.1).bind fun a=>
(f187 (((a.path,a.kind,a.mode,a.text,()),y.1.2.1,()),())).bind fun b=>
 bif(decide (b.1.1<(0:Int))) then
 some (.inr (.inl ((((-1):Int),()),())))
else
 some (.inl ((y.1.1,b.1.1,(IntKind.i64.wrap (y.1.2.2.1+(1:Int))),()),()))
else
 some (.inr (.inr ((y.1.2.1,()),())))
noncomputable def Sb:zE.J->Option (aC Gy):=bu ald
theorem akB:aT O (an (codeOf Tryz.f135) 1 122) (aU zE Gy Sb):=bI aaw (by kernel_rfl) ae fun y=>by kernel_rfl
abbrev i135:Shape:=⟨[aL 0 .entry,ag 1],[],27⟩
abbrev YR:Shape:=⟨[ag 4],[],27⟩
noncomputable def f135(a:i135.J):Option YR.J:=
 bif(decide ((IntKind.i64.wrap (a.1.2.1-(a.1.1.length:Int)))<(0:Int))) then
 some ((((-1):Int),()),())
else
(Sb ((a.1.1,(IntKind.i64.wrap (a.1.2.1-(a.1.1.length:Int))),(0:Int),()),())).bind fun b=>
(match b with
|.inl c=>
 some ((c.1.1,()),())
|.inr d=>
 some ((d.1.1,()),()))
noncomputable def _V:aD:=aH ad Tryz.f135 i135 YR [] f135
theorem asq:aB O 135 _V:=aK aaw Tryz.func135 (by kernel_rfl) (a8 akB ae) (fun y=>by kernel_rfl) fun a=>by kernel_rfl
abbrev i188:Shape:=⟨[b_ 0 [ah,a6,ah]],[],14⟩
abbrev Yd:Shape:=⟨[ay 2 2 0],[ax 2 [ah,a6,ah]],14⟩
noncomputable def f188(a:i188.J):Option Yd.J:=
 some (((),()),(a.1.1.1,a.1.1.2.1,a.1.1.2.2.1,()),())
noncomputable def _o:aD:=aH ad Tryz.f188 i188 Yd [] f188
theorem ar4:aB O 188 _o:=aK g0 Tryz.func188 (by kernel_rfl) ae (fun y=>by kernel_rfl) fun a=>by kernel_rfl
noncomputable abbrev au2:a_:=[(188,_o)]
theorem aav:aR O (aX ad au2):=aV ⟨ar4,⟨⟩⟩
abbrev AL:Shape:=⟨[aL 0 .need,ba 3 3000192,ag 4],[a' 3000192 .need 3 0],23⟩
abbrev H0:List aP:=[(.exit 0,⟨[ba 3 3000192],[a' 3000192 .need 3 0],23⟩)]
noncomputable def ant(y:AL.J):bG AL H0:=
 bif(decide (y.1.2.2.1<(y.1.1.length:Int))) then
(aO y.1.1 y.1.2.2.1).bind fun a=>
(f188 (((a.name,a.kind,a.aW,()),()),())).bind fun b=>
(be y.2.1.length y.1.2.2.1).bind fun c=>
((y.2.1[c]?).bind fun q=>some (bx.mk b.2.1.1 b.2.1.2.1 b.2.1.2.2.1)).bind fun d=>
 some (.inl ((y.1.1,(),(IntKind.i64.wrap (y.1.2.2.1+(1:Int))),()),(y.2.1.set c d),()))
else
 some (.inr (((),()),y.2.1,()))
noncomputable def TJ:AL.J->Option (aC H0):=bu ant
theorem amP:aT O (an (codeOf Tryz.f136) 1 58) (aU AL H0 TJ):=bI aav (by kernel_rfl) ae fun y=>by kernel_rfl
abbrev i136:Shape:=⟨[aL 0 .need],[],23⟩
abbrev YQ:Shape:=⟨[ba 2 3000128],[a' 3000128 .need 2 0],23⟩
noncomputable def f136(a:i136.J):Option YQ.J:=
(j4 40 (a.1.1.length:Int) (a.1.1.length:Int) (bx.mk ([]:B) (0:Int) ([]:B))).bind fun b=>
(TJ ((a.1.1,(),(0:Int),()),b,())).bind fun c=>
 some (((),()),c.2.1,())
noncomputable def _U:aD:=aH ad Tryz.f136 i136 YQ [] f136
theorem asp:aB O 136 _U:=aK aav Tryz.func136 (by kernel_rfl) (a8 amP ae) (fun y=>by kernel_rfl) fun a=>by kernel_rfl
abbrev i189:Shape:=⟨[b_ 0 [ah,a6,a6,ah]],[],17⟩
abbrev Yc:Shape:=⟨[ay 2 2 0],[ax 2 [ah,a6,a6,ah]],17⟩
noncomputable def f189(a:i189.J):Option Yc.J:=
 some (((),()),(a.1.1.1,a.1.1.2.1,a.1.1.2.2.1,a.1.1.2.2.2.1,()),())
noncomputable def _n:aD:=aH ad Tryz.f189 i189 Yc [] f189
theorem ar3:aB O 189 _n:=aK g0 Tryz.func189 (by kernel_rfl) ae (fun y=>by kernel_rfl) fun a=>by kernel_rfl
noncomputable abbrev au1:a_:=[(189,_n)]
theorem aau:aR O (aX ad au1):=aV ⟨ar3,⟨⟩⟩
abbrev AK:Shape:=⟨[aL 0 .entry,ba 3 3000192,ag 4],[a' 3000192 .entry 3 0],23⟩
abbrev HZ:List aP:=[(.exit 0,⟨[ba 3 3000192],[a' 3000192 .entry 3 0],23⟩)]
noncomputable def ans(y:AK.J):bG AK HZ:=
 bif(decide (y.1.2.2.1<(y.1.1.length:Int))) then
(aO y.1.1 y.1.2.2.1).bind fun a=>
(f189 (((a.path,a.kind,a.mode,a.text,()),()),())).bind fun b=>
(be y.2.1.length y.1.2.2.1).bind fun c=>
((y.2.1[c]?).bind fun q=>some (aw.mk b.2.1.1 b.2.1.2.1 b.2.1.2.2.1 b.2.1.2.2.2.1)).bind fun d=>
 some (.inl ((y.1.1,(),(IntKind.i64.wrap (y.1.2.2.1+(1:Int))),()),(y.2.1.set c d),()))
else
 some (.inr (((),()),y.2.1,()))
noncomputable def TI:AK.J->Option (aC HZ):=bu ans
theorem amO:aT O (an (codeOf Tryz.f137) 1 58) (aU AK HZ TI):=bI aau (by kernel_rfl) ae fun y=>by kernel_rfl
abbrev i137:Shape:=⟨[aL 0 .entry],[],23⟩
abbrev YP:Shape:=⟨[ba 2 3000128],[a' 3000128 .entry 2 0],23⟩
noncomputable def f137(a:i137.J):Option YP.J:=
(j4 48 (a.1.1.length:Int) (a.1.1.length:Int) (aw.mk ([]:B) (0:Int) (0:Int) ([]:B))).bind fun b=>
(TI ((a.1.1,(),(0:Int),()),b,())).bind fun c=>
 some (((),()),c.2.1,())
noncomputable def _T:aD:=aH ad Tryz.f137 i137 YP [] f137
theorem aso:aB O 137 _T:=aK aau Tryz.func137 (by kernel_rfl) (a8 amO ae) (fun y=>by kernel_rfl) fun a=>by kernel_rfl
abbrev i190:Shape:=⟨[b_ 0 [ah,a6,ah],b_ 1 [ah,a6,ah]],[],20⟩
abbrev Yb:Shape:=⟨[ap 4],[],20⟩
noncomputable def f190(a:i190.J):Option Yb.J:=
 bif(!(a.1.1.1==a.1.2.1.1)) then
 some ((false,()),())
else
 bif(a.1.1.2.1 !=a.1.2.1.2.1) then
 some ((false,()),())
else
 bif(!(a.1.1.2.2.1==a.1.2.1.2.2.1)) then
 some ((false,()),())
else
 some ((true,()),())
noncomputable def _m:aD:=aH ad Tryz.f190 i190 Yb [] f190
theorem ar2:aB O 190 _m:=aK g0 Tryz.func190 (by kernel_rfl) ae (fun y=>by kernel_rfl) fun a=>by kernel_rfl
noncomputable abbrev au0:a_:=[(190,_m)]
theorem aat:aR O (aX ad au0):=aV ⟨ar2,⟨⟩⟩
abbrev AJ:Shape:=⟨[aL 0 .need,aL 1 .need,ag 5],[],27⟩
abbrev HY:List aP:=[(.ret,⟨[ap 4],[],27⟩),(.exit 0,⟨[],[],27⟩)]
noncomputable def anr(y:AJ.J):bG AJ HY:=
 bif(decide (y.1.2.2.1<(y.1.1.length:Int))) then
(aO y.1.1 y.1.2.2.1).bind fun a=>
(aO y.1.2.1 y.1.2.2.1).bind fun b=>
(f190 (((a.name,a.kind,a.aW,()),(b.name,b.kind,b.aW,()),()),())).bind fun c=>
 bif(!c.1.1) then
 some (.inr (.inl ((false,()),())))
else
 some (.inl ((y.1.1,y.1.2.1,(IntKind.i64.wrap (y.1.2.2.1+(1:Int))),()),()))
else
 some (.inr (.inr ((),())))
noncomputable def TH:AJ.J->Option (aC HY):=bu anr
theorem amN:aT O (an (codeOf Tryz.f138) 1 58) (aU AJ HY TH):=bI aat (by kernel_rfl) ae fun y=>by kernel_rfl
abbrev i138:Shape:=⟨[aL 0 .need,aL 1 .need],[],27⟩
abbrev YO:Shape:=⟨[ap 4],[],27⟩
noncomputable def f138(a:i138.J):Option YO.J:=
 bif((a.1.1.length:Int) !=(a.1.2.1.length:Int)) then
 some ((false,()),())
else
(TH ((a.1.1,a.1.2.1,(0:Int),()),())).bind fun b=>
(match b with
|.inl c=>
 some ((c.1.1,()),())
|.inr d=>
 some ((true,()),()))
noncomputable def _S:aD:=aH ad Tryz.f138 i138 YO [] f138
theorem z138:aB O 138 _S:=aK aat Tryz.func138 (by kernel_rfl) (a8 amN ae) (fun y=>by kernel_rfl) fun a=>by kernel_rfl
abbrev i191:Shape:=⟨[b_ 0 [ah,a6,a6,ah],b_ 1 [ah,a6,a6,ah]],[],25⟩
abbrev Ya:Shape:=⟨[ap 4],[],25⟩
noncomputable def f191(a:i191.J):Option Ya.J:=
 bif(!(a.1.1.1==a.1.2.1.1)) then
 some ((false,()),())
else
 bif(a.1.1.2.1 !=a.1.2.1.2.1) then
 some ((false,()),())
else
 bif(a.1.1.2.2.1 !=a.1.2.1.2.2.1) then
 some ((false,()),())
else
 bif(!(a.1.1.2.2.2.1==a.1.2.1.2.2.2.1)) then
 some ((false,()),())
else
 some ((true,()),())
noncomputable def _l:aD:=aH ad Tryz.f191 i191 Ya [] f191
theorem ar1:aB O 191 _l:=aK g0 Tryz.func191 (by kernel_rfl) ae (fun y=>by kernel_rfl) fun a=>by kernel_rfl
noncomputable abbrev auZ:a_:=[(191,_l)]
theorem aas:aR O (aX ad auZ):=aV ⟨ar1,⟨⟩⟩
abbrev AI:Shape:=⟨[aL 0 .entry,aL 1 .entry,ag 5],[],27⟩
abbrev HX:List aP:=[(.ret,⟨[ap 4],[],27⟩),(.exit 0,⟨[],[],27⟩)]
noncomputable def anq(y:AI.J):bG AI HX:=
 bif(decide (y.1.2.2.1<(y.1.1.length:Int))) then
(aO y.1.1 y.1.2.2.1).bind fun a=>
(aO y.1.2.1 y.1.2.2.1).bind fun b=>
(f191 (((a.path,a.kind,a.mode,a.text,()),(b.path,b.kind,b.mode,b.text,()),()),())).bind fun c=>
 bif(!c.1.1) then
 some (.inr (.inl ((false,()),())))
else
 some (.inl ((y.1.1,y.1.2.1,(IntKind.i64.wrap (y.1.2.2.1+(1:Int))),()),()))
else
 some (.inr (.inr ((),())))
noncomputable def TG:AI.J->Option (aC HX):=bu anq
theorem amM:aT O (an (codeOf Tryz.f139) 1 58) (aU AI HX TG):=bI aas (by kernel_rfl) ae fun y=>by kernel_rfl
abbrev i139:Shape:=⟨[aL 0 .entry,aL 1 .entry],[],27⟩
abbrev YN:Shape:=⟨[ap 4],[],27⟩
noncomputable def f139(a:i139.J):Option YN.J:=
 bif((a.1.1.length:Int) !=(a.1.2.1.length:Int)) then
 some ((false,()),())
else
(TG ((a.1.1,a.1.2.1,(0:Int),()),())).bind fun b=>
(match b with
|.inl c=>
 some ((c.1.1,()),())
|.inr d=>
 some ((true,()),()))
noncomputable def _R:aD:=aH ad Tryz.f139 i139 YN [] f139
theorem z139:aB O 139 _R:=aK aas Tryz.func139 (by kernel_rfl) (a8 amM ae) (fun y=>by kernel_rfl) fun a=>by kernel_rfl
noncomputable abbrev azm:a_:=[(134,_W),(135,_V)]
theorem az2:aR O (aX ad azm):=aV ⟨asr,asq,⟨⟩⟩
abbrev i82:Shape:=⟨[b_ 0 [ah,ah,bn .need,bn .entry],ag 1],[],32⟩
abbrev aba:Shape:=⟨[ag 4],[],32⟩
noncomputable def f82(a:i82.J):Option aba.J:=
 bif(decide ((IntKind.i64.wrap (a.1.2.1-(a.1.1.1.length:Int)))<(0:Int))) then
 some ((((-1):Int),()),())
else
 bif(decide ((IntKind.i64.wrap ((IntKind.i64.wrap (a.1.2.1-(a.1.1.1.length:Int)))-(a.1.1.2.1.length:Int)))<(0:Int))) then
 some ((((-1):Int),()),())
else
(f134 ((a.1.1.2.2.1,(IntKind.i64.wrap ((IntKind.i64.wrap (a.1.2.1-(a.1.1.1.length:Int)))-(a.1.1.2.1.length:Int))),()),())).bind fun b=>
 bif(decide (b.1.1<(0:Int))) then
 some ((((-1):Int),()),())
else
(f135 ((a.1.1.2.2.2.1,b.1.1,()),())).bind fun c=>
 bif(decide (c.1.1<(0:Int))) then
 some ((((-1):Int),()),())
else
 some ((c.1.1,()),())
noncomputable def acL:aD:=aH ad Tryz.f82 i82 aba [] f82
theorem av9:aB O 82 acL:=aK az2 Tryz.func82 (by kernel_rfl) ae (fun y=>by kernel_rfl) fun a=>by kernel_rfl
noncomputable abbrev azC:a_:=[(82,acL)]
theorem adm:aR O (aX ad azC):=aV ⟨av9,⟨⟩⟩
abbrev Ad:Shape:=⟨[aL 0 .pack,ag 1,ag 5],[],27⟩
abbrev Hr:List aP:=[(.ret,⟨[ag 4],[],27⟩),(.exit 0,⟨[ag 1],[],27⟩)]
noncomputable def ann(y:Ad.J):bG Ad Hr:=
 bif(decide (y.1.2.2.1<(y.1.1.length:Int))) then
(aO y.1.1 y.1.2.2.1).bind fun a=>
(f82 (((a.name,a.aW,a.bi,a.bB,()),y.1.2.1,()),())).bind fun b=>
 bif(decide (b.1.1<(0:Int))) then
 some (.inr (.inl ((((-1):Int),()),())))
else
 some (.inl ((y.1.1,b.1.1,(IntKind.i64.wrap (y.1.2.2.1+(1:Int))),()),()))
else
 some (.inr (.inr ((y.1.2.1,()),())))
noncomputable def Ty:Ad.J->Option (aC Hr):=bu ann
theorem al4:aT O (an (codeOf Tryz.f44) 1 122) (aU Ad Hr Ty):=bI adm (by kernel_rfl) ae fun y=>by kernel_rfl
abbrev i44:Shape:=⟨[aL 0 .pack,ag 1],[],27⟩
abbrev abu:Shape:=⟨[ag 4],[],27⟩
noncomputable def f44(a:i44.J):Option abu.J:=
 bif(decide ((IntKind.i64.wrap (a.1.2.1-(a.1.1.length:Int)))<(0:Int))) then
 some ((((-1):Int),()),())
else
(Ty ((a.1.1,(IntKind.i64.wrap (a.1.2.1-(a.1.1.length:Int))),(0:Int),()),())).bind fun b=>
(match b with
|.inl c=>
 some ((c.1.1,()),())
|.inr d=>
 some ((d.1.1,()),()))
noncomputable def acY:aD:=aH ad Tryz.f44 i44 abu [] f44
theorem awk:aB O 44 acY:=aK adm Tryz.func44 (by kernel_rfl) (a8 al4 ae) (fun y=>by kernel_rfl) fun a=>by kernel_rfl
noncomputable abbrev azU:a_:=[(44,acY)]
theorem aAh:aR O (aX ad azU):=aV ⟨awk,⟨⟩⟩
abbrev i15:Shape:=⟨[b_ 0 [bn .pack],ag 1],[],12⟩
abbrev abL:Shape:=⟨[ag 4],[],12⟩
noncomputable def f15(a:i15.J):Option abL.J:=
(f44 ((a.1.1.1,a.1.2.1,()),())).bind fun b=>
 bif(decide (b.1.1<(0:Int))) then
 some ((((-1):Int),()),())
else
 some ((b.1.1,()),())
noncomputable def x0:aD:=aH ad Tryz.f15 i15 abL [] f15
theorem awp:aB O 15 x0:=aK aAh Tryz.func15 (by kernel_rfl) ae (fun y=>by kernel_rfl) fun a=>by kernel_rfl
noncomputable abbrev azk:a_:=[(136,_U),(137,_T)]
theorem az0:aR O (aX ad azk):=aV ⟨asp,aso,⟨⟩⟩
abbrev i84:Shape:=⟨[b_ 0 [ah,ah,bn .need,bn .entry]],[],19⟩
abbrev aa9:Shape:=⟨[ay 2 2 0],[bp 5000130 .need 2 2,bp 5000131 .entry 2 3,ax 2 [ah,ah,.own 5000130,.own 5000131]],19⟩
noncomputable def f84(a:i84.J):Option aa9.J:=
(f136 ((a.1.1.2.2.1,()),())).bind fun b=>
(f137 ((a.1.1.2.2.2.1,()),())).bind fun c=>
 some (((),()),b.2.1,c.2.1,(a.1.1.1,a.1.1.2.1,(),(),()),())
noncomputable def acK:aD:=aH ad Tryz.f84 i84 aa9 [] f84
theorem av8:aB O 84 acK:=aK az0 Tryz.func84 (by kernel_rfl) ae (fun y=>by kernel_rfl) fun a=>by kernel_rfl
noncomputable abbrev azA:a_:=[(84,acK)]
theorem adl:aR O (aX ad azA):=aV ⟨av8,⟨⟩⟩
abbrev BX:Shape:=⟨[aL 0 .pack,ba 3 3000192,ag 4],[a' 3000192 .pack 3 0],23⟩
abbrev Jp:List aP:=[(.exit 0,⟨[ba 3 3000192],[a' 3000192 .pack 3 0],23⟩)]
noncomputable def apg(y:BX.J):bG BX Jp:=
 bif(decide (y.1.2.2.1<(y.1.1.length:Int))) then
(aO y.1.1 y.1.2.2.1).bind fun a=>
(f84 (((a.name,a.aW,a.bi,a.bB,()),()),())).bind fun b=>
(be y.2.1.length y.1.2.2.1).bind fun c=>
((y.2.1[c]?).bind fun q=>some (aG.mk b.2.2.2.1.1 b.2.2.2.1.2.1 b.2.1 b.2.2.1)).bind fun d=>
 some (.inl ((y.1.1,(),(IntKind.i64.wrap (y.1.2.2.1+(1:Int))),()),(y.2.1.set c d),()))
else
 some (.inr (((),()),y.2.1,()))
noncomputable def Vc:BX.J->Option (aC Jp):=bu apg
theorem aoN:aT O (an (codeOf Tryz.f46) 1 58) (aU BX Jp Vc):=bI adl (by kernel_rfl) ae fun y=>by kernel_rfl
abbrev i46:Shape:=⟨[aL 0 .pack],[],23⟩
abbrev abr:Shape:=⟨[ba 2 3000128],[a' 3000128 .pack 2 0],23⟩
noncomputable def f46(a:i46.J):Option abr.J:=
(j4 80 (a.1.1.length:Int) (a.1.1.length:Int) (aG.mk ([]:B) ([]:B) ([]:List bx) ([]:List aw))).bind fun b=>
(Vc ((a.1.1,(),(0:Int),()),b,())).bind fun c=>
 some (((),()),c.2.1,())
noncomputable def acW:aD:=aH ad Tryz.f46 i46 abr [] f46
theorem z46:aB O 46 acW:=aK adl Tryz.func46 (by kernel_rfl) (a8 aoN ae) (fun y=>by kernel_rfl) fun a=>by kernel_rfl
noncomputable abbrev azS:a_:=[(46,acW)]
theorem aAg:aR O (aX ad azS):=aV ⟨z46,⟨⟩⟩
abbrev i17:Shape:=⟨[b_ 0 [bn .pack]],[],9⟩
abbrev abJ:Shape:=⟨[ay 2 2 0],[bp 5000128 .pack 2 0,ax 2 [.own 5000128]],9⟩
noncomputable def f17(a:i17.J):Option abJ.J:=
(f46 ((a.1.1.1,()),())).bind fun b=>
 some (((),()),b.2.1,((),()),())
noncomputable def ac5:aD:=aH ad Tryz.f17 i17 abJ [] f17
theorem awo:aB O 17 ac5:=aK aAg Tryz.func17 (by kernel_rfl) ae (fun y=>by kernel_rfl) fun a=>by kernel_rfl
noncomputable abbrev azj:a_:=[(138,_S),(139,_R)]
theorem azZ:aR O (aX ad azj):=aV ⟨z138,z139,⟨⟩⟩
abbrev i85:Shape:=⟨[b_ 0 [ah,ah,bn .need,bn .entry],b_ 1 [ah,ah,bn .need,bn .entry]],[],27⟩
abbrev aa8:Shape:=⟨[ap 4],[],27⟩
noncomputable def f85(a:i85.J):Option aa8.J:=
 bif(!(a.1.1.1==a.1.2.1.1)) then
 some ((false,()),())
else
 bif(!(a.1.1.2.1==a.1.2.1.2.1)) then
 some ((false,()),())
else
(f138 ((a.1.1.2.2.1,a.1.2.1.2.2.1,()),())).bind fun b=>
 bif(!b.1.1) then
 some ((false,()),())
else
(f139 ((a.1.1.2.2.2.1,a.1.2.1.2.2.2.1,()),())).bind fun c=>
 bif(!c.1.1) then
 some ((false,()),())
else
 some ((true,()),())
noncomputable def acJ:aD:=aH ad Tryz.f85 i85 aa8 [] f85
theorem z85:aB O 85 acJ:=aK azZ Tryz.func85 (by kernel_rfl) ae (fun y=>by kernel_rfl) fun a=>by kernel_rfl
noncomputable abbrev azy:a_:=[(85,acJ)]
theorem adk:aR O (aX ad azy):=aV ⟨z85,⟨⟩⟩
abbrev BW:Shape:=⟨[aL 0 .pack,aL 1 .pack,ag 5],[],27⟩
abbrev Jo:List aP:=[(.ret,⟨[ap 4],[],27⟩),(.exit 0,⟨[],[],27⟩)]
noncomputable def apf(y:BW.J):bG BW Jo:=
 bif(decide (y.1.2.2.1<(y.1.1.length:Int))) then
(aO y.1.1 y.1.2.2.1).bind fun a=>
(aO y.1.2.1 y.1.2.2.1).bind fun b=>
(f85 (((a.name,a.aW,a.bi,a.bB,()),(b.name,b.aW,b.bi,b.bB,()),()),())).bind fun c=>
 bif(!c.1.1) then
 some (.inr (.inl ((false,()),())))
else
 some (.inl ((y.1.1,y.1.2.1,(IntKind.i64.wrap (y.1.2.2.1+(1:Int))),()),()))
else
 some (.inr (.inr ((),())))
noncomputable def Vb:BW.J->Option (aC Jo):=bu apf
theorem aoM:aT O (an (codeOf Tryz.f48) 1 58) (aU BW Jo Vb):=bI adk (by kernel_rfl) ae fun y=>by kernel_rfl
abbrev i48:Shape:=⟨[aL 0 .pack,aL 1 .pack],[],27⟩
abbrev abp:Shape:=⟨[ap 4],[],27⟩
noncomputable def f48(a:i48.J):Option abp.J:=
 bif((a.1.1.length:Int) !=(a.1.2.1.length:Int)) then
 some ((false,()),())
else
(Vb ((a.1.1,a.1.2.1,(0:Int),()),())).bind fun b=>
(match b with
|.inl c=>
 some ((c.1.1,()),())
|.inr d=>
 some ((true,()),()))
noncomputable def acU:aD:=aH ad Tryz.f48 i48 abp [] f48
theorem awh:aB O 48 acU:=aK adk Tryz.func48 (by kernel_rfl) (a8 aoM ae) (fun y=>by kernel_rfl) fun a=>by kernel_rfl
noncomputable abbrev azQ:a_:=[(48,acU)]
theorem aAf:aR O (aX ad azQ):=aV ⟨awh,⟨⟩⟩
abbrev i20:Shape:=⟨[b_ 0 [bn .pack],b_ 1 [bn .pack]],[],11⟩
abbrev abG:Shape:=⟨[ap 4],[],11⟩
noncomputable def f20(a:i20.J):Option abG.J:=
(f48 ((a.1.1.1,a.1.2.1.1,()),())).bind fun b=>
 bif(!b.1.1) then
 some ((false,()),())
else
 some ((true,()),())
noncomputable def ac3:aD:=aH ad Tryz.f20 i20 abG [] f20
theorem z20:aB O 20 ac3:=aK aAf Tryz.func20 (by kernel_rfl) ae (fun y=>by kernel_rfl) fun a=>by kernel_rfl
abbrev j'(n:Nat):Prop:=n<=1048576
abbrev ay3(n:bx):Prop:=j' n.name.length/\j' n.aW.length
abbrev ay4(e:aw):Prop:=j' e.path.length/\j' e.text.length
abbrev atQ(l:List bx):Prop:=j' l.length/\∀n,n∈l->ay3 n
abbrev atS(l:List aw):Prop:=j' l.length/\∀n,n∈l->ay4 n
abbrev ay2(p:aG):Prop:=j' p.name.length/\j' p.aW.length/\atQ p.bi/\atS p.bB
abbrev ZI(l:List aG):Prop:=j' l.length/\∀n,n∈l->ay2 n
theorem ZI.yi{ps:List aG}(h:ZI ps):fb ps/\jI ps:=by
 obtain⟨h1,h2⟩:=h;have up:∀{n:Nat},j' n->ci n:=fun h=>Nat.le_trans h (by decide)
 have aaW:∀{n:Nat},j' n->n<=2097151:=fun h=>Nat.le_trans h (by decide)
 refine⟨⟨up h1,fun p hp=>?_⟩,fun p hp=>?_⟩
 ·obtain⟨a,b,c,d⟩:=h2 p hp;exact⟨up a,up b,⟨up c.1,fun n hn=>⟨up (c.2 n hn).1,up (c.2 n hn).2⟩⟩,up d.1,fun n hn=>⟨up (d.2 n hn).1,up (d.2 n hn).2⟩⟩
 ·obtain⟨a,b,c,d⟩:=h2 p hp;exact⟨aaW b,fun n hn=>aaW (c.2 n hn).2⟩
abbrev i19:Shape:=⟨[b_ 0 [ah,ah],b_ 1 [ah,ah]],[],15⟩
abbrev abH:Shape:=⟨[ap 4],[],15⟩
noncomputable def f19(a:i19.J):Option abH.J:=
 bif(!(a.1.1.1==a.1.2.1.1)) then
 some ((false,()),())
else
 bif(!(a.1.1.2.1==a.1.2.1.2.1)) then
 some ((false,()),())
else
 some ((true,()),())
noncomputable def ac4:aD:=aH ad Tryz.f19 i19 abH [] f19
theorem awn:aB O 19 ac4:=aK g0 Tryz.func19 (by kernel_rfl) ae (fun y=>by kernel_rfl) fun a=>by kernel_rfl
noncomputable abbrev azO:a_:=[(34,Nl)]
theorem aAd:aR O (aX ad azO):=aV ⟨aaN,⟨⟩⟩
abbrev i27:Shape:=⟨[b_ 0 [bn .pack]],[],6⟩
abbrev abE:Shape:=⟨[ay 2 2 0],[ax 2 [ah,ah]],6⟩
noncomputable def f27(a:i27.J):Option abE.J:=
(f34 (((a.1.1.1,()),()),())).bind fun b=>
 some (((),()),(b.1.1,([]:B),()),())
noncomputable def En:aD:=aH ad Tryz.f27 i27 abE [] f27
theorem L0:aB O 27 En:=aK aAd Tryz.func27 (by kernel_rfl) ae (fun y=>by kernel_rfl) fun a=>by kernel_rfl
noncomputable abbrev azN:a_:=[(37,ac1)]
theorem aAc:aR O (aX ad azN):=aV ⟨z37,⟨⟩⟩
abbrev i29:Shape:=⟨[b_ 0 [bn .pack]],[],6⟩
abbrev abC:Shape:=⟨[ay 2 2 0],[ax 2 [ah,ah]],6⟩
noncomputable def f29(a:i29.J):Option abC.J:=
(f37 (((a.1.1.1,()),()),())).bind fun b=>
 some (((),()),(b.1.1,([]:B),()),())
noncomputable def Np:aD:=aH ad Tryz.f29 i29 abC [] f29
theorem aaP:aB O 29 Np:=aK aAc Tryz.func29 (by kernel_rfl) ae (fun y=>by kernel_rfl) fun a=>by kernel_rfl
theorem ahS(ps:List aG)(hb:fb ps)(hv:jI ps):f29 (((ps,()),()),())=some (((),()),(((bif ej ps then b8 ps else []),(([]:B),())),())):=by
 simp only[f29,ahO ps hb hv,Option.bind_some]
theorem Pr(ps:List aG)(hb:fb ps)(hv:jI ps):f27 (((ps,()),()),())=some (((),()),(((bif ej ps then b8 ps else []),(([]:B),())),())):=by
 simp only[f27,Pp ps hb hv,Option.bind_some]
abbrev i11:Shape:=⟨[b_ 0 [ah,ah],ag 1],[],20⟩
abbrev DR:Shape:=⟨[ag 4],[],20⟩
noncomputable def f11(a:i11.J):Option DR.J:=
 bif(decide ((IntKind.i64.wrap (a.1.2.1-(a.1.1.1.length:Int)))<(0:Int))) then
 some ((((-1):Int),()),())
else
 bif(decide ((IntKind.i64.wrap ((IntKind.i64.wrap (a.1.2.1-(a.1.1.1.length:Int)))-(a.1.1.2.1.length:Int)))<(0:Int))) then
 some ((((-1):Int),()),())
else
 some (((IntKind.i64.wrap ((IntKind.i64.wrap (a.1.2.1-(a.1.1.1.length:Int)))-(a.1.1.2.1.length:Int))),()),())
noncomputable def uJ:aD:=aH ad Tryz.f11 i11 DR [] f11
theorem aaT:aB O 11 uJ:=aK g0 Tryz.func11 (by kernel_rfl) ae (fun y=>by kernel_rfl) fun a=>by kernel_rfl
abbrev i13:Shape:=⟨[b_ 0 [ah,ah]],[],11⟩
abbrev abM:Shape:=⟨[ay 2 2 0],[ax 2 [ah,ah]],11⟩
noncomputable def f13(a:i13.J):Option abM.J:=
 some (((),()),(a.1.1.1,a.1.1.2.1,()),())
noncomputable def x1:aD:=aH ad Tryz.f13 i13 abM [] f13
theorem aaS:aB O 13 x1:=aK g0 Tryz.func13 (by kernel_rfl) ae (fun y=>by kernel_rfl) fun a=>by kernel_rfl
noncomputable abbrev azB:a_:=[(70,Ej),(83,xZ)]
theorem az5:aR O (aX ad azB):=aV ⟨z70,DF,⟨⟩⟩
abbrev i45:Shape:=⟨[b_ 0 [bn .pack]],[],13⟩
abbrev abt:Shape:=⟨[ak 2],[],13⟩
noncomputable def f45(a:i45.J):Option abt.J:=
(f70 (((a.1.1.1,()),()),())).bind fun b=>
(f83 (((b.1.1.length:Int),()),())).bind fun c=>
(b4 c.1.1 ([10]:B)).bind fun d=>
(b4 d b.1.1).bind fun e=>
(b4 e ([101,110,100,10]:B)).bind fun f=>
 some ((f,()),())
noncomputable def acX:aD:=aH ad Tryz.f45 i45 abt [] f45
theorem awj:aB O 45 acX:=aK az5 Tryz.func45 (by kernel_rfl) ae (fun y=>by kernel_rfl) fun a=>by kernel_rfl
noncomputable abbrev azT:a_:=[(12,uI),(30,uH),(45,acX)]
theorem Es:aR O (aX ad azT):=aV ⟨z12,xk,awj,⟨⟩⟩
abbrev UI:Shape:=⟨[ag 2,ay 3 3 0,ay 4 4 0,ay 6 6 0],[ax 3 [ah,ah],ax 4 [bn .pack],ax 6 [ah,ah]],33⟩
abbrev Uv:List aP:=[(.norm,⟨[ag 2,ay 3 3 0,ay 4 4 0,ay 6 6 0,ap 15],[ax 3 [ah,ah],ax 4 [bn .pack],ax 6 [ah,ah]],33⟩)]
noncomputable def JW(y:UI.J):Option (aC Uv):=
(f12 (((y.2.1.1,y.2.1.2.1,()),()),())).bind fun a=>
 bif(!(!a.1.1)) then
(f30 (((y.2.2.1.1,()),()),())).bind fun b=>
 some ((y.1.1,(),(),(),(!b.1.1),()),(y.2.1.1,y.2.1.2.1,()),(y.2.2.1.1,()),(y.2.2.2.1.1,y.2.2.2.1.2.1,()),())
else
 some ((y.1.1,(),(),(),true,()),(y.2.1.1,y.2.1.2.1,()),(y.2.2.1.1,()),(y.2.2.2.1.1,y.2.2.2.1.2.1,()),())
theorem aoU:aT O (an (codeOf Tryz.f16) 1 12) (aU UI Uv JW):=ce Es (by kernel_rfl) ae fun y=>by kernel_rfl
abbrev UH:Shape:=⟨[ag 2,ay 3 3 0,ay 6 6 0,ak 7],[ax 3 [ah,ah],ax 6 [ah,ah]],33⟩
abbrev Uu:List aP:=[(.norm,⟨[ag 2,ay 3 3 0,ay 6 6 0,ak 7],[ax 3 [ah,ah],ax 6 [ah,ah]],33⟩)]
noncomputable def JV(y:UH.J):Option (aC Uu):=
 bif(decide (y.1.1<(0:Int))) then
 some (((0:Int),(),(),y.1.2.2.2.1,()),(y.2.1.1,y.2.1.2.1,()),(y.2.2.1.1,y.2.2.1.2.1,()),())
else
 some ((y.1.1,(),(),y.1.2.2.2.1,()),(y.2.1.1,y.2.1.2.1,()),(y.2.2.1.1,y.2.2.1.2.1,()),())
theorem aoT:aT O (an (codeOf Tryz.f16) 1 30) (aU UH Uu JV):=ce Es (by kernel_rfl) ae fun y=>by kernel_rfl
abbrev UG:Shape:=⟨[ag 2,ay 3 3 0,ay 6 6 0,ak 7],[ax 3 [ah,ah],ax 6 [ah,ah]],33⟩
abbrev Ut:List aP:=[(.norm,⟨[ag 2,ay 3 3 0,ay 6 6 0,ak 7],[ax 3 [ah,ah],ax 6 [ah,ah]],33⟩)]
noncomputable def JU(y:UG.J):Option (aC Ut):=
 bif(decide (y.1.1>(y.1.2.2.2.1.length:Int))) then
 some (((y.1.2.2.2.1.length:Int),(),(),y.1.2.2.2.1,()),(y.2.1.1,y.2.1.2.1,()),(y.2.2.1.1,y.2.2.1.2.1,()),())
else
 some ((y.1.1,(),(),y.1.2.2.2.1,()),(y.2.1.1,y.2.1.2.1,()),(y.2.2.1.1,y.2.2.1.2.1,()),())
theorem aoS:aT O (an (codeOf Tryz.f16) 1 62) (aU UG Ut JU):=ce Es (by kernel_rfl) ae fun y=>by kernel_rfl
abbrev i16:Shape:=⟨[b_ 0 [ah,ah],b_ 1 [bn .pack],ag 2],[],33⟩
abbrev abK:Shape:=⟨[ay 6 6 0],[ax 6 [ah,ah]],33⟩
noncomputable def f16(a:i16.J):Option abK.J:=
(JW ((a.1.2.2.1,(),(),(),()),(a.1.1.1,a.1.1.2.1,()),(a.1.2.1.1,()),(([]:B),([]:B),()),())).bind fun b=>
 bif b.1.2.2.2.2.1 then
 some (((),()),(([]:B),([]:B),()),())
else
(f45 (((b.2.2.1.1,()),()),())).bind fun c=>
(JV ((b.1.1,(),(),c.1.1,()),(b.2.1.1,b.2.1.2.1,()),(b.2.2.2.1.1,b.2.2.2.1.2.1,()),())).bind fun d=>
(JU ((d.1.1,(),(),d.1.2.2.2.1,()),(d.2.1.1,d.2.1.2.1,()),(d.2.2.1.1,d.2.2.1.2.1,()),())).bind fun e=>
(bm e.1.2.2.2.1 (0:Int) e.1.1).bind fun f=>
 some (((),()),(e.2.1.1,f,()),())
noncomputable def Ns:aD:=aH ad Tryz.f16 i16 abK [] f16
theorem aaR:aB O 16 Ns:=aK Es Tryz.func16 (by kernel_rfl) (a8 aoU (a8 aoT (a8 aoS ae))) (fun y=>by kernel_rfl) fun a=>by kernel_rfl
noncomputable abbrev azz:a_:=[(64,Dp)]
theorem az4:aR O (aX ad azz):=aV ⟨Ku,⟨⟩⟩
abbrev i47:Shape:=⟨[ak 0],[],10⟩
abbrev abq:Shape:=⟨[ak 2],[],10⟩
noncomputable def f47(a:i47.J):Option abq.J:=
(if-9223372036854775808<=(a.1.1.length:Int)/\(a.1.1.length:Int)<=9223372036854775807 then some () else none).bind fun b=>
(b4 (Lib.itoa (a.1.1.length:Int)) ([10]:B)).bind fun c=>
(b4 c a.1.1).bind fun d=>
(b4 d ([101,110,100,10]:B)).bind fun e=>
 some ((e,()),())
noncomputable def acV:aD:=aH ad Tryz.f47 i47 abq [] f47
theorem awi:aB O 47 acV:=aK az4 Tryz.func47 (by kernel_rfl) ae (fun y=>by kernel_rfl) fun a=>by kernel_rfl
noncomputable abbrev azR:a_:=[(14,rW),(34,Nl),(43,Em),(47,acV)]
theorem adp:aR O (aX ad azR):=aV ⟨DG,aaN,LZ,awi,⟨⟩⟩
abbrev UF:Shape:=⟨[ag 2,ay 3 3 0,ay 4 4 0,ay 6 6 0],[ax 3 [ah,ah],ax 4 [bn .pack],ax 6 [ah,ah]],30⟩
abbrev Us:List aP:=[(.norm,⟨[ag 2,ay 3 3 0,ay 4 4 0,ay 6 6 0,ap 15],[ax 3 [ah,ah],ax 4 [bn .pack],ax 6 [ah,ah]],30⟩)]
noncomputable def JT(y:UF.J):Option (aC Us):=
(f14 (((y.2.1.1,y.2.1.2.1,()),()),())).bind fun a=>
 bif(!(!a.1.1)) then
(f43 (((y.2.2.1.1,()),()),())).bind fun b=>
 some ((y.1.1,(),(),(),(!b.1.1),()),(y.2.1.1,y.2.1.2.1,()),(y.2.2.1.1,()),(y.2.2.2.1.1,y.2.2.2.1.2.1,()),())
else
 some ((y.1.1,(),(),(),true,()),(y.2.1.1,y.2.1.2.1,()),(y.2.2.1.1,()),(y.2.2.2.1.1,y.2.2.2.1.2.1,()),())
theorem aoR:aT O (an (codeOf Tryz.f18) 1 12) (aU UF Us JT):=ce adp (by kernel_rfl) ae fun y=>by kernel_rfl
abbrev i18:Shape:=⟨[b_ 0 [ah,ah],b_ 1 [bn .pack],ag 2],[],30⟩
abbrev abI:Shape:=⟨[ay 6 6 0],[ax 6 [ah,ah]],30⟩
noncomputable def f18(a:i18.J):Option abI.J:=
(JT ((a.1.2.2.1,(),(),(),()),(a.1.1.1,a.1.1.2.1,()),(a.1.2.1.1,()),(([]:B),([]:B),()),())).bind fun b=>
 bif b.1.2.2.2.2.1 then
 some (((),()),(([]:B),([]:B),()),())
else
(f34 (((b.2.2.1.1,()),()),())).bind fun c=>
(f47 ((c.1.1,()),())).bind fun d=>
(bm d.1.1 (0:Int) (kp (ga b.1.1 (0:Int)) (d.1.1.length:Int))).bind fun e=>
 some (((),()),(b.2.1.1,e,()),())
noncomputable def Nr:aD:=aH ad Tryz.f18 i18 abI [] f18
theorem aaQ:aB O 18 Nr:=aK adp Tryz.func18 (by kernel_rfl) (a8 aoR ae) (fun y=>by kernel_rfl) fun a=>by kernel_rfl
noncomputable abbrev Oa:a_:=[(11,uJ),(12,uI),(13,x1),(14,rW)]
theorem Of:aR O (aX ad Oa):=aV ⟨aaT,z12,aaS,DG,⟨⟩⟩
abbrev i3:Shape:=⟨[b_ 0 [ah,ah]],[],20⟩
abbrev o3:Shape:=⟨[ap 2],[],20⟩
noncomputable def f3(a:i3.J):Option o3.J:=
(f11 (((a.1.1.1,a.1.1.2.1,()),(1048576:Int),()),())).bind fun b=>
 bif(decide (b.1.1<(0:Int))) then
 some ((true,()),())
else
(f13 (((a.1.1.1,a.1.1.2.1,()),()),())).bind fun c=>
(f12 (((c.2.1.1,c.2.1.2.1,()),()),())).bind fun d=>
(f13 (((a.1.1.1,a.1.1.2.1,()),()),())).bind fun e=>
(f14 (((e.2.1.1,e.2.1.2.1,()),()),())).bind fun f=>
 bif(!(f.1.1==d.1.1)) then
 some ((false,()),())
else
 some ((true,()),())
noncomputable def jh:aD:=aH ad Tryz.f3 i3 o3 [] f3
theorem z3:aB O 3 jh:=aK Of Tryz.func3 (by kernel_rfl) ae (fun y=>by kernel_rfl) fun a=>by kernel_rfl
noncomputable abbrev N':a_:=[(11,uJ),(13,x1),(15,x0),(16,Ns),(17,ac5),(18,Nr),(19,ac4),(20,ac3)]
theorem Oe:aR O (aX ad N'):=aV ⟨aaT,aaS,awp,aaR,awo,aaQ,awn,z20,⟨⟩⟩
abbrev i4:Shape:=⟨[b_ 0 [ah,ah],b_ 1 [bn .pack],ag 2],[],43⟩
abbrev adE:Shape:=⟨[ap 6],[],43⟩
noncomputable def f4(a:i4.J):Option adE.J:=
(f11 (((a.1.1.1,a.1.1.2.1,()),(1048576:Int),()),())).bind fun b=>
 bif(decide (b.1.1<(0:Int))) then
 some ((true,()),())
else
(f15 (((a.1.2.1.1,()),b.1.1,()),())).bind fun c=>
 bif(decide (c.1.1<(0:Int))) then
 some ((true,()),())
else
(f13 (((a.1.1.1,a.1.1.2.1,()),()),())).bind fun d=>
(f17 (((a.1.2.1.1,()),()),())).bind fun e=>
(f16 (((d.2.1.1,d.2.1.2.1,()),(e.2.1,()),a.1.2.2.1,()),())).bind fun f=>
(f17 (((a.1.2.1.1,()),()),())).bind fun g=>
(f13 (((a.1.1.1,a.1.1.2.1,()),()),())).bind fun h=>
(f18 (((h.2.1.1,h.2.1.2.1,()),(g.2.1,()),a.1.2.2.1,()),())).bind fun i=>
(f19 (((i.2.1.1,i.2.1.2.1,()),(f.2.1.1,f.2.1.2.1,()),()),())).bind fun j=>
 bif(!j.1.1) then
 some ((false,()),())
else
(f17 (((a.1.2.1.1,()),()),())).bind fun k=>
(f20 (((g.2.1,()),(k.2.1,()),()),())).bind fun l=>
 bif(!l.1.1) then
 some ((false,()),())
else
 some ((true,()),())
noncomputable def l4:aD:=aH ad Tryz.f4 i4 adE [] f4
theorem z4:aB O 4 l4:=aK Oe Tryz.func4 (by kernel_rfl) ae (fun y=>by kernel_rfl) fun a=>by kernel_rfl
def gd:B:=[101,110,100,10]
def e'(ps:List aG):B:=cG (b8 ps)++gd
theorem R6{ps:List aG}(hb:fb ps)(hr:ej ps=true):(b8 ps).length<=503317500:=by
 have hk:=(kb hr).1;have bl:=(kb hr).2;have h1:=m' (f:=fun p=>cG (bw p)) (xs:=ps) (n:=100663500) fun p hp=>FL (hb.2 p hp) (hk p hp)
 have aA:ps.length*100663500<=5*100663500:=Nat.mul_le_mul_right _ bl;have e:(b8 ps).length=(ps.flatMap fun p=>cG (bw p)).length:=rfl
 omega
theorem ahy(s:B)(hs:s.length<=1000000000):f47 ((s,()),())=some ((cG s++gd,()),()):=by
 have h2:=jK s.length (by omega)
 have e1:=du (s:=Lib.itoa (s.length:Int)) (t:=[10]) (by simp;omega)
 have e2:=du (s:=Lib.itoa (s.length:Int)++[10]) (t:=s) (by simp;omega)
 have br:=du (s:=Lib.itoa (s.length:Int)++[10]++s) (t:=[101,110,100,10]) (by simp;omega)
 simp only[f47];refine(kB (if_pos ⟨?_,?_⟩)).trans ((kB e1).trans ((kB e2).trans ((kB br).trans rfl)))
 ·omega
 ·omega
theorem ajF(ps:List aG)(hb:fb ps)(hr:ej ps=true):f45 (((ps,()),()),())=some ((e' ps,()),()):=by
 have hl:=R6 hb hr;have eT:=z_ ps hb (kb hr).1;have Z:f83 ((((b8 ps).length:Int),()),())=_:=z' (b8 ps).length (by omega)
 have h2:=jK (b8 ps).length (by omega)
 have e1:=du (s:=Lib.itoa ((b8 ps).length:Int)) (t:=[10]) (by simp;omega)
 have e2:=du (s:=Lib.itoa ((b8 ps).length:Int)++[10]) (t:=b8 ps) (by simp;omega)
 have br:=du (s:=Lib.itoa ((b8 ps).length:Int)++[10]++b8 ps) (t:=[101,110,100,10]) (by simp;omega)
 simp only[f45];exact(kB eT).trans ((kB Z).trans ((kB e1).trans ((kB e2).trans ((kB br).trans rfl))))
def jR(b:Int)(n:Nat):Nat:=min b.toNat n
theorem Rq(b:Int)(n:Nat):jR b n<=n:=Nat.min_le_right _ _
abbrev kk(k:Bool)(s:B)(ps:List aG)(b:Int):B×B:=bif k&&ej ps then(s,(e' ps).take (jR b (e' ps).length)) else([],[])
theorem OP(s t:B)(ps:List aG)(b:Int)(hb:fb ps)(hv:jI ps)(k:Bool)(hk:f14 (((s,(t,())),()),())=some ((k,()),())):
  f18 (((s,(t,())),((ps,()),(b,()))),())=some (((),()),(((kk k s ps b).1,((kk k s ps b).2,())),())):=by
 have e1:=yQ (((ps,()),()),()) hb hv;have e1:f43 (((ps,()),()),())=some ((ej ps,()),()):=e1;simp only[f18,JT,hk,Option.bind_some];cases k with
 |false=>rfl
 |true=>
  cases hr:ej ps with
  |false=>
   rw[hr] at e1;simp only[kk,hr,Bool.not_true,Bool.not_false,cond_true,e1,Option.bind_some,Bool.true_and,cond_false]
  |true=>
   rw[hr] at e1;have e2:=Pp ps hb hv;rw[hr] at e2;have hl:=R6 hb hr;have br:=ahy (b8 ps) (by omega)
   have br:f47 ((b8 ps,()),())=some ((e' ps,()),()):=br;have hm:kp (ga b 0) ((e' ps).length:Int)=((jR b (e' ps).length:Nat):Int):=by
    unfold kp ga jR;split<;>split<;>omega
   have da:bm (e' ps) 0 ((jR b (e' ps).length:Nat):Int)=some _:=fY (Rq b _);simp only[kk,hr,Bool.not_true,Bool.not_false,cond_true,e1,Option.bind_some,Bool.true_and,cond_false,e2,br,hm,da]
theorem agB(s t:B)(ps:List aG)(b:Int)(hb:fb ps)(hv:jI ps)(k:Bool)(hk:f12 (((s,(t,())),()),())=some ((k,()),())):
  f16 (((s,(t,())),((ps,()),(b,()))),())=some (((),()),(((kk k s ps b).1,((kk k s ps b).2,())),())):=by
 have e1:=vp (((ps,()),()),()) hb hv;have e1:f30 (((ps,()),()),())=some ((ej ps,()),()):=e1;simp only[f16,JW,hk,Option.bind_some];cases k with
 |false=>rfl
 |true=>
  cases hr:ej ps with
  |false=>
   rw[hr] at e1;simp only[kk,hr,Bool.not_true,Bool.not_false,cond_true,e1,Option.bind_some,Bool.true_and,cond_false]
  |true=>
   rw[hr] at e1;have br:=ajF ps hb hr;have fin:∀x:Int,x=((jR b (e' ps).length:Nat):Int)->bm (e' ps) 0 x=some ((e' ps).take (jR b (e' ps).length)):=fun x hx=>by rw[hx];exact fY (Rq b _)
   simp only[kk,hr,Bool.not_true,Bool.not_false,cond_true,e1,Option.bind_some,Bool.true_and,cond_false,br,JV,JU];by_cases h0:b<0
   ·have d0:decide ((0:Int)>((e' ps).length:Int))=false:=decide_eq_false (by omega)
    simp only[h0,decide_true,cond_true,Option.bind_some,d0,cond_false,fin 0 (by unfold jR;omega)]
   ·simp only[h0,decide_false,cond_false,Option.bind_some];by_cases h1:b>((e' ps).length:Int)
    ·simp only[h1,decide_true,cond_true,Option.bind_some,fin _ (show((e' ps).length:Int)=_ by unfold jR;omega)]
    ·simp only[h1,decide_false,cond_false,Option.bind_some,fin b (by unfold jR;omega)]
abbrev RO:Shape:=⟨[ay 0 500000 0,ag 1],[ax 500000 [bn .u8,a6]],99⟩
abbrev Ru:List aP:=[(.norm,⟨[ay 0 500000 0,ag 1,ap 24],[ax 500000 [bn .u8,a6]],99⟩)]
noncomputable def zQ(y:RO.J):Option (aC Ru):=
 bif(!(decide (y.1.2.1<(1:Int)))) then
 some (((),y.1.2.1,((y.2.1.1.length:Int)==(0:Int)),()),(y.2.1.1,y.2.1.2.1,()),())
else
 some (((),y.1.2.1,true,()),(y.2.1.1,y.2.1.2.1,()),())
theorem aka:aT O (an (codeOf Tryz.f78) 1 28) (aU RO Ru zQ):=ce g0 (by kernel_rfl) ae fun y=>by kernel_rfl
abbrev WC:Shape:=⟨[ay 0 500000 0,ag 1],[ax 500000 [bn .u8,a6]],99⟩
abbrev Wn:Shape:=⟨[ay 0 500000 0,ag 4],[ax 500000 [bn .u8,a6]],99⟩
noncomputable def gp(a:WC.J):Option Wn.J:=
(zQ (((),a.1.2.1,()),(a.2.1.1,(IntKind.i64.wrap (a.2.1.2.1+(1:Int))),()),())).bind fun b=>
 bif b.1.2.2.1 then
 some (((),(0:Int),()),(b.2.1.1,b.2.1.2.1,()),())
else
 bif(decide ((IntKind.i64.wrap (b.2.1.2.1-(1:Int)))<(b.2.1.1.length:Int))) then
(aO b.2.1.1 (IntKind.i64.wrap (b.2.1.2.1-(1:Int)))).bind fun c=>
(iK (IntKind.i64.wrap c) b.1.2.1).bind fun d=>
 some (((),d,()),(b.2.1.1,b.2.1.2.1,()),())
else
(iK (IntKind.i64.wrap (b.2.1.2.1-(1:Int))) (b.2.1.1.length:Int)).bind fun e=>
(aO b.2.1.1 e).bind fun f=>
(iK (IntKind.i64.wrap ((IntKind.i64.wrap ((IntKind.i64.wrap (b.2.1.2.1-(1:Int)))*(7:Int)))+(3:Int))) (b.2.1.1.length:Int)).bind fun g=>
(aO b.2.1.1 g).bind fun h=>
(lM .i64 (IntKind.i64.wrap (b.2.1.2.1-(1:Int))) (b.2.1.1.length:Int)).bind fun i=>
(lM .i64 (IntKind.i64.wrap ((IntKind.i64.wrap ((IntKind.i64.wrap ((IntKind.i64.wrap ((IntKind.i64.wrap f)*(131:Int)))+(IntKind.i64.wrap ((IntKind.i64.wrap h)*(1117:Int)))))+(IntKind.i64.wrap ((IntKind.i64.wrap (b.2.1.2.1-(1:Int)))*(29:Int)))))+(IntKind.i64.wrap (i*(53:Int))))) (64:Int)).bind fun j=>
(iK (dl .i64 (IntKind.i64.wrap ((IntKind.i64.wrap ((IntKind.i64.wrap ((IntKind.i64.wrap ((IntKind.i64.wrap f)*(131:Int)))+(IntKind.i64.wrap ((IntKind.i64.wrap h)*(1117:Int)))))+(IntKind.i64.wrap ((IntKind.i64.wrap (b.2.1.2.1-(1:Int)))*(29:Int)))))+(IntKind.i64.wrap (i*(53:Int))))) j) b.1.2.1).bind fun k=>
 some (((),k,()),(b.2.1.1,b.2.1.2.1,()),())
noncomputable def jr:aD:=aH ad Tryz.f78 WC Wn [0] gp
theorem jQ:aB O 78 jr:=aK g0 Tryz.func78 (by kernel_rfl) (a8 aka ae) (fun y=>by kernel_rfl) fun a=>by kernel_rfl
noncomputable abbrev arh:a_:=[(78,jr)]
theorem arm:aR O (aX ad arh):=aV ⟨jQ,⟨⟩⟩
abbrev WB:Shape:=⟨[ay 0 500000 0,aL 1 .str],[ax 500000 [bn .u8,a6]],12⟩
abbrev Wm:Shape:=⟨[ay 0 500000 0,ak 4],[ax 500000 [bn .u8,a6]],12⟩
noncomputable def jX(a:WB.J):Option Wm.J:=
(gp (((),(a.1.2.1.length:Int),()),(a.2.1.1,a.2.1.2.1,()),())).bind fun b=>
(aO a.1.2.1 b.1.2.1).bind fun c=>
 some (((),c,()),(b.2.1.1,b.2.1.2.1,()),())
noncomputable def lG:aD:=aH ad Tryz.f79 WB Wm [0] jX
theorem mh:aB O 79 lG:=aK arm Tryz.func79 (by kernel_rfl) ae (fun y=>by kernel_rfl) fun a=>by kernel_rfl
noncomputable abbrev apJ:a_:=[(79,lG)]
theorem ap2:aR O (aX ad apJ):=aV ⟨mh,⟨⟩⟩
abbrev Vq:Shape:=⟨[ay 0 500000 0],[ax 500000 [bn .u8,a6]],6⟩
abbrev UX:Shape:=⟨[ay 0 500000 0,ak 2],[ax 500000 [bn .u8,a6]],6⟩
noncomputable def tg(a:Vq.J):Option UX.J:=
(jX (((),([([49]:B),([49,46,48]:B),([49,46,49]:B),([49,46,50]:B),([50]:B),([48,46,57,46,57]:B),([49,46,49,48]:B),([57,57,57,46,57,57,57,46,57,57,57,46,57,57,57]:B)]:List B),()),(a.2.1.1,a.2.1.2.1,()),())).bind fun b=>
 some (((),b.1.2.1,()),(b.2.1.1,b.2.1.2.1,()),())
noncomputable def CA:aD:=aH ad Tryz.f176 Vq UX [0] tg
theorem I_:aB O 176 CA:=aK ap2 Tryz.func176 (by kernel_rfl) ae (fun y=>by kernel_rfl) fun a=>by kernel_rfl
noncomputable abbrev aud:a_:=[(143,LC),(144,LB),(145,LA),(194,Dr),(202,xb)]
theorem LI:aR O (aX ad aud):=aV ⟨z143,Xa,z145,z194,C4,⟨⟩⟩
abbrev RW:Shape:=⟨[aL 0 .entry,ay 3 3 0,ba 4 3000256,ap 5,ag 6,ap 7,ba 8 3000512],[ax 3 [ah,a6,a6,ah],a' 3000256 .entry 4 0,a' 3000512 .entry 8 0],68⟩
abbrev RC:List aP:=[(.norm,⟨[aL 0 .entry,ay 3 3 0,ba 4 3000256,ap 5,ag 6,ap 7,ba 8 3000512,ap 18],[ax 3 [ah,a6,a6,ah],a' 3000256 .entry 4 0,a' 3000512 .entry 8 0],68⟩)]
noncomputable def zV(y:RW.J):Option (aC RC):=
(f143 (((y.2.1.1,y.2.1.2.1,y.2.1.2.2.1,y.2.1.2.2.2.1,()),()),())).bind fun a=>
 bif(!(!a.1.1)) then
(f145 ((y.2.1.1,()),())).bind fun b=>
(f144 ((y.1.1,b.1.1,()),())).bind fun c=>
 some ((y.1.1,(),(),y.1.2.2.2.1,y.1.2.2.2.2.1,y.1.2.2.2.2.2.1,(),(!c.1.1),()),(y.2.1.1,y.2.1.2.1,y.2.1.2.2.1,y.2.1.2.2.2.1,()),y.2.2.1,y.2.2.2.1,())
else
 some ((y.1.1,(),(),y.1.2.2.2.1,y.1.2.2.2.2.1,y.1.2.2.2.2.2.1,(),true,()),(y.2.1.1,y.2.1.2.1,y.2.1.2.2.1,y.2.1.2.2.2.1,()),y.2.2.1,y.2.2.2.1,())
theorem akq:aT O (an (codeOf Tryz.f223) 1 120) (aU RW RC zV):=ce LI (by kernel_rfl) ae fun y=>by kernel_rfl
abbrev RV:Shape:=⟨[aL 0 .entry,ay 3 3 0,ba 4 3000256,ap 5,ag 6,ap 7,ba 8 3000512],[ax 3 [ah,a6,a6,ah],a' 3000256 .entry 4 0,a' 3000512 .entry 8 0],68⟩
abbrev RB:List aP:=[(.norm,⟨[aL 0 .entry,ay 3 3 0,ba 4 3000256,ap 5,ag 6,ap 7,ba 8 3000512,ap 31],[ax 3 [ah,a6,a6,ah],a' 3000256 .entry 4 0,a' 3000512 .entry 8 0],68⟩)]
noncomputable def zU(y:RV.J):Option (aC RB):=
 bif y.1.2.2.2.2.2.1 then
(aO y.1.1 y.1.2.2.2.2.1).bind fun a=>
 some ((y.1.1,(),(),y.1.2.2.2.1,y.1.2.2.2.2.1,y.1.2.2.2.2.2.1,(),(a.kind !=y.2.1.2.1),()),(y.2.1.1,y.2.1.2.1,y.2.1.2.2.1,y.2.1.2.2.2.1,()),y.2.2.1,y.2.2.2.1,())
else
 some ((y.1.1,(),(),y.1.2.2.2.1,y.1.2.2.2.2.1,y.1.2.2.2.2.2.1,(),false,()),(y.2.1.1,y.2.1.2.1,y.2.1.2.2.1,y.2.1.2.2.2.1,()),y.2.2.1,y.2.2.2.1,())
theorem akp:aT O (an (codeOf Tryz.f223) 1 486) (aU RV RB zU):=ce LI (by kernel_rfl) ae fun y=>by kernel_rfl
abbrev i223:Shape:=⟨[aL 0 .entry,b_ 1 [ah,a6,a6,ah]],[],68⟩
abbrev XO:Shape:=⟨[ba 4 3000256,ap 5],[a' 3000256 .entry 4 0],68⟩
noncomputable def f223(a:i223.J):Option XO.J:=
(f194 ((a.1.1,a.1.2.1.1,()),())).bind fun b=>
(f202 ((a.1.1,()),())).bind fun c=>
(zV ((a.1.1,(),(),false,b.1.1,b.1.2.1,(),()),(a.1.2.1.1,a.1.2.1.2.1,a.1.2.1.2.2.1,a.1.2.1.2.2.2.1,()),([]:List aw),c.2.1,())).bind fun d=>
 bif d.1.2.2.2.2.2.2.2.1 then
 some (((),false,()),d.2.2.2.1,())
else
(zU ((d.1.1,(),(),d.1.2.2.2.1,d.1.2.2.2.2.1,d.1.2.2.2.2.2.1,(),()),(d.2.1.1,d.2.1.2.1,d.2.1.2.2.1,d.2.1.2.2.2.1,()),d.2.2.1,d.2.2.2.1,())).bind fun e=>
 bif e.1.2.2.2.2.2.2.2.1 then
 some (((),false,()),e.2.2.2.1,())
else
 bif e.1.2.2.2.2.2.1 then
(be e.2.2.2.1.length e.1.2.2.2.2.1).bind fun f=>
((e.2.2.2.1[f]?).bind fun q=>some (aw.mk e.2.1.1 e.2.1.2.1 e.2.1.2.2.1 e.2.1.2.2.2.1)).bind fun g=>
 some (((),true,()),(e.2.2.2.1.set f g),())
else
 bif(decide ((e.1.1.length:Int)>=(16:Int))) then
 some (((),false,()),e.2.2.2.1,())
else
(bm e.1.1 (0:Int) e.1.2.2.2.2.1).bind fun h=>
(b9 48 ([]:List aw) h).bind fun i=>
(b9 48 i ([(aw.mk e.2.1.1 e.2.1.2.1 e.2.1.2.2.1 e.2.1.2.2.2.1)]:List aw)).bind fun j=>
(bm e.1.1 e.1.2.2.2.2.1 (e.1.1.length:Int)).bind fun k=>
(b9 48 j k).bind fun l=>
 some (((),true,()),l,())
noncomputable def Z9:aD:=aH ad Tryz.f223 i223 XO [] f223
theorem arQ:aB O 223 Z9:=aK LI Tryz.func223 (by kernel_rfl) (a8 akq (a8 akp ae)) (fun y=>by kernel_rfl) fun a=>by kernel_rfl
noncomputable abbrev apA:a_:=[(79,lG)]
theorem apW:aR O (aX ad apA):=aV ⟨mh,⟨⟩⟩
abbrev Vh:Shape:=⟨[ay 0 500000 0],[ax 500000 [bn .u8,a6]],6⟩
abbrev UP:Shape:=⟨[ay 0 500000 0,ak 2],[ax 500000 [bn .u8,a6]],6⟩
noncomputable def tf(a:Vh.J):Option UP.J:=
(jX (((),([([97]:B),([98]:B),([97,47,98]:B),([97,47,99]:B),([97,47,98,47,99]:B),([108,105,98]:B),([108,105,98,47,120]:B),([108,105,98,47,120,46,99]:B),([100,111,99,47,121]:B),([98,105,110]:B),([98,105,110,47,122]:B),([97,47,98,47,99,47,100,47,101]:B)]:List B),()),(a.2.1.1,a.2.1.2.1,()),())).bind fun b=>
 some (((),b.1.2.1,()),(b.2.1.1,b.2.1.2.1,()),())
noncomputable def J3:aD:=aH ad Tryz.f261 Vh UP [0] tf
theorem T':aB O 261 J3:=aK apW Tryz.func261 (by kernel_rfl) ae (fun y=>by kernel_rfl) fun a=>by kernel_rfl
abbrev RU:Shape:=⟨[ak 0,ag 1,ak 5],[],20⟩
abbrev RA:List aP:=[(.norm,⟨[ak 0,ag 1,ak 5],[],20⟩)]
noncomputable def zT(y:RU.J):Option (aC RA):=
(iK y.1.2.1 (2:Int)).bind fun a=>
 bif(a==(1:Int)) then
(b4 y.1.2.2.1 y.1.1).bind fun b=>
 some ((y.1.1,y.1.2.1,b,()),())
else
 some ((y.1.1,y.1.2.1,y.1.2.2.1,()),())
theorem ako:aT O (an (c4 (an (codeOf Tryz.f237) 1 28)) 56 452) (aU RU RA zT):=ce g0 (by kernel_rfl) ae fun y=>by kernel_rfl
abbrev An:Shape:=⟨[ak 0,ag 1,ak 5],[],20⟩
abbrev HD:List aP:=[(.exit 0,⟨[ak 5],[],20⟩)]
noncomputable def TX(y:An.J):bG An HD:=
 bif(decide (y.1.2.1>(0:Int))) then
(zT ((y.1.1,y.1.2.1,y.1.2.2.1,()),())).bind fun a=>
(b4 a.1.1 a.1.1).bind fun b=>
(lM .i64 a.1.2.1 (2:Int)).bind fun c=>
 some (.inl ((b,c,a.1.2.2.1,()),()))
else
 some (.inr ((y.1.2.2.1,()),()))
noncomputable def Iq:An.J->Option (aC HD):=bu TX
theorem amh:aT O (an (codeOf Tryz.f237) 1 28) (aU An HD Iq):=bI g0 (by kernel_rfl) (a8 ako ae) fun y=>by kernel_rfl
abbrev i237:Shape:=⟨[ak 0,ag 1],[],20⟩
abbrev XH:Shape:=⟨[ak 4],[],20⟩
noncomputable def f237(a:i237.J):Option XH.J:=
(Iq ((a.1.1,a.1.2.1,([]:B),()),())).bind fun b=>
 some ((b.1.1,()),())
noncomputable def Lm:aD:=aH ad Tryz.f237 i237 XH [] f237
theorem W4:aB O 237 Lm:=aK g0 Tryz.func237 (by kernel_rfl) (a8 amh ae) (fun y=>by kernel_rfl) fun a=>by kernel_rfl
noncomputable abbrev apz:a_:=[(79,lG),(237,Lm)]
theorem apV:aR O (aX ad apz):=aV ⟨mh,W4,⟨⟩⟩
abbrev Vg:Shape:=⟨[ay 0 500000 0],[ax 500000 [bn .u8,a6]],7⟩
abbrev UO:Shape:=⟨[ay 0 500000 0,ak 2],[ax 500000 [bn .u8,a6]],7⟩
noncomputable def Cm(a:Vg.J):Option UO.J:=
(f237 ((([116]:B),(80:Int),()),())).bind fun b=>
(jX (((),([([]:B),([111,110,101,10]:B),([111,110,101,10,116,119,111,10,116,104,114,101,101,10]:B),([110,111,32,101,110,100]:B),([97,10,98,10,99,10,100,10,101,10,102,10,103,10]:B),b.1.1]:List B),()),(a.2.1.1,a.2.1.2.1,()),())).bind fun c=>
 some (((),c.1.2.1,()),(c.2.1.1,c.2.1.2.1,()),())
noncomputable def VP:aD:=aH ad Tryz.f262 Vg UO [0] Cm
theorem anT:aB O 262 VP:=aK apV Tryz.func262 (by kernel_rfl) ae (fun y=>by kernel_rfl) fun a=>by kernel_rfl
noncomputable abbrev ari:a_:=[(78,jr)]
theorem arn:aR O (aX ad ari):=aV ⟨jQ,⟨⟩⟩
abbrev WD:Shape:=⟨[ay 0 500000 0,aL 1 .i64],[ax 500000 [bn .u8,a6]],12⟩
abbrev Wo:Shape:=⟨[ay 0 500000 0,ag 4],[ax 500000 [bn .u8,a6]],12⟩
noncomputable def tH(a:WD.J):Option Wo.J:=
(gp (((),(a.1.2.1.length:Int),()),(a.2.1.1,a.2.1.2.1,()),())).bind fun b=>
(aO a.1.2.1 b.1.2.1).bind fun c=>
 some (((),c,()),(b.2.1.1,b.2.1.2.1,()),())
noncomputable def CZ:aD:=aH ad Tryz.f77 WD Wo [0] tH
theorem J9:aB O 77 CZ:=aK arn Tryz.func77 (by kernel_rfl) ae (fun y=>by kernel_rfl) fun a=>by kernel_rfl
noncomputable abbrev apE:a_:=[(77,CZ),(78,jr),(261,J3),(262,VP)]
theorem apY:aR O (aX ad apE):=aV ⟨J9,jQ,T',anT,⟨⟩⟩
abbrev Vl:Shape:=⟨[ay 0 500000 0],[ax 500000 [bn .u8,a6]],26⟩
abbrev US:Shape:=⟨[ay 0 500000 0,ay 2 2 0],[ax 500000 [bn .u8,a6],ax 2 [ah,a6,a6,ah]],26⟩
noncomputable def wh(a:Vl.J):Option US.J:=
(tf (((),()),(a.2.1.1,a.2.1.2.1,()),())).bind fun b=>
(tH (((),([(1:Int),(1:Int),(2:Int),(2:Int),(3:Int)]:List Int),()),(b.2.1.1,b.2.1.2.1,()),())).bind fun c=>
(gp (((),(8:Int),()),(c.2.1.1,c.2.1.2.1,()),())).bind fun d=>
 bif(c.1.2.1==(2:Int)) then
(Cm (((),()),(d.2.1.1,d.2.1.2.1,()),())).bind fun e=>
 some (((),(),()),(e.2.1.1,e.2.1.2.1,()),(b.1.2.1,c.1.2.1,d.1.2.1,e.1.2.1,()),())
else
 bif(c.1.2.1==(3:Int)) then
(tf (((),()),(d.2.1.1,d.2.1.2.1,()),())).bind fun f=>
 some (((),(),()),(f.2.1.1,f.2.1.2.1,()),(b.1.2.1,c.1.2.1,(0:Int),f.1.2.1,()),())
else
 some (((),(),()),(d.2.1.1,d.2.1.2.1,()),(b.1.2.1,c.1.2.1,d.1.2.1,([]:B),()),())
noncomputable def J4:aD:=aH ad Tryz.f224 Vl US [0] wh
theorem Ua:aB O 224 J4:=aK apY Tryz.func224 (by kernel_rfl) ae (fun y=>by kernel_rfl) fun a=>by kernel_rfl
theorem hP(a)(m:Nat)(h:c8 a.2.1.1 a.2.1.2.1 m)(hm:1<=m):aa (gp a) (fun r=>c8 r.2.1.1 r.2.1.2.1 (m-1)/\(0:Int)<=r.1.2.1/\((1:Int)<=a.1.2.1->(r.1.2.1:Int)<a.1.2.1)):=by
 obtain⟨⟨u1,(n:Int),u2⟩,⟨⟨(b:List Int),(p:Int),uO⟩,adz⟩⟩:=a;have h:c8 b p m:=h;obtain⟨h1,h2,h3,aA⟩:=h;have e1:IntKind.i64.wrap (p+1)=p+1:=cT (by omega) (by omega)
 have e2:IntKind.i64.wrap (p+1-1)=p:=by rw[show p+1-1=p by omega];exact cT (by omega) (by omega)
 have R:c8 b (p+1) (m-1):=⟨h1,h2,by omega,by omega⟩
 unfold gp;simp only[e1];have hg:zQ (((),(n,())),((b,(p+1,())),()))=some ((((),(n,((decide (n<1)||(b.length:Int)==0),()))),((b,(p+1,())),()))):=by
  unfold zQ;cases decide (n<1)<;>rfl
 refine aa.eq hg ?_
 refine aa.ite (fun hc=>aa.ret ⟨R,Int.le_refl _,fun hn=>hn⟩) fun hc=>?_
 have hc:(decide (n<1)||(b.length:Int)==0)=false:=hc;simp only[Bool.or_eq_false_iff,decide_eq_false_iff_not,beq_eq_false_iff_ne,ne_eq] at hc;have hn:1<=n:=by omega
 have hb:0<b.length:=by omega
 simp only[e2];refine aa.ite (fun Z=>?_) fun Z=>?_
 ·have Z:p<(b.length:Int):=of_decide_eq_true Z;obtain⟨x,aE,aF⟩:=nl (xs:=b) h3 Z;obtain⟨bJ,cL⟩:=h2 x aF;refine aa.eq aE ?_
  have br:IntKind.i64.wrap x=x:=cT (by omega) (by omega)
  refine aa.eq (x:=x%n) (by show iK (IntKind.i64.wrap x) n=_;rw[br];exact oj bJ (by omega)) ?_
  exact aa.ret ⟨R,Int.emod_nonneg _ (by omega),fun _=>Int.emod_lt_of_pos _ (by omega)⟩
 ·have hl:0<(b.length:Int):=by omega
  have m7:IntKind.i64.wrap (IntKind.i64.wrap (p*7)+3)=p*7+3:=by rw[cT (n:=p*7) (by omega) (by omega)];exact cT (by omega) (by omega)
  obtain⟨x,aE,aF⟩:=nl (xs:=b) (Int.emod_nonneg p (b:=(b.length:Int)) (by omega)) (Int.emod_lt_of_pos p hl)
  obtain⟨bJ,cL⟩:=h2 x aF;obtain⟨y,dP,fC⟩:=nl (xs:=b) (Int.emod_nonneg (p*7+3) (b:=(b.length:Int)) (by omega)) (Int.emod_lt_of_pos (p*7+3) hl)
  obtain⟨uP,aCF⟩:=h2 y fC;have q0:0<=p/(b.length:Int):=Int.ediv_nonneg h3 (by omega)
  have q1:p/(b.length:Int)<=p:=Int.ediv_le_self _ h3;refine aa.eq (x:=p%(b.length:Int)) (oj h3 hl) ?_
  refine aa.eq aE ?_
  refine aa.eq (x:=(p*7+3)%(b.length:Int)) (by show iK (IntKind.i64.wrap (IntKind.i64.wrap (p*7)+3)) (b.length:Int)=_;rw[m7];exact oj (by omega) hl) ?_
  refine aa.eq dP ?_
  refine aa.eq (x:=p/(b.length:Int)) (v7 rfl h3 (by omega) hl) ?_
  have aZ:IntKind.i64.wrap x=x:=cT (by omega) (by omega)
  have w2:IntKind.i64.wrap y=y:=cT (by omega) (by omega)
  have cd:IntKind.i64.wrap (x*131)=x*131:=cT (by omega) (by omega)
  have k9:IntKind.i64.wrap (y*1117)=y*1117:=cT (by omega) (by omega)
  have rZ:IntKind.i64.wrap (x*131+y*1117)=x*131+y*1117:=cT (by omega) (by omega)
  have oV:IntKind.i64.wrap (p*29)=p*29:=cT (by omega) (by omega)
  have jF:IntKind.i64.wrap (x*131+y*1117+p*29)=x*131+y*1117+p*29:=cT (by omega) (by omega)
  have oU:IntKind.i64.wrap (p/(b.length:Int)*53)=p/(b.length:Int)*53:=cT (by omega) (by omega)
  have h':IntKind.i64.wrap (x*131+y*1117+p*29+p/(b.length:Int)*53)=x*131+y*1117+p*29+p/(b.length:Int)*53:=cT (by omega) (by omega)
  simp only[aZ,w2,cd,k9,rZ,oV,jF,oU,h'];have n0:0<=x*131+y*1117+p*29+p/(b.length:Int)*53:=by omega
  have n1:x*131+y*1117+p*29+p/(b.length:Int)*53<4611686018427387904:=by omega
  generalize x*131+y*1117+p*29+p/(b.length:Int)*53=X at n0 n1;refine aa.eq (x:=X/64) (v7 rfl n0 (by omega) (by decide)) ?_
  have hx:=aoa n0 n1 (Int.ediv_nonneg n0 (by decide:(0:Int)<=64)) (Int.lt_of_le_of_lt (Int.ediv_le_self 64 n0) n1)
  refine aa.eq (x:=dl .i64 X (X/64)%n) (oj hx (by omega)) ?_
  exact aa.ret ⟨R,Int.emod_nonneg _ (by omega),fun _=>Int.emod_lt_of_pos _ (by omega)⟩
theorem lK(a)(m:Nat)(h:c8 a.2.1.1 a.2.1.2.1 m)(hm:1<=m)(hl:(1:Int)<=(a.1.2.1:List B).length):aa (jX a) (fun r=>c8 r.2.1.1 r.2.1.2.1 (m-1)/\r.1.2.1∈(a.1.2.1:List B)):=by
 unfold jX;refine aa.bind (hP _ m h hm) fun r hr=>?_
 obtain⟨x,aE,aF⟩:=nl (xs:=(a.1.2.1:List B)) hr.2.1 (hr.2.2 hl);exact aa.eq aE (aa.ret ⟨hr.1,aF⟩)
theorem J'(a)(m:Nat)(h:c8 a.2.1.1 a.2.1.2.1 m)(hm:1<=m)(hl:(1:Int)<=(a.1.2.1:List Int).length):aa (tH a) (fun r=>c8 r.2.1.1 r.2.1.2.1 (m-1)/\r.1.2.1∈(a.1.2.1:List Int)):=by
 unfold tH;refine aa.bind (hP _ m h hm) fun r hr=>?_
 obtain⟨x,aE,aF⟩:=nl (xs:=(a.1.2.1:List Int)) hr.2.1 (hr.2.2 hl);exact aa.eq aE (aa.ret ⟨hr.1,aF⟩)
abbrev dt(s:B):Prop:=s.length<=200
theorem qW{L:List B}(h:L.all (fun s=>decide (s.length<=200))=true){s:B}(hs:s∈L):dt s:=of_decide_eq_true (List.all_eq_true.1 h s hs)
theorem ER(a)(m:Nat)(h:c8 a.2.1.1 a.2.1.2.1 m)(hm:1<=m):aa (tg a) (fun r=>c8 r.2.1.1 r.2.1.2.1 (m-1)/\dt r.1.2.1):=by
 unfold tg;refine aa.bind (lK _ m h hm (by simp)) fun r hr=>aa.ret ⟨hr.1,qW (by rfl) hr.2⟩
theorem Fw(a)(m:Nat)(h:c8 a.2.1.1 a.2.1.2.1 m)(hm:1<=m):aa (tf a) (fun r=>c8 r.2.1.1 r.2.1.2.1 (m-1)/\dt r.1.2.1):=by
 unfold tf;refine aa.bind (lK _ m h hm (by simp)) fun r hr=>aa.ret ⟨hr.1,qW (by rfl) hr.2⟩
theorem Rl(a)(hs:(a.1.1:B).length<=1)(h0:(0:Int)<=a.1.2.1)(h1:(a.1.2.1:Int)<=127):aa (f237 a) (fun r=>dt r.1.1):=by
 obtain⟨⟨(s:B),(n:Int),u⟩,bV⟩:=a;unfold f237;have key:aa (Iq ((s,(n,(([]:B),()))),())) (fun r=>dt r.1.1):=by
  refine aa.loop (fun(k:Nat) y=>(0:Int)<=y.1.2.1/\(y.1.2.1:Int).toNat=k/\(y.1.2.1:Int).toNat*(y.1.1:B).length+(y.1.2.2.1:B).length<=127/\(y.1.1:B).length<=256/\(y.1.2.1:Int)<=127) (fun k y hy=>?_) n.toNat _ ⟨h0,rfl,?_,by show s.length<=256;have:s.length<=1:=hs;omega,h1⟩
  ·obtain⟨⟨(s:B),(n:Int),(out:B),u⟩,bV⟩:=y;obtain⟨cH,dm,dJ,h_,eQ⟩:=hy;have eQ:n<=127:=eQ;have cH:0<=n:=cH;have dJ:n.toNat*s.length+out.length<=127:=dJ;have h_:s.length<=256:=h_;unfold TX;refine aa.ite (fun hc=>?_) fun hc=>?_
   ·have hc:n>0:=of_decide_eq_true hc;have eL:1<=n.toNat:=by omega
    have ix:s.length<=127:=by have:=Nat.mul_le_mul_right s.length eL;omega
    have piece:aa (zT ((s,(n,(out,()))),())) (fun r=>r.1.1=s/\r.1.2.1=n/\(n%2=1/\(r.1.2.2.1:B).length=out.length+s.length\/n%2=0/\(r.1.2.2.1:B).length=out.length)):=by
     unfold zT;refine aa.eq (x:=n%2) (oj cH (by decide)) ?_
     refine aa.ite (fun Z=>?_) fun Z=>?_
     ·have Z:n%2=1:=by simpa using Z
      exact aa.eq (du (s:=out) (t:=s) (by omega)) (aa.ret ⟨rfl,rfl,.inl ⟨Z,by simp⟩⟩)
     ·have Z:¬n%2=1:=by simpa using Z
      exact aa.ret ⟨rfl,rfl,.inr ⟨by omega,rfl⟩⟩
    refine aa.bind piece fun r hr=>?_
    obtain⟨⟨(aN:B),(hI:Int),(KH:B),v⟩,v'⟩:=r;obtain⟨r1,r2,dn⟩:=hr;have r1:aN=s:=r1;have r2:hI=n:=r2;subst r1 r2;refine aa.eq (du (s:=aN) (t:=aN) (by omega)) ?_
    refine aa.eq (x:=hI/2) (v7 (x:=hI) rfl cH (by omega) (by decide)) ?_
    refine aa.ret ⟨(hI/2).toNat,?_,?_⟩
    ·show(hI/2).toNat<k;have:hI.toNat=k:=dm;omega
    ·refine⟨by show 0<=hI/2;omega,rfl,?_,by show(aN++aN).length<=256;simp;omega,by show hI/2<=127;omega⟩
     show(hI/2).toNat*(aN++aN).length+KH.length<=127;have dn:hI%2=1/\KH.length=out.length+aN.length\/hI%2=0/\KH.length=out.length:=dn;obtain⟨q,az⟩:∃q:Nat,(hI/2).toNat=q:=⟨_,rfl⟩;rw[az,List.length_append];rcases dn with⟨dn,fU⟩|⟨dn,fU⟩
     ·have e:hI.toNat=2*q+1:=by omega
      rw[e] at dJ;rw[fU];have:(2*q+1)*aN.length=q*(aN.length+aN.length)+aN.length:=by rw[Nat.add_mul,Nat.one_mul,Nat.mul_assoc,Nat.mul_add];omega
      omega
     ·have e:hI.toNat=2*q:=by omega
      rw[e] at dJ;rw[fU];have:2*q*aN.length=q*(aN.length+aN.length):=by rw[Nat.mul_add,Nat.mul_assoc];omega
      omega
   ·exact aa.ret (show out.length<=200 by omega)
  ·show n.toNat*s.length+0<=127;have hs:s.length<=1:=hs;have h1:n<=127:=h1;have:n.toNat*s.length<=n.toNat*1:=Nat.mul_le_mul_left _ hs;omega
 exact aa.bind key fun r hr=>aa.ret hr
theorem ahI(a)(m:Nat)(h:c8 a.2.1.1 a.2.1.2.1 m)(hm:1<=m):aa (Cm a) (fun r=>c8 r.2.1.1 r.2.1.2.1 (m-1)/\dt r.1.2.1):=by
 unfold Cm;refine aa.bind (Rl _ (by simp) (by show(0:Int)<=80;decide) (by show(80:Int)<=127;decide)) fun q az=>?_
 refine aa.bind (lK _ m h hm (by simp)) fun r hr=>aa.ret ⟨hr.1,?_⟩
 have:=hr.2;simp only[List.mem_cons,List.not_mem_nil,or_false] at this;rcases this with e|e|e|e|e|e
 ·show(r.1.2.1:B).length<=200;rw[e];decide
 ·show(r.1.2.1:B).length<=200;rw[e];decide
 ·show(r.1.2.1:B).length<=200;rw[e];decide
 ·show(r.1.2.1:B).length<=200;rw[e];decide
 ·show(r.1.2.1:B).length<=200;rw[e];decide
 ·show(r.1.2.1:B).length<=200;rw[e];exact az
abbrev k8(e:aw):Prop:=dt e.path/\dt e.text
theorem Po(a)(m:Nat)(h:c8 a.2.1.1 a.2.1.2.1 m)(hm:4<=m):aa (wh a) (fun r=>c8 r.2.1.1 r.2.1.2.1 (m-4)/\k8 ⟨r.2.2.1.1,r.2.2.1.2.1,r.2.2.1.2.2.1,r.2.2.1.2.2.2.1⟩):=by
 unfold wh;refine aa.bind (Fw _ m h (by omega)) fun r1 h1=>?_
 refine aa.bind (J' _ (m-1) h1.1 (by omega) (by simp)) fun r2 h2=>?_
 refine aa.bind (hP _ (m-1-1) h2.1 (by omega)) fun dn h3=>?_
 refine aa.ite (fun _=>?_) fun _=>aa.ite (fun _=>?_) fun _=>?_
 ·exact aa.bind (ahI _ _ h3.1 (by omega)) fun fU aA=>aa.ret ⟨aA.1.less (by omega),h1.2,aA.2⟩
 ·exact aa.bind (Fw _ _ h3.1 (by omega)) fun fU aA=>aa.ret ⟨aA.1.less (by omega),h1.2,aA.2⟩
 ·exact aa.ret ⟨h3.1.less (by omega),h1.2,show(0:Nat)<=200 by decide⟩
theorem Gg(a)(h:ci a.1.1.length):f202 a=some (((),()),(a.1.1,())):=by
 obtain⟨⟨t,u⟩,bV⟩:=a;have h:t.length<=2097152:=h;simp only[f202,di (show(48:Nat)<=100 by decide) (show au (([]:List aw).length+t.length) by unfold au;simp;omega),List.nil_append,Option.bind_some]
abbrev jd(t:List aw):Prop:=t.length<=16/\∀e,e∈t->k8 e
theorem S0{t:List aw}{k:Nat}{e:aw}(h:∀e,e∈t->k8 e)(he:k8 e):∀x,x∈t.set k e->k8 x:=by
 intro x hx;rcases List.mem_or_eq_of_mem_set hx with hx|hx
 ·exact h x hx
 ·rw[hx];exact he
theorem Hn(a)(aq:jd a.1.1)(he:k8 ⟨a.1.2.1.1,a.1.2.1.2.1,a.1.2.1.2.2.1,a.1.2.1.2.2.2.1⟩):aa (f223 a) (fun r=>jd r.2.1):=by
 obtain⟨⟨t,⟨path,kind,mode,text,nQ⟩,u⟩,bV⟩:=a;obtain⟨h1,h2⟩:=aq;have h1:t.length<=16:=h1;have he:k8 ⟨path,kind,mode,text⟩:=he;have hb:ci t.length:=by unfold ci;omega
 unfold f223;refine aa.eq (Ja ((t,(path,())),()) hb) ?_
 refine aa.eq (Gg ((t,()),()) hb) ?_
 have hp:=qN t path;have e1:=P1 (((path,(kind,(mode,(text,())))),()),()) (Nat.le_trans he.1 (by decide)) (Nat.le_trans he.2 (by decide))
 have e2:=Uh ((path,()),()) (Nat.le_trans he.1 (by decide))
 have br:=SB ((t,(i_ path,())),()) hb;obtain⟨c,hc⟩:∃c:Bool,zV ((t,((),((),(false,((bM t path:Int),(gK t path,((),()))))))),((path,(kind,(mode,(text,())))),(([]:List aw),(t,()))))=
   some ((t,((),((),(false,((bM t path:Int),(gK t path,((),(c,())))))))),((path,(kind,(mode,(text,())))),(([]:List aw),(t,())))):=by
  unfold zV;simp only[e1,Option.bind_some,Bool.not_not];cases eN ⟨path,kind,mode,text⟩ with
  |false=>exact⟨true,rfl⟩
  |true=>simp only[cond_true,e2,Option.bind_some,br];exact⟨_,rfl⟩
 refine aa.eq hc ?_
 refine aa.ite (fun _=>aa.ret ⟨h1,h2⟩) fun _=>?_
 obtain⟨d,Z⟩:∃d:Bool,zU ((t,((),((),(false,((bM t path:Int),(gK t path,((),()))))))),((path,(kind,(mode,(text,())))),(([]:List aw),(t,()))))=
   some ((t,((),((),(false,((bM t path:Int),(gK t path,((),(d,())))))))),((path,(kind,(mode,(text,())))),(([]:List aw),(t,())))):=by
  unfold zU;cases bL:gK t path with
  |false=>exact⟨false,rfl⟩
  |true=>
   unfold gK at bL;cases az:t[bM t path]? with
   |none=>rw[az] at bL;cases bL
   |some e=>simp only[cond_true,b5,az,Option.bind_some];exact⟨_,rfl⟩
 refine aa.eq Z ?_
 refine aa.ite (fun _=>aa.ret ⟨h1,h2⟩) fun _=>?_
 refine aa.ite (fun bL=>?_) fun _=>aa.ite (fun _=>aa.ret ⟨h1,h2⟩) fun hl=>?_
 ·have bL:gK t path=true:=bL;unfold gK at bL;cases az:t[bM t path]? with
  |none=>rw[az] at bL;cases bL
  |some e=>
   refine aa.eq (fx (cU az)) ?_
   refine aa.eq (x:=aw.mk path kind mode text) (by show(t[bM t path]?).bind _=_;rw[az];rfl) ?_
   exact aa.ret ⟨by show(t.set _ _).length<=16;rw[List.length_set];exact h1,S0 h2 he⟩
 ·have hl:¬((t.length:Int)>=16):=of_decide_eq_false hl;refine aa.eq (fY hp) ?_
  refine aa.eq (di (by decide) (by unfold au;simp;omega)) ?_
  refine aa.eq (di (by decide) (by unfold au;simp;omega)) ?_
  refine aa.eq (fw hp) ?_
  refine aa.eq (di (by decide) (by unfold au;simp;omega)) ?_
  refine aa.ret ⟨?_,fun x hx=>?_⟩
  ·show(([]++t.take (bM t path)++[aw.mk path kind mode text])++t.drop (bM t path)).length<=16;simp;omega
  ·have hx:x∈([]++t.take (bM t path)++[aw.mk path kind mode text])++t.drop (bM t path):=hx;simp only[List.nil_append,List.mem_append,List.mem_singleton] at hx;rcases hx with(hx|hx)|hx
   ·exact h2 x (List.mem_of_mem_take hx)
   ·rw[hx];exact he
   ·exact h2 x (List.mem_of_mem_drop hx)
noncomputable abbrev atW:a_:=[(146,Ds)]
theorem xf:aR O (aX ad atW):=aV ⟨z146,⟨⟩⟩
abbrev S7:Shape:=⟨[ak 0,ag 3],[],43⟩
abbrev SL:List aP:=[(.norm,⟨[ak 0,ag 3,ap 12],[],43⟩)]
noncomputable def TT(y:S7.J):Option (aC SL):=
 bif(decide ((y.1.1.length:Int)>(1:Int))) then
(aO y.1.1 (1:Int)).bind fun a=>
 some ((y.1.1,y.1.2.1,((a.toNat:Int)==(33:Int)),()),())
else
 some ((y.1.1,y.1.2.1,false,()),())
theorem al8:aT O (an (an (codeOf Tryz.f284) 1 14) 14 28) (aU S7 SL TT):=ce xf (by kernel_rfl) ae fun y=>by kernel_rfl
abbrev S8:Shape:=⟨[ak 0,ag 3],[],43⟩
abbrev SM:List aP:=[(.norm,⟨[ak 0,ag 3],[],43⟩)]
noncomputable def TU(y:S8.J):Option (aC SM):=
(TT ((y.1.1,y.1.2.1,()),())).bind fun a=>
 bif a.1.2.2.1 then
 some ((a.1.1,(2:Int),()),())
else
 some ((a.1.1,a.1.2.1,()),())
theorem al9:aT O (an (codeOf Tryz.f284) 1 14) (aU S8 SM TU):=ce xf (by kernel_rfl) (a8 al8 ae) fun y=>by kernel_rfl
abbrev zu:Shape:=⟨[ak 0,ag 3,ag 4],[],43⟩
abbrev Gq:List aP:=[(.exit 0,⟨[ak 0,ag 3,ag 4],[],43⟩)]
noncomputable def alc(y:zu.J):bG zu Gq:=
 bif(decide (y.1.2.1<(y.1.1.length:Int))) then
(aO y.1.1 y.1.2.1).bind fun a=>
(f146 (((a.toNat:Int),()),())).bind fun b=>
 bif b.1.1 then
 some (.inl ((y.1.1,(IntKind.i64.wrap (y.1.2.1+(1:Int))),y.1.2.2.1,()),()))
else
 some (.inr ((y.1.1,y.1.2.1,y.1.2.2.1,()),()))
else
 some (.inr ((y.1.1,y.1.2.1,y.1.2.2.1,()),()))
noncomputable def Sa:zu.J->Option (aC Gq):=bu alc
theorem akj:aT O (an (codeOf Tryz.f284) 1 124) (aU zu Gq Sa):=bI xf (by kernel_rfl) ae fun y=>by kernel_rfl
abbrev RS:Shape:=⟨[ak 0,ag 3,ag 4],[],43⟩
abbrev Ry:List aP:=[(.norm,⟨[ag 3,ap 40],[],43⟩)]
noncomputable def Sm(y:RS.J):Option (aC Ry):=
 bif(!(y.1.2.1==y.1.2.2.1)) then
 bif(!(y.1.2.1==(y.1.1.length:Int))) then
(aO y.1.1 y.1.2.1).bind fun a=>
 some ((y.1.2.1,((a.toNat:Int) !=(93:Int)),()),())
else
 some ((y.1.2.1,true,()),())
else
 some ((y.1.2.1,true,()),())
theorem aki:aT O (an (codeOf Tryz.f284) 1 252) (aU RS Ry Sm):=ce xf (by kernel_rfl) ae fun y=>by kernel_rfl
abbrev i284:Shape:=⟨[ak 0],[],43⟩
abbrev Xs:Shape:=⟨[ag 2],[],43⟩
noncomputable def f284(a:i284.J):Option Xs.J:=
(TU ((a.1.1,(1:Int),()),())).bind fun b=>
(Sa ((b.1.1,b.1.2.1,b.1.2.1,()),())).bind fun c=>
(Sm ((c.1.1,c.1.2.1,c.1.2.2.1,()),())).bind fun d=>
 bif d.1.2.1 then
 some (((0:Int),()),())
else
 some (((IntKind.i64.wrap (d.1.1+(1:Int))),()),())
noncomputable def Lj:aD:=aH ad Tryz.f284 i284 Xs [] f284
theorem W0:aB O 284 Lj:=aK xf Tryz.func284 (by kernel_rfl) (a8 al9 (a8 akj (a8 aki ae))) (fun y=>by kernel_rfl) fun a=>by kernel_rfl
noncomputable abbrev atZ:a_:=[(146,Ds),(284,Lj)]
theorem LG:aR O (aX ad atZ):=aV ⟨z146,W0,⟨⟩⟩
abbrev Qt:Shape:=⟨[ak 0,ag 3],[],45⟩
abbrev Qa:List aP:=[(.norm,⟨[ak 0,ag 3,ap 26],[],45⟩)]
noncomputable def za(y:Qt.J):Option (aC Qa):=
(aO y.1.1 y.1.2.1).bind fun a=>
 bif(!((a.toNat:Int)==(42:Int))) then
(aO y.1.1 y.1.2.1).bind fun b=>
 some ((y.1.1,y.1.2.1,((b.toNat:Int)==(63:Int)),()),())
else
 some ((y.1.1,y.1.2.1,true,()),())
theorem ail:aT O (an (c4 (an (codeOf Tryz.f279) 1 26)) 52 6726) (aU Qt Qa za):=ce LG (by kernel_rfl) ae fun y=>by kernel_rfl
abbrev Ah:Shape:=⟨[ak 0,ag 3],[],45⟩
abbrev Hv:List aP:=[(.ret,⟨[ap 2],[],45⟩),(.exit 0,⟨[ak 0],[],45⟩)]
noncomputable def TV(y:Ah.J):bG Ah Hv:=
 bif(decide (y.1.2.1<(y.1.1.length:Int))) then
(aO y.1.1 y.1.2.1).bind fun a=>
 bif((a.toNat:Int)==(91:Int)) then
(bm y.1.1 y.1.2.1 (y.1.1.length:Int)).bind fun b=>
(f284 ((b,()),())).bind fun c=>
 bif(c.1.1==(0:Int)) then
 some (.inr (.inl ((false,()),())))
else
 some (.inl ((y.1.1,(IntKind.i64.wrap ((IntKind.i64.wrap ((IntKind.i64.wrap (y.1.2.1+c.1.1))-(1:Int)))+(1:Int))),()),()))
else
(za ((y.1.1,y.1.2.1,()),())).bind fun d=>
 bif d.1.2.2.1 then
 some (.inl ((d.1.1,(IntKind.i64.wrap (d.1.2.1+(1:Int))),()),()))
else
(aO d.1.1 d.1.2.1).bind fun e=>
(f146 (((e.toNat:Int),()),())).bind fun f=>
 bif(!f.1.1) then
 some (.inr (.inl ((false,()),())))
else
 some (.inl ((d.1.1,(IntKind.i64.wrap (d.1.2.1+(1:Int))),()),()))
else
 some (.inr (.inr ((y.1.1,()),())))
noncomputable def TB:Ah.J->Option (aC Hv):=bu TV
theorem amb:aT O (an (codeOf Tryz.f279) 1 26) (aU Ah Hv TB):=bI LG (by kernel_rfl) (a8 ail ae) fun y=>by kernel_rfl
abbrev i279:Shape:=⟨[ak 0],[],45⟩
abbrev Xu:Shape:=⟨[ap 2],[],45⟩
noncomputable def f279(a:i279.J):Option Xu.J:=
(TB ((a.1.1,(0:Int),()),())).bind fun b=>
(match b with
|.inl c=>
 some ((c.1.1,()),())
|.inr d=>
 some (((!(d.1.1==([]:B))),()),()))
noncomputable def ZQ:aD:=aH ad Tryz.f279 i279 Xu [] f279
theorem arB:aB O 279 ZQ:=aK LG Tryz.func279 (by kernel_rfl) (a8 amb ae) (fun y=>by kernel_rfl) fun a=>by kernel_rfl
noncomputable abbrev at4:a_:=[(73,qd),(279,ZQ)]
theorem aad:aR O (aX ad at4):=aV ⟨rs,arB,⟨⟩⟩
abbrev Ak:Shape:=⟨[ak 0,ba 3 3000192,ag 4],[a' 3000192 .str 3 0],30⟩
abbrev Hz:List aP:=[(.ret,⟨[ap 2],[],30⟩),(.exit 0,⟨[ak 0,ba 3 3000192],[a' 3000192 .str 3 0],30⟩)]
noncomputable def TW(y:Ak.J):bG Ak Hz:=
 bif(decide (y.1.2.2.1<(y.2.1.length:Int))) then
(be y.2.1.length y.1.2.2.1).bind fun a=>
(y.2.1[a]?).bind fun b=>
(f279 ((b,()),())).bind fun c=>
 bif(!c.1.1) then
 some (.inr (.inl ((false,()),())))
else
 some (.inl ((y.1.1,(),(IntKind.i64.wrap (y.1.2.2.1+(1:Int))),()),y.2.1,()))
else
 some (.inr (.inr ((y.1.1,(),()),y.2.1,())))
noncomputable def TC:Ak.J->Option (aC Hz):=bu TW
theorem ame:aT O (an (codeOf Tryz.f258) 1 58) (aU Ak Hz TC):=bI aad (by kernel_rfl) ae fun y=>by kernel_rfl
abbrev i258:Shape:=⟨[ak 0],[],30⟩
abbrev XC:Shape:=⟨[ap 2],[],30⟩
noncomputable def f258(a:i258.J):Option XC.J:=
(f73 ((a.1.1,(47:Int),(IntKind.i64.wrap ((a.1.1.length:Int)+(1:Int))),()),())).bind fun b=>
(TC ((a.1.1,(),(0:Int),()),b.2.1,())).bind fun c=>
(match c with
|.inl d=>
 some ((d.1.1,()),())
|.inr e=>
 bif(decide ((e.2.1.length:Int)<=(5:Int))) then
 some (((decide ((e.1.1.length:Int)<=(40:Int))),()),())
else
 some ((false,()),()))
noncomputable def ZY:aD:=aH ad Tryz.f258 i258 XC [] f258
theorem arJ:aB O 258 ZY:=aK aad Tryz.func258 (by kernel_rfl) (a8 ame ae) (fun y=>by kernel_rfl) fun a=>by kernel_rfl
abbrev Qs:Shape:=⟨[ak 0,(1,.am (.d (.int .u8))),ap 5,ag 6],[],33⟩
abbrev P':List aP:=[(.norm,⟨[ak 0,(1,.am (.d (.int .u8))),ap 5,ag 6,ap 29],[],33⟩)]
noncomputable def Q0(y:Qs.J):Option (aC P'):=
(aO y.1.1 y.1.2.2.2.1).bind fun a=>
 bif((a.toNat:Int)==y.1.2.1) then
 bif(!(decide (y.1.2.2.2.1>(1:Int)))) then
 some ((y.1.1,y.1.2.1,y.1.2.2.1,y.1.2.2.2.1,(!y.1.2.2.1),()),())
else
 some ((y.1.1,y.1.2.1,y.1.2.2.1,y.1.2.2.2.1,true,()),())
else
 some ((y.1.1,y.1.2.1,y.1.2.2.1,y.1.2.2.2.1,false,()),())
theorem aik:aT O (an (c4 (an (codeOf Tryz.f285) 1 58)) 116 1864) (aU Qs P' Q0):=ce g0 (by kernel_rfl) ae fun y=>by kernel_rfl
abbrev Af:Shape:=⟨[ak 0,(1,.am (.d (.int .u8))),ap 5,ag 6],[],33⟩
abbrev Ht:List aP:=[(.ret,⟨[ap 4],[],33⟩),(.exit 0,⟨[ap 5],[],33⟩)]
noncomputable def ano(y:Af.J):bG Af Ht:=
 bif(decide (y.1.2.2.2.1<(IntKind.i64.wrap ((y.1.1.length:Int)-(1:Int))))) then
(Q0 ((y.1.1,y.1.2.1,y.1.2.2.1,y.1.2.2.2.1,()),())).bind fun a=>
 bif a.1.2.2.2.2.1 then
 some (.inr (.inl (((!a.1.2.2.1),()),())))
else
 some (.inl ((a.1.1,a.1.2.1,a.1.2.2.1,(IntKind.i64.wrap (a.1.2.2.2.1+(1:Int))),()),()))
else
 some (.inr (.inr ((y.1.2.2.1,()),())))
noncomputable def TA:Af.J->Option (aC Ht):=bu ano
theorem al7:aT O (an (codeOf Tryz.f285) 1 58) (aU Af Ht TA):=bI g0 (by kernel_rfl) (a8 aik ae) fun y=>by kernel_rfl
abbrev i285:Shape:=⟨[ak 0,(1,.am (.d (.int .u8)))],[],33⟩
abbrev Xr:Shape:=⟨[ap 4],[],33⟩
noncomputable def f285(a:i285.J):Option Xr.J:=
(aO a.1.1 (1:Int)).bind fun b=>
(TA ((a.1.1,a.1.2.1,((b.toNat:Int)==(33:Int)),(1:Int),()),())).bind fun c=>
(match c with
|.inl d=>
 some ((d.1.1,()),())
|.inr e=>
 some ((e.1.1,()),()))
noncomputable def ZM:aD:=aH ad Tryz.f285 i285 Xr [] f285
theorem arx:aB O 285 ZM:=aK g0 Tryz.func285 (by kernel_rfl) (a8 al7 ae) (fun y=>by kernel_rfl) fun a=>by kernel_rfl
abbrev i280:Shape:=⟨[ak 0,ak 1],[],68⟩
abbrev np:Shape:=⟨[ap 4],[],68⟩
noncomputable def Kp(aS:i280.J->Option np.J):aD:=aH ad Tryz.f280 i280 np [] aS
noncomputable abbrev atY(aS:i280.J->Option np.J):a_:=[(280,(Kp aS)),(284,Lj),(285,ZM)]
theorem avr(aS:i280.J->Option np.J)(eB:aB O 280 (Kp aS)):aR O (aX ad (atY aS)):=aV ⟨eB,W0,arx,⟨⟩⟩
noncomputable def pF(aS:i280.J->Option np.J)(a:i280.J):Option np.J:=
 bif(a.1.1==([]:B)) then
 some (((a.1.2.1==([]:B)),()),())
else
(aO a.1.1 (0:Int)).bind fun b=>
 bif((b.toNat:Int)==(42:Int)) then
(bm a.1.1 (1:Int) (a.1.1.length:Int)).bind fun c=>
(aS ((c,a.1.2.1,()),())).bind fun d=>
 bif(!d.1.1) then
 bif(!(a.1.2.1==([]:B))) then
(bm a.1.2.1 (1:Int) (a.1.2.1.length:Int)).bind fun e=>
(aS ((a.1.1,e,()),())).bind fun f=>
 some ((f.1.1,()),())
else
 some ((false,()),())
else
 some ((true,()),())
else
 bif(a.1.2.1==([]:B)) then
 some ((false,()),())
else
(aO a.1.1 (0:Int)).bind fun g=>
 bif((g.toNat:Int)==(63:Int)) then
(bm a.1.1 (1:Int) (a.1.1.length:Int)).bind fun h=>
(bm a.1.2.1 (1:Int) (a.1.2.1.length:Int)).bind fun i=>
(aS ((h,i,()),())).bind fun j=>
 some ((j.1.1,()),())
else
 bif((g.toNat:Int)==(91:Int)) then
(f284 ((a.1.1,()),())).bind fun k=>
(bm a.1.1 (0:Int) k.1.1).bind fun l=>
(aO a.1.2.1 (0:Int)).bind fun m=>
(f285 ((l,(m.toNat:Int),()),())).bind fun n=>
 bif n.1.1 then
(bm a.1.1 k.1.1 (a.1.1.length:Int)).bind fun D=>
(bm a.1.2.1 (1:Int) (a.1.2.1.length:Int)).bind fun p=>
(aS ((D,p,()),())).bind fun q=>
 some ((q.1.1,()),())
else
 some ((false,()),())
else
(aO a.1.1 (0:Int)).bind fun r=>
(aO a.1.2.1 (0:Int)).bind fun s=>
 bif((r.toNat:Int)==(s.toNat:Int)) then
(bm a.1.1 (1:Int) (a.1.1.length:Int)).bind fun t=>
(bm a.1.2.1 (1:Int) (a.1.2.1.length:Int)).bind fun u=>
(aS ((t,u,()),())).bind fun v=>
 some ((v.1.1,()),())
else
 some ((false,()),())
theorem aqb(aS:i280.J->Option np.J)(eB:aB O 280 (Kp aS)):aB O 280 (aH ad Tryz.f280 i280 np [] (pF aS)):=aK (avr aS eB) Tryz.func280 (by kernel_rfl) ae (fun y=>by kernel_rfl) fun a=>by kernel_rfl
noncomputable def f280:i280.J->Option np.J:=jU pF km
noncomputable def ZP:aD:=aH ad Tryz.f280 i280 np [] f280
theorem arA:aB O 280 ZP:=Js (ff:=pF) aqb km
abbrev i259:Shape:=⟨[aL 0 .str,aL 1 .str],[],49⟩
abbrev nq:Shape:=⟨[ap 4],[],49⟩
noncomputable def Kq(aS:i259.J->Option nq.J):aD:=aH ad Tryz.f259 i259 nq [] aS
noncomputable abbrev at3(aS:i259.J->Option nq.J):a_:=[(259,(Kq aS)),(280,ZP)]
theorem avu(aS:i259.J->Option nq.J)(eB:aB O 259 (Kq aS)):aR O (aX ad (at3 aS)):=aV ⟨eB,arA,⟨⟩⟩
noncomputable def q9(aS:i259.J->Option nq.J)(a:i259.J):Option nq.J:=
 bif((a.1.1.length:Int)==(0:Int)) then
 some ((((a.1.2.1.length:Int)==(0:Int)),()),())
else
(aO a.1.1 (0:Int)).bind fun b=>
 bif(b==([42,42]:B)) then
(bm a.1.1 (1:Int) (a.1.1.length:Int)).bind fun c=>
(aS ((c,a.1.2.1,()),())).bind fun d=>
 bif(!d.1.1) then
 bif(decide ((a.1.2.1.length:Int)>(0:Int))) then
(bm a.1.2.1 (1:Int) (a.1.2.1.length:Int)).bind fun e=>
(aS ((a.1.1,e,()),())).bind fun f=>
 some ((f.1.1,()),())
else
 some ((false,()),())
else
 some ((true,()),())
else
 bif(decide ((a.1.2.1.length:Int)>(0:Int))) then
(aO a.1.1 (0:Int)).bind fun g=>
(aO a.1.2.1 (0:Int)).bind fun h=>
(f280 ((g,h,()),())).bind fun i=>
 bif i.1.1 then
(bm a.1.1 (1:Int) (a.1.1.length:Int)).bind fun j=>
(bm a.1.2.1 (1:Int) (a.1.2.1.length:Int)).bind fun k=>
(aS ((j,k,()),())).bind fun l=>
 some ((l.1.1,()),())
else
 some ((false,()),())
else
 some ((false,()),())
theorem aqc(aS:i259.J->Option nq.J)(eB:aB O 259 (Kq aS)):aB O 259 (aH ad Tryz.f259 i259 nq [] (q9 aS)):=aK (avu aS eB) Tryz.func259 (by kernel_rfl) ae (fun y=>by kernel_rfl) fun a=>by kernel_rfl
noncomputable def f259:i259.J->Option nq.J:=jU q9 km
noncomputable def ZX:aD:=aH ad Tryz.f259 i259 nq [] f259
theorem arI:aB O 259 ZX:=Js (ff:=q9) aqc km
noncomputable abbrev auf:a_:=[(73,qd),(193,Lt),(258,ZY),(259,ZX)]
theorem avz:aR O (aX ad auf):=aV ⟨rs,z193,arJ,arI,⟨⟩⟩
abbrev i221:Shape:=⟨[ak 0,ak 1],[],24⟩
abbrev XQ:Shape:=⟨[ap 4],[],24⟩
noncomputable def f221(a:i221.J):Option XQ.J:=
(f258 ((a.1.1,()),())).bind fun b=>
 bif b.1.1 then
(f193 ((a.1.2.1,()),())).bind fun c=>
 bif c.1.1 then
(f73 ((a.1.1,(47:Int),(IntKind.i64.wrap ((a.1.1.length:Int)+(1:Int))),()),())).bind fun d=>
(f73 ((a.1.2.1,(47:Int),(IntKind.i64.wrap ((a.1.2.1.length:Int)+(1:Int))),()),())).bind fun e=>
(f259 ((d.2.1,e.2.1,()),())).bind fun f=>
 some ((f.1.1,()),())
else
 some ((false,()),())
else
 some ((false,()),())
noncomputable def Lo:aD:=aH ad Tryz.f221 i221 XQ [] f221
theorem W6:aB O 221 Lo:=aK avz Tryz.func221 (by kernel_rfl) ae (fun y=>by kernel_rfl) fun a=>by kernel_rfl
abbrev i260:Shape:=⟨[ak 0,ak 1],[],30⟩
abbrev XB:Shape:=⟨[ap 4],[],30⟩
noncomputable def f260(a:i260.J):Option XB.J:=
 bif(!(a.1.2.1==a.1.1)) then
 bif(decide ((a.1.2.1.length:Int)>(a.1.1.length:Int))) then
(bm a.1.2.1 (0:Int) (a.1.1.length:Int)).bind fun b=>
 bif(b==a.1.1) then
(aO a.1.2.1 (a.1.1.length:Int)).bind fun c=>
 some ((((c.toNat:Int)==(47:Int)),()),())
else
 some ((false,()),())
else
 some ((false,()),())
else
 some ((true,()),())
noncomputable def ZW:aD:=aH ad Tryz.f260 i260 XB [] f260
theorem arH:aB O 260 ZW:=aK g0 Tryz.func260 (by kernel_rfl) ae (fun y=>by kernel_rfl) fun a=>by kernel_rfl
noncomputable abbrev aue:a_:=[(221,Lo),(260,ZW)]
theorem LJ:aR O (aX ad aue):=aV ⟨W6,arH,⟨⟩⟩
abbrev RX:Shape:=⟨[aL 0 .entry,ak 1,ak 2,ag 7],[],30⟩
abbrev RD:List aP:=[(.norm,⟨[aL 0 .entry,ak 1,ak 2,ag 7,ap 29],[],30⟩)]
noncomputable def zW(y:RX.J):Option (aC RD):=
(aO y.1.1 y.1.2.2.2.1).bind fun a=>
(f260 ((y.1.2.2.1,a.path,()),())).bind fun b=>
 bif b.1.1 then
(aO y.1.1 y.1.2.2.2.1).bind fun c=>
(f221 ((y.1.2.1,c.path,()),())).bind fun d=>
 some ((y.1.1,y.1.2.1,y.1.2.2.1,y.1.2.2.2.1,d.1.1,()),())
else
 some ((y.1.1,y.1.2.1,y.1.2.2.1,y.1.2.2.2.1,false,()),())
theorem akr:aT O (an (c4 (an (codeOf Tryz.f222) 1 26)) 52 840) (aU RX RD zW):=ce LJ (by kernel_rfl) ae fun y=>by kernel_rfl
abbrev Ao:Shape:=⟨[aL 0 .entry,ak 1,ak 2,ag 7],[],30⟩
abbrev HE:List aP:=[(.ret,⟨[ap 6],[],30⟩),(.exit 0,⟨[],[],30⟩)]
noncomputable def TY(y:Ao.J):bG Ao HE:=
 bif(decide (y.1.2.2.2.1<(y.1.1.length:Int))) then
(zW ((y.1.1,y.1.2.1,y.1.2.2.1,y.1.2.2.2.1,()),())).bind fun a=>
 bif a.1.2.2.2.2.1 then
 some (.inr (.inl ((true,()),())))
else
 some (.inl ((a.1.1,a.1.2.1,a.1.2.2.1,(IntKind.i64.wrap (a.1.2.2.2.1+(1:Int))),()),()))
else
 some (.inr (.inr ((),())))
noncomputable def TD:Ao.J->Option (aC HE):=bu TY
theorem amj:aT O (an (codeOf Tryz.f222) 1 26) (aU Ao HE TD):=bI LJ (by kernel_rfl) (a8 akr ae) fun y=>by kernel_rfl
abbrev i222:Shape:=⟨[aL 0 .entry,ak 1,ak 2],[],30⟩
abbrev XP:Shape:=⟨[ap 6],[],30⟩
noncomputable def f222(a:i222.J):Option XP.J:=
(TD ((a.1.1,a.1.2.1,a.1.2.2.1,(0:Int),()),())).bind fun b=>
(match b with
|.inl c=>
 some ((c.1.1,()),())
|.inr d=>
 some ((false,()),()))
noncomputable def Z_:aD:=aH ad Tryz.f222 i222 XP [] f222
theorem z222:aB O 222 Z_:=aK LJ Tryz.func222 (by kernel_rfl) (a8 amj ae) (fun y=>by kernel_rfl) fun a=>by kernel_rfl
noncomputable abbrev auB:a_:=[(90,xY),(221,Lo),(222,Z_)]
theorem LM:aR O (aX ad auB):=aV ⟨DE,W6,z222,⟨⟩⟩
abbrev Qx:Shape:=⟨[aL 0 .entry,ak 1,ba 5 3000320,ag 6],[a' 3000320 .entry 5 0],51⟩
abbrev Qe:List aP:=[(.norm,⟨[aL 0 .entry,ak 1,ba 5 3000320,ag 6,ap 42],[a' 3000320 .entry 5 0],51⟩)]
noncomputable def zd(y:Qx.J):Option (aC Qe):=
(aO y.1.1 y.1.2.2.2.1).bind fun a=>
(f221 ((y.1.2.1,a.path,()),())).bind fun b=>
 bif(!b.1.1) then
(aO y.1.1 y.1.2.2.2.1).bind fun c=>
 bif(c.kind==(1:Int)) then
(aO y.1.1 y.1.2.2.2.1).bind fun d=>
(f222 ((y.1.1,y.1.2.1,d.path,()),())).bind fun e=>
 some ((y.1.1,y.1.2.1,(),y.1.2.2.2.1,e.1.1,()),y.2.1,())
else
 some ((y.1.1,y.1.2.1,(),y.1.2.2.2.1,false,()),y.2.1,())
else
 some ((y.1.1,y.1.2.1,(),y.1.2.2.2.1,true,()),y.2.1,())
theorem ais:aT O (an (c4 (an (codeOf Tryz.f177) 1 58)) 116 1864) (aU Qx Qe zd):=ce LM (by kernel_rfl) ae fun y=>by kernel_rfl
abbrev Ax:Shape:=⟨[aL 0 .entry,ak 1,ba 5 3000320,ag 6],[a' 3000320 .entry 5 0],51⟩
abbrev HL:List aP:=[(.exit 0,⟨[ba 5 3000320],[a' 3000320 .entry 5 0],51⟩)]
noncomputable def TZ(y:Ax.J):bG Ax HL:=
 bif(decide (y.1.2.2.2.1<(y.1.1.length:Int))) then
(f90 ((y.1.1,()),())).bind fun a=>
 bif a.1.1 then
(zd ((y.1.1,y.1.2.1,(),y.1.2.2.2.1,()),y.2.1,())).bind fun b=>
 bif b.1.2.2.2.2.1 then
(aO b.1.1 b.1.2.2.2.1).bind fun c=>
(b9 48 b.2.1 ([c]:List aw)).bind fun d=>
 some (.inl ((b.1.1,b.1.2.1,(),(IntKind.i64.wrap (b.1.2.2.2.1+(1:Int))),()),d,()))
else
 some (.inl ((b.1.1,b.1.2.1,(),(IntKind.i64.wrap (b.1.2.2.2.1+(1:Int))),()),b.2.1,()))
else
 some (.inr (((),()),y.2.1,()))
else
 some (.inr (((),()),y.2.1,()))
noncomputable def TF:Ax.J->Option (aC HL):=bu TZ
theorem amw:aT O (an (codeOf Tryz.f177) 1 58) (aU Ax HL TF):=bI LM (by kernel_rfl) (a8 ais ae) fun y=>by kernel_rfl
abbrev i177:Shape:=⟨[aL 0 .entry,ak 1],[],51⟩
abbrev Yk:Shape:=⟨[ba 4 3000256],[a' 3000256 .entry 4 0],51⟩
noncomputable def f177(a:i177.J):Option Yk.J:=
(TF ((a.1.1,a.1.2.1,(),(0:Int),()),([]:List aw),())).bind fun b=>
 some (((),()),b.2.1,())
noncomputable def _v:aD:=aH ad Tryz.f177 i177 Yk [] f177
theorem asa:aB O 177 _v:=aK LM Tryz.func177 (by kernel_rfl) (a8 amw ae) (fun y=>by kernel_rfl) fun a=>by kernel_rfl
noncomputable abbrev apI:a_:=[(78,jr),(83,xZ),(223,Z9),(224,J4)]
theorem CD:aR O (aX ad apI):=aV ⟨jQ,DF,arQ,Ua,⟨⟩⟩
abbrev yF:Shape:=⟨[ay 0 500000 0,ba 3 3000192,ba 4 3000256,ag 5],[ax 500000 [bn .u8,a6],a' 3000192 .entry 3 0,a' 3000256 .str 4 0],59⟩
abbrev Fb:List aP:=[(.exit 0,⟨[ay 0 500000 0,ba 3 3000192],[ax 500000 [bn .u8,a6],a' 3000192 .entry 3 0],59⟩)]
noncomputable def PN(y:yF.J):bG yF Fb:=
 bif(decide (y.1.2.2.2.1<(y.2.2.2.1.length:Int))) then
(gp (((),(2:Int),()),(y.2.1.1,y.2.1.2.1,()),())).bind fun a=>
 bif(a.1.2.1==(0:Int)) then
(be y.2.2.2.1.length y.1.2.2.2.1).bind fun b=>
(y.2.2.2.1[b]?).bind fun c=>
(f223 ((y.2.2.1,(c,(1:Int),(7:Int),([]:B),()),()),())).bind fun d=>
 some (.inl (((),(),(),(IntKind.i64.wrap (y.1.2.2.2.1+(1:Int))),()),(a.2.1.1,a.2.1.2.1,()),d.2.1,y.2.2.2.1,()))
else
 some (.inl (((),(),(),(IntKind.i64.wrap (y.1.2.2.2.1+(1:Int))),()),(a.2.1.1,a.2.1.2.1,()),y.2.2.1,y.2.2.2.1,()))
else
 some (.inr (((),(),()),(y.2.1.1,y.2.1.2.1,()),y.2.2.1,()))
noncomputable def PI:yF.J->Option (aC Fb):=bu PN
theorem agR:aT O (an (codeOf Tryz.f178) 1 122) (aU yF Fb PI):=bI CD (by kernel_rfl) ae fun y=>by kernel_rfl
abbrev yE:Shape:=⟨[ay 0 500000 0,ba 3 3000192,ag 6],[ax 500000 [bn .u8,a6],a' 3000192 .entry 3 0],59⟩
abbrev Fa:List aP:=[(.exit 2,⟨[ay 0 500000 0,ba 3 3000192],[ax 500000 [bn .u8,a6],a' 3000192 .entry 3 0],59⟩)]
noncomputable def PM(y:yE.J):bG yE Fa:=
 bif(decide (y.1.2.2.1>(0:Int))) then
(wh (((),()),(y.2.1.1,y.2.1.2.1,()),())).bind fun a=>
(f223 ((y.2.2.1,(a.2.2.1.1,a.2.2.1.2.1,a.2.2.1.2.2.1,a.2.2.1.2.2.2.1,()),()),())).bind fun b=>
 some (.inl (((),(),(IntKind.i64.wrap (y.1.2.2.1-(1:Int))),()),(a.2.1.1,a.2.1.2.1,()),b.2.1,()))
else
 some (.inr (((),(),()),(y.2.1.1,y.2.1.2.1,()),y.2.2.1,()))
noncomputable def PH:yE.J->Option (aC Fa):=bu PM
theorem agQ:aT O (an (codeOf Tryz.f178) 1 250) (aU yE Fa PH):=bI CD (by kernel_rfl) ae fun y=>by kernel_rfl
abbrev yx:Shape:=⟨[ay 0 500000 0,ba 3 3000192,ag 7],[ax 500000 [bn .u8,a6],a' 3000192 .entry 3 0],59⟩
abbrev E0:List aP:=[(.exit 4,⟨[ay 0 500000 0,ba 3 3000192],[ax 500000 [bn .u8,a6],a' 3000192 .entry 3 0],59⟩)]
noncomputable def Pe(y:yx.J):bG yx E0:=
 bif(decide (y.1.2.2.1<(16:Int))) then
(f83 ((y.1.2.2.1,()),())).bind fun a=>
(b4 ([102]:B) a.1.1).bind fun b=>
(f223 ((y.2.2.1,(b,(2:Int),(0:Int),([]:B),()),()),())).bind fun c=>
 some (.inl (((),(),(IntKind.i64.wrap (y.1.2.2.1+(1:Int))),()),(y.2.1.1,y.2.1.2.1,()),c.2.1,()))
else
 some (.inr (((),(),()),(y.2.1.1,y.2.1.2.1,()),y.2.2.1,()))
noncomputable def O_:yx.J->Option (aC E0):=bu Pe
theorem afS:aT O (an (codeOf Tryz.f178) 1 2026) (aU yx E0 O_):=bI CD (by kernel_rfl) ae fun y=>by kernel_rfl
abbrev Vp:Shape:=⟨[ay 0 500000 0],[ax 500000 [bn .u8,a6]],59⟩
abbrev UW:Shape:=⟨[ay 0 500000 0,ba 2 3000128],[ax 500000 [bn .u8,a6],a' 3000128 .entry 2 0],59⟩
noncomputable def wj(a:Vp.J):Option UW.J:=
(PI (((),(),(),(0:Int),()),(a.2.1.1,a.2.1.2.1,()),([]:List aw),([([97]:B),([108,105,98]:B),([98,105,110]:B),([100,111,99]:B),([97,47,98]:B)]:List B),())).bind fun b=>
(gp (((),(7:Int),()),(b.2.1.1,b.2.1.2.1,()),())).bind fun c=>
(PH (((),(),c.1.2.1,()),(c.2.1.1,c.2.1.2.1,()),b.2.2.1,())).bind fun d=>
(gp (((),(30:Int),()),(d.2.1.1,d.2.1.2.1,()),())).bind fun e=>
 bif(e.1.2.1==(0:Int)) then
(O_ (((),(),(0:Int),()),(e.2.1.1,e.2.1.2.1,()),d.2.2.1,())).bind fun f=>
 some (((),(),()),(f.2.1.1,f.2.1.2.1,()),f.2.2.1,())
else
 some (((),(),()),(e.2.1.1,e.2.1.2.1,()),d.2.2.1,())
noncomputable def J5:aD:=aH ad Tryz.f178 Vp UW [0] wj
theorem Ub:aB O 178 J5:=aK CD Tryz.func178 (by kernel_rfl) (a8 agR (a8 agQ (a8 afS ae))) (fun y=>by kernel_rfl) fun a=>by kernel_rfl
abbrev kV(g:B):Prop:=∀b,b∈g->b.toNat≠91
theorem B5{s:B}{i:Int}(h0:0<=i)(h1:i<(s.length:Int)):∃x,aO s i=some x/\x∈s:=nl h0 h1
theorem afz(a)(hs:ci a.1.1.length)(hn:kV a.1.1):aa (f279 a) (fun _=>True):=by
 obtain⟨⟨(s:B),u⟩,bV⟩:=a;have hs:s.length<=2097152:=hs;unfold f279;refine aa.bind (P:=fun _=>True) ?_ fun r _=>?_
 ·refine aa.loop (fun(k:Nat) y=>y.1.1=s/\(0:Int)<=y.1.2.1/\(y.1.2.1:Int)+k=s.length) (fun k y hy=>?_) s.length _ ⟨rfl,Int.le_refl _,by show(0:Int)+s.length=s.length;omega⟩
  obtain⟨⟨(s1:B),(i:Int),u⟩,bV⟩:=y;obtain⟨cH,dm,dJ⟩:=hy;have cH:s1=s:=cH;subst cH;have dm:0<=i:=dm;have dJ:i+k=s1.length:=dJ;unfold TV;refine aa.ite (fun hc=>?_) fun _=>aa.ret trivial
  have hc:i<(s1.length:Int):=of_decide_eq_true hc;obtain⟨x,aE,aF⟩:=B5 dm hc;have hx:((x.toNat:Int)==91)=false:=by
   have:=hn x aF;simp only[beq_eq_false_iff_ne,ne_eq];omega
  have hw:IntKind.i64.wrap (i+1)=i+1:=cT (by omega) (by omega)
  refine aa.eq aE ?_
  refine aa.ite (fun Z=>by rw[hx] at Z;cases Z) fun _=>?_
  have piece:aa (za ((s1,(i,())),())) (fun r=>r.1.1=s1/\r.1.2.1=i):=by
   unfold za;refine aa.eq aE ?_
   exact aa.ite (fun _=>aa.eq aE (aa.ret ⟨rfl,rfl⟩)) fun _=>aa.ret ⟨rfl,rfl⟩
  refine aa.bind piece fun r hr=>?_
  obtain⟨⟨(s2:B),(i2:Int),(c:Bool),v⟩,v'⟩:=r;obtain⟨r1,r2⟩:=hr;have r1:s2=s1:=r1;have r2:i2=i:=r2;subst r1 r2;refine aa.ite (fun _=>?_) fun _=>?_
  ·refine aa.ret ⟨k-1,by omega,rfl,?_,?_⟩
   ·show 0<=IntKind.i64.wrap (i2+1);rw[hw];omega
   ·show IntKind.i64.wrap (i2+1)+((k-1:Nat):Int)=_;rw[hw];omega
  ·refine aa.eq aE ?_
   refine aa.eq (P2 (((x.toNat:Int),()),())) ?_
   refine aa.ite (fun _=>aa.ret trivial) fun _=>?_
   refine aa.ret ⟨k-1,by omega,rfl,?_,?_⟩
   ·show 0<=IntKind.i64.wrap (i2+1);rw[hw];omega
   ·show IntKind.i64.wrap (i2+1)+((k-1:Nat):Int)=_;rw[hw];omega
 ·cases r with
  |inl r=>exact aa.ret trivial
  |inr r=>exact aa.ret trivial
theorem O0{g:B}(h:kV g):∀x,x∈bF 47 g->kV x:=by
 induction g with
 |nil=>
  intro x hx b hb;simp[bF] at hx;subst hx;cases hb
 |cons c g ih=>
  have ih:=ih fun b hb=>h b (List.mem_cons_of_mem _ hb)
  intro x hx b hb;simp only[bF] at hx;cases hc:(c==47) with
  |true=>
   simp only[hc,cond_true,List.mem_cons] at hx;rcases hx with rfl|hx
   ·cases hb
   ·exact ih x hx b hb
  |false=>
   simp only[hc,cond_false] at hx;cases dK:bF 47 g with
   |nil=>exact absurd dK (o9 47 g)
   |cons y L=>
    rw[dK] at hx ih;simp only[List.mem_cons] at hx;rcases hx with rfl|hx
    ·rcases List.mem_cons.1 hb with rfl|hb
     ·exact h _ List.mem_cons_self
     ·exact ih y List.mem_cons_self b hb
    ·exact ih x (List.mem_cons_of_mem _ hx) b hb
theorem ajJ(a)(hs:a.1.1.length<=200)(hn:kV a.1.1):aa (f258 a) (fun _=>True):=by
 obtain⟨⟨(g:B),u⟩,bV⟩:=a;have hs:g.length<=200:=hs;unfold f258;have hw:IntKind.i64.wrap ((g.length:Int)+1)=((g.length+1:Nat):Int):=bX (by unfold au;omega)
 refine aa.eq (vz 47 ((g,((47:Int),(IntKind.i64.wrap ((g.length:Int)+1),()))),()) (by show g.length<=2097152;omega) rfl hw) ?_
 have dK:(bF 47 g).length<=201:=by have:=nZ 47 g;omega
 refine aa.bind (P:=fun _=>True) ?_ fun r _=>?_
 ·refine aa.loop (fun(k:Nat) y=>y.2.1=bF 47 g/\(0:Int)<=y.1.2.2.1/\(y.1.2.2.1:Int)+k=(bF 47 g).length) (fun k y hy=>?_) (bF 47 g).length _ ⟨rfl,Int.le_refl _,by show(0:Int)+_=_;omega⟩
  obtain⟨⟨(g1:B),u1,(i:Int),u⟩,(L:List B),bV⟩:=y;obtain⟨cH,dm,dJ⟩:=hy;have cH:L=bF 47 g:=cH;have dm:0<=i:=dm;have dJ:i+k=(bF 47 g).length:=dJ;subst cH;unfold TW;refine aa.ite (fun hc=>?_) fun _=>aa.ret trivial
  have hc:i<((bF 47 g).length:Int):=of_decide_eq_true hc;obtain⟨j,rfl⟩:=Int.eq_ofNat_of_zero_le dm;have hj:j<(bF 47 g).length:=by omega
  have hw:IntKind.i64.wrap ((j:Int)+1)=(j:Int)+1:=cT (by omega) (by omega)
  refine aa.eq (fx hj) ?_
  refine aa.eq (List.getElem?_eq_getElem hj) ?_
  have hm:=List.getElem_mem hj;refine aa.bind (afz (((bF 47 g)[j],()),()) (by have:=qp 47 g _ hm;show((bF 47 g)[j]).length<=2097152;omega) (O0 hn _ hm)) fun r _=>?_
  refine aa.ite (fun _=>aa.ret trivial) fun _=>?_
  refine aa.ret ⟨k-1,by omega,rfl,?_,?_⟩
  ·show 0<=IntKind.i64.wrap ((j:Int)+1);rw[hw];omega
  ·show IntKind.i64.wrap ((j:Int)+1)+((k-1:Nat):Int)=_;rw[hw];omega
 ·cases r with
  |inl r=>exact aa.ret trivial
  |inr r=>exact aa.ite (fun _=>aa.ret trivial) fun _=>aa.ret trivial
theorem tr{s:B}(h:s≠[]):bm s (1:Int) (s.length:Int)=some (s.drop 1):=fw (a:=1) (by have:=List.length_pos_iff.2 h;omega)
theorem BI{s:List B}(h:0<s.length):bm s (1:Int) (s.length:Int)=some (s.drop 1):=fw (a:=1) h
theorem QN{s:B}(h:(s==([]:B))=false):s≠[]:=by simpa using h
theorem anv:∀(n:Nat) (g s:B),kV g->g.length+s.length<n->aa (jU pF n ((g,(s,())),())) (fun _=>True):=by
 intro n;induction n with
 |zero=>intro g s _ h;omega
 |succ n ih=>
  intro g s hn hl;show aa (pF (jU pF n) _) _;unfold pF;refine aa.ite (fun _=>aa.ret trivial) fun hg=>?_
  have hg:g≠[]:=QN hg;have ML:=List.length_pos_iff.2 hg;obtain⟨x,aE,aF⟩:=B5 (s:=g) (i:=0) (by omega) (by omega)
  refine aa.eq aE ?_
  have hd1:kV (g.drop 1):=fun b hb=>hn b (List.mem_of_mem_drop hb)
  have hdl:(g.drop 1).length+1=g.length:=by rw[List.length_drop];omega
  refine aa.ite (fun _=>?_) fun _=>?_
  ·refine aa.eq (tr hg) ?_
   refine aa.bind (ih (g.drop 1) s hd1 (by omega)) fun r _=>?_
   refine aa.ite (fun _=>?_) fun _=>aa.ret trivial
   refine aa.ite (fun hs=>?_) fun _=>aa.ret trivial
   have hs:s≠[]:=by
    have hs:(!(s==([]:B)))=true:=hs;intro e;subst e;cases hs
   have j6:=List.length_pos_iff.2 hs;refine aa.eq (tr hs) ?_
   exact aa.bind (ih g (s.drop 1) hn (by rw[List.length_drop];omega)) fun r _=>aa.ret trivial
  ·refine aa.ite (fun _=>aa.ret trivial) fun hs=>?_
   have hs:s≠[]:=QN hs;have j6:=List.length_pos_iff.2 hs;have step:aa (jU pF n ((g.drop 1,(s.drop 1,())),())) (fun _=>True):=ih _ _ hd1 (by rw[List.length_drop];rw[List.length_drop];omega)
   refine aa.eq aE ?_
   refine aa.ite (fun _=>?_) fun _=>?_
   ·refine aa.eq (tr hg) ?_
    refine aa.eq (tr hs) ?_
    exact aa.bind step fun r _=>aa.ret trivial
   ·have hx:((x.toNat:Int)==91)=false:=by
     have:=hn x aF;simp only[beq_eq_false_iff_ne,ne_eq];omega
    refine aa.ite (fun Z=>by rw[hx] at Z;cases Z) fun _=>?_
    refine aa.eq aE ?_
    obtain⟨y,dP,fC⟩:=B5 (s:=s) (i:=0) (by omega) (by omega)
    refine aa.eq dP ?_
    refine aa.ite (fun _=>?_) fun _=>aa.ret trivial
    refine aa.eq (tr hg) ?_
    refine aa.eq (tr hs) ?_
    exact aa.bind step fun r _=>aa.ret trivial
theorem ajC(a)(h1:ci a.1.1.length)(h2:ci a.1.2.1.length)(hn:kV a.1.1):aa (f280 a) (fun _=>True):=by
 obtain⟨⟨(g:B),(s:B),u⟩,bV⟩:=a;have h1:g.length<=2097152:=h1;have h2:s.length<=2097152:=h2;exact anv km g s hn (by unfold km;omega)
theorem akT:∀(n:Nat) (g s:List B),(∀x,x∈g->kV x/\ci x.length)->(∀x,x∈s->ci x.length)->g.length+s.length<n->aa (jU q9 n ((g,(s,())),())) (fun _=>True):=by
 intro n;induction n with
 |zero=>intro g s _ _ h;omega
 |succ n ih=>
  intro g s hn hs hl;show aa (q9 (jU q9 n) _) _;unfold q9;refine aa.ite (fun _=>aa.ret trivial) fun hg=>?_
  have ML:0<g.length:=by
   have hg:((g.length:Int)==0)=false:=hg;simp only[beq_eq_false_iff_ne,ne_eq] at hg;omega
  obtain⟨x,aE,aF⟩:=nl (xs:=g) (i:=0) (by omega) (by omega)
  refine aa.eq aE ?_
  have hd1:∀x,x∈g.drop 1->kV x/\ci x.length:=fun b hb=>hn b (List.mem_of_mem_drop hb)
  have jA:∀x,x∈s.drop 1->ci x.length:=fun b hb=>hs b (List.mem_of_mem_drop hb)
  have hdl:(g.drop 1).length+1=g.length:=by rw[List.length_drop];omega
  refine aa.ite (fun _=>?_) fun _=>?_
  ·refine aa.eq (BI ML) ?_
   refine aa.bind (ih (g.drop 1) s hd1 hs (by omega)) fun r _=>?_
   refine aa.ite (fun _=>?_) fun _=>aa.ret trivial
   refine aa.ite (fun hc=>?_) fun _=>aa.ret trivial
   have hc:(s.length:Int)>0:=of_decide_eq_true hc;refine aa.eq (BI (s:=s) (by omega)) ?_
   exact aa.bind (ih g (s.drop 1) hn jA (by rw[List.length_drop];omega)) fun r _=>aa.ret trivial
  ·refine aa.ite (fun hc=>?_) fun _=>aa.ret trivial
   have hc:(s.length:Int)>0:=of_decide_eq_true hc;refine aa.eq aE ?_
   obtain⟨y,dP,fC⟩:=nl (xs:=s) (i:=0) (by omega) (by omega)
   refine aa.eq dP ?_
   refine aa.bind (ajC ((x,(y,())),()) (hn x aF).2 (hs y fC) (hn x aF).1) fun r _=>?_
   refine aa.ite (fun _=>?_) fun _=>aa.ret trivial
   refine aa.eq (BI ML) ?_
   refine aa.eq (BI (s:=s) (by omega)) ?_
   exact aa.bind (ih (g.drop 1) (s.drop 1) hd1 jA (by rw[List.length_drop];rw[List.length_drop];omega)) fun r _=>aa.ret trivial
theorem P9(a)(h1:a.1.1.length<=200)(h2:a.1.2.1.length<=1048576)(hn:kV a.1.1):aa (f221 a) (fun _=>True):=by
 obtain⟨⟨(g:B),(s:B),u⟩,bV⟩:=a;have h1:g.length<=200:=h1;have h2:s.length<=1048576:=h2;unfold f221;refine aa.bind (ajJ ((g,()),()) h1 hn) fun r _=>?_
 refine aa.ite (fun _=>?_) fun _=>aa.ret trivial
 refine aa.eq (Gh ((s,()),()) (by show s.length<=2097152;omega)) ?_
 refine aa.ite (fun _=>?_) fun _=>aa.ret trivial
 refine aa.eq (vz 47 ((g,((47:Int),(IntKind.i64.wrap ((g.length:Int)+1),()))),()) (by show g.length<=2097152;omega) rfl (bX (by unfold au;omega))) ?_
 refine aa.eq (vz 47 ((s,((47:Int),(IntKind.i64.wrap ((s.length:Int)+1),()))),()) (by show s.length<=2097152;omega) rfl (bX (by unfold au;omega))) ?_
 have g1:=nZ 47 g;have s1:=nZ 47 s;refine aa.bind (P:=fun _=>True) ?_ fun r _=>aa.ret trivial
 exact akT km (bF 47 g) (bF 47 s) (fun x hx=>⟨O0 hn x hx,by have:=qp 47 g x hx;unfold ci;omega⟩) (fun x hx=>by have:=qp 47 s x hx;unfold ci;omega) (by unfold km;omega)
theorem ahH(a)(h1:ci a.1.1.length):aa (f260 a) (fun _=>True):=by
 obtain⟨⟨(g:B),(s:B),u⟩,bV⟩:=a;unfold f260;refine aa.ite (fun _=>?_) fun _=>aa.ret trivial
 refine aa.ite (fun hc=>?_) fun _=>aa.ret trivial
 have hc:(s.length:Int)>(g.length:Int):=of_decide_eq_true hc;refine aa.eq (fY (xs:=s) (b:=g.length) (by omega)) ?_
 refine aa.ite (fun _=>?_) fun _=>aa.ret trivial
 obtain⟨x,aE,_⟩:=B5 (s:=s) (i:=(g.length:Int)) (by omega) (by omega)
 exact aa.eq aE (aa.ret trivial)
theorem agu(a)(aq:jd a.1.1)(hg:a.1.2.1.length<=200)(hn:kV a.1.2.1)(Z:dt a.1.2.2.1):aa (f222 a) (fun _=>True):=by
 obtain⟨⟨(t:List aw),(g:B),(d:B),u⟩,bV⟩:=a;obtain⟨nI,lU⟩:=aq;have nI:t.length<=16:=nI;have Z:d.length<=200:=Z;unfold f222;refine aa.bind (P:=fun _=>True) ?_ fun r _=>?_
 ·refine aa.loop (fun(k:Nat) y=>y.1.1=t/\y.1.2.1=g/\y.1.2.2.1=d/\(0:Int)<=y.1.2.2.2.1/\(y.1.2.2.2.1:Int)+k=t.length) (fun k y hy=>?_) t.length _ ⟨rfl,rfl,rfl,Int.le_refl _,by show(0:Int)+_=_;omega⟩
  obtain⟨⟨(t1:List aw),(g1:B),(d1:B),(i:Int),u⟩,bV⟩:=y;obtain⟨cH,dm,dJ,h_,eQ⟩:=hy;have cH:t1=t:=cH;have dm:g1=g:=dm;have dJ:d1=d:=dJ;subst cH dm dJ;have h_:0<=i:=h_;have eQ:i+k=t1.length:=eQ;unfold TY;refine aa.ite (fun hc=>?_) fun _=>aa.ret trivial
  have hc:i<(t1.length:Int):=of_decide_eq_true hc;have hw:IntKind.i64.wrap (i+1)=i+1:=cT (by omega) (by omega)
  obtain⟨x,aE,aF⟩:=nl (xs:=t1) h_ hc;have piece:aa (zW ((t1,(g1,(d1,(i,())))),())) (fun r=>r.1.1=t1/\r.1.2.1=g1/\r.1.2.2.1=d1/\r.1.2.2.2.1=i):=by
   unfold zW;refine aa.eq aE ?_
   refine aa.bind (ahH ((d1,(x.path,())),()) (by show d1.length<=2097152;omega)) fun r _=>?_
   refine aa.ite (fun _=>?_) fun _=>aa.ret ⟨rfl,rfl,rfl,rfl⟩
   refine aa.eq aE ?_
   exact aa.bind (P9 ((g1,(x.path,())),()) hg (Nat.le_trans (lU x aF).1 (by decide)) hn) fun r _=>aa.ret ⟨rfl,rfl,rfl,rfl⟩
  refine aa.bind piece fun r hr=>?_
  obtain⟨⟨(L5:List aw),(g2:B),(d2:B),(i2:Int),(c:Bool),v⟩,v'⟩:=r;obtain⟨r1,r2,dn,fU⟩:=hr;have r1:L5=t1:=r1;have r2:g2=g1:=r2;have dn:d2=d1:=dn;have fU:i2=i:=fU;subst r1 r2 dn fU;refine aa.ite (fun _=>aa.ret trivial) fun _=>?_
  refine aa.ret ⟨k-1,by omega,rfl,rfl,rfl,?_,?_⟩
  ·show 0<=IntKind.i64.wrap (i2+1);rw[hw];omega
  ·show IntKind.i64.wrap (i2+1)+((k-1:Nat):Int)=_;rw[hw];omega
 ·cases r with
  |inl r=>exact aa.ret trivial
  |inr r=>exact aa.ret trivial
theorem agy(a)(aq:jd a.1.1)(hg:a.1.2.1.length<=200)(hn:kV a.1.2.1):aa (f177 a) (fun r=>jd r.2.1):=by
 obtain⟨⟨(t:List aw),(g:B),u⟩,bV⟩:=a;obtain⟨nI,lU⟩:=aq;have nI:t.length<=16:=nI;have hg:g.length<=200:=hg;have ax9:is t:=⟨by show t.length<=2097152;omega,fun e he=>⟨Nat.le_trans (lU e he).1 (by decide),Nat.le_trans (lU e he).2 (by decide)⟩⟩
 unfold f177;refine aa.bind (P:=fun r=>jd r.2.1) ?_ fun r hr=>aa.ret hr
 refine aa.loop (fun(k:Nat) y=>y.1.1=t/\y.1.2.1=g/\(0:Int)<=y.1.2.2.2.1/\(y.1.2.2.2.1:Int)+k=t.length/\((y.2.1:List aw).length:Int)<=y.1.2.2.2.1/\∀e,e∈(y.2.1:List aw)->k8 e) (fun k y hy=>?_) t.length _
  ⟨rfl,rfl,Int.le_refl _,by show(0:Int)+_=_;omega,by show(0:Int)<=0;omega,fun e he=>by cases he⟩
 obtain⟨⟨(t1:List aw),(g1:B),u1,(i:Int),u⟩,(out:List aw),bV⟩:=y;obtain⟨cH,dm,dJ,h_,eQ,e3⟩:=hy;have cH:t1=t:=cH;have dm:g1=g:=dm;subst cH dm;have dJ:0<=i:=dJ;have h_:i+k=t1.length:=h_;have eQ:(out.length:Int)<=i:=eQ;unfold TZ;refine aa.ite (fun hc=>?_) fun _=>aa.ret ⟨by show out.length<=16;omega,e3⟩
 have hc:i<(t1.length:Int):=of_decide_eq_true hc;have hw:IntKind.i64.wrap (i+1)=i+1:=cT (by omega) (by omega)
 obtain⟨x,aE,aF⟩:=nl (xs:=t1) dJ hc;refine aa.eq (vo ((t1,()),()) ax9) ?_
 refine aa.ite (fun _=>?_) fun _=>aa.ret ⟨by show out.length<=16;omega,e3⟩
 have piece:aa (zd ((t1,(g1,((),(i,())))),(out,()))) (fun r=>r.1.1=t1/\r.1.2.1=g1/\r.1.2.2.2.1=i/\r.2.1=out):=by
  unfold zd;refine aa.eq aE ?_
  refine aa.bind (P9 ((g1,(x.path,())),()) hg (Nat.le_trans (lU x aF).1 (by decide)) hn) fun r _=>?_
  refine aa.ite (fun _=>?_) fun _=>aa.ret ⟨rfl,rfl,rfl,rfl⟩
  refine aa.eq aE ?_
  refine aa.ite (fun _=>?_) fun _=>aa.ret ⟨rfl,rfl,rfl,rfl⟩
  refine aa.eq aE ?_
  exact aa.bind (agu ((t1,(g1,(x.path,()))),()) ⟨nI,lU⟩ hg hn (lU x aF).1) fun r _=>aa.ret ⟨rfl,rfl,rfl,rfl⟩
 refine aa.bind piece fun r hr=>?_
 obtain⟨⟨(L5:List aw),(g2:B),aZ,(i2:Int),(c:Bool),v⟩,(Da:List aw),v'⟩:=r;obtain⟨r1,r2,dn,fU⟩:=hr;have r1:L5=t1:=r1;have r2:g2=g1:=r2;have dn:i2=i:=dn;have fU:Da=out:=fU;subst r1 r2 dn fU;refine aa.ite (fun _=>?_) fun _=>?_
 ·refine aa.eq aE ?_
  refine aa.eq (di (by decide) (by unfold au;simp;omega)) ?_
  refine aa.ret ⟨k-1,by omega,rfl,rfl,?_,?_,?_,fun e he=>?_⟩
  ·show 0<=IntKind.i64.wrap (i2+1);rw[hw];omega
  ·show IntKind.i64.wrap (i2+1)+((k-1:Nat):Int)=_;rw[hw];omega
  ·show((Da++[x]).length:Int)<=IntKind.i64.wrap (i2+1);rw[hw];simp;omega
  ·have he:e∈Da++[x]:=he;rcases List.mem_append.1 he with he|he
   ·exact e3 e he
   ·rw[List.mem_singleton.1 he];exact lU x aF
 ·refine aa.ret ⟨k-1,by omega,rfl,rfl,?_,?_,?_,e3⟩
  ·show 0<=IntKind.i64.wrap (i2+1);rw[hw];omega
  ·show IntKind.i64.wrap (i2+1)+((k-1:Nat):Int)=_;rw[hw];omega
  ·show(Da.length:Int)<=IntKind.i64.wrap (i2+1);rw[hw];omega
theorem app:∀(n:Nat) (x:Int),0<=x->x<=100000->x<n->aa (jU lP n ((x,()),())) (fun r=>((r.1.1:B).length:Int)<=x+1):=by
 intro n;induction n with
 |zero=>intro x h0 _ h;omega
 |succ n ih=>
  intro x h0 h1 hl;show aa (lP (jU lP n) _) _;unfold lP;refine aa.ite (fun hc=>?_) fun _=>?_
  ·have hc:x< -9223372036854775807:=of_decide_eq_true hc;omega
  refine aa.ite (fun hc=>?_) fun _=>?_
  ·have hc:x<0:=of_decide_eq_true hc;omega
  refine aa.ite (fun hc=>?_) fun hc=>?_
  ·exact aa.ret (by show((strOf [_]).length:Int)<=x+1;simp[strOf];omega)
  ·have hc:¬x<10:=of_decide_eq_false hc;refine aa.eq (v7 (x:=x) rfl h0 (by omega) (by decide)) ?_
   refine aa.bind (ih (x/10) (by omega) (by omega) (by omega)) fun r hr=>?_
   refine aa.eq (oj (x:=x) h0 (by decide)) ?_
   have hr:((r.1.1:B).length:Int)<=x/10+1:=hr;refine aa.eq (du (s:=r.1.1) (by simp[strOf];omega)) ?_
   exact aa.ret (by show(((r.1.1:B)++strOf [_]).length:Int)<=x+1;rw[List.length_append];simp[strOf];omega)
theorem ajE(a)(h0:(0:Int)<=a.1.1)(h1:(a.1.1:Int)<=100):aa (f83 a) (fun r=>(r.1.1:B).length<=101):=by
 obtain⟨⟨(x:Int),u⟩,bV⟩:=a;have h0:0<=x:=h0;have h1:x<=100:=h1;exact(app km x h0 (by omega) (by unfold km;omega)).mono fun r hr=>by have hr:((r.1.1:B).length:Int)<=x+1:=hr;omega
theorem P3(a)(m:Nat)(h:c8 a.2.1.1 a.2.1.2.1 m)(hm:40<=m):aa (wj a) (fun r=>c8 r.2.1.1 r.2.1.2.1 (m-40)/\jd r.2.2.1):=by
 obtain⟨⟨u1,u2⟩,⟨⟨(b:List Int),(p:Int),uO⟩,adz⟩⟩:=a;have h:c8 b p m:=h;unfold wj;refine aa.bind (P:=fun r=>c8 r.2.1.1 r.2.1.2.1 (m-5)/\jd r.2.2.1) ?_ fun r1 h1=>?_
 ·refine aa.loop (fun(k:Nat) y=>k<=5/\(0:Int)<=y.1.2.2.2.1/\(y.1.2.2.2.1:Int)+k=5/\(y.2.2.2.1:List B)=[[97],[108,105,98],[98,105,110],[100,111,99],[97,47,98]]/\c8 y.2.1.1 y.2.1.2.1 (m-(5-k))/\jd y.2.2.1) (fun k y hy=>?_) 5 _
   ⟨Nat.le_refl _,Int.le_refl _,by show(0:Int)+(5:Nat)=5;rfl,rfl,h,by show(0:Nat)<=16;decide,fun e he=>by cases he⟩
  obtain⟨⟨aZ,w2,cd,(i:Int),k9⟩,⟨⟨(bH:List Int),(hH:Int),rZ⟩,(t:List aw),(L:List B),oV⟩⟩:=y;obtain⟨cH,dm,dJ,h_,eQ,e3⟩:=hy;have dm:0<=i:=dm;have dJ:i+k=5:=dJ;have h_:L=_:=h_;have dK:L.length=5:=by rw[h_];rfl
  have ayh:∀s,s∈L->dt s:=by rw[h_];exact fun s hs=>qW (by rfl) hs
  have eQ:c8 bH hH (m-(5-k)):=eQ;have e3:jd t:=e3;unfold PN;refine aa.ite (fun hc=>?_) fun hc=>?_
  ·have hc:i<(L.length:Int):=of_decide_eq_true hc;have hw:IntKind.i64.wrap (i+1)=i+1:=cT (by omega) (by omega)
   obtain⟨j,rfl⟩:=Int.eq_ofNat_of_zero_le dm;have hj:j<L.length:=by omega
   refine aa.bind (hP _ _ eQ (by omega)) fun r hr=>?_
   have hR:c8 r.2.1.1 r.2.1.2.1 (m-(5-(k-1))):=hr.1.less (by omega)
   refine aa.ite (fun _=>?_) fun _=>?_
   ·refine aa.eq (fx hj) ?_
    refine aa.eq (List.getElem?_eq_getElem hj) ?_
    have hsh:dt L[j]:=ayh _ (List.getElem_mem hj);refine aa.bind (Hn ((t,((L[j],((1:Int),((7:Int),(([]:B),())))),())),()) e3 ⟨hsh,by show(0:Nat)<=200;decide⟩) fun r2 h2=>?_
    refine aa.ret ⟨k-1,by omega,by omega,?_,?_,h_,hR,h2⟩
    ·show 0<=IntKind.i64.wrap ((j:Int)+1);rw[hw];omega
    ·show IntKind.i64.wrap ((j:Int)+1)+((k-1:Nat):Int)=5;rw[hw];omega
   ·refine aa.ret ⟨k-1,by omega,by omega,?_,?_,h_,hR,e3⟩
    ·show 0<=IntKind.i64.wrap ((j:Int)+1);rw[hw];omega
    ·show IntKind.i64.wrap ((j:Int)+1)+((k-1:Nat):Int)=5;rw[hw];omega
  ·exact aa.ret ⟨eQ.less (by omega),e3⟩
 refine aa.bind (hP _ _ h1.1 (by omega)) fun r2 h2=>?_
 obtain⟨⟨v1,(q:Int),v2⟩,⟨⟨(b1:List Int),(iA:Int),v3⟩,v4⟩⟩:=r2;have aCo:q<7:=h2.2.2 (by show(1:Int)<=7;decide)
 have aCp:0<=q:=h2.2.1;refine aa.bind (P:=fun r=>c8 r.2.1.1 r.2.1.2.1 (m-34)/\jd r.2.2.1) ?_ fun dn h3=>?_
 ·refine aa.loop (fun(k:Nat) y=>k<=6/\(y.1.2.2.1:Int)=k/\c8 y.2.1.1 y.2.1.2.1 (m-34+4*k)/\jd y.2.2.1) (fun k y hy=>?_) q.toNat _
   ⟨by omega,by show q=_;omega,(by refine h2.1.less ?_;omega),h1.2⟩
  obtain⟨⟨aZ,w2,(i:Int),k9⟩,⟨⟨(bH:List Int),(hH:Int),rZ⟩,(t:List aw),oV⟩⟩:=y;obtain⟨cH,dJ,eQ,e3⟩:=hy;have dJ:i=k:=dJ;subst dJ;have eQ:c8 bH hH (m-34+4*k):=eQ;have e3:jd t:=e3;unfold PM;refine aa.ite (fun hc=>?_) fun hc=>?_
  ·have hc:(k:Int)>0:=of_decide_eq_true hc;have hw:IntKind.i64.wrap ((k:Int)-1)=((k-1:Nat):Int):=by rw[cT (by omega) (by omega)];omega
   refine aa.bind (Po _ _ eQ (by omega)) fun r hr=>?_
   refine aa.bind (Hn ((t,((r.2.2.1.1,(r.2.2.1.2.1,(r.2.2.1.2.2.1,(r.2.2.1.2.2.2.1,())))),())),()) e3 hr.2) fun r2 h2=>?_
   exact aa.ret ⟨k-1,by omega,by omega,hw,hr.1.less (by omega),h2⟩
  ·exact aa.ret ⟨eQ.less (by omega),e3⟩
 refine aa.bind (hP _ _ h3.1 (by omega)) fun fU aA=>?_
 refine aa.ite (fun _=>?_) fun _=>aa.ret ⟨aA.1.less (by omega),h3.2⟩
 refine aa.bind (P:=fun r=>c8 r.2.1.1 r.2.1.2.1 (m-34-1)/\jd r.2.2.1) ?_ fun r5 bl=>aa.ret ⟨bl.1.less (by omega),bl.2⟩
 refine aa.loop (fun(k:Nat) y=>(0:Int)<=y.1.2.2.1/\(y.1.2.2.1:Int)+k=16/\c8 y.2.1.1 y.2.1.2.1 (m-34-1)/\jd y.2.2.1) (fun k y hy=>?_) 16 _ ⟨Int.le_refl _,by show(0:Int)+(16:Nat)=16;rfl,aA.1,h3.2⟩
 obtain⟨⟨aZ,w2,(i:Int),k9⟩,⟨⟨(bH:List Int),(hH:Int),rZ⟩,(t:List aw),oV⟩⟩:=y;obtain⟨cH,dJ,eQ,e3⟩:=hy;have cH:0<=i:=cH;have dJ:i+k=16:=dJ;have e3:jd t:=e3;unfold Pe;refine aa.ite (fun hc=>?_) fun hc=>aa.ret ⟨eQ,e3⟩
 have hc:i<16:=of_decide_eq_true hc;have hw:IntKind.i64.wrap (i+1)=i+1:=cT (by omega) (by omega)
 refine aa.bind (ajE ((i,()),()) cH (by show i<=100;omega)) fun r hr=>?_
 have hr:(r.1.1:B).length<=101:=hr;refine aa.eq (du (s:=[102]) (t:=r.1.1) (by show 1+_<=_;omega)) ?_
 refine aa.bind (Hn ((t,(((([102]:B)++r.1.1,((2:Int),((0:Int),(([]:B),()))))),())),()) e3 ⟨by show((([102]:B)++r.1.1).length)<=200;simp;omega,by show(0:Nat)<=200;decide⟩) fun r2 h2=>?_
 refine aa.ret ⟨k-1,by omega,?_,?_,eQ,h2⟩
 ·show 0<=IntKind.i64.wrap (i+1);rw[hw];omega
 ·show IntKind.i64.wrap (i+1)+((k-1:Nat):Int)=16;rw[hw];omega
noncomputable abbrev apL:a_:=[(78,jr),(79,lG),(176,CA)]
theorem ap4:aR O (aX ad apL):=aV ⟨jQ,mh,I_,⟨⟩⟩
abbrev Vs:Shape:=⟨[ay 0 500000 0],[ax 500000 [bn .u8,a6]],17⟩
abbrev UZ:Shape:=⟨[ay 0 500000 0,ay 2 2 0],[ax 500000 [bn .u8,a6],ax 2 [ah,a6,ah]],17⟩
noncomputable def th(a:Vs.J):Option UZ.J:=
(jX (((),([([111,110,101]:B),([116,119,111]:B),([116,104,114,101,101]:B),([122,105,112]:B)]:List B),()),(a.2.1.1,a.2.1.2.1,()),())).bind fun b=>
(gp (((),(4:Int),()),(b.2.1.1,b.2.1.2.1,()),())).bind fun c=>
 bif(c.1.2.1 !=(0:Int)) then
(tg (((),()),(c.2.1.1,c.2.1.2.1,()),())).bind fun d=>
 some (((),(),()),(d.2.1.1,d.2.1.2.1,()),(b.1.2.1,c.1.2.1,d.1.2.1,()),())
else
 some (((),(),()),(c.2.1.1,c.2.1.2.1,()),(b.1.2.1,c.1.2.1,([]:B),()),())
noncomputable def CB:aD:=aH ad Tryz.f157 Vs UZ [0] th
theorem I':aB O 157 CB:=aK ap4 Tryz.func157 (by kernel_rfl) ae (fun y=>by kernel_rfl) fun a=>by kernel_rfl
noncomputable abbrev apR:a_:=[(78,jr),(79,lG),(157,CB),(176,CA),(177,_v),(178,J5)]
theorem ap9:aR O (aX ad apR):=aV ⟨jQ,mh,I',I_,asa,Ub,⟨⟩⟩
abbrev Vz:Shape:=⟨[ay 0 500000 0,ak 1],[ax 500000 [bn .u8,a6]],27⟩
abbrev U6:Shape:=⟨[ay 0 500000 0,ay 4 4 0],[ax 500000 [bn .u8,a6],bp 5000258 .need 4 2,bp 5000259 .entry 4 3,ax 4 [ah,ah,.own 5000258,.own 5000259]],27⟩
noncomputable def wl(a:Vz.J):Option U6.J:=
(tg (((),()),(a.2.1.1,a.2.1.2.1,()),())).bind fun b=>
(wj (((),()),(b.2.1.1,b.2.1.2.1,()),())).bind fun c=>
(jX (((),([([42,42]:B),([97,47,42,42]:B),([108,105,98,47,42,42]:B),([100,111,99,47,42,42]:B),([98,42]:B)]:List B),()),(c.2.1.1,c.2.1.2.1,()),())).bind fun d=>
(f177 ((c.2.2.1,d.1.2.1,()),())).bind fun e=>
(gp (((),(3:Int),()),(d.2.1.1,d.2.1.2.1,()),())).bind fun f=>
 bif(f.1.2.1==(0:Int)) then
(th (((),()),(f.2.1.1,f.2.1.2.1,()),())).bind fun g=>
(b9 40 ([]:List bx) ([(bx.mk g.2.2.1.1 g.2.2.1.2.1 g.2.2.1.2.2.1)]:List bx)).bind fun h=>
 some (((),(),()),(g.2.1.1,g.2.1.2.1,()),h,e.2.1,(a.1.2.1,b.1.2.1,(),(),()),())
else
 some (((),(),()),(f.2.1.1,f.2.1.2.1,()),([]:List bx),e.2.1,(a.1.2.1,b.1.2.1,(),(),()),())
noncomputable def J7:aD:=aH ad Tryz.f125 Vz U6 [0] wl
theorem Ud:aB O 125 J7:=aK ap9 Tryz.func125 (by kernel_rfl) ae (fun y=>by kernel_rfl) fun a=>by kernel_rfl
noncomputable abbrev apN:a_:=[(78,jr),(79,lG),(176,CA)]
theorem ap6:aR O (aX ad apN):=aV ⟨jQ,mh,I_,⟨⟩⟩
abbrev Vu:Shape:=⟨[ay 0 500000 0],[ax 500000 [bn .u8,a6]],11⟩
abbrev U1:Shape:=⟨[ay 0 500000 0,ak 2],[ax 500000 [bn .u8,a6]],11⟩
noncomputable def wk(a:Vu.J):Option U1.J:=
(gp (((),(6:Int),()),(a.2.1.1,a.2.1.2.1,()),())).bind fun b=>
 bif(b.1.2.1==(0:Int)) then
(jX (((),([([]:B),([46]:B),([49,46]:B),([48,49]:B),([49,48,48,48]:B),([49,46,50,46,51,46,52,46,53]:B),([97]:B),([49,46,45,49]:B)]:List B),()),(b.2.1.1,b.2.1.2.1,()),())).bind fun c=>
 some (((),c.1.2.1,()),(c.2.1.1,c.2.1.2.1,()),())
else
(tg (((),()),(b.2.1.1,b.2.1.2.1,()),())).bind fun d=>
 some (((),d.1.2.1,()),(d.2.1.1,d.2.1.2.1,()),())
noncomputable def J6:aD:=aH ad Tryz.f155 Vu U1 [0] wk
theorem Uc:aB O 155 J6:=aK ap6 Tryz.func155 (by kernel_rfl) ae (fun y=>by kernel_rfl) fun a=>by kernel_rfl
noncomputable abbrev apM:a_:=[(78,jr),(79,lG),(155,J6),(157,CB)]
theorem ap5:aR O (aX ad apM):=aV ⟨jQ,mh,Uc,I',⟨⟩⟩
abbrev Vt:Shape:=⟨[ay 0 500000 0],[ax 500000 [bn .u8,a6]],26⟩
abbrev U0:Shape:=⟨[ay 0 500000 0,ay 2 2 0],[ax 500000 [bn .u8,a6],ax 2 [ah,a6,ah]],26⟩
noncomputable def Cs(a:Vt.J):Option U0.J:=
(th (((),()),(a.2.1.1,a.2.1.2.1,()),())).bind fun b=>
(gp (((),(14:Int),()),(b.2.1.1,b.2.1.2.1,()),())).bind fun c=>
 bif(c.1.2.1==(0:Int)) then
(jX (((),([([]:B),([57]:B),([79,110,101]:B),([101,108,101,118,101,110,108,101,116,116,101]:B)]:List B),()),(c.2.1.1,c.2.1.2.1,()),())).bind fun d=>
 some (((),(),()),(d.2.1.1,d.2.1.2.1,()),(d.1.2.1,b.2.2.1.2.1,b.2.2.1.2.2.1,()),())
else
 bif(c.1.2.1==(1:Int)) then
(gp (((),(6:Int),()),(c.2.1.1,c.2.1.2.1,()),())).bind fun e=>
 some (((),(),()),(e.2.1.1,e.2.1.2.1,()),(b.2.2.1.1,(IntKind.i64.wrap (e.1.2.1-(1:Int))),b.2.2.1.2.2.1,()),())
else
 bif(c.1.2.1==(2:Int)) then
(wk (((),()),(c.2.1.1,c.2.1.2.1,()),())).bind fun f=>
 some (((),(),()),(f.2.1.1,f.2.1.2.1,()),(b.2.2.1.1,b.2.2.1.2.1,f.1.2.1,()),())
else
 some (((),(),()),(c.2.1.1,c.2.1.2.1,()),(b.2.2.1.1,b.2.2.1.2.1,b.2.2.1.2.2.1,()),())
noncomputable def VX:aD:=aH ad Tryz.f156 Vt U0 [0] Cs
theorem an1:aB O 156 VX:=aK ap5 Tryz.func156 (by kernel_rfl) ae (fun y=>by kernel_rfl) fun a=>by kernel_rfl
noncomputable abbrev apB:a_:=[(78,jr),(79,lG),(261,J3)]
theorem apX:aR O (aX ad apB):=aV ⟨jQ,mh,T',⟨⟩⟩
abbrev Vi:Shape:=⟨[ay 0 500000 0],[ax 500000 [bn .u8,a6]],11⟩
abbrev UQ:Shape:=⟨[ay 0 500000 0,ak 2],[ax 500000 [bn .u8,a6]],11⟩
noncomputable def Cn(a:Vi.J):Option UQ.J:=
(gp (((),(6:Int),()),(a.2.1.1,a.2.1.2.1,()),())).bind fun b=>
 bif(b.1.2.1==(0:Int)) then
(jX (((),([([]:B),([47]:B),([97,47]:B),([47,97]:B),([46]:B),([46,46]:B),([97,47,47,98]:B),([65]:B),([97,47,98,47,99,47,100,47,101,47,102]:B),([101,108,101,118,101,110,108,101,116,116,101]:B),([97,32,98]:B),([120,47,46,46,47,121]:B)]:List B),()),(b.2.1.1,b.2.1.2.1,()),())).bind fun c=>
 some (((),c.1.2.1,()),(c.2.1.1,c.2.1.2.1,()),())
else
(tf (((),()),(b.2.1.1,b.2.1.2.1,()),())).bind fun d=>
 some (((),d.1.2.1,()),(d.2.1.1,d.2.1.2.1,()),())
noncomputable def VQ:aD:=aH ad Tryz.f236 Vi UQ [0] Cn
theorem anU:aB O 236 VQ:=aK apX Tryz.func236 (by kernel_rfl) ae (fun y=>by kernel_rfl) fun a=>by kernel_rfl
noncomputable abbrev apF:a_:=[(77,CZ),(78,jr),(79,lG),(224,J4),(236,VQ),(237,Lm)]
theorem apZ:aR O (aX ad apF):=aV ⟨J9,jQ,mh,Ua,anU,W4,⟨⟩⟩
abbrev Vm:Shape:=⟨[ay 0 500000 0],[ax 500000 [bn .u8,a6]],32⟩
abbrev UT:Shape:=⟨[ay 0 500000 0,ay 2 2 0],[ax 500000 [bn .u8,a6],ax 2 [ah,a6,a6,ah]],32⟩
noncomputable def wi(a:Vm.J):Option UT.J:=
(wh (((),()),(a.2.1.1,a.2.1.2.1,()),())).bind fun b=>
(gp (((),(14:Int),()),(b.2.1.1,b.2.1.2.1,()),())).bind fun c=>
 bif(c.1.2.1==(0:Int)) then
(Cn (((),()),(c.2.1.1,c.2.1.2.1,()),())).bind fun d=>
 some (((),(),()),(d.2.1.1,d.2.1.2.1,()),(d.1.2.1,b.2.2.1.2.1,b.2.2.1.2.2.1,b.2.2.1.2.2.2.1,()),())
else
 bif(c.1.2.1==(1:Int)) then
(gp (((),(5:Int),()),(c.2.1.1,c.2.1.2.1,()),())).bind fun e=>
 some (((),(),()),(e.2.1.1,e.2.1.2.1,()),(b.2.2.1.1,e.1.2.1,b.2.2.1.2.2.1,b.2.2.1.2.2.2.1,()),())
else
 bif(c.1.2.1==(2:Int)) then
(tH (((),([((-1):Int),(8:Int),(0:Int)]:List Int),()),(c.2.1.1,c.2.1.2.1,()),())).bind fun f=>
 some (((),(),()),(f.2.1.1,f.2.1.2.1,()),(b.2.2.1.1,b.2.2.1.2.1,f.1.2.1,b.2.2.1.2.2.2.1,()),())
else
 bif(c.1.2.1==(3:Int)) then
(f237 ((([117]:B),(81:Int),()),())).bind fun g=>
(jX (((),([([1]:B),g.1.1,([120]:B),([]:B)]:List B),()),(c.2.1.1,c.2.1.2.1,()),())).bind fun h=>
 some (((),(),()),(h.2.1.1,h.2.1.2.1,()),(b.2.2.1.1,b.2.2.1.2.1,b.2.2.1.2.2.1,h.1.2.1,()),())
else
 some (((),(),()),(c.2.1.1,c.2.1.2.1,()),(b.2.2.1.1,b.2.2.1.2.1,b.2.2.1.2.2.1,b.2.2.1.2.2.2.1,()),())
noncomputable def VT:aD:=aH ad Tryz.f203 Vm UT [0] wi
theorem anX:aB O 203 VT:=aK apZ Tryz.func203 (by kernel_rfl) ae (fun y=>by kernel_rfl) fun a=>by kernel_rfl
noncomputable abbrev apK:a_:=[(78,jr),(178,J5),(202,xb),(203,VT)]
theorem ap3:aR O (aX ad apK):=aV ⟨jQ,Ub,C4,anX,⟨⟩⟩
abbrev Vr:Shape:=⟨[ay 0 500000 0],[ax 500000 [bn .u8,a6]],30⟩
abbrev UY:Shape:=⟨[ay 0 500000 0,ba 2 3000128],[ax 500000 [bn .u8,a6],a' 3000128 .entry 2 0],30⟩
noncomputable def Cr(a:Vr.J):Option UY.J:=
(wj (((),()),(a.2.1.1,a.2.1.2.1,()),())).bind fun b=>
(f202 ((b.2.2.1,()),())).bind fun c=>
(gp (((),(14:Int),()),(b.2.1.1,b.2.1.2.1,()),())).bind fun d=>
 bif(d.1.2.1==(0:Int)) then
(wi (((),()),(d.2.1.1,d.2.1.2.1,()),())).bind fun e=>
(b9 48 c.2.1 ([(aw.mk e.2.2.1.1 e.2.2.1.2.1 e.2.2.1.2.2.1 e.2.2.1.2.2.2.1)]:List aw)).bind fun f=>
 some (((),(),()),(e.2.1.1,e.2.1.2.1,()),f,())
else
 bif(d.1.2.1==(1:Int)) then
 bif(decide ((c.2.1.length:Int)>(0:Int))) then
(gp (((),(c.2.1.length:Int),()),(d.2.1.1,d.2.1.2.1,()),())).bind fun g=>
(wi (((),()),(g.2.1.1,g.2.1.2.1,()),())).bind fun h=>
(be c.2.1.length g.1.2.1).bind fun i=>
((c.2.1[i]?).bind fun q=>some (aw.mk h.2.2.1.1 h.2.2.1.2.1 h.2.2.1.2.2.1 h.2.2.1.2.2.2.1)).bind fun j=>
 some (((),(),()),(h.2.1.1,h.2.1.2.1,()),(c.2.1.set i j),())
else
 some (((),(),()),(d.2.1.1,d.2.1.2.1,()),c.2.1,())
else
 some (((),(),()),(d.2.1.1,d.2.1.2.1,()),c.2.1,())
noncomputable def VW:aD:=aH ad Tryz.f158 Vr UY [0] Cr
theorem an0:aB O 158 VW:=aK ap3 Tryz.func158 (by kernel_rfl) ae (fun y=>by kernel_rfl) fun a=>by kernel_rfl
noncomputable abbrev apS:a_:=[(78,jr),(79,lG),(125,J7),(155,J6),(156,VX),(157,CB),(158,VW)]
theorem aqa:aR O (aX ad apS):=aV ⟨jQ,mh,Ud,Uc,an1,I',an0,⟨⟩⟩
abbrev VB:Shape:=⟨[ay 0 500000 0],[ax 500000 [bn .u8,a6]],39⟩
abbrev U8:Shape:=⟨[ay 0 500000 0,ay 2 2 0],[ax 500000 [bn .u8,a6],bp 5000130 .need 2 2,bp 5000131 .entry 2 3,ax 2 [ah,ah,.own 5000130,.own 5000131]],39⟩
noncomputable def Ct(a:VB.J):Option U8.J:=
(jX (((),([([111,110,101]:B),([116,119,111]:B),([116,104,114,101,101]:B),([122,105,112]:B)]:List B),()),(a.2.1.1,a.2.1.2.1,()),())).bind fun b=>
(wl (((),b.1.2.1,()),(b.2.1.1,b.2.1.2.1,()),())).bind fun c=>
(gp (((),(14:Int),()),(c.2.1.1,c.2.1.2.1,()),())).bind fun d=>
 bif(d.1.2.1==(0:Int)) then
(jX (((),([([]:B),([79,110,101]:B)]:List B),()),(d.2.1.1,d.2.1.2.1,()),())).bind fun e=>
 some (((),(),()),(e.2.1.1,e.2.1.2.1,()),c.2.2.1,c.2.2.2.1,(e.1.2.1,c.2.2.2.2.1.2.1,(),(),()),())
else
 bif(d.1.2.1==(1:Int)) then
(wk (((),()),(d.2.1.1,d.2.1.2.1,()),())).bind fun f=>
 some (((),(),()),(f.2.1.1,f.2.1.2.1,()),c.2.2.1,c.2.2.2.1,(c.2.2.2.2.1.1,f.1.2.1,(),(),()),())
else
 bif(d.1.2.1==(2:Int)) then
(Cs (((),()),(d.2.1.1,d.2.1.2.1,()),())).bind fun g=>
(th (((),()),(g.2.1.1,g.2.1.2.1,()),())).bind fun h=>
(b9 40 c.2.2.1 ([(bx.mk g.2.2.1.1 g.2.2.1.2.1 g.2.2.1.2.2.1),(bx.mk h.2.2.1.1 h.2.2.1.2.1 h.2.2.1.2.2.1)]:List bx)).bind fun i=>
 some (((),(),()),(h.2.1.1,h.2.1.2.1,()),i,c.2.2.2.1,(c.2.2.2.2.1.1,c.2.2.2.2.1.2.1,(),(),()),())
else
 bif(d.1.2.1==(3:Int)) then
(Cr (((),()),(d.2.1.1,d.2.1.2.1,()),())).bind fun j=>
 some (((),(),()),(j.2.1.1,j.2.1.2.1,()),c.2.2.1,j.2.2.1,(c.2.2.2.2.1.1,c.2.2.2.2.1.2.1,(),(),()),())
else
 some (((),(),()),(d.2.1.1,d.2.1.2.1,()),c.2.2.1,c.2.2.2.1,(c.2.2.2.2.1.1,c.2.2.2.2.1.2.1,(),(),()),())
noncomputable def V3:aD:=aH ad Tryz.f108 VB U8 [0] Ct
theorem an7:aB O 108 V3:=aK aqa Tryz.func108 (by kernel_rfl) ae (fun y=>by kernel_rfl) fun a=>by kernel_rfl
abbrev x2(p:aG):Prop:=jD p/\p.aW.length<=2097151/\∀n,n∈p.bi->n.aW.length<=2097151
abbrev oT(k:Nat)(ps:List aG):Prop:=ps.length<=k/\∀p,p∈ps->x2 p
theorem oT.yi{k:Nat}{ps:List aG}(h:oT k ps)(hk:k<=2097152):fb ps:=⟨Nat.le_trans h.1 hk,fun p hp=>(h.2 p hp).1⟩
theorem oT.vs{k:Nat}{ps:List aG}(h:oT k ps):jI ps:=fun p hp=>(h.2 p hp).2
abbrev Eg(n:bx):Prop:=dt n.name/\dt n.aW
def Wu(s:B):Bool:=!(s==[102,114,101,115,104])&&!(s==[110,111,98,111,100,121,115])
abbrev Nw(s:B):Prop:=dt s/\Wu s=true
theorem Jw{L:List B}(h:L.all (fun s=>decide (s.length<=200)&&Wu s)=true){s:B}(hs:s∈L):Nw s:=by
 have:=List.all_eq_true.1 h s hs;simp only[Bool.and_eq_true,decide_eq_true_eq] at this;exact this
abbrev rV(p:aG):Prop:=Nw p.name/\dt p.aW/\(p.bi.length<=3/\∀n,n∈p.bi->Eg n)/\(p.bB.length<=17/\∀e,e∈p.bB->k8 e)
theorem rV.ok{p:aG}(h:rV p):x2 p:=by
 obtain⟨a,b,⟨c1,c2⟩,d1,d2⟩:=h;have up:∀{s:B},dt s->ci s.length:=fun h=>Nat.le_trans h (by decide)
 exact⟨⟨up a.1,up b,⟨Nat.le_trans c1 (by decide),fun n hn=>⟨up (c2 n hn).1,up (c2 n hn).2⟩⟩,Nat.le_trans d1 (by decide),fun e he=>⟨up (d2 e he).1,up (d2 e he).2⟩⟩,Nat.le_trans b (by decide),fun n hn=>Nat.le_trans (c2 n hn).2 (by decide)⟩
theorem Fx(a)(m:Nat)(h:c8 a.2.1.1 a.2.1.2.1 m)(hm:3<=m):aa (th a) (fun r=>c8 r.2.1.1 r.2.1.2.1 (m-3)/\Eg ⟨r.2.2.1.1,r.2.2.1.2.1,r.2.2.1.2.2.1⟩):=by
 unfold th;refine aa.bind (lK _ m h (by omega) (by simp)) fun r1 h1=>?_
 have s1:dt r1.1.2.1:=qW (by rfl) h1.2
 refine aa.bind (hP _ _ h1.1 (by omega)) fun r2 h2=>?_
 refine aa.ite (fun _=>?_) fun _=>aa.ret ⟨h2.1.less (by omega),s1,by show(0:Nat)<=200;decide⟩
 exact aa.bind (ER _ _ h2.1 (by omega)) fun dn h3=>aa.ret ⟨h3.1.less (by omega),s1,h3.2⟩
theorem P5(a)(m:Nat)(h:c8 a.2.1.1 a.2.1.2.1 m)(hm:50<=m)(hn:Nw a.1.2.1):aa (wl a) (fun r=>c8 r.2.1.1 r.2.1.2.1 (m-50)/\rV ⟨r.2.2.2.2.1.1,r.2.2.2.2.1.2.1,r.2.2.1,r.2.2.2.1⟩/\(r.2.2.1:List bx).length<=1):=by
 unfold wl;refine aa.bind (ER _ m h (by omega)) fun r1 h1=>?_
 refine aa.bind (P3 _ _ h1.1 (by omega)) fun r2 h2=>?_
 refine aa.bind (lK _ _ h2.1 (by omega) (by simp)) fun dn h3=>?_
 have hg:(dn.1.2.1:B).length<=200/\kV dn.1.2.1:=by
  have:=h3.2;simp only[List.mem_cons,List.not_mem_nil,or_false] at this;rcases this with e|e|e|e|e
  all_goals(rw[e];exact⟨by decide,by decide⟩)
 refine aa.bind (agy ((r2.2.2.1,(dn.1.2.1,())),()) h2.2 hg.1 hg.2) fun fU aA=>?_
 refine aa.bind (hP _ _ h3.1 (by omega)) fun r5 bl=>?_
 have aq:(fU.2.1:List aw).length<=17/\∀e,e∈(fU.2.1:List aw)->k8 e:=⟨Nat.le_succ_of_le aA.1,aA.2⟩;refine aa.ite (fun _=>?_) fun _=>aa.ret ⟨bl.1.less (by omega),⟨hn,h1.2,⟨by show(0:Nat)<=3;decide,fun n hn=>by cases hn⟩,aq⟩,by show(0:Nat)<=1;decide⟩
 refine aa.bind (Fx _ _ bl.1 (by omega)) fun r' ca=>?_
 refine aa.eq (di (by decide) (by unfold au;simp)) ?_
 refine aa.ret ⟨ca.1.less (by omega),⟨hn,h1.2,⟨by show(1:Nat)<=3;decide,fun n hn=>?_⟩,aq⟩,by show(1:Nat)<=1;decide⟩
 have hn:n∈([]:List bx)++[_]:=hn;rw[List.nil_append,List.mem_singleton] at hn;rw[hn];exact ca.2
theorem Ot(a)(m:Nat)(h:c8 a.2.1.1 a.2.1.2.1 m)(hm:2<=m):aa (wk a) (fun r=>c8 r.2.1.1 r.2.1.2.1 (m-2)/\dt r.1.2.1):=by
 unfold wk;refine aa.bind (hP _ m h (by omega)) fun r1 h1=>?_
 refine aa.ite (fun _=>?_) fun _=>?_
 ·exact aa.bind (lK _ _ h1.1 (by omega) (by simp)) fun r hr=>aa.ret ⟨hr.1.less (by omega),qW (by rfl) hr.2⟩
 ·exact aa.bind (ER _ _ h1.1 (by omega)) fun r hr=>aa.ret ⟨hr.1.less (by omega),hr.2⟩
theorem aeV(a)(m:Nat)(h:c8 a.2.1.1 a.2.1.2.1 m)(hm:2<=m):aa (Cn a) (fun r=>c8 r.2.1.1 r.2.1.2.1 (m-2)/\dt r.1.2.1):=by
 unfold Cn;refine aa.bind (hP _ m h (by omega)) fun r1 h1=>?_
 refine aa.ite (fun _=>?_) fun _=>?_
 ·exact aa.bind (lK _ _ h1.1 (by omega) (by simp)) fun r hr=>aa.ret ⟨hr.1.less (by omega),qW (by rfl) hr.2⟩
 ·exact aa.bind (Fw _ _ h1.1 (by omega)) fun r hr=>aa.ret ⟨hr.1.less (by omega),hr.2⟩
theorem aeX(a)(m:Nat)(h:c8 a.2.1.1 a.2.1.2.1 m)(hm:7<=m):aa (Cs a) (fun r=>c8 r.2.1.1 r.2.1.2.1 (m-7)/\Eg ⟨r.2.2.1.1,r.2.2.1.2.1,r.2.2.1.2.2.1⟩):=by
 unfold Cs;refine aa.bind (Fx _ m h (by omega)) fun r1 h1=>?_
 refine aa.bind (hP _ _ h1.1 (by omega)) fun r2 h2=>?_
 refine aa.ite (fun _=>?_) fun _=>aa.ite (fun _=>?_) fun _=>aa.ite (fun _=>?_) fun _=>?_
 ·exact aa.bind (lK _ _ h2.1 (by omega) (by simp)) fun r hr=>aa.ret ⟨hr.1.less (by omega),qW (by rfl) hr.2,h1.2.2⟩
 ·exact aa.bind (hP _ _ h2.1 (by omega)) fun r hr=>aa.ret ⟨hr.1.less (by omega),h1.2⟩
 ·exact aa.bind (Ot _ _ h2.1 (by omega)) fun r hr=>aa.ret ⟨hr.1.less (by omega),h1.2.1,hr.2⟩
 ·exact aa.ret ⟨h2.1.less (by omega),h1.2⟩
theorem Oz(a)(m:Nat)(h:c8 a.2.1.1 a.2.1.2.1 m)(hm:8<=m):aa (wi a) (fun r=>c8 r.2.1.1 r.2.1.2.1 (m-8)/\k8 ⟨r.2.2.1.1,r.2.2.1.2.1,r.2.2.1.2.2.1,r.2.2.1.2.2.2.1⟩):=by
 unfold wi;refine aa.bind (Po _ m h (by omega)) fun r1 h1=>?_
 refine aa.bind (hP _ _ h1.1 (by omega)) fun r2 h2=>?_
 refine aa.ite (fun _=>?_) fun _=>aa.ite (fun _=>?_) fun _=>aa.ite (fun _=>?_) fun _=>aa.ite (fun _=>?_) fun _=>?_
 ·exact aa.bind (aeV _ _ h2.1 (by omega)) fun r hr=>aa.ret ⟨hr.1.less (by omega),hr.2,h1.2.2⟩
 ·exact aa.bind (hP _ _ h2.1 (by omega)) fun r hr=>aa.ret ⟨hr.1.less (by omega),h1.2⟩
 ·exact aa.bind (J' _ _ h2.1 (by omega) (by simp)) fun r hr=>aa.ret ⟨hr.1.less (by omega),h1.2⟩
 ·refine aa.bind (Rl _ (by simp) (by show(0:Int)<=81;decide) (by show(81:Int)<=127;decide)) fun q az=>?_
  refine aa.bind (lK _ _ h2.1 (by omega) (by simp)) fun r hr=>aa.ret ⟨hr.1.less (by omega),h1.2.1,?_⟩
  have:=hr.2;simp only[List.mem_cons,List.not_mem_nil,or_false] at this;rcases this with e|e|e|e
  ·show(r.1.2.1:B).length<=200;rw[e];decide
  ·show(r.1.2.1:B).length<=200;rw[e];exact az
  ·show(r.1.2.1:B).length<=200;rw[e];decide
  ·show(r.1.2.1:B).length<=200;rw[e];decide
 ·exact aa.ret ⟨h2.1.less (by omega),h1.2⟩
abbrev ZJ(t:List aw):Prop:=t.length<=17/\∀e,e∈t->k8 e
theorem aeT(a)(m:Nat)(h:c8 a.2.1.1 a.2.1.2.1 m)(hm:50<=m):aa (Cr a) (fun r=>c8 r.2.1.1 r.2.1.2.1 (m-50)/\ZJ r.2.2.1):=by
 unfold Cr;refine aa.bind (P3 _ m h (by omega)) fun r1 h1=>?_
 obtain⟨nQ,⟨u1,(t:List aw),u2⟩⟩:=r1;have aq:jd t:=h1.2;have ab2:=aq.1;refine aa.eq (Gg ((t,()),()) (by show t.length<=2097152;omega)) ?_
 refine aa.bind (hP _ _ h1.1 (by omega)) fun r2 h2=>?_
 have nJ:ZJ t:=⟨Nat.le_succ_of_le aq.1,aq.2⟩;refine aa.ite (fun _=>?_) fun _=>aa.ite (fun _=>?_) fun _=>aa.ret ⟨h2.1.less (by omega),nJ⟩
 ·refine aa.bind (Oz _ _ h2.1 (by omega)) fun dn h3=>?_
  refine aa.eq (di (xs:=t) (by decide) (by unfold au;simp;omega)) ?_
  refine aa.ret ⟨h3.1.less (by omega),by show(t++[_]).length<=17;simp;omega,fun e he=>?_⟩
  have he:e∈t++[_]:=he;rcases List.mem_append.1 he with he|he
  ·exact aq.2 e he
  ·rw[List.mem_singleton.1 he];exact h3.2
 ·refine aa.ite (fun hc=>?_) fun _=>aa.ret ⟨h2.1.less (by omega),nJ⟩
  have hc:(t.length:Int)>0:=of_decide_eq_true hc;refine aa.bind (hP _ _ h2.1 (by omega)) fun dn h3=>?_
  obtain⟨⟨v1,(q:Int),v2⟩,v3⟩:=dn;have xI:0<=q:=h3.2.1;have aCg:q<(t.length:Int):=h3.2.2 (by show(1:Int)<=(t.length:Int);omega)
  obtain⟨j,rfl⟩:=Int.eq_ofNat_of_zero_le xI;have hj:j<t.length:=by omega
  refine aa.bind (Oz _ _ h3.1 (by omega)) fun fU aA=>?_
  refine aa.eq (fx (n:=t.length) (i:=j) hj) ?_
  refine aa.eq (x:=aw.mk fU.2.2.1.1 fU.2.2.1.2.1 fU.2.2.1.2.2.1 fU.2.2.1.2.2.2.1) (by show(t[j]?).bind _=_;rw[List.getElem?_eq_getElem hj];rfl) ?_
  exact aa.ret ⟨aA.1.less (by omega),by show(t.set _ _).length<=17;rw[List.length_set];omega,S0 aq.2 aA.2⟩
theorem aeW(a)(m:Nat)(h:c8 a.2.1.1 a.2.1.2.1 m)(hm:110<=m):aa (Ct a) (fun r=>c8 r.2.1.1 r.2.1.2.1 (m-110)/\rV ⟨r.2.2.2.2.1.1,r.2.2.2.2.1.2.1,r.2.2.1,r.2.2.2.1⟩):=by
 unfold Ct;refine aa.bind (lK _ m h (by omega) (by simp)) fun r1 h1=>?_
 refine aa.bind (P5 _ _ h1.1 (by omega) (Jw (by rfl) h1.2)) fun r2 h2=>?_
 obtain⟨uq,D4,xJ,oJ⟩:=h2.2.1;refine aa.bind (hP _ _ h2.1 (by omega)) fun dn h3=>?_
 refine aa.ite (fun _=>?_) fun _=>aa.ite (fun _=>?_) fun _=>aa.ite (fun _=>?_) fun _=>aa.ite (fun _=>?_) fun _=>?_
 ·exact aa.bind (lK _ _ h3.1 (by omega) (by simp)) fun r hr=>aa.ret ⟨hr.1.less (by omega),Jw (by rfl) hr.2,D4,xJ,oJ⟩
 ·exact aa.bind (Ot _ _ h3.1 (by omega)) fun r hr=>aa.ret ⟨hr.1.less (by omega),uq,hr.2,xJ,oJ⟩
 ·refine aa.bind (aeX _ _ h3.1 (by omega)) fun fU aA=>?_
  refine aa.bind (Fx _ _ aA.1 (by omega)) fun r5 bl=>?_
  have hl:=h2.2.2;refine aa.eq (di (xs:=(r2.2.2.1:List bx)) (by decide) (by unfold au;simp;omega)) ?_
  refine aa.ret ⟨bl.1.less (by omega),uq,D4,⟨by show((r2.2.2.1:List bx)++[_,_]).length<=3;simp;omega,fun n hn=>?_⟩,oJ⟩
  have hn:n∈(r2.2.2.1:List bx)++[_,_]:=hn;rcases List.mem_append.1 hn with hn|hn
  ·exact xJ.2 n hn
  ·simp only[List.mem_cons,List.not_mem_nil,or_false] at hn;rcases hn with rfl|rfl
   ·exact aA.2
   ·exact bl.2
 ·exact aa.bind (aeT _ _ h3.1 (by omega)) fun r hr=>aa.ret ⟨hr.1.less (by omega),uq,D4,xJ,hr.2⟩
 ·exact aa.ret ⟨h3.1.less (by omega),uq,D4,xJ,oJ⟩
noncomputable abbrev auO:a_:=[(202,xb)]
theorem avO:aR O (aX ad auO):=aV ⟨C4,⟨⟩⟩
abbrev i154:Shape:=⟨[b_ 0 [ah,ah,bn .need,bn .entry]],[],13⟩
abbrev Yz:Shape:=⟨[ay 2 2 0],[bp 5000130 .need 2 2,bp 5000131 .entry 2 3,ax 2 [ah,ah,.own 5000130,.own 5000131]],13⟩
noncomputable def f154(a:i154.J):Option Yz.J:=
(b9 40 ([]:List bx) a.1.1.2.2.1).bind fun b=>
(f202 ((a.1.1.2.2.2.1,()),())).bind fun c=>
 some (((),()),b,c.2.1,(a.1.1.1,a.1.1.2.1,(),(),()),())
noncomputable def Ly:aD:=aH ad Tryz.f154 i154 Yz [] f154
theorem z154:aB O 154 Ly:=aK avO Tryz.func154 (by kernel_rfl) ae (fun y=>by kernel_rfl) fun a=>by kernel_rfl
noncomputable abbrev avl:a_:=[(154,Ly)]
theorem aaC:aR O (aX ad avl):=aV ⟨z154,⟨⟩⟩
abbrev AU:Shape:=⟨[ay 1 1 0,ay 2 2 0,ay 3 3 0,ag 4],[ax 1 [bn .pack],bp 5000128 .pack 2 0,ax 2 [.own 5000128],bp 5000192 .pack 3 0,ax 3 [.own 5000192]],25⟩
abbrev H7:List aP:=[(.exit 0,⟨[ay 2 2 0,ay 3 3 0],[bp 5000128 .pack 2 0,ax 2 [.own 5000128],bp 5000192 .pack 3 0,ax 3 [.own 5000192]],25⟩)]
noncomputable def Bq(y:AU.J):bG AU H7:=
 bif(decide (y.1.2.2.2.1<(y.2.1.1.length:Int))) then
(aO y.2.1.1 y.1.2.2.2.1).bind fun a=>
(f154 (((a.name,a.aW,a.bi,a.bB,()),()),())).bind fun b=>
(b9 80 y.2.2.2.2.1 ([(aG.mk b.2.2.2.1.1 b.2.2.2.1.2.1 b.2.1 b.2.2.1)]:List aG)).bind fun c=>
 some (.inl (((),(),(),(IntKind.i64.wrap (y.1.2.2.2.1+(1:Int))),()),(y.2.1.1,()),y.2.2.1,((),()),c,((),()),()))
else
 some (.inr (((),(),()),y.2.2.1,((),()),y.2.2.2.2.1,((),()),()))
noncomputable def IJ:AU.J->Option (aC H7):=bu Bq
theorem amZ:aT O (an (codeOf Tryz.f107) 1 58) (aU AU H7 IJ):=bI aaC (by kernel_rfl) ae fun y=>by kernel_rfl
abbrev i107:Shape:=⟨[b_ 0 [bn .pack]],[],25⟩
abbrev Y9:Shape:=⟨[ay 2 2 0],[bp 5000128 .pack 2 0,ax 2 [.own 5000128]],25⟩
noncomputable def f107(a:i107.J):Option Y9.J:=
(IJ (((),(),(),(0:Int),()),(a.1.1.1,()),([]:List aG),((),()),([]:List aG),((),()),())).bind fun b=>
 some (((),()),b.2.2.2.1,((),()),())
noncomputable def aaa:aD:=aH ad Tryz.f107 i107 Y9 [] f107
theorem z107:aB O 107 aaa:=aK aaC Tryz.func107 (by kernel_rfl) (a8 amZ ae) (fun y=>by kernel_rfl) fun a=>by kernel_rfl
noncomputable abbrev auD:a_:=[(60,Ni)]
theorem avI:aR O (aX ad auD):=aV ⟨aaK,⟨⟩⟩
abbrev i174:Shape:=⟨[b_ 0 [bn .pack],aL 1 .pack],[],15⟩
abbrev Ym:Shape:=⟨[ay 4 4 0,ag 5],[ax 4 [bn .pack]],15⟩
noncomputable def f174(a:i174.J):Option Ym.J:=
(f60 ((a.1.2.1,()),())).bind fun b=>
 bif(b.1.1 !=(0:Int)) then
 some (((),b.1.1,()),(a.1.1.1,()),())
else
 some (((),(0:Int),()),(a.1.2.1,()),())
noncomputable def _x:aD:=aH ad Tryz.f174 i174 Ym [] f174
theorem asb:aB O 174 _x:=aK avI Tryz.func174 (by kernel_rfl) ae (fun y=>by kernel_rfl) fun a=>by kernel_rfl
noncomputable abbrev auC:a_:=[(154,Ly)]
theorem aam:aR O (aX ad auC):=aV ⟨z154,⟨⟩⟩
abbrev Ay:Shape:=⟨[aL 0 .pack,ay 3 3 0,ba 4 3000256,ag 5],[ax 3 [ah,ah,bn .need,bn .entry],a' 3000256 .pack 4 0],35⟩
abbrev HM:List aP:=[(.exit 0,⟨[aL 0 .pack,ay 3 3 0,ba 4 3000256,ag 5],[ax 3 [ah,ah,bn .need,bn .entry],a' 3000256 .pack 4 0],35⟩)]
noncomputable def vR(y:Ay.J):bG Ay HM:=
 bif(decide (y.1.2.2.2.1<(y.1.1.length:Int))) then
(aO y.1.1 y.1.2.2.2.1).bind fun a=>
 bif(Op.bytesLess a.name y.2.1.1) then
 some (.inl ((y.1.1,(),(),(IntKind.i64.wrap (y.1.2.2.2.1+(1:Int))),()),(y.2.1.1,y.2.1.2.1,y.2.1.2.2.1,y.2.1.2.2.2.1,()),y.2.2.1,()))
else
 some (.inr ((y.1.1,(),(),y.1.2.2.2.1,()),(y.2.1.1,y.2.1.2.1,y.2.1.2.2.1,y.2.1.2.2.2.1,()),y.2.2.1,()))
else
 some (.inr ((y.1.1,(),(),y.1.2.2.2.1,()),(y.2.1.1,y.2.1.2.1,y.2.1.2.2.1,y.2.1.2.2.2.1,()),y.2.2.1,()))
noncomputable def A0:Ay.J->Option (aC HM):=bu vR
theorem amx:aT O (an (codeOf Tryz.f175) 1 28) (aU Ay HM A0):=bI aam (by kernel_rfl) ae fun y=>by kernel_rfl
abbrev i175:Shape:=⟨[aL 0 .pack,b_ 1 [ah,ah,bn .need,bn .entry]],[],35⟩
abbrev Yl:Shape:=⟨[ba 4 3000256],[a' 3000256 .pack 4 0],35⟩
noncomputable def f175(a:i175.J):Option Yl.J:=
(A0 ((a.1.1,(),(),(0:Int),()),(a.1.2.1.1,a.1.2.1.2.1,a.1.2.1.2.2.1,a.1.2.1.2.2.2.1,()),([]:List aG),())).bind fun b=>
(bm b.1.1 (0:Int) b.1.2.2.2.1).bind fun c=>
(b9 80 ([]:List aG) c).bind fun d=>
(f154 (((b.2.1.1,b.2.1.2.1,b.2.1.2.2.1,b.2.1.2.2.2.1,()),()),())).bind fun e=>
(b9 80 d ([(aG.mk e.2.2.2.1.1 e.2.2.2.1.2.1 e.2.1 e.2.2.1)]:List aG)).bind fun f=>
(bm b.1.1 b.1.2.2.2.1 (b.1.1.length:Int)).bind fun g=>
(b9 80 f g).bind fun h=>
 some (((),()),h,())
noncomputable def _w:aD:=aH ad Tryz.f175 i175 Yl [] f175
theorem z175:aB O 175 _w:=aK aam Tryz.func175 (by kernel_rfl) (a8 amx ae) (fun y=>by kernel_rfl) fun a=>by kernel_rfl
noncomputable abbrev au9:a_:=[(50,El),(160,Lx),(174,_x),(175,_w)]
theorem avU:aR O (aX ad au9):=aV ⟨LY,z160,asb,z175,⟨⟩⟩
abbrev i124:Shape:=⟨[b_ 0 [bn .pack],b_ 1 [ah,ah,bn .need,bn .entry]],[],27⟩
abbrev YW:Shape:=⟨[ay 4 4 0,ag 5],[ax 4 [bn .pack]],27⟩
noncomputable def f124(a:i124.J):Option YW.J:=
(f50 (((a.1.2.1.1,a.1.2.1.2.1,a.1.2.1.2.2.1,a.1.2.1.2.2.2.1,()),()),())).bind fun b=>
 bif(!b.1.1) then
 some (((),(1:Int),()),(a.1.1.1,()),())
else
(f160 ((a.1.1.1,a.1.2.1.1,()),())).bind fun c=>
 bif(decide (c.1.1>=(0:Int))) then
 some (((),(2:Int),()),(a.1.1.1,()),())
else
(f175 ((a.1.1.1,(a.1.2.1.1,a.1.2.1.2.1,a.1.2.1.2.2.1,a.1.2.1.2.2.2.1,()),()),())).bind fun d=>
(f174 (((a.1.1.1,()),d.2.1,()),())).bind fun e=>
 some (((),e.1.2.1,()),(e.2.1.1,()),())
noncomputable def _1:aD:=aH ad Tryz.f124 i124 YW [] f124
theorem z124:aB O 124 _1:=aK avU Tryz.func124 (by kernel_rfl) ae (fun y=>by kernel_rfl) fun a=>by kernel_rfl
noncomputable abbrev arj:a_:=[(78,jr),(79,lG),(124,_1),(125,J7)]
theorem WX:aR O (aX ad arj):=aV ⟨jQ,mh,z124,Ud,⟨⟩⟩
abbrev zp:Shape:=⟨[ay 0 500000 0,ay 2 2 0,ay 3 3 0,ag 4],[ax 500000 [bn .u8,a6],bp 5000128 .pack 2 0,ax 2 [.own 5000128],ax 3 [bn .pack]],23⟩
abbrev Gl:List aP:=[(.exit 0,⟨[ay 0 500000 0,ay 2 2 0,ay 3 3 0],[ax 500000 [bn .u8,a6],bp 5000128 .pack 2 0,ax 2 [.own 5000128],ax 3 [bn .pack]],23⟩)]
noncomputable def Sl(y:zp.J):bG zp Gl:=
 bif(decide (y.1.2.2.2.1>(0:Int))) then
(jX (((),([([111,110,101]:B),([116,119,111]:B),([116,104,114,101,101]:B),([122,105,112]:B)]:List B),()),(y.2.1.1,y.2.1.2.1,()),())).bind fun a=>
(wl (((),a.1.2.1,()),(a.2.1.1,a.2.1.2.1,()),())).bind fun b=>
(f124 (((y.2.2.2.2.1.1,()),(b.2.2.2.2.1.1,b.2.2.2.2.1.2.1,b.2.2.1,b.2.2.2.1,()),()),())).bind fun c=>
 some (.inl (((),(),(),(IntKind.i64.wrap (y.1.2.2.2.1-(1:Int))),()),(b.2.1.1,b.2.1.2.1,()),y.2.2.1,((),()),(c.2.1.1,()),()))
else
 some (.inr (((),(),(),()),(y.2.1.1,y.2.1.2.1,()),y.2.2.1,((),()),(y.2.2.2.2.1.1,()),()))
noncomputable def R':zp.J->Option (aC Gl):=bu Sl
theorem akc:aT O (an (codeOf Tryz.f72) 1 58) (aU zp Gl R'):=bI WX (by kernel_rfl) ae fun y=>by kernel_rfl
abbrev WE:Shape:=⟨[ay 0 500000 0],[ax 500000 [bn .u8,a6]],23⟩
abbrev Wp:Shape:=⟨[ay 0 500000 0,ay 2 2 0],[ax 500000 [bn .u8,a6],ax 2 [bn .pack]],23⟩
noncomputable def wI(a:WE.J):Option Wp.J:=
(gp (((),(5:Int),()),(a.2.1.1,a.2.1.2.1,()),())).bind fun b=>
(R' (((),(),(),b.1.2.1,()),(b.2.1.1,b.2.1.2.1,()),([]:List aG),((),()),(([]:List aG),()),())).bind fun c=>
 some (((),(),()),(c.2.1.1,c.2.1.2.1,()),(c.2.2.2.2.1.1,()),())
noncomputable def Kr:aD:=aH ad Tryz.f72 WE Wp [0] wI
theorem Wa:aB O 72 Kr:=aK WX Tryz.func72 (by kernel_rfl) (a8 akc ae) (fun y=>by kernel_rfl) fun a=>by kernel_rfl
noncomputable abbrev ark:a_:=[(72,Kr),(78,jr),(107,aaa),(108,V3)]
theorem aro:aR O (aX ad ark):=aV ⟨Wa,jQ,z107,an7,⟨⟩⟩
abbrev WG:Shape:=⟨[ay 0 500000 0],[ax 500000 [bn .u8,a6]],29⟩
abbrev Wr:Shape:=⟨[ay 0 500000 0,ay 2 2 0],[ax 500000 [bn .u8,a6],ax 2 [bn .pack]],29⟩
noncomputable def wJ(a:WG.J):Option Wr.J:=
(wI (((),()),(a.2.1.1,a.2.1.2.1,()),())).bind fun b=>
(f107 (((b.2.2.1.1,()),()),())).bind fun c=>
(gp (((),(12:Int),()),(b.2.1.1,b.2.1.2.1,()),())).bind fun d=>
 bif(d.1.2.1==(0:Int)) then
(Ct (((),()),(d.2.1.1,d.2.1.2.1,()),())).bind fun e=>
(b9 80 c.2.1 ([(aG.mk e.2.2.2.2.1.1 e.2.2.2.2.1.2.1 e.2.2.1 e.2.2.2.1)]:List aG)).bind fun f=>
 some (((),(),()),(e.2.1.1,e.2.1.2.1,()),(f,()),())
else
 bif(d.1.2.1==(1:Int)) then
 bif(decide ((c.2.1.length:Int)>(0:Int))) then
(bm c.2.1 (1:Int) (c.2.1.length:Int)).bind fun g=>
 some (((),(),()),(d.2.1.1,d.2.1.2.1,()),(g,()),())
else
 some (((),(),()),(d.2.1.1,d.2.1.2.1,()),(c.2.1,()),())
else
 some (((),(),()),(d.2.1.1,d.2.1.2.1,()),(c.2.1,()),())
noncomputable def Ks:aD:=aH ad Tryz.f58 WG Wr [0] wJ
theorem Wb:aB O 58 Ks:=aK aro Tryz.func58 (by kernel_rfl) ae (fun y=>by kernel_rfl) fun a=>by kernel_rfl
theorem ahA(a)(hb:fb a.1.1)(hv:jI a.1.1):f60 a=some ((jY a.1.1,()),()):=by
 obtain⟨⟨ps,u⟩,bV⟩:=a;have hl:ps.length<=2097152:=hb.1;have key:B4 ((ps,((0:Int),())),())=some (bif allI (ug ps) 0 ps then .inr ((ps,()),()) else .inl (((1:Int),()),())):=by
  refine fX qY ps (fun i=>((ps,((i:Int),())),())) _ _ _ (fun i x hx=>?_) ?_
  ·have hi:=cU hx;have hw:au i:=by unfold au;omega
   have p4:=hb.2 x (List.mem_of_getElem? hx);simp only[qY,cf hi,cond_true,A6,b5,hx,Option.bind_some];rw[vq _ p4];simp only[Option.bind_some,ug,Dl];cases cj x with
   |false=>rfl
   |true=>
    simp only[Bool.not_true,cond_false,Bool.true_and,nk];cases i with
    |zero=>simp only[beq_self_eq_true,Bool.not_true,cond_false,Option.bind_some,Bool.true_or,cond_true,bX hw]
    |succ i=>
     have h0:(i+1==0)=false:=rfl;have jB:i<ps.length:=by omega
     obtain⟨q,az⟩:∃q,ps[i]? =some q:=⟨ps[i],List.getElem?_eq_getElem jB⟩;simp only[h0,Bool.not_false,cond_true,vd (i:=i) (by unfold au;omega),b5,az,hx,Option.bind_some,Bool.false_or,Nat.add_sub_cancel]
     cases Op.bytesLess q.name x.name with
     |false=>rfl
     |true=>simp only[Bool.not_true,cond_false,cond_true,bX hw]
  ·simp only[qY,dx,cond_false]
 rw[Tq] at key;have bl:decide ((ps.length:Int)>5)=!decide (ps.length<=5):=by by_cases h:ps.length<=5<;>simp only[h,decide_true,decide_false,Bool.not_true,Bool.not_false,decide_eq_true_eq,decide_eq_false_iff_not]<;>omega
 simp only[f60,key,Option.bind_some,jY];cases dX:(ps.all cj&&kU ps) with
 |false=>rfl
 |true=>
  have hk:ps.all cj=true:=by simp only[Bool.and_eq_true] at dX;exact dX.1
  obtain⟨out,aq⟩:=Rf ((ps,()),()) hb hk;have hn:=P0 ((ps,()),()) hb hv;simp only[cond_true,Option.bind_some,aq,bl];cases decide (ps.length<=5) with
  |false=>rfl
  |true=>
   simp only[Bool.not_true,cond_false,hn,Option.bind_some];cases ps.all (fun p=>p.bi.all (iG ps))<;>cases (fy [] ps).isSome<;>rfl
theorem Rg(a)(h:jD ⟨a.1.1.1,a.1.1.2.1,a.1.1.2.2.1,a.1.1.2.2.2.1⟩):f154 a=some (((),()),(a.1.1.2.2.1,(a.1.1.2.2.2.1,((a.1.1.1,(a.1.1.2.1,((),((),())))),())))):=by
 obtain⟨⟨⟨name,aW,bi,bB,u⟩,bV⟩,nB⟩:=a;have h1:bi.length<=2097152:=h.2.2.1.1;have h2:=Gg ((bB,()),()) h.2.2.2.1;simp only[f154,di (show(40:Nat)<=100 by decide) (show au (([]:List bx).length+bi.length) by unfold au;simp;omega),List.nil_append,Option.bind_some,h2]
def C_(ps:List aG)(n:B):Nat:=(ps.takeWhile fun p=>Op.bytesLess p.name n).length
theorem Tk(ps:List aG)(n:B):C_ ps n<=ps.length:=(List.takeWhile_prefix _).length_le
def lA(ps:List aG)(p:aG):List aG:=ps.take (C_ ps p.name)++[p]++ps.drop (C_ ps p.name)
theorem PY(ps:List aG)(p:aG):(lA ps p).length=ps.length+1:=by
 have:=Tk ps p.name;unfold lA;simp only[List.length_append,List.length_take,List.length_drop,List.length_cons,List.length_nil];omega
theorem PX{ps:List aG}{p x:aG}(h:x∈lA ps p):x=p\/x∈ps:=by
 unfold lA at h;simp only[List.mem_append,List.mem_singleton] at h;rcases h with(h|h)|h
 ·exact .inr (List.mem_of_mem_take h)
 ·exact .inl h
 ·exact .inr (List.mem_of_mem_drop h)
theorem ajq{k:Nat}{ps:List aG}{p:aG}(h:oT k ps)(hp:x2 p):oT (k+1) (lA ps p):=
 ⟨by rw[PY];exact Nat.succ_le_succ h.1,fun x hx=>by
  rcases PX hx with rfl|hx
  ·exact hp
  ·exact h.2 x hx⟩
theorem aju(a)(h1:a.1.1.length<=2097151)(hp:jD ⟨a.1.2.1.1,a.1.2.1.2.1,a.1.2.1.2.2.1,a.1.2.1.2.2.2.1⟩):f175 a=some (((),()),(lA a.1.1 ⟨a.1.2.1.1,a.1.2.1.2.1,a.1.2.1.2.2.1,a.1.2.1.2.2.2.1⟩,())):=by
 obtain⟨⟨ps,⟨name,aW,bi,bB,nQ⟩,u⟩,bV⟩:=a;have h1:ps.length<=2097151:=h1;have key:∀(r:List aG) (k:Nat),ps.drop k=r->k<=ps.length->A0 ((ps,((),((),((k:Int),())))),((name,(aW,(bi,(bB,())))),(([]:List aG),())))=
   some ((ps,((),((),(((k+(r.takeWhile fun p=>Op.bytesLess p.name name).length:Nat):Int),())))),((name,(aW,(bi,(bB,())))),(([]:List aG),()))):=by
  intro r;induction r with
  |nil=>
   intro k hr hk;have:=drop_nil hr;obtain rfl:k=ps.length:=by omega
   refine cp ?_
   simp only[vR,dx,cond_false,List.takeWhile_nil,List.length_nil,Nat.add_zero]
  |cons q r ih=>
   intro k hr hk;obtain⟨c1,c2,c3⟩:=drop_cons hr;have hw:au k:=by unfold au;omega
   rw[List.takeWhile_cons];cases az:Op.bytesLess q.name name with
   |false=>
    refine cp ?_
    simp only[vR,cf c3,cond_true,b5,c1,Option.bind_some,az,cond_false];rfl
   |true=>
    have step:vR ((ps,((),((),((k:Int),())))),((name,(aW,(bi,(bB,())))),(([]:List aG),())))=some (.inl ((ps,((),((),(((k+1:Nat):Int),())))),((name,(aW,(bi,(bB,())))),(([]:List aG),())))):=by
     simp only[vR,cf c3,cond_true,b5,c1,Option.bind_some,az,bX hw]
    refine Eq.trans (dM step) (Eq.trans (ih (k+1) c2 c3) ?_);simp only[if_true,List.length_cons];have e:k+1+(r.takeWhile fun p=>Op.bytesLess p.name name).length=k+((r.takeWhile fun p=>Op.bytesLess p.name name).length+1):=by omega
    rw[e]
 have key:=key ps 0 rfl (Nat.zero_le _);rw[Nat.zero_add] at key;have hk:(ps.takeWhile fun p=>Op.bytesLess p.name name).length=C_ ps name:=rfl
 rw[hk] at key;have key:A0 ((ps,((),((),((0:Int),())))),((name,(aW,(bi,(bB,())))),(([]:List aG),())))=_:=key;have hle:=Tk ps name;have e2:=Rg (((name,(aW,(bi,(bB,())))),()),()) hp;simp only[f175,key,Option.bind_some,fY hle,fw hle,e2];rw[di (show(80:Nat)<=100 by decide) (by unfold au;simp;omega)]
 simp only[List.nil_append,Option.bind_some];rw[di (show(80:Nat)<=100 by decide) (by unfold au;simp;omega)]
 simp only[Option.bind_some];rw[di (show(80:Nat)<=100 by decide) (by unfold au;simp;omega)]
 rfl
theorem alL(a)(hb:fb a.1.2.1)(hv:jI a.1.2.1):f174 a=some (((),(jY a.1.2.1,())),(((bif jY a.1.2.1==0 then a.1.2.1 else a.1.1.1),()),())):=by
 obtain⟨⟨⟨r,nQ⟩,list,u⟩,bV⟩:=a;have e:=ahA ((list,()),()) hb hv;simp only[f174,e,Option.bind_some];have z:(jY list !=0)=!(jY list==0):=rfl;rw[z];cases hc:(jY list==0) with
 |false=>rfl
 |true=>
  have hc:jY list=0:=by simpa using hc
  simp only[Bool.not_true,cond_false,cond_true];rw[hc]
def xA(ps:List aG)(p:aG):List aG×Int:=bif cj p then(match ps.find? (fun q=>q.name==p.name) with
 |some _=>(ps,2)
 |none=>(bif jY (lA ps p)==0 then lA ps p else ps,jY (lA ps p))) else(ps,1)
theorem aoe(a)(k:Nat)(hk:k<=2000000)(h:oT k a.1.1.1)(hp:x2 ⟨a.1.2.1.1,a.1.2.1.2.1,a.1.2.1.2.2.1,a.1.2.1.2.2.2.1⟩):f124 a=some (((),((xA a.1.1.1 ⟨a.1.2.1.1,a.1.2.1.2.1,a.1.2.1.2.2.1,a.1.2.1.2.2.2.1⟩).2,())),(((xA a.1.1.1 ⟨a.1.2.1.1,a.1.2.1.2.1,a.1.2.1.2.2.1,a.1.2.1.2.2.2.1⟩).1,()),())):=by
 obtain⟨⟨⟨ps,nQ⟩,⟨name,aW,bi,bB,u1⟩,u⟩,bV⟩:=a;have h:oT k ps:=h;have hp:x2 ⟨name,aW,bi,bB⟩:=hp;have hl:ps.length<=2000000:=Nat.le_trans h.1 hk;have e1:=vq (((name,(aW,(bi,(bB,())))),()),()) hp.1;simp only[f124,e1,Option.bind_some,xA];cases cj ⟨name,aW,bi,bB⟩ with
 |false=>rfl
 |true=>
  simp only[Bool.not_true,cond_false,cond_true];rcases Rh ((ps,(name,())),()) (show ps.length<=2097152 by omega) with⟨j,q,g1,g2,g3⟩|⟨g1,g2⟩
  ·have g3:ps.find? (fun p=>p.name==name)=some q:=g3
   have hj:decide ((j:Int)>=0)=true:=by simp
   simp only[g1,Option.bind_some,hj,cond_true,g3]
  ·have g2:ps.find? (fun p=>p.name==name)=none:=g2
   have hj:decide ((-1:Int)>=0)=false:=rfl;have hw:=ajq h hp;have e2:=aju ((ps,((name,(aW,(bi,(bB,())))),())),()) (show ps.length<=2097151 by omega) hp.1
   have br:=alL (((ps,()),(lA ps ⟨name,aW,bi,bB⟩,())),()) (hw.yi (by omega)) hw.vs
   simp only[g1,Option.bind_some,hj,cond_false,g2,e2,br]
theorem ajv(a)(h:fb a.1.1.1):f107 a=some (((),()),(a.1.1.1,(((),()),()))):=by
 obtain⟨⟨⟨ps,nQ⟩,u⟩,bV⟩:=a;have hl:ps.length<=2097152:=h.1;have key:=QR (S:=List aG) Bq ps (fun i acc=>(((),((),((),((i:Int),())))),((ps,()),(([]:List aG),(((),()),(acc,(((),()),()))))))) (fun x acc=>acc++[x]) (fun acc=>(((),((),())),(([]:List aG),(((),()),(acc,(((),()),())))))) (fun i acc=>acc.length=i) [] rfl (fun i x acc hx dr=>?_) (fun acc dr=>?_)
 ·have key:IJ (((),((),((),((0:Int),())))),((ps,()),(([]:List aG),(((),()),(([]:List aG),(((),()),()))))))=_:=key;have e:∀(l acc:List aG),l.foldl (fun s x=>s++[x]) acc=acc++l:=by
   intro l;induction l with
   |nil=>intro acc;simp
   |cons x l ih=>intro acc;simp only[List.foldl_cons];rw[ih];simp
  simp only[f107,key,Option.bind_some];rw[e];rfl
 ·have hi:=cU hx;have hw:au i:=by unfold au;omega
  have e2:=Rg (((x.name,(x.aW,(x.bi,(x.bB,())))),()),()) (h.2 x (List.mem_of_getElem? hx));have ha:b9 80 acc [x]=some (acc++[x]):=di (by decide) (by unfold au;simp;omega)
  simp only[Bq,cf hi,cond_true,b5,hx,Option.bind_some,e2,ha,bX hw];exact⟨trivial,by simp[dr]⟩
 ·simp only[Bq,dx,cond_false]
abbrev h7(k:Nat)(ps:List aG):Prop:=ps.length<=k/\∀p,p∈ps->rV p
theorem h7.ok{k:Nat}{ps:List aG}(h:h7 k ps):oT k ps:=⟨h.1,fun p hp=>(h.2 p hp).ok⟩
theorem ao6{k:Nat}{ps:List aG}{p:aG}(h:h7 k ps)(hp:rV p):h7 (k+1) (xA ps p).1:=by
 have aj:h7 (k+1) ps:=⟨Nat.le_succ_of_le h.1,h.2⟩;unfold xA;cases cj p with
 |false=>exact aj
 |true=>
  simp only[cond_true];cases ps.find? (fun q=>q.name==p.name) with
  |some q=>exact aj
  |none=>
   simp only;cases jY (lA ps p)==0 with
   |false=>exact aj
   |true=>
    refine⟨by show(lA ps p).length<=k+1;rw[PY];exact Nat.succ_le_succ h.1,fun x hx=>?_⟩
    rcases PX hx with rfl|hx
    ·exact hp
    ·exact h.2 x hx
theorem P4(a)(m:Nat)(h:c8 a.2.1.1 a.2.1.2.1 m)(hm:300<=m):aa (wI a) (fun r=>c8 r.2.1.1 r.2.1.2.1 (m-300)/\h7 4 r.2.2.1.1):=by
 unfold wI;refine aa.bind (hP _ m h (by omega)) fun r1 h1=>?_
 obtain⟨⟨v1,(q:Int),v2⟩,⟨⟨(b1:List Int),(iA:Int),v3⟩,v4⟩⟩:=r1;have hn:q<5:=h1.2.2 (by show(1:Int)<=5;decide)
 have h0:0<=q:=h1.2.1;refine aa.bind (P:=fun r=>c8 r.2.1.1 r.2.1.2.1 (m-300)/\h7 4 r.2.2.2.2.1.1) ?_ fun r hr=>aa.ret hr
 refine aa.loop (fun(k:Nat) y=>k<=4/\(y.1.2.2.2.1:Int)=k/\c8 y.2.1.1 y.2.1.2.1 (m-300+55*k)/\h7 (4-k) y.2.2.2.2.1.1) (fun k y hy=>?_) q.toNat _ ⟨by omega,by show q=_;omega,h1.1.less (by omega),by show(0:Nat)<=_;omega,fun p hp=>by cases hp⟩
 obtain⟨⟨aZ,w2,cd,(i:Int),k9⟩,⟨⟨(bH:List Int),(hH:Int),rZ⟩,oV,jF,⟨(ps:List aG),oU⟩,h'⟩⟩:=y;obtain⟨cH,dJ,eQ,e3⟩:=hy;have dJ:i=k:=dJ;subst dJ;have eQ:c8 bH hH (m-300+55*k):=eQ;have e3:h7 (4-k) ps:=e3;unfold Sl;refine aa.ite (fun hc=>?_) fun hc=>aa.ret ⟨eQ.less (by omega),Nat.le_trans e3.1 (by omega),e3.2⟩
 have hc:(k:Int)>0:=of_decide_eq_true hc;have hw:IntKind.i64.wrap ((k:Int)-1)=((k-1:Nat):Int):=by rw[cT (by omega) (by omega)];omega
 refine aa.bind (lK _ _ eQ (by omega) (by simp)) fun r2 h2=>?_
 refine aa.bind (P5 _ _ h2.1 (by omega) (Jw (by rfl) h2.2)) fun dn h3=>?_
 refine aa.eq (aoe (((ps,()),((dn.2.2.2.2.1.1,(dn.2.2.2.2.1.2.1,(dn.2.2.1,(dn.2.2.2.1,())))),())),()) (4-k) (by omega) e3.ok h3.2.1.ok) ?_
 refine aa.ret ⟨k-1,by omega,by omega,hw,h3.1.less (by omega),?_⟩
 have:=ao6 e3 h3.2.1;exact⟨Nat.le_trans this.1 (by omega),this.2⟩
theorem aeU(a)(m:Nat)(h:c8 a.2.1.1 a.2.1.2.1 m)(hm:500<=m):aa (wJ a) (fun r=>c8 r.2.1.1 r.2.1.2.1 (m-500)/\h7 5 r.2.2.1.1):=by
 unfold wJ;refine aa.bind (P4 _ m h (by omega)) fun r1 h1=>?_
 obtain⟨nQ,⟨u1,⟨(ps:List aG),u2⟩,uO⟩⟩:=r1;have hr:h7 4 ps:=h1.2;have mG:=hr.1;refine aa.eq (ajv (((ps,()),()),()) (hr.ok.yi (by decide))) ?_
 refine aa.bind (hP _ _ h1.1 (by omega)) fun r2 h2=>?_
 have c':h7 5 ps:=⟨Nat.le_succ_of_le hr.1,hr.2⟩;refine aa.ite (fun _=>?_) fun _=>aa.ite (fun _=>?_) fun _=>aa.ret ⟨h2.1.less (by omega),c'⟩
 ·refine aa.bind (aeW _ _ h2.1 (by omega)) fun dn h3=>?_
  refine aa.eq (di (xs:=ps) (by decide) (by unfold au;simp;omega)) ?_
  refine aa.ret ⟨h3.1.less (by omega),by show(ps++[_]).length<=5;simp;omega,fun e he=>?_⟩
  have he:e∈ps++[_]:=he;rcases List.mem_append.1 he with he|he
  ·exact hr.2 e he
  ·rw[List.mem_singleton.1 he];exact h3.2
 ·refine aa.ite (fun hc=>?_) fun _=>aa.ret ⟨h2.1.less (by omega),c'⟩
  have hc:(ps.length:Int)>0:=of_decide_eq_true hc;refine aa.eq (fw (xs:=ps) (a:=1) (by omega)) ?_
  exact aa.ret ⟨h2.1.less (by omega),by show(ps.drop 1).length<=5;rw[List.length_drop];omega,fun e he=>hr.2 e (List.mem_of_mem_drop he)⟩
def tW(t:List aw)(p:B):Option aw:=match t[bM t p]? with
 |some e=>bif e.path==p then some e else none
 |none=>none
theorem anm{t:List aw}{p:B}{e:aw}(h:tW t p=some e):t[bM t p]? =some e/\e.path=p:=by
 unfold tW at h;cases aq:t[bM t p]? with
 |none=>rw[aq] at h;cases h
 |some x=>
  rw[aq] at h;cases hx:(x.path==p) with
  |false=>simp[hx] at h
  |true=>simp only[hx,cond_true,Option.some.injEq] at h;subst h;exact⟨rfl,eq_of_beq hx⟩
theorem aoW{t:List aw}(ha:fJ t){k:Nat}{e:aw}(h:t[k]? =some e):bM t e.path=k:=by
 have h1:=kF (p:=e.path) ha k e h;have h2:Op.bytesLess e.path e.path=false:=wm _;rw[h1] at h2;have h2:¬k<bM t e.path:=of_decide_eq_false h2;rcases Nat.lt_or_ge (bM t e.path) k with h3|h3
 ·exfalso
  have aA:bM t e.path<t.length:=Nat.lt_trans h3 (cU h);have bl:=List.getElem?_eq_getElem aA;have ca:=kF (p:=e.path) ha (bM t e.path) t[bM t e.path] bl;have ic:Op.bytesLess (t[bM t e.path]).path e.path=true:=by
   have hp:=List.pairwise_iff_getElem.1 ha (bM t e.path) k aA (cU h) h3;have:t[k]'(cU h)=e:=by
    have:=List.getElem?_eq_getElem (cU h);rw[h] at this;exact(Option.some.inj this).symm
   rw[this] at hp;exact hp
  rw[ic] at ca;have:=of_decide_eq_true ca.symm;omega
 ·omega
theorem Sk{t:List aw}(ha:fJ t){p:B}{e:aw}:tW t p=some e <-> e∈t/\e.path=p:=by
 constructor
 ·intro h;obtain⟨h1,h2⟩:=anm h;exact⟨List.mem_of_getElem? h1,h2⟩
 ·rintro⟨h1,rfl⟩;obtain⟨k,hk⟩:=List.mem_iff_getElem?.1 h1;have:=aoW ha hk;unfold tW;rw[this,hk];simp
theorem apm{a b:aw}(h:kA a b=true):a=b:=by
 unfold kA at h;simp only[Bool.and_eq_true,beq_iff_eq] at h;obtain⟨h1,h2,h3,aA⟩:=h;cases a;cases b;simp only at h1 h2 h3 aA;subst h1 h2 h3 aA;rfl
theorem Sd{t:List aw}{k:Nat}{e x:aw}:x∈jV t k e <-> x=e\/x∈t:=by
 constructor
 ·exact F4
 ·unfold jV;intro h;rcases h with rfl|h
  ·simp
  ·have:x∈t.take k++t.drop k:=by rw[List.take_append_drop];exact h
   simp only[List.mem_append,List.mem_singleton] at this ⊢;rcases this with h|h
   ·exact .inl (.inl h)
   ·exact .inr h
theorem ajW{out D:List aw}{e:aw}(h:hT out e=some D)(x:aw):x∈D <-> x=e\/x∈out:=by
 unfold hT at h;split at h
 ·rename_i q az;cases hp:(q.path==e.path) with
  |true=>
   rw[hp] at h;cases hc:mx e q with
   |true=>rw[hc] at h;cases h
   |false=>
    rw[hc] at h;cases h;have:kA e q=true:=by
     unfold mx at hc;simp only[Bool.or_eq_false_iff,Bool.not_eq_false'] at hc;exact hc.2
    have:=apm this;subst this;constructor
    ·exact .inr
    ·rintro(rfl|h)
     ·exact List.mem_of_getElem? az
     ·exact h
  |false=>rw[hp] at h;cases h;exact Sd
 ·cases h;exact Sd
theorem ak2:∀{es out D:List aw},gI out es=some D->∀x,x∈D <-> x∈out\/x∈es:=by
 intro es;induction es with
 |nil=>intro out D h x;simp only[gI,Option.some.injEq] at h;subst h;simp
 |cons e r ih=>
  intro out D h x;rw[u9] at h;obtain⟨o1,h1,h2⟩:=Option.bind_eq_some_iff.1 h;rw[ih h2,ajW h1,List.mem_cons];constructor
  ·rintro((h|h)|h)
   ·exact .inr (.inl h)
   ·exact .inl h
   ·exact .inr (.inr h)
  ·rintro(h|h|h)
   ·exact .inl (.inr h)
   ·exact .inl (.inl h)
   ·exact .inr h
theorem ahW:∀{ps:List aG} {out t:List aw},fy out ps=some t->∀x,x∈t <-> x∈out\/∃p,p∈ps/\x∈p.bB:=by
 intro ps;induction ps with
 |nil=>intro out t h x;simp only[fy,Option.some.injEq] at h;subst h;simp
 |cons p r ih=>
  intro out t h x;rw[yv] at h;obtain⟨D,h1,h2⟩:=Option.bind_eq_some_iff.1 h;rw[ih h2,ak2 (zo h1).2];constructor
  ·rintro((h|h)|⟨q,h,aj⟩)
   ·exact .inl h
   ·exact .inr ⟨p,List.mem_cons_self,h⟩
   ·exact .inr ⟨q,List.mem_cons_of_mem _ h,aj⟩
  ·rintro(h|⟨q,h,aj⟩)
   ·exact .inl (.inl h)
   ·rcases List.mem_cons.1 h with rfl|h
    ·exact .inl (.inr aj)
    ·exact .inr ⟨q,h,aj⟩
theorem ahV:∀{ps:List aG} {out t:List aw},dC out=true->fy out ps=some t->dC t=true:=by
 intro ps;induction ps with
 |nil=>intro out t aM h;simp only[fy,Option.some.injEq] at h;subst h;exact aM
 |cons p r ih=>
  intro out t aM h;rw[yv] at h;obtain⟨D,h1,h2⟩:=Option.bind_eq_some_iff.1 h;exact ih (zo h1).1 h2
structure yp(ps:List aG)(t:List aw):Prop where
 bB:fy [] ps=some t
 aqF:ps.all cj=true
 aCs:ps.Pairwise fun p q=>Op.bytesLess p.name q.name=true
section
variable {ps:List aG}{t:List aw}(R:yp ps t)
include R
theorem yp.ok:dC t=true:=ahV (by rfl) R.bB
theorem yp.aAF{p:aG}(h:p∈ps):iD p.name=true/\dC p.bB=true:=by
 have:=List.all_eq_true.1 R.aqF p h;unfold cj at this;simp only[Bool.and_eq_true] at this;exact⟨this.1.1.1,this.2⟩
theorem yp.aAA{p:aG}(h:p∈ps):fJ p.bB:=E_ (R.aAF h).2
theorem yp.up{p:aG}(h:p∈ps){path:B}{e:aw}(he:tW p.bB path=some e):tW t path=some e:=by
 obtain⟨aE,aF⟩:=(Sk (R.aAA h)).1 he;exact(Sk (E_ R.ok)).2 ⟨(ahW R.bB e).2 (.inr ⟨p,h,aE⟩),aF⟩
end
abbrev AA:Shape:=⟨[aL 0 .entry,aL 1 .entry,ag 5],[],26⟩
abbrev HP:List aP:=[(.ret,⟨[ap 4],[],26⟩),(.exit 0,⟨[],[],26⟩)]
noncomputable def Be(y:AA.J):bG AA HP:=
 bif(decide (y.1.2.2.1<(y.1.1.length:Int))) then
(aO y.1.1 y.1.2.2.1).bind fun a=>
(aO y.1.2.1 y.1.2.2.1).bind fun b=>
 bif(!((a.path==b.path)&&((a.kind==b.kind)&&((a.mode==b.mode)&&(a.text==b.text))))) then
 some (.inr (.inl ((false,()),())))
else
 some (.inl ((y.1.1,y.1.2.1,(IntKind.i64.wrap (y.1.2.2.1+(1:Int))),()),()))
else
 some (.inr (.inr ((),())))
noncomputable def Ix:AA.J->Option (aC HP):=bu Be
theorem amC:aT O (an (codeOf Tryz.f163) 1 58) (aU AA HP Ix):=bI g0 (by kernel_rfl) ae fun y=>by kernel_rfl
abbrev i163:Shape:=⟨[aL 0 .entry,aL 1 .entry],[],26⟩
abbrev Yu:Shape:=⟨[ap 4],[],26⟩
noncomputable def f163(a:i163.J):Option Yu.J:=
 bif((a.1.1.length:Int) !=(a.1.2.1.length:Int)) then
 some ((false,()),())
else
(Ix ((a.1.1,a.1.2.1,(0:Int),()),())).bind fun b=>
(match b with
|.inl c=>
 some ((c.1.1,()),())
|.inr d=>
 some ((true,()),()))
noncomputable def _F:aD:=aH ad Tryz.f163 i163 Yu [] f163
theorem asg:aB O 163 _F:=aK g0 Tryz.func163 (by kernel_rfl) (a8 amC ae) (fun y=>by kernel_rfl) fun a=>by kernel_rfl
theorem aqm{t:bf}{xs:List (den t)}(h:k7 (.sl t xs)):xs.length<=maxLen/\∀x,x∈xs->∀d,d∈enc t x->k7 d:=by cases h;exact⟨by assumption,by assumption⟩
theorem ajr{xs:List Int}(h:k7 (.sl .u8 xs)):∀x,x∈xs->0<=x/\x<=255:=by
 intro x hx;have:=(aqm h).2 x hx (.int .u8 x) (by simp[enc])
 cases this with
 |int k n hw=>
  simp only[Lit.wf,Bool.and_eq_true,decide_eq_true_eq] at hw;have h1:(0:Int)<=x:=hw.1;have h2:x<=(255:Int):=hw.2;exact⟨h1,h2⟩
theorem alU{code:List Int}(h:∀x,x∈code->0<=x/\x<=255):c8 (code.take 2000) 0 1000000:=
 ⟨by rw[List.length_take];omega,fun x hx=>h x (List.mem_of_mem_take hx),Int.le_refl _,by decide⟩
theorem Fs{aJ:Type}:∀(xs:List aJ) (i:Nat),allI (fun _ _=>true) i xs=true:=by
 intro xs;induction xs with
 |nil=>intro i;rfl
 |cons x r ih=>intro i;simp only[allI,ih,Bool.and_self]
theorem ajG(a)(h:a.1.1=a.1.2.1)(hl:ci a.1.1.length):f163 a=some ((true,()),()):=by
 obtain⟨⟨xs,bj,u⟩,bV⟩:=a;have h:xs=bj:=h;subst h;have hs:xs.length<=2097152:=hl;have key:Ix ((xs,(xs,((0:Int),()))),())=some (bif allI (fun _ _=>true) 0 xs then .inr ((),()) else .inl ((false,()),())):=by
  refine fX Be xs (fun i=>((xs,(xs,((i:Int),()))),())) _ _ _ (fun i x hx=>?_) ?_
  ·have hi:=cU hx;have hw:au i:=by unfold au;omega
   simp only[Be,cf hi,cond_true,b5,hx,Option.bind_some,beq_self_eq_true,Bool.and_self,Bool.not_true,cond_false,bX hw]
  ·simp only[Be,dx,cond_false]
 rw[Fs] at key;have hb:((xs.length:Int) !=(xs.length:Int))=false:=by simp
 simp only[f163,hb,cond_false,key,cond_true,Option.bind_some]
abbrev AB:Shape:=⟨[aL 0 .need,aL 1 .need,ag 5],[],26⟩
abbrev HQ:List aP:=[(.ret,⟨[ap 4],[],26⟩),(.exit 0,⟨[],[],26⟩)]
noncomputable def Bf(y:AB.J):bG AB HQ:=
 bif(decide (y.1.2.2.1<(y.1.1.length:Int))) then
(aO y.1.1 y.1.2.2.1).bind fun a=>
(aO y.1.2.1 y.1.2.2.1).bind fun b=>
 bif(!((a.name==b.name)&&((a.kind==b.kind)&&(a.aW==b.aW)))) then
 some (.inr (.inl ((false,()),())))
else
 some (.inl ((y.1.1,y.1.2.1,(IntKind.i64.wrap (y.1.2.2.1+(1:Int))),()),()))
else
 some (.inr (.inr ((),())))
noncomputable def Iy:AB.J->Option (aC HQ):=bu Bf
theorem amD:aT O (an (codeOf Tryz.f162) 1 58) (aU AB HQ Iy):=bI g0 (by kernel_rfl) ae fun y=>by kernel_rfl
abbrev i162:Shape:=⟨[aL 0 .need,aL 1 .need],[],26⟩
abbrev Yv:Shape:=⟨[ap 4],[],26⟩
noncomputable def f162(a:i162.J):Option Yv.J:=
 bif((a.1.1.length:Int) !=(a.1.2.1.length:Int)) then
 some ((false,()),())
else
(Iy ((a.1.1,a.1.2.1,(0:Int),()),())).bind fun b=>
(match b with
|.inl c=>
 some ((c.1.1,()),())
|.inr d=>
 some ((true,()),()))
noncomputable def _G:aD:=aH ad Tryz.f162 i162 Yv [] f162
theorem z162:aB O 162 _G:=aK g0 Tryz.func162 (by kernel_rfl) (a8 amD ae) (fun y=>by kernel_rfl) fun a=>by kernel_rfl
noncomputable abbrev avi:a_:=[(162,_G),(163,_F)]
theorem avZ:aR O (aX ad avi):=aV ⟨z162,asg,⟨⟩⟩
abbrev i111:Shape:=⟨[b_ 0 [ah,ah,bn .need,bn .entry],b_ 1 [ah,ah,bn .need,bn .entry]],[],31⟩
abbrev Y6:Shape:=⟨[ap 4],[],31⟩
noncomputable def f111(a:i111.J):Option Y6.J:=
 bif(a.1.1.1==a.1.2.1.1) then
 bif(a.1.1.2.1==a.1.2.1.2.1) then
(f162 ((a.1.1.2.2.1,a.1.2.1.2.2.1,()),())).bind fun b=>
 bif b.1.1 then
(f163 ((a.1.1.2.2.2.1,a.1.2.1.2.2.2.1,()),())).bind fun c=>
 some ((c.1.1,()),())
else
 some ((false,()),())
else
 some ((false,()),())
else
 some ((false,()),())
noncomputable def _8:aD:=aH ad Tryz.f111 i111 Y6 [] f111
theorem asx:aB O 111 _8:=aK avZ Tryz.func111 (by kernel_rfl) ae (fun y=>by kernel_rfl) fun a=>by kernel_rfl
noncomputable abbrev azt:a_:=[(111,_8)]
theorem adh:aR O (aX ad azt):=aV ⟨asx,⟨⟩⟩
abbrev BT:Shape:=⟨[aL 0 .pack,aL 1 .pack,ag 5],[],27⟩
abbrev Jl:List aP:=[(.ret,⟨[ap 4],[],27⟩),(.exit 0,⟨[],[],27⟩)]
noncomputable def Ci(y:BT.J):bG BT Jl:=
 bif(decide (y.1.2.2.1<(y.1.1.length:Int))) then
(aO y.1.1 y.1.2.2.1).bind fun a=>
(aO y.1.2.1 y.1.2.2.1).bind fun b=>
(f111 (((a.name,a.aW,a.bi,a.bB,()),(b.name,b.aW,b.bi,b.bB,()),()),())).bind fun c=>
 bif(!c.1.1) then
 some (.inr (.inl ((false,()),())))
else
 some (.inl ((y.1.1,y.1.2.1,(IntKind.i64.wrap (y.1.2.2.1+(1:Int))),()),()))
else
 some (.inr (.inr ((),())))
noncomputable def JJ:BT.J->Option (aC Jl):=bu Ci
theorem aoH:aT O (an (codeOf Tryz.f62) 1 58) (aU BT Jl JJ):=bI adh (by kernel_rfl) ae fun y=>by kernel_rfl
abbrev i62:Shape:=⟨[aL 0 .pack,aL 1 .pack],[],27⟩
abbrev abj:Shape:=⟨[ap 4],[],27⟩
noncomputable def f62(a:i62.J):Option abj.J:=
 bif((a.1.1.length:Int) !=(a.1.2.1.length:Int)) then
 some ((false,()),())
else
(JJ ((a.1.1,a.1.2.1,(0:Int),()),())).bind fun b=>
(match b with
|.inl c=>
 some ((c.1.1,()),())
|.inr d=>
 some ((true,()),()))
noncomputable def acR:aD:=aH ad Tryz.f62 i62 abj [] f62
theorem awe:aB O 62 acR:=aK adh Tryz.func62 (by kernel_rfl) (a8 aoH ae) (fun y=>by kernel_rfl) fun a=>by kernel_rfl
noncomputable abbrev azK:a_:=[(62,acR)]
theorem aAa:aR O (aX ad azK):=aV ⟨awe,⟨⟩⟩
abbrev i32:Shape:=⟨[b_ 0 [bn .pack],b_ 1 [bn .pack]],[],10⟩
abbrev abA:Shape:=⟨[ap 4],[],10⟩
noncomputable def f32(a:i32.J):Option abA.J:=
(f62 ((a.1.1.1,a.1.2.1.1,()),())).bind fun b=>
 some ((b.1.1,()),())
noncomputable def Nn:aD:=aH ad Tryz.f32 i32 abA [] f32
theorem aaO:aB O 32 Nn:=aK aAa Tryz.func32 (by kernel_rfl) ae (fun y=>by kernel_rfl) fun a=>by kernel_rfl
theorem ahJ(a)(h:a.1.1=a.1.2.1)(hl:ci a.1.1.length):f162 a=some ((true,()),()):=by
 obtain⟨⟨xs,bj,u⟩,bV⟩:=a;have h:xs=bj:=h;subst h;have hs:xs.length<=2097152:=hl;have key:Iy ((xs,(xs,((0:Int),()))),())=some (bif allI (fun _ _=>true) 0 xs then .inr ((),()) else .inl ((false,()),())):=by
  refine fX Bf xs (fun i=>((xs,(xs,((i:Int),()))),())) _ _ _ (fun i x hx=>?_) ?_
  ·have hi:=cU hx;have hw:au i:=by unfold au;omega
   simp only[Bf,cf hi,cond_true,b5,hx,Option.bind_some,beq_self_eq_true,Bool.and_self,Bool.not_true,cond_false,bX hw]
  ·simp only[Bf,dx,cond_false]
 rw[Fs] at key;have hb:((xs.length:Int) !=(xs.length:Int))=false:=by simp
 simp only[f162,hb,cond_false,key,cond_true,Option.bind_some]
theorem Rm(a)(h:a.1.1.1=a.1.2.1.1)(hl:fb a.1.1.1):f32 a=some ((true,()),()):=by
 obtain⟨⟨⟨xs,nQ⟩,⟨bj,u1⟩,u⟩,bV⟩:=a;have h:xs=bj:=h;subst h;have hs:xs.length<=2097152:=hl.1;have key:JJ ((xs,(xs,((0:Int),()))),())=some (bif allI (fun _ _=>true) 0 xs then .inr ((),()) else .inl ((false,()),())):=by
  refine fX Ci xs (fun i=>((xs,(xs,((i:Int),()))),())) _ _ _ (fun i x hx=>?_) ?_
  ·have hi:=cU hx;have hw:au i:=by unfold au;omega
   have p4:=hl.2 x (List.mem_of_getElem? hx);have e1:=ahJ ((x.bi,(x.bi,())),()) rfl p4.2.2.1.1;have e2:=ajG ((x.bB,(x.bB,())),()) rfl p4.2.2.2.1;simp only[Ci,cf hi,cond_true,b5,hx,Option.bind_some,f111,beq_self_eq_true,e1,e2,Bool.not_true,cond_false,bX hw]
  ·simp only[Ci,dx,cond_false]
 rw[Fs] at key;have hb:((xs.length:Int) !=(xs.length:Int))=false:=by simp
 simp only[f32,f62,hb,cond_false,key,cond_true,Option.bind_some]
noncomputable abbrev azP:a_:=[(58,Ks)]
theorem aAe:aR O (aX ad azP):=aV ⟨Wb,⟨⟩⟩
abbrev i26:Shape:=⟨[aL 0 .u8],[],6⟩
abbrev abF:Shape:=⟨[ay 2 2 0],[ax 2 [bn .pack]],6⟩
noncomputable def f26(a:i26.J):Option abF.J:=
(wJ (((),()),((a.1.1.take 2000),(0:Int),()),())).bind fun b=>
 some (((),()),(b.2.2.1.1,()),())
noncomputable def ac2:aD:=aH ad Tryz.f26 i26 abF [] f26
theorem awm:aB O 26 ac2:=aK aAe Tryz.func26 (by kernel_rfl) ae (fun y=>by kernel_rfl) fun a=>by kernel_rfl
abbrev i28:Shape:=⟨[b_ 0 [ah,ah],b_ 1 [ah,ah]],[],17⟩
abbrev abD:Shape:=⟨[ap 4],[],17⟩
noncomputable def f28(a:i28.J):Option abD.J:=
 bif(a.1.1.1==a.1.2.1.1) then
 some (((a.1.1.2.1==a.1.2.1.2.1),()),())
else
 some ((false,()),())
noncomputable def Nq:aD:=aH ad Tryz.f28 i28 abD [] f28
theorem z28:aB O 28 Nq:=aK g0 Tryz.func28 (by kernel_rfl) ae (fun y=>by kernel_rfl) fun a=>by kernel_rfl
noncomputable abbrev azu:a_:=[(66,Nh)]
theorem adi:aR O (aX ad azu):=aV ⟨aaJ,⟨⟩⟩
abbrev UC:Shape:=⟨[ak 4,ak 5,ap 6],[],20⟩
abbrev Up:List aP:=[(.norm,⟨[ak 4,ap 18],[],20⟩)]
noncomputable def Cj(y:UC.J):Option (aC Up):=
 bif(!(!y.1.2.2.1)) then
 some ((y.1.1,(!(y.1.2.1==([101,110,100,10]:B))),()),())
else
 some ((y.1.1,true,()),())
theorem aoI:aT O (an (codeOf Tryz.f61) 1 28) (aU UC Up Cj):=ce adi (by kernel_rfl) ae fun y=>by kernel_rfl
abbrev i61:Shape:=⟨[ak 0],[],20⟩
abbrev abk:Shape:=⟨[ak 2,ap 3],[],20⟩
noncomputable def f61(a:i61.J):Option abk.J:=
(f66 ((a.1.1,()),())).bind fun b=>
(Cj ((b.1.1,b.1.2.1,b.1.2.2.1,()),())).bind fun c=>
 bif c.1.2.1 then
 some ((([]:B),false,()),())
else
 some ((c.1.1,true,()),())
noncomputable def acS:aD:=aH ad Tryz.f61 i61 abk [] f61
theorem awf:aB O 61 acS:=aK adi Tryz.func61 (by kernel_rfl) (a8 aoI ae) (fun y=>by kernel_rfl) fun a=>by kernel_rfl
noncomputable abbrev azL:a_:=[(27,En),(35,Nk),(61,acS)]
theorem ado:aR O (aX ad azL):=aV ⟨L0,aaM,awf,⟨⟩⟩
abbrev UE:Shape:=⟨[ay 1 1 0,ay 2 2 0,ay 3 3 0,ap 4,ak 5,ap 6],[ax 1 [ah,ah],bp 5000128 .pack 2 0,ax 2 [.own 5000128],ax 3 [ah,ah]],31⟩
abbrev Ur:List aP:=[(.norm,⟨[ay 2 2 0,ay 3 3 0,ap 4,ak 5],[bp 5000128 .pack 2 0,ax 2 [.own 5000128],ax 3 [ah,ah]],31⟩)]
noncomputable def JS(y:UE.J):Option (aC Ur):=
 bif(!y.1.2.2.2.2.2.1) then
 some (((),(),y.1.2.2.2.1,y.2.1.1,()),y.2.2.1,((),()),(y.2.2.2.2.1.1,y.2.2.2.2.1.2.1,()),())
else
 some (((),(),y.1.2.2.2.1,y.1.2.2.2.2.1,()),y.2.2.1,((),()),(y.2.2.2.2.1.1,y.2.2.2.2.1.2.1,()),())
theorem aoQ:aT O (an (codeOf Tryz.f31) 1 14) (aU UE Ur JS):=ce ado (by kernel_rfl) ae fun y=>by kernel_rfl
abbrev i31:Shape:=⟨[b_ 0 [ah,ah]],[],31⟩
abbrev xv:Shape:=⟨[ay 2 2 0,ay 3 3 0,ap 4],[bp 5000128 .pack 2 0,ax 2 [.own 5000128],ax 3 [ah,ah]],31⟩
noncomputable def f31(a:i31.J):Option xv.J:=
(f61 ((a.1.1.2.1,()),())).bind fun b=>
(JS (((),(),(),false,b.1.1,b.1.2.1,()),(a.1.1.1,a.1.1.2.1,()),([]:List aG),((),()),(([]:B),([]:B),()),())).bind fun c=>
(f35 ((c.1.2.2.2.1,()),())).bind fun d=>
 bif(!d.1.2.1) then
 some (((),(),false,()),([]:List aG),((),()),(([]:B),([]:B),()),())
else
(f27 (((d.2.1,()),()),())).bind fun e=>
 some (((),(),true,()),d.2.1,((),()),(e.2.1.1,e.2.1.2.1,()),())
noncomputable def No:aD:=aH ad Tryz.f31 i31 xv [] f31
theorem z31:aB O 31 No:=aK ado Tryz.func31 (by kernel_rfl) (a8 aoQ ae) (fun y=>by kernel_rfl) fun a=>by kernel_rfl
noncomputable abbrev aA4:a_:=[(14,rW),(26,ac2),(27,En),(28,Nq),(29,Np),(30,uH),(31,No),(32,Nn)]
theorem EI:aR O (aX ad aA4):=aV ⟨DG,awm,L0,z28,aaP,xk,z31,aaO,⟨⟩⟩
abbrev UA:Shape:=⟨[ap 2,ay 3 3 0,ay 4 4 0],[ax 3 [bn .pack],ax 4 [ah,ah]],53⟩
abbrev Un:List aP:=[(.norm,⟨[ap 2,ay 3 3 0,ay 4 4 0,ap 24],[ax 3 [bn .pack],ax 4 [ah,ah]],53⟩)]
noncomputable def VH(y:UA.J):Option (aC Un):=
(f29 (((y.2.1.1,()),()),())).bind fun a=>
(f28 (((y.2.2.1.1,y.2.2.1.2.1,()),(a.2.1.1,a.2.1.2.1,()),()),())).bind fun b=>
 bif(!b.1.1) then
 some ((y.1.1,(),(),true,()),(y.2.1.1,()),(y.2.2.1.1,y.2.2.1.2.1,()),())
else
(f30 (((y.2.1.1,()),()),())).bind fun c=>
 some ((y.1.1,(),(),(!c.1.1),()),(y.2.1.1,()),(y.2.2.1.1,y.2.2.1.2.1,()),())
theorem aoE:aT O (an (codeOf Tryz.f6) 1 124) (aU UA Un VH):=ce EI (by kernel_rfl) ae fun y=>by kernel_rfl
abbrev i6:Shape:=⟨[aL 0 .u8],[],53⟩
abbrev sa:Shape:=⟨[ap 2],[],53⟩
noncomputable def f6(a:i6.J):Option sa.J:=
 bif(decide ((a.1.1.length:Int)>(1048576:Int))) then
 some ((true,()),())
else
(f26 ((a.1.1,()),())).bind fun b=>
(f27 (((b.2.1.1,()),()),())).bind fun c=>
(VH ((false,(),(),()),(b.2.1.1,()),(c.2.1.1,c.2.1.2.1,()),())).bind fun d=>
 bif d.1.2.2.2.1 then
(f29 (((d.2.1.1,()),()),())).bind fun e=>
(f28 (((d.2.2.1.1,d.2.2.1.2.1,()),(e.2.1.1,e.2.1.2.1,()),()),())).bind fun f=>
 some ((f.1.1,()),())
else
(f31 (((d.2.2.1.1,d.2.2.1.2.1,()),()),())).bind fun g=>
(f14 (((d.2.2.1.1,d.2.2.1.2.1,()),()),())).bind fun h=>
 bif(h.1.1==g.1.2.2.1) then
 bif(!(!g.1.2.2.1)) then
(f32 (((g.2.1,()),(d.2.1.1,()),()),())).bind fun i=>
 bif i.1.1 then
(f28 (((g.2.2.2.1.1,g.2.2.2.1.2.1,()),(d.2.2.1.1,d.2.2.1.2.1,()),()),())).bind fun j=>
 some ((j.1.1,()),())
else
 some ((false,()),())
else
 some ((true,()),())
else
 some ((false,()),())
noncomputable def N7:aD:=aH ad Tryz.f6 i6 sa [] f6
theorem NB:aB O 6 N7:=aK EI Tryz.func6 (by kernel_rfl) (a8 aoE ae) (fun y=>by kernel_rfl) fun a=>by kernel_rfl
def gG(s:B):Option B:=match iS s with|some (x,y)=>bif y==gd then some x else none|none=>none
theorem ahx(s:B)(hs:au s.length):f61 ((s,()),())=some ((((gG s).getD [],((gG s).isSome,()))),()):=by
 have e1:=EY s hs;unfold gG;cases hz:iS s with
 |none=>
  rw[hz] at e1;simp only[f61,e1,Option.bind_some,Cj,Option.isSome_none,Bool.not_false,Bool.not_true,cond_false,cond_true];rfl
 |some q=>
  obtain⟨x,y⟩:=q;rw[hz] at e1;have hw:(y==([101,110,100,10]:B))=(y==gd):=rfl;simp only[f61,e1,Option.bind_some,Cj,Option.isSome_some,Option.getD_some,Bool.not_true,Bool.not_false,cond_true,hw];cases y==gd<;>rfl
abbrev aAZ(ps:List aG)(d:B):xv.J:=(((),((),(true,()))),(ps,(((),()),((d,(([]:B),())),()))))
abbrev ac6:xv.J:=(((),((),(false,()))),(([]:List aG),(((),()),((([]:B),(([]:B),())),()))))
def Nu(D:Option (List aG))(d:B):xv.J:=match D with|some ps=>aAZ ps d|none=>ac6
theorem aic{s x y:B}(h:iS s=some (x,y)):x.length<=s.length:=by
 have:=(yI h).1;rw[this];unfold cG;simp;omega
theorem aig{s x:B}(h:gG s=some x):x.length<=s.length:=by
 unfold gG at h;cases hz:iS s with
 |none=>rw[hz] at h;cases h
 |some q=>
  obtain⟨a,b⟩:=q;rw[hz] at h;have h:(bif b==gd then some a else none)=some x:=h
  cases hb:b==gd with
  |false=>rw[hb] at h;cases h
  |true=>rw[hb] at h;cases h;exact aic hz
theorem OQ(d t:B)(Z:d.length<=1000000000)(aq:t.length<=1000000000):∃D:Option (List aG),f31 (((d,(t,())),()),())=some (Nu D ((gG t).getD d))/\ly D (mC ((gG t).getD d)):=by
 have e1:=ahx t (by unfold au;omega)
 have hl:((gG t).getD d).length<=1000000000:=by
  cases h:gG t with
  |none=>exact Z
  |some x=>have:=aig h;show x.length<=_;omega
 obtain⟨D,e2,h2⟩:=Pq ((gG t).getD d) hl;have fin:∀x:B,x=(gG t).getD d->((f35 ((x,()),())).bind fun Kc=>
   bif(!Kc.1.2.1) then some ac6 else(f27 (((Kc.2.1,()),()),())).bind fun Wj=>some (((),((),(true,()))),(Kc.2.1,(((),()),((Wj.2.1.1,(Wj.2.1.2.1,())),())))))=some (Nu D ((gG t).getD d)):=by
  intro x hx;subst hx;rw[e2];cases D with
  |none=>rfl
  |some ps=>
   obtain⟨h3,aA,bl⟩:=(h2 ps).1 rfl;obtain⟨hb,hv⟩:=sT bl (by have:=(kb h3).2;omega)
   have br:=Pr ps hb hv;rw[h3,aA] at br;have br:f27 (((ps,()),()),())=some (((),()),(((gG t).getD d,(([]:B),())),())):=br;show(f27 (((ps,()),()),())).bind _=_;rw[br];rfl
 refine⟨D,?_,h2⟩;simp only[f31,e1,Option.bind_some,JS];cases h:gG t with
 |none=>
  rw[h] at fin;simp only[Option.isSome_none,Bool.not_false,cond_true,Option.bind_some];exact fin d rfl
 |some x=>
  rw[h] at fin;simp only[Option.isSome_some,Bool.not_true,cond_false,Option.bind_some];exact fin x rfl
theorem agU:∀{ps qs:List aG},(∀p,p∈ps->(bw p).length<1000000000)->(∀q,q∈qs->(bw q).length<=4000)->b8 ps=b8 qs->∀p,p∈ps->(bw p).length<=4000:=by
 intro ps;induction ps with
 |nil=>intro qs _ _ _ p hp;cases hp
 |cons p ps ih=>
  intro qs h1 h2 he x hx;have fg:=y9 (bw p) (b8 ps) (h1 p List.mem_cons_self);rw[<-vg,he] at fg;cases qs with
  |nil=>cases fg
  |cons q qs=>
   have az:=h2 q List.mem_cons_self;have z2:=y9 (bw q) (b8 qs) (by omega)
   rw[<-vg,fg] at z2;simp only[Option.some.injEq,Prod.mk.injEq] at z2;rcases List.mem_cons.1 hx with rfl|hx
   ·rw[z2.1];exact az
   ·exact ih (fun p hp=>h1 p (List.mem_cons_of_mem _ hp)) (fun q az=>h2 q (List.mem_cons_of_mem _ az)) z2.2 x hx
theorem aj4{ps qs:List aG}{D:Option (List aG)}(hb:fb ps)(hr:ej ps=true)(h:ly D (mC (b8 ps)))(az:D=some qs):qs=ps:=by
 obtain⟨h1,h2,h3⟩:=(h qs).1 az;have hk:=(kb hr).1;have hs:=agU (ps:=ps) (qs:=qs) (fun p hp=>by have:=zK (hb.2 p hp) (hk p hp);omega) (fun q az=>(h3 q az).2) h2.symm
 have:=(h ps).2 ⟨hr,rfl,fun p hp=>⟨hk p hp,hs p hp⟩⟩
 rw[az] at this;exact Option.some.inj this
theorem Gi(s t:B):f28 (((s,(t,())),((s,(t,())),())),())=some ((true,()),()):=by
 simp only[f28,beq_self_eq_true,cond_true]
theorem akW{e:aw}(h:nU e)(he:k8 e):(dY e).length<=500:=by
 have h1:=A2 h;have aA:e.text.length<=200:=he.2;have h3:e.path.length<=200:=he.1;have h2:=jK e.text.length (by omega)
 unfold dY;cases e.kind==1<;>cases e.kind==3<;>simp<;>omega
theorem akP{n:bx}(h:Eg n):(cz n).length<=410:=by
 have h1:n.name.length<=200:=h.1;have h2:n.aW.length<=200:=h.2;have h3:=FM n.kind;unfold cz cK;simp;omega
theorem am1{p:aG}(h:rV p)(hk:cj p=true):(bw p).length<=15000:=by
 obtain⟨_,_,_,_,_,aq⟩:=mW hk;obtain⟨⟨h1,_⟩,h2,⟨h3,aA⟩,bl,ca⟩:=h;have h1:p.name.length<=200:=h1;have h2:p.aW.length<=200:=h2;have aE:=m' (f:=cz) (xs:=p.bi) (n:=410) fun n hn=>akP (aA n hn)
 have aF:(dd p.bB).length<=p.bB.length*500:=m' (f:=dY) (xs:=p.bB) (n:=500) fun e he=>akW (qu aq e he) (ca e he)
 have bJ:p.bi.length*410<=3*410:=Nat.mul_le_mul_right _ h3;have cL:p.bB.length*500<=17*500:=Nat.mul_le_mul_right _ bl;unfold bw dv il;generalize p.bi.flatMap cz=A at aE ⊢;generalize dd p.bB=bq at aF ⊢;simp[zn];omega
theorem Ib{ps:List aG}(h:h7 5 ps)(hr:ej ps=true):(b8 ps).length<=100000:=by
 have hk:=(kb hr).1;have h1:=m' (f:=fun p=>cG (bw p)) (xs:=ps) (n:=16000) fun p hp=>by
  have:=am1 (h.2 p hp) (hk p hp);have:=jK (bw p).length (by omega)
  show(cG (bw p)).length<=16000;unfold cG;simp;omega
 have aA:ps.length*16000<=5*16000:=Nat.mul_le_mul_right _ h.1;have e:(b8 ps).length=(ps.flatMap fun p=>cG (bw p)).length:=rfl
 omega
theorem am8{ps:List aG}(h:h7 5 ps)(hr:ej ps=true):(e' ps).length<=200000:=by
 have:=Ib h hr;have:=jK (b8 ps).length (by omega)
 unfold e' cG;simp[gd];omega
theorem anz{ps:List aG}(h:h7 5 ps):(bif ej ps then b8 ps else []).length<=100000:=by
 cases hr:ej ps with
 |false=>exact Nat.zero_le _
 |true=>exact Ib h hr
theorem anC{m n:Nat}(h:Lib.itoa (m:Int)=Lib.itoa (n:Int)):m=n:=by
 have h1:=vT m;have h2:=vT n;rw[n6,n6] at h;rw[h,h2] at h1;omega
theorem aj5(w:B)(hw:w.length<1000000000):gG (cG w++gd)=some w:=by
 unfold gG;rw[y9 w gd hw];rfl
theorem aib(w z:B)(N:Nat)(h:gG ((cG w++gd).take N)=some z):(cG w++gd).take N=cG w++gd:=by
 have hp:(cG w++gd).take N++(cG w++gd).drop N=cG w++gd:=List.take_append_drop N _;generalize(cG w++gd).take N=P at h hp ⊢;generalize(cG w++gd).drop N=R at hp;unfold gG at h;cases hz:iS P with
 |none=>rw[hz] at h;cases h
 |some q=>
  obtain⟨x,y⟩:=q;rw[hz] at h;have h:(bif y==gd then some x else none)=some z:=h
  cases hb:y==gd with
  |false=>rw[hb] at h;cases h
  |true=>
   have hy:y=gd:=eq_of_beq hb;have uQ:=(yI hz).1;subst hy;have c1:=yW x (gd++R);have c2:=yW w gd;rw[<-hp,uQ,List.append_assoc,c1] at c2;simp only[Option.some.injEq,Prod.mk.injEq] at c2;have hl:=anC c2.1;have hR:R.length=0:=by
    have:=congrArg List.length c2.2;simp only[List.length_append] at this;omega
   rw[List.length_eq_zero_iff.1 hR,List.append_nil] at hp;exact hp
noncomputable abbrev azE:a_:=[(29,Np),(58,Ks),(72,Kr),(77,CZ),(78,jr)]
theorem az7:aR O (aX ad azE):=aV ⟨aaP,Wb,Wa,J9,jQ,⟨⟩⟩
abbrev i40:Shape:=⟨[aL 0 .u8],[],18⟩
abbrev abw:Shape:=⟨[ay 2 2 0,ay 3 3 0,ag 4],[ax 2 [ah,ah],ax 3 [bn .pack]],18⟩
noncomputable def f40(a:i40.J):Option abw.J:=
(wI (((),()),((a.1.1.take 2000),(0:Int),()),())).bind fun b=>
(f29 (((b.2.2.1.1,()),()),())).bind fun c=>
(wJ (((),()),(b.2.1.1,b.2.1.2.1,()),())).bind fun d=>
(gp (((),(400:Int),()),(d.2.1.1,d.2.1.2.1,()),())).bind fun e=>
(tH (((),([((-1):Int),(0:Int),(1:Int),(5:Int),e.1.2.1,(100000:Int)]:List Int),()),(e.2.1.1,e.2.1.2.1,()),())).bind fun f=>
 some (((),(),f.1.2.1,()),(c.2.1.1,c.2.1.2.1,()),(d.2.2.1.1,()),())
noncomputable def acZ:aD:=aH ad Tryz.f40 i40 abw [] f40
theorem z40:aB O 40 acZ:=aK az7 Tryz.func40 (by kernel_rfl) ae (fun y=>by kernel_rfl) fun a=>by kernel_rfl
noncomputable abbrev aA3:a_:=[(12,uI),(14,rW),(16,Ns),(18,Nr),(27,En),(28,Nq),(30,uH),(31,No),(32,Nn),(40,acZ)]
theorem EH:aR O (aX ad aA3):=aV ⟨z12,DG,aaR,aaQ,L0,z28,xk,z31,aaO,z40,⟨⟩⟩
abbrev Uw:Shape:=⟨[ap 2,ay 3 3 0,ay 4 4 0,ag 5,ay 6 6 0],[ax 3 [ah,ah],ax 4 [bn .pack],ax 6 [ah,ah]],108⟩
abbrev Uj:List aP:=[(.norm,⟨[ap 2,ay 3 3 0,ay 4 4 0,ag 5,ay 6 6 0,ap 50],[ax 3 [ah,ah],ax 4 [bn .pack],ax 6 [ah,ah]],108⟩)]
noncomputable def we(y:Uw.J):Option (aC Uj):=
(f16 (((y.2.1.1,y.2.1.2.1,()),(y.2.2.1.1,()),y.1.2.2.2.1,()),())).bind fun a=>
(f28 (((y.2.2.2.1.1,y.2.2.2.1.2.1,()),(a.2.1.1,a.2.1.2.1,()),()),())).bind fun b=>
 bif(!b.1.1) then
 some ((y.1.1,(),(),y.1.2.2.2.1,(),true,()),(y.2.1.1,y.2.1.2.1,()),(y.2.2.1.1,()),(y.2.2.2.1.1,y.2.2.2.1.2.1,()),())
else
(f14 (((y.2.1.1,y.2.1.2.1,()),()),())).bind fun c=>
(f12 (((y.2.1.1,y.2.1.2.1,()),()),())).bind fun d=>
 bif(!(c.1.1==d.1.1)) then
 some ((y.1.1,(),(),y.1.2.2.2.1,(),true,()),(y.2.1.1,y.2.1.2.1,()),(y.2.2.1.1,()),(y.2.2.2.1.1,y.2.2.2.1.2.1,()),())
else
(f12 (((y.2.1.1,y.2.1.2.1,()),()),())).bind fun e=>
 bif(!e.1.1) then
 some ((y.1.1,(),(),y.1.2.2.2.1,(),true,()),(y.2.1.1,y.2.1.2.1,()),(y.2.2.1.1,()),(y.2.2.2.1.1,y.2.2.2.1.2.1,()),())
else
(f30 (((y.2.2.1.1,()),()),())).bind fun f=>
 some ((y.1.1,(),(),y.1.2.2.2.1,(),(!f.1.1),()),(y.2.1.1,y.2.1.2.1,()),(y.2.2.1.1,()),(y.2.2.2.1.1,y.2.2.2.1.2.1,()),())
theorem aor:aT O (an (codeOf Tryz.f9) 1 124) (aU Uw Uj we):=ce EH (by kernel_rfl) ae fun y=>by kernel_rfl
abbrev i9:Shape:=⟨[aL 0 .u8],[],108⟩
abbrev adD:Shape:=⟨[ap 2],[],108⟩
noncomputable def f9(a:i9.J):Option adD.J:=
 bif(decide ((a.1.1.length:Int)>(1048576:Int))) then
 some ((true,()),())
else
(f40 ((a.1.1,()),())).bind fun b=>
(f18 (((b.2.1.1,b.2.1.2.1,()),(b.2.2.1.1,()),b.1.2.2.1,()),())).bind fun c=>
(we ((false,(),(),b.1.2.2.1,(),()),(b.2.1.1,b.2.1.2.1,()),(b.2.2.1.1,()),(c.2.1.1,c.2.1.2.1,()),())).bind fun d=>
 bif d.1.2.2.2.2.2.1 then
(f16 (((d.2.1.1,d.2.1.2.1,()),(d.2.2.1.1,()),d.1.2.2.2.1,()),())).bind fun e=>
(f28 (((d.2.2.2.1.1,d.2.2.2.1.2.1,()),(e.2.1.1,e.2.1.2.1,()),()),())).bind fun f=>
 bif f.1.1 then
(f14 (((d.2.1.1,d.2.1.2.1,()),()),())).bind fun g=>
(f12 (((d.2.1.1,d.2.1.2.1,()),()),())).bind fun h=>
 some (((g.1.1==h.1.1),()),())
else
 some ((false,()),())
else
(f31 (((d.2.2.2.1.1,d.2.2.2.1.2.1,()),()),())).bind fun i=>
(f31 (((d.2.1.1,d.2.1.2.1,()),()),())).bind fun j=>
(f18 (((d.2.1.1,d.2.1.2.1,()),(d.2.2.1.1,()),(1000000:Int),()),())).bind fun k=>
 bif(d.2.2.2.1.2.1==k.2.1.2.1) then
 bif(!i.1.2.2.1) then
 some ((true,()),())
else
(f32 (((i.2.1,()),(d.2.2.1.1,()),()),())).bind fun l=>
 bif l.1.1 then
(f27 (((d.2.2.1.1,()),()),())).bind fun m=>
(f28 (((i.2.2.2.1.1,i.2.2.2.1.2.1,()),(m.2.1.1,m.2.1.2.1,()),()),())).bind fun n=>
 some ((n.1.1,()),())
else
 some ((false,()),())
else
 bif i.1.2.2.1 then
(f32 (((i.2.1,()),(j.2.1,()),()),())).bind fun D=>
 bif D.1.1 then
(f28 (((i.2.2.2.1.1,i.2.2.2.1.2.1,()),(d.2.1.1,d.2.1.2.1,()),()),())).bind fun p=>
 some ((p.1.1,()),())
else
 some ((false,()),())
else
 some ((false,()),())
noncomputable def qk:aD:=aH ad Tryz.f9 i9 adD [] f9
theorem z9:aB O 9 qk:=aK EH Tryz.func9 (by kernel_rfl) (a8 aor ae) (fun y=>by kernel_rfl) fun a=>by kernel_rfl
theorem aeq(a)(h:c8 (a.1.1.take 2000) 0 1000000):aa (f40 a) (fun r=>(∃oB,h7 5 oB/\r.2.1.1=(bif ej oB then b8 oB else [])/\r.2.1.2.1=[])/\h7 5 r.2.2.1.1):=by
 unfold f40;refine aa.bind (P4 _ 1000000 h (by decide)) fun r1 h1=>?_
 obtain⟨nQ,⟨⟨(b1:List Int),(iA:Int),u1⟩,⟨(oB:List aG),u2⟩,uO⟩⟩:=r1;have hr:h7 4 oB:=h1.2;have c':h7 5 oB:=⟨Nat.le_succ_of_le hr.1,hr.2⟩;refine aa.eq (ahS oB (c'.ok.yi (by decide)) c'.ok.vs) ?_
 refine aa.bind (aeU _ _ h1.1 (by decide)) fun r2 h2=>?_
 refine aa.bind (hP _ _ h2.1 (by decide)) fun dn h3=>?_
 refine aa.bind (J' _ _ h3.1 (by decide) (by simp)) fun fU aA=>?_
 exact aa.ret ⟨⟨oB,c',rfl,rfl⟩,h2.2⟩
theorem ae0(a)(h:∀x,x∈(a.1.1:List Int)->0<=x/\x<=255):aa (f9 a) (fun r=>r.1.1=true):=by
 unfold f9;refine aa.ite (fun _=>aa.ret rfl) fun _=>?_
 refine aa.bind (aeq _ (alU h)) fun r hr=>?_
 obtain⟨⟨nQ,u1,(n:Int),u2⟩,⟨⟨(s:B),(t:B),uO⟩,⟨(ps:List aG),adz⟩,aCz⟩⟩:=r;obtain⟨⟨oB,h0,hs,aq⟩,hp⟩:=hr;have aq:t=[]:=aq;subst aq;have hp:h7 5 ps:=hp;have ix:s.length<=100000:=by have hs:s=_:=hs;rw[hs];exact anz h0
 clear hs;have hb:=hp.ok.yi (by decide)
 have hv:=hp.ok.vs;obtain⟨D,e1,aE⟩:=ajK s [] (by omega)
 obtain⟨c7,e2,aF⟩:=ahK s [] (by omega)
 cases aE.Ky aF;have hk:(D.isSome&&([]:B)==[])=D.isSome:=by cases D<;>rfl
 rw[hk] at e1 e2;have br:=OP s [] ps n hb hv D.isSome e2;have da:=agB s [] ps n hb hv D.isSome e1;have uR:=Gi (kk D.isSome s ps n).1 (kk D.isSome s ps n).2;have eS:=vp (((ps,()),()),()) hb hv;have eS:f30 (((ps,()),()),())=some ((ej ps,()),()):=eS;refine aa.eq br ?_
 cases D with
 |none=>
  simp only[Option.isSome_none] at e1 e2 da uR;simp only[Option.isSome_none,we,da,uR,e1,e2,Option.bind_some,Bool.not_true,Bool.not_false,cond_true,cond_false,beq_self_eq_true];exact aa.ret rfl
 |some x8=>
  simp only[Option.isSome_some] at e1 e2 da uR;cases hr:ej ps with
  |false=>
   rw[hr] at eS;simp only[Option.isSome_some,we,da,uR,e1,e2,eS,Option.bind_some,Bool.not_true,Bool.not_false,cond_true,cond_false,beq_self_eq_true];exact aa.ret rfl
  |true=>
   rw[hr] at eS;have dK:=am8 hp hr;have qh:=OP s [] ps 1000000 hb hv true e2;have bk:kk true s ps 1000000=(s,e' ps):=by
    simp only[kk,hr,Bool.and_self,cond_true];rw[List.take_of_length_le (by unfold jR;omega)]
   have e6:kk true s ps n=(s,(e' ps).take (jR n (e' ps).length)):=by simp only[kk,hr,Bool.and_self,cond_true]
   rw[bk] at qh;rw[e6] at da uR;simp only[Option.isSome_some,e6,we,da,uR,e1,e2,eS,Option.bind_some,Bool.not_true,Bool.not_false,cond_true,cond_false,beq_self_eq_true];have htk:=aib (b8 ps);have ab8:cG (b8 ps)++gd=e' ps:=rfl;rw[ab8] at htk;have htk:=htk (N:=jR n (e' ps).length);have ayd:((e' ps).take (jR n (e' ps).length)).length<=200000:=by simp;omega
   generalize(e' ps).take (jR n (e' ps).length)=T at htk ayd;obtain⟨NN,yh,oY⟩:=OQ s T (by omega) (by omega)
   obtain⟨sa,sf,NQ⟩:=OQ s [] (by omega) (by simp)
   have sf:f31 (((s,(([]:B),())),()),())=some (Nu sa s):=sf;have NQ:ly sa (mC s):=NQ;refine aa.eq yh ?_
   refine aa.eq sf ?_
   refine aa.eq qh ?_
   cases hc:T==e' ps with
   |true=>
    have hc:T=e' ps:=eq_of_beq hc;subst hc;have hR:=aj5 (b8 ps) (by have:=Ib hp hr;omega)
    rw[ab8] at hR;have hg:(gG (e' ps)).getD s=b8 ps:=by rw[hR];rfl
    rw[hg] at oY;have p':=Pr ps hb hv;rw[hr] at p';rw[hg];simp only[cond_true];cases aM:NN with
    |none=>exact aa.ret rfl
    |some qs=>
     cases aj4 hb hr oY aM;have M3:=Rm (((ps,()),((ps,()),())),()) rfl hb;have M2:=Gi (b8 ps) [];show aa ((f32 (((ps,()),((ps,()),())),())).bind _) _;refine aa.eq M3 ?_
     simp only[cond_true];refine aa.eq p' ?_
     refine aa.eq M2 ?_
     exact aa.ret rfl
   |false=>
    have hR:gG T=none:=by
     cases hz:gG T with
     |none=>rfl
     |some z=>
      have:=htk z hz;rw[this,beq_self_eq_true] at hc;cases hc
    have hg:(gG T).getD s=s:=by rw[hR];rfl
    rw[hg] at oY;rw[hg];cases oY.Ky NQ;cases oY.Ky aF;obtain⟨q1,q2,dF⟩:=(aF x8).1 rfl;obtain⟨hb0,_⟩:=sT dF (by have:=(kb q1).2;omega)
    have M3:=Rm (((x8,()),((x8,()),())),()) rfl hb0;have M2:=Gi s [];show aa ((f32 (((x8,()),((x8,()),())),())).bind _) _;refine aa.eq M3 ?_
    simp only[cond_true];refine aa.eq M2 ?_
    exact aa.ret rfl
theorem pure_FnDiskTear:LawOk qk [(false,[.sl .u8])]:=by
 rintro⟨⟨code,u⟩,bV⟩ ⟨h,_⟩;obtain⟨r,hr,az⟩:=ae0 ((code,()),()) (ajr (h (.sl .u8 code) (by simp[fF,dQ.mk])))
 obtain⟨⟨b,v⟩,v'⟩:=r;have az:b=true:=az;subst az;exact⟨((true,()),()),hr,rfl⟩
end Go.Proofs
