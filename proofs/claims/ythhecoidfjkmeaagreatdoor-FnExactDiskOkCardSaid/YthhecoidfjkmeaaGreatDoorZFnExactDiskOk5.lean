/- FnExactDiskOk: the program's DiskOk returns what the reference's returns, for all arguments. (part 6 of 7: JkKF126, JkKF127, JkKPuGq, JkKF76, JkKPuGr, JkKF39, JkKF12, JkKPuGs, JkKF34, JkKPuPc, JkKF186, JkKF134, JkKF187, JkKF135, JkKF188, JkKF136, JkKF189, JkKF137, JkKF190, JkKF138, JkKF191, JkKF139, JkKF82) Conditions: none beyond the statement. -/
import Derived.Test.YthhecoidfjkmeaaGreatDoorZFnExactDiskOk4
import Derived.Tactics
import Derived.Deep.RegionLaw
import Derived.Shelf.Abstract
import Derived.Test.YthhecoidfjkmeaaGreatDoorProg
import Derived.KernelRfl
set_option linter.unusedSimpArgs false
set_option maxRecDepth 100000
set_option linter.unusedVariables false
namespace Go.Proofs
open Go.Jk
noncomputable abbrev amu:bh:=[(73,to),(179,UL)]
theorem vz:a7 U (bg aj amu):=bf ⟨vC,ajP,⟨⟩⟩
abbrev Lt:Shape:=⟨[aM 2 2 0,aM 5 5 0,bc 6 3000384,ao 7,ae 8,bc 9 3000576],[bv 5000130 .need 2 2,bv 5000131 .entry 2 3,aL 2 [ai,ai,.own 5000130,.own 5000131],bv 5000322 .need 5 2,bv 5000323 .entry 5 3,aL 5 [ai,ai,.own 5000322,.own 5000323],bb 3000384 .str 6 0,bb 3000576 .str 9 0],118⟩
abbrev Ln:List aO:=[(.norm,⟨[aM 2 2 0,aM 5 5 0,bc 6 3000384,ao 7,ae 8,bc 9 3000576,au 52],[bv 5000130 .need 2 2,bv 5000131 .entry 2 3,aL 2 [ai,ai,.own 5000130,.own 5000131],bv 5000322 .need 5 2,bv 5000323 .entry 5 3,aL 5 [ai,ai,.own 5000322,.own 5000323],bb 3000384 .str 6 0,bb 3000576 .str 9 0],118⟩)]
noncomputable def kN(y:Lt.J):Option (ay Ln):=
 bif(y.1.2.2.2.2.1==(1:Int)) then
(a6 y.2.2.2.2.2.2.2.2.1.length (0:Int)).bind fun a=>
(y.2.2.2.2.2.2.2.2.1[a]?).bind fun b=>
 bif(b==([112,97,99,107]:F)) then
 some (((),(),(),y.1.2.2.2.1,y.1.2.2.2.2.1,(),((y.2.2.2.2.2.2.2.2.1.length:Int)==(3:Int)),()),y.2.1,y.2.2.1,(y.2.2.2.1.1,y.2.2.2.1.2.1,(),(),()),y.2.2.2.2.1,y.2.2.2.2.2.1,(y.2.2.2.2.2.2.1.1,y.2.2.2.2.2.2.1.2.1,(),(),()),y.2.2.2.2.2.2.2.1,y.2.2.2.2.2.2.2.2.1,())
else
 some (((),(),(),y.1.2.2.2.1,y.1.2.2.2.2.1,(),false,()),y.2.1,y.2.2.1,(y.2.2.2.1.1,y.2.2.2.1.2.1,(),(),()),y.2.2.2.2.1,y.2.2.2.2.2.1,(y.2.2.2.2.2.2.1.1,y.2.2.2.2.2.2.1.2.1,(),(),()),y.2.2.2.2.2.2.2.1,y.2.2.2.2.2.2.2.2.1,())
else
 some (((),(),(),y.1.2.2.2.1,y.1.2.2.2.2.1,(),false,()),y.2.1,y.2.2.1,(y.2.2.2.1.1,y.2.2.2.1.2.1,(),(),()),y.2.2.2.2.1,y.2.2.2.2.2.1,(y.2.2.2.2.2.2.1.1,y.2.2.2.2.2.2.1.2.1,(),(),()),y.2.2.2.2.2.2.2.1,y.2.2.2.2.2.2.2.2.1,())
theorem _m:aW U (an (c8 (an (codeOf Tryz.f126) 1 250)) 500 128156) (a_ Lt Ln kN):=cS vz (by kernel_rfl) ag fun y=>by kernel_rfl
abbrev Ls:Shape:=⟨[aM 2 2 0,aM 5 5 0,bc 6 3000384,ao 7,ae 8,bc 9 3000576],[bv 5000130 .need 2 2,bv 5000131 .entry 2 3,aL 2 [ai,ai,.own 5000130,.own 5000131],bv 5000322 .need 5 2,bv 5000323 .entry 5 3,aL 5 [ai,ai,.own 5000322,.own 5000323],bb 3000384 .str 6 0,bb 3000576 .str 9 0],118⟩
abbrev Lm:List aO:=[(.norm,⟨[aM 2 2 0,aM 5 5 0,bc 6 3000384,ao 7,ae 8,bc 9 3000576,au 74],[bv 5000130 .need 2 2,bv 5000131 .entry 2 3,aL 2 [ai,ai,.own 5000130,.own 5000131],bv 5000322 .need 5 2,bv 5000323 .entry 5 3,aL 5 [ai,ai,.own 5000322,.own 5000323],bb 3000384 .str 6 0,bb 3000576 .str 9 0],118⟩)]
noncomputable def lu(y:Ls.J):Option (ay Lm):=
 bif(decide (y.1.2.2.2.2.1>(1:Int))) then
(a6 y.2.2.2.2.2.2.2.1.length y.1.2.2.2.2.1).bind fun a=>
(y.2.2.2.2.2.2.2.1[a]?).bind fun b=>
 some (((),(),(),y.1.2.2.2.1,y.1.2.2.2.2.1,(),(b==([]:F)),()),y.2.1,y.2.2.1,(y.2.2.2.1.1,y.2.2.2.1.2.1,(),(),()),y.2.2.2.2.1,y.2.2.2.2.2.1,(y.2.2.2.2.2.2.1.1,y.2.2.2.2.2.2.1.2.1,(),(),()),y.2.2.2.2.2.2.2.1,y.2.2.2.2.2.2.2.2.1,())
else
 some (((),(),(),y.1.2.2.2.1,y.1.2.2.2.2.1,(),false,()),y.2.1,y.2.2.1,(y.2.2.2.1.1,y.2.2.2.1.2.1,(),(),()),y.2.2.2.2.1,y.2.2.2.2.2.1,(y.2.2.2.2.2.2.1.1,y.2.2.2.2.2.2.1.2.1,(),(),()),y.2.2.2.2.2.2.2.1,y.2.2.2.2.2.2.2.2.1,())
theorem _l:aW U (an (c8 (an (codeOf Tryz.f126) 1 250)) 500 512630) (a_ Ls Lm lu):=cS vz (by kernel_rfl) ag fun y=>by kernel_rfl
abbrev K7:Shape:=⟨[aM 2 2 0,aM 5 5 0,bc 6 3000384,ao 7,ae 8,bc 9 3000576],[bv 5000130 .need 2 2,bv 5000131 .entry 2 3,aL 2 [ai,ai,.own 5000130,.own 5000131],bv 5000322 .need 5 2,bv 5000323 .entry 5 3,aL 5 [ai,ai,.own 5000322,.own 5000323],bb 3000384 .str 6 0,bb 3000576 .str 9 0],118⟩
abbrev K5:List aO:=[(.norm,⟨[aM 2 2 0,aM 5 5 0,bc 6 3000384,ao 7,ae 8,bc 9 3000576,au 86],[bv 5000130 .need 2 2,bv 5000131 .entry 2 3,aL 2 [ai,ai,.own 5000130,.own 5000131],bv 5000322 .need 5 2,bv 5000323 .entry 5 3,aL 5 [ai,ai,.own 5000322,.own 5000323],bb 3000384 .str 6 0,bb 3000576 .str 9 0],118⟩)]
noncomputable def mV(y:K7.J):Option (ay K5):=
 bif(decide (y.1.2.2.2.2.1>(1:Int))) then
(a6 y.2.2.2.2.2.2.2.2.1.length (0:Int)).bind fun a=>
(y.2.2.2.2.2.2.2.2.1[a]?).bind fun b=>
 bif(b==([110,101,101,100]:F)) then
 some (((),(),(),y.1.2.2.2.1,y.1.2.2.2.2.1,(),((y.2.2.2.2.2.2.2.2.1.length:Int)==(2:Int)),()),y.2.1,y.2.2.1,(y.2.2.2.1.1,y.2.2.2.1.2.1,(),(),()),y.2.2.2.2.1,y.2.2.2.2.2.1,(y.2.2.2.2.2.2.1.1,y.2.2.2.2.2.2.1.2.1,(),(),()),y.2.2.2.2.2.2.2.1,y.2.2.2.2.2.2.2.2.1,())
else
 some (((),(),(),y.1.2.2.2.1,y.1.2.2.2.2.1,(),false,()),y.2.1,y.2.2.1,(y.2.2.2.1.1,y.2.2.2.1.2.1,(),(),()),y.2.2.2.2.1,y.2.2.2.2.2.1,(y.2.2.2.2.2.2.1.1,y.2.2.2.2.2.2.1.2.1,(),(),()),y.2.2.2.2.2.2.2.1,y.2.2.2.2.2.2.2.2.1,())
else
 some (((),(),(),y.1.2.2.2.1,y.1.2.2.2.2.1,(),false,()),y.2.1,y.2.2.1,(y.2.2.2.1.1,y.2.2.2.1.2.1,(),(),()),y.2.2.2.2.1,y.2.2.2.2.2.1,(y.2.2.2.2.2.2.1.1,y.2.2.2.2.2.2.1.2.1,(),(),()),y.2.2.2.2.2.2.2.1,y.2.2.2.2.2.2.2.2.1,())
theorem ZH:aW U (an (c8 (an (codeOf Tryz.f126) 1 250)) 500 2050526) (a_ K7 K5 mV):=cS vz (by kernel_rfl) ag fun y=>by kernel_rfl
abbrev tZ:Shape:=⟨[aM 2 2 0,aM 5 5 0,bc 6 3000384,ao 7,ae 8],[bv 5000130 .need 2 2,bv 5000131 .entry 2 3,aL 2 [ai,ai,.own 5000130,.own 5000131],bv 5000322 .need 5 2,bv 5000323 .entry 5 3,aL 5 [ai,ai,.own 5000322,.own 5000323],bb 3000384 .str 6 0],118⟩
abbrev xN:List aO:=[(.ret,⟨[aM 2 2 0,ao 3,au 4],[bv 5000130 .need 2 2,bv 5000131 .entry 2 3,aL 2 [ai,ai,.own 5000130,.own 5000131]],118⟩),(.exit 0,⟨[aM 2 2 0,aM 5 5 0],[bv 5000130 .need 2 2,bv 5000131 .entry 2 3,aL 2 [ai,ai,.own 5000130,.own 5000131],bv 5000322 .need 5 2,bv 5000323 .entry 5 3,aL 5 [ai,ai,.own 5000322,.own 5000323]],118⟩)]
noncomputable def gZ(y:tZ.J):bQ tZ xN:=
 bif(decide (y.1.2.2.2.2.1<(y.2.2.2.2.2.2.2.1.length:Int))) then
 bif(decide (y.1.2.2.2.2.1<=(8:Int))) then
(a6 y.2.2.2.2.2.2.2.1.length y.1.2.2.2.2.1).bind fun a=>
(y.2.2.2.2.2.2.2.1[a]?).bind fun b=>
(f73 ((b,(32:Int),(2:Int),()),())).bind fun c=>
(a6 y.2.2.2.2.2.2.2.1.length y.1.2.2.2.2.1).bind fun d=>
(y.2.2.2.2.2.2.2.1[d]?).bind fun e=>
 bif(decide ((y.1.2.2.2.1.length:Int)<(IntKind.i64.wrap ((e.length:Int)+(1:Int))))) then
 some (.inr (.inl (((),([]:F),false,()),y.2.2.2.2.1,y.2.2.2.2.2.1,(y.2.2.2.2.2.2.1.1,y.2.2.2.2.2.2.1.2.1,(),(),()),())))
else
(a6 y.2.2.2.2.2.2.2.1.length y.1.2.2.2.2.1).bind fun f=>
(y.2.2.2.2.2.2.2.1[f]?).bind fun g=>
(br y.1.2.2.2.1 (IntKind.i64.wrap ((g.length:Int)+(1:Int))) (y.1.2.2.2.1.length:Int)).bind fun h=>
(kN (((),(),(),h,y.1.2.2.2.2.1,(),()),y.2.1,y.2.2.1,(y.2.2.2.1.1,y.2.2.2.1.2.1,(),(),()),y.2.2.2.2.1,y.2.2.2.2.2.1,(y.2.2.2.2.2.2.1.1,y.2.2.2.2.2.2.1.2.1,(),(),()),y.2.2.2.2.2.2.2.1,c.2.1,())).bind fun i=>
 bif i.1.2.2.2.2.2.2.1 then
(a6 i.2.2.2.2.2.2.2.2.1.length (1:Int)).bind fun j=>
(i.2.2.2.2.2.2.2.2.1[j]?).bind fun k=>
(a6 i.2.2.2.2.2.2.2.2.1.length (2:Int)).bind fun l=>
(i.2.2.2.2.2.2.2.2.1[l]?).bind fun m=>
 some (.inl (((),(),(),i.1.2.2.2.1,(IntKind.i64.wrap (i.1.2.2.2.2.1+(1:Int))),()),i.2.1,i.2.2.1,(i.2.2.2.1.1,i.2.2.2.1.2.1,(),(),()),i.2.2.2.2.1,i.2.2.2.2.2.1,(k,m,(),(),()),i.2.2.2.2.2.2.2.1,()))
else
(lu (((),(),(),i.1.2.2.2.1,i.1.2.2.2.2.1,(),()),i.2.1,i.2.2.1,(i.2.2.2.1.1,i.2.2.2.1.2.1,(),(),()),i.2.2.2.2.1,i.2.2.2.2.2.1,(i.2.2.2.2.2.2.1.1,i.2.2.2.2.2.2.1.2.1,(),(),()),i.2.2.2.2.2.2.2.1,i.2.2.2.2.2.2.2.2.1,())).bind fun n=>
 bif n.1.2.2.2.2.2.2.1 then
 some (.inr (.inl (((),n.1.2.2.2.1,true,()),n.2.2.2.2.1,n.2.2.2.2.2.1,(n.2.2.2.2.2.2.1.1,n.2.2.2.2.2.2.1.2.1,(),(),()),())))
else
(mV (((),(),(),n.1.2.2.2.1,n.1.2.2.2.2.1,(),()),n.2.1,n.2.2.1,(n.2.2.2.1.1,n.2.2.2.1.2.1,(),(),()),n.2.2.2.2.1,n.2.2.2.2.2.1,(n.2.2.2.2.2.2.1.1,n.2.2.2.2.2.2.1.2.1,(),(),()),n.2.2.2.2.2.2.2.1,n.2.2.2.2.2.2.2.2.1,())).bind fun B=>
 bif B.1.2.2.2.2.2.2.1 then
(a6 B.2.2.2.2.2.2.2.2.1.length (1:Int)).bind fun p=>
(B.2.2.2.2.2.2.2.2.1[p]?).bind fun q=>
(f179 ((q,()),())).bind fun r=>
(cy 40 B.2.2.2.2.1 ([(bB.mk r.2.1.1 r.2.1.2.1 r.2.1.2.2.1)]:List bB)).bind fun s=>
 some (.inl (((),(),(),B.1.2.2.2.1,(IntKind.i64.wrap (B.1.2.2.2.2.1+(1:Int))),()),B.2.1,B.2.2.1,(B.2.2.2.1.1,B.2.2.2.1.2.1,(),(),()),s,B.2.2.2.2.2.1,(B.2.2.2.2.2.2.1.1,B.2.2.2.2.2.2.1.2.1,(),(),()),B.2.2.2.2.2.2.2.1,()))
else
 bif(decide (B.1.2.2.2.2.1>(0:Int))) then
 some (.inr (.inl (((),([]:F),false,()),B.2.2.2.2.1,B.2.2.2.2.2.1,(B.2.2.2.2.2.2.1.1,B.2.2.2.2.2.2.1.2.1,(),(),()),())))
else
 some (.inl (((),(),(),B.1.2.2.2.1,(IntKind.i64.wrap (B.1.2.2.2.2.1+(1:Int))),()),B.2.1,B.2.2.1,(B.2.2.2.1.1,B.2.2.2.1.2.1,(),(),()),B.2.2.2.2.1,B.2.2.2.2.2.1,(B.2.2.2.2.2.2.1.1,B.2.2.2.2.2.2.1.2.1,(),(),()),B.2.2.2.2.2.2.2.1,()))
else
 some (.inr (.inr (((),(),()),y.2.1,y.2.2.1,(y.2.2.2.1.1,y.2.2.2.1.2.1,(),(),()),y.2.2.2.2.1,y.2.2.2.2.2.1,(y.2.2.2.2.2.2.1.1,y.2.2.2.2.2.2.1.2.1,(),(),()),())))
else
 some (.inr (.inr (((),(),()),y.2.1,y.2.2.1,(y.2.2.2.1.1,y.2.2.2.1.2.1,(),(),()),y.2.2.2.2.1,y.2.2.2.2.2.1,(y.2.2.2.2.2.2.1.1,y.2.2.2.2.2.2.1.2.1,(),(),()),())))
noncomputable def kS:tZ.J->Option (ay xN):=bx gZ
theorem adD:aW U (an (codeOf Tryz.f126) 1 250) (a_ tZ xN kS):=bR vz (by kernel_rfl) (a' _m (a' _l (a' ZH ag))) fun y=>by kernel_rfl
abbrev i126:Shape:=⟨[ao 0],[],118⟩
abbrev HB:Shape:=⟨[aM 2 2 0,ao 3,au 4],[bv 5000130 .need 2 2,bv 5000131 .entry 2 3,aL 2 [ai,ai,.own 5000130,.own 5000131]],118⟩
noncomputable def f126(a:i126.J):Option HB.J:=
(f73 ((a.1.1,(10:Int),(IntKind.i64.wrap ((a.1.1.length:Int)+(1:Int))),()),())).bind fun b=>
(kS (((),(),(),a.1.1,(0:Int),()),([]:List bB),([]:List aA),(([]:F),([]:F),(),(),()),([]:List bB),([]:List aA),(([]:F),([]:F),(),(),()),b.2.1,())).bind fun c=>
(match c with
|.inl d=>
 some (((),d.1.2.1,d.1.2.2.1,()),d.2.1,d.2.2.1,(d.2.2.2.1.1,d.2.2.2.1.2.1,(),(),()),())
|.inr e=>
 some (((),([]:F),false,()),e.2.2.2.2.1,e.2.2.2.2.2.1,(e.2.2.2.2.2.2.1.1,e.2.2.2.2.2.2.1.2.1,(),(),()),()))
noncomputable def Vf:aH:=aP aj Tryz.f126 i126 HB [] f126
theorem aj6:aF U 126 Vf:=aS vz Tryz.func126 (by kernel_rfl) (a' adD ag) (fun y=>by kernel_rfl) fun a=>by kernel_rfl
noncomputable abbrev amt:bh:=[(90,B1),(180,UK),(181,Ii)]
theorem VK:a7 U (bg aj amt):=bf ⟨Iz,ajO,RP,⟨⟩⟩
abbrev yN:Shape:=⟨[ao 0,bc 4 3000256,ao 5],[bb 3000256 .entry 4 0],41⟩
abbrev Fc:List aO:=[(.ret,⟨[bc 2 3000128,au 3],[bb 3000128 .entry 2 0],41⟩),(.exit 0,⟨[ao 0,bc 4 3000256],[bb 3000256 .entry 4 0],41⟩)]
noncomputable def pQ(y:yN.J):bQ yN Fc:=
 bif(!(y.1.2.2.1==([]:F))) then
 bif(decide ((y.2.1.length:Int)<=(16:Int))) then
(f180 ((y.1.2.2.1,()),())).bind fun a=>
 bif(!a.1.2.2.1) then
 some (.inr (.inl (((),false,()),y.2.1,())))
else
(cy 48 y.2.1 ([(aA.mk a.2.1.1 a.2.1.2.1 a.2.1.2.2.1 a.2.1.2.2.2.1)]:List aA)).bind fun b=>
 some (.inl ((y.1.1,(),a.1.2.1,()),b,()))
else
 some (.inr (.inr ((y.1.1,(),()),y.2.1,())))
else
 some (.inr (.inr ((y.1.1,(),()),y.2.1,())))
noncomputable def uq:yN.J->Option (ay Fc):=bx pQ
theorem afB:aW U (an (codeOf Tryz.f127) 1 60) (a_ yN Fc uq):=bR VK (by kernel_rfl) ag fun y=>by kernel_rfl
abbrev i127:Shape:=⟨[ao 0],[],41⟩
abbrev Tl:Shape:=⟨[bc 2 3000128,au 3],[bb 3000128 .entry 2 0],41⟩
noncomputable def f127(a:i127.J):Option Tl.J:=
(uq ((a.1.1,(),a.1.1,()),([]:List aA),())).bind fun b=>
(match b with
|.inl c=>
 some (((),c.1.2.1,()),c.2.1,())
|.inr d=>
(f90 ((d.2.1,()),())).bind fun e=>
 bif e.1.1 then
(f181 ((d.2.1,()),())).bind fun f=>
 some (((),(f.1.1==d.1.1),()),d.2.1,())
else
 some (((),false,()),d.2.1,()))
noncomputable def Ve:aH:=aP aj Tryz.f127 i127 Tl [] f127
theorem z127:aF U 127 Ve:=aS VK Tryz.func127 (by kernel_rfl) (a' afB ag) (fun y=>by kernel_rfl) fun a=>by kernel_rfl
theorem ahv(s:F):∀(m:Nat) (r:F) (t:List aA),r.length<=m->m<=2000000->t.length<=17->oT 2000000 t->
  ∃ns:List aA,ns.length<=17/\oT 2000000 ns/\(uq ((s,((),(r,()))),(t,()))=some (.inr ((s,((),())),(ns,())))\/uq ((s,((),(r,()))),(t,()))=some (.inl (((),(false,())),(ns,())))):=by
 intro m;induction m with
 |zero=>
  intro r t hs _ ap ha;have:r=[]:=List.length_eq_zero_iff.1 (by omega)
  subst this;exact⟨t,ap,ha,.inl (cm rfl)⟩
 |succ m ih=>
  intro r t hs hm ap ha;cases r with
  |nil=>exact⟨t,ap,ha,.inl (cm rfl)⟩
  |cons b r0=>
   have hne:((b::r0)==([]:F))=false:=rfl;generalize ey:b::r0=r at hs hne;by_cases wg:t.length<=16
   ·have d:decide (((t.length:Nat):Int)<=16)=true:=decide_eq_true (by omega)
    obtain⟨ew,e,h1,h2⟩:=Nq r (by omega)
    cases hr:mD r with
    |none=>
     rw[hr] at h1;refine⟨t,ap,ha,.inr (cm ?_)⟩;simp only[pQ,hne,Bool.not_false,cond_true,d,h1,Option.bind_some,Option.isSome_none]
    |some q=>
     have ar:=h2 q hr;subst ar;rw[hr] at h1;obtain⟨eb,gw,wB⟩:=O6 hr;have fa:cy 48 t ([(aA.mk e.path e.kind e.mode e.text)]:List aA)=some (t++[e]):=dZ (by decide) (by unfold aq;simp;omega)
     have st:pQ ((s,((),(r,()))),(t,()))=some (.inl ((s,((),(ew,()))),(t++[e],()))):=by
      simp only[pQ,hne,Bool.not_false,cond_true,d,h1,Option.bind_some,Option.isSome_some,Bool.not_true,cond_false,fa]
     obtain⟨ns,g1,g2,g3⟩:=ih ew (t++[e]) (by omega) (by omega) (by simp;omega) (fun x hx=>by
      rcases List.mem_append.1 hx with hx|hx
      ·exact ha x hx
      ·rw[List.mem_singleton.1 hx];exact⟨by omega,by omega⟩)
     exact⟨ns,g1,g2,g3.imp (dD st).trans (dD st).trans⟩
   ·have d:decide (((t.length:Nat):Int)<=16)=false:=decide_eq_false (by omega)
    refine⟨t,ap,ha,.inl (cm ?_)⟩;simp only[pQ,hne,Bool.not_false,cond_true,d,cond_false]
theorem ahu(s:F):∀(b9 t:List aA),(∀e,e∈b9->eJ e=true)->t.length+b9.length<=16->(c_ b9).length<=2000000->
  uq ((s,((),(c_ b9,()))),(t,()))=some (.inr ((s,((),())),(t++b9,()))):=by
 intro b9;induction b9 with
 |nil=>intro t _ _ _;rw[List.append_nil];exact cm rfl
 |cons e b9 ih=>
  intro t h ap hl;have he:=h e List.mem_cons_self;have hr:=aeP he (c_ b9);have hE:c_ (e::b9)=d_ e++c_ b9:=by unfold c_;rw[List.flatMap_cons]
  rw[hE] at hl ⊢;have hlen:=(O6 hr).2.2;have hne:((d_ e++c_ b9)==([]:F))=false:=by
   cases hx:d_ e++c_ b9 with
   |nil=>rw[hx] at hlen;simp at hlen
   |cons b r=>rfl
  obtain⟨r,cz,h1,h2⟩:=Nq (d_ e++c_ b9) hl;have ar:=h2 _ hr;simp only[Prod.mk.injEq] at ar;obtain⟨rfl,rfl⟩:=ar;rw[hr] at h1;have d:decide (((t.length:Nat):Int)<=16)=true:=decide_eq_true (by omega)
  have fa:cy 48 t ([(aA.mk e.path e.kind e.mode e.text)]:List aA)=some (t++[e]):=dZ (by decide) (by unfold aq;simp;simp at ap;omega)
  have st:pQ ((s,((),(d_ e++c_ b9,()))),(t,()))=some (.inl ((s,((),(c_ b9,()))),(t++[e],()))):=by
   simp only[pQ,hne,Bool.not_false,cond_true,d,h1,Option.bind_some,Option.isSome_some,Bool.not_true,cond_false,fa]
  have:=ih (t++[e]) (fun x hx=>h x (List.mem_cons_of_mem _ hx)) (by simp at ap ⊢;omega) (by omega)
  rw[List.append_assoc] at this;exact(dD st).trans this
theorem PI{t:List aA}(hl:t.length<=17)(h:oT 2000000 t):ij t:=⟨by show t.length<=2097152;omega,fun e he=>by have:=h e he;exact⟨by show e.path.length<=2097152;omega,by show e.text.length<=2097152;omega⟩⟩
theorem YV(s:F)(hs:s.length<=2000000):∃(ok:Bool) (t:List aA),f127 ((s,()),())=some (((),(ok,())),(t,()))/\t.length<=17/\oT 2000000 t:=by
 obtain⟨ns,g1,g2,g3⟩:=ahv s s.length s [] (Nat.le_refl _) hs (by decide) (fun x hx=>by cases hx)
 rcases g3 with g3|g3
 ·have hb:=PI g1 g2;have ap:=xM ((ns,()),()) hb;have ap:f90 ((ns,()),())=some ((dI ns,()),()):=ap;cases hk:dI ns with
  |false=>
   rw[hk] at ap;exact⟨false,ns,by simp only[f127,g3,Option.bind_some,ap,cond_false],g1,g2⟩
  |true=>
   rw[hk] at ap;have hl:=C2 ns (rk hk) hb (jj hk);exact⟨_,ns,by simp only[f127,g3,Option.bind_some,ap,cond_true,hl];rfl,g1,g2⟩
 ·exact⟨false,ns,by simp only[f127,g3,Option.bind_some],g1,g2⟩
theorem YU(t:List aA)(h:dI t=true)(hs:(c_ t).length<=2000000)(hb:ij t):
  f127 ((c_ t,()),())=some (((),(true,())),(t,())):=by
 have g1:=ahu (c_ t) t [] (tM h) (by have:=jj h;simpa using this) hs
 have ap:=xM ((t,()),()) hb;have ap:f90 ((t,()),())=some ((dI t,()),()):=ap;rw[h] at ap;have hl:=C2 t (rk h) hb (jj h);simp only[f127,g1,List.nil_append,Option.bind_some,ap,cond_true,hl,beq_self_eq_true]
theorem abW{n:bB}(h:dp n=true):b5 32 (cG n):=by
 obtain⟨h1,h2⟩:=wX h;have hs:b5 32 (dz n.kind):=by unfold dz;cases n.kind==1<;>cases n.kind==2<;>cases n.kind==3<;>exact b5.lit (by decide)
 refine((R1 h1).cP hs).cP ?_
 rcases h2 with⟨_,h2⟩|⟨_,h2⟩
 ·rw[h2];exact b5.nil _
 ·exact RT h2
abbrev hN(rest:F)(i:Int)(ns:List bB)(bC vs:F)(lines:List F):tZ.J:=(((),((),((),(rest,(i,()))))),(([]:List bB),(([]:List aA),((([]:F),(([]:F),((),((),())))),(ns,(([]:List aA),((bC,(vs,((),((),())))),(lines,()))))))))
abbrev pf(r:F)(ok:Bool)(ns:List bB)(bC vs:F):HB.J:=(((),(r,(ok,()))),(ns,(([]:List aA),((bC,(vs,((),((),())))),()))))
abbrev KK(ns:List bB)(bC vs:F):ay xN:=.inr (((),((),())),(([]:List bB),(([]:List aA),((([]:F),(([]:F),((),((),())))),(ns,(([]:List aA),((bC,(vs,((),((),())))),())))))))
abbrev pg(k:Nat)(r:F)(ns:List bB)(bC vs:F):Prop:=r.length<=k/\ns.length<=9/\sU k ns/\bC.length<=k/\vs.length<=k
theorem ahs(K:Nat)(bM:K<=2000000)(lines:List F)(dW:∀x,x∈lines->x.length<=K):∀(k i:Nat) (rest:F) (ns:List bB) (bC vs:F),k+i=9->rest.length<=K->ns.length<=i->sU K ns->bC.length<=K->vs.length<=K->
  ∃(r:F) (ok:Bool) (kn:List bB) (ko ch:F),pg K r kn ko ch/\(kS (hN rest (i:Int) ns bC vs lines)=some (.inl (pf r ok kn ko ch))\/kS (hN rest (i:Int) ns bC vs lines)=some (KK kn ko ch)):=by
 intro k;induction k with
 |zero=>
  intro i rest ns bC vs hi hr hn ha h1 h2;refine⟨[],false,ns,bC,vs,⟨Nat.zero_le _,by omega,ha,h1,h2⟩,.inr (cm ?_)⟩
  have d:decide ((i:Int)<=8)=false:=decide_eq_false (by omega)
  simp only[gZ,d,cond_false];cases decide ((i:Int)<(lines.length:Int))<;>rfl
 |succ k ih=>
  intro i rest ns bC vs hi hr hn ha h1 h2;have d:decide ((i:Int)<=8)=true:=decide_eq_true (by omega)
  by_cases hlt:i<lines.length
  ·have hx:lines[i]? =some lines[i]:=List.getElem?_eq_getElem hlt;have hxl:=dW _ (List.getElem_mem hlt);generalize lines[i]=x at hx hxl;have hin:a6 lines.length (i:Int)=some i:=fS hlt;have hw1:IntKind.i64.wrap (((x.length:Nat):Int)+1)=((x.length+1:Nat):Int):=b0 (by unfold aq;omega)
   have kp:IntKind.i64.wrap (((i:Nat):Int)+1)=((i+1:Nat):Int):=b0 (by unfold aq;omega)
   have c2:=lv 32 x (by omega) 2
   have c2:f73 ((x,((32:Int),((2:Int),()))),())=_:=c2;have hm:=pj 32 2 x;have hp:=LS 32 2 x;generalize splitN 32 2 x=ws at c2 hm hp;obtain⟨O,more,rfl⟩:∃O more,ws=O::more:=by
    cases ws with
    |nil=>exact absurd hp (by decide)
    |cons a b=>exact⟨a,b,rfl⟩
   have gU:a6 (O::more).length (0:Int)=some 0:=IW (by simp)
   have dq:(O::more)[0]? =some O:=rfl;by_cases hlen:rest.length<x.length+1
   ·have jg:decide (((rest.length:Nat):Int)<((x.length+1:Nat):Int))=true:=decide_eq_true (by omega)
    refine⟨[],false,ns,bC,vs,⟨Nat.zero_le _,by omega,ha,h1,h2⟩,.inl (cm ?_)⟩
    simp only[gZ,cp hlt,d,cond_true,hin,Option.bind_some,hx,c2,hw1,jg]
   ·have jg:decide (((rest.length:Nat):Int)<((x.length+1:Nat):Int))=false:=decide_eq_false (by omega)
    have hs:br rest ((x.length+1:Nat):Int) ((rest.length:Nat):Int)=some (rest.drop (x.length+1)):=gl (by omega)
    have mK:(rest.drop (x.length+1)).length<=K:=by simp;omega
    generalize rest.drop (x.length+1)=r1 at hs mK;have go:∀(vM:List bB) (Bz vE:F),vM.length<=i+1->sU K vM->Bz.length<=K->vE.length<=K->gZ (hN rest (i:Int) ns bC vs lines)=some (.inl (hN r1 ((i+1:Nat):Int) vM Bz vE lines))->
      ∃(r:F) (ok:Bool) (kn:List bB) (ko ch:F),pg K r kn ko ch/\(kS (hN rest (i:Int) ns bC vs lines)=some (.inl (pf r ok kn ko ch))\/kS (hN rest (i:Int) ns bC vs lines)=some (KK kn ko ch)):=by
     intro vM Bz vE q1 q2 dr lm Cd;obtain⟨r,ok,kn,ko,ch,b,e⟩:=ih (i+1) r1 vM Bz vE (by omega) mK q1 q2 dr lm
     exact⟨r,ok,kn,ko,ch,b,e.imp (dD Cd).trans (dD Cd).trans⟩
    have stop:∀(r:F) (ok:Bool),r.length<=K->gZ (hN rest (i:Int) ns bC vs lines)=some (.inr (.inl (pf r ok ns bC vs)))->
      ∃(r:F) (ok:Bool) (kn:List bB) (ko ch:F),pg K r kn ko ch/\(kS (hN rest (i:Int) ns bC vs lines)=some (.inl (pf r ok kn ko ch))\/kS (hN rest (i:Int) ns bC vs lines)=some (KK kn ko ch)):=
     fun r ok q1 q2=>⟨r,ok,ns,bC,vs,⟨q1,by omega,ha,h1,h2⟩,.inl (cm q2)⟩
    match i,hn,hi,hin,kp,hlt,hx,d,go,stop,ih with
    |0,hn,hi,hin,kp,hlt,hx,d,go,stop,ih=>
     refine go ns bC vs (by omega) ha h1 h2 ?_
     have t1:((((0:Nat):Int))==1)=false:=rfl;have t2:decide ((((0:Nat):Int))>1)=false:=rfl;have t3:decide ((((0:Nat):Int))>0)=false:=rfl;simp only[gZ,cp hlt,d,cond_true,hin,Option.bind_some,hx,c2,hw1,jg,cond_false,hs,kN,t1,lu,t2,mV,t3,kp]
    |1,hn,hi,hin,kp,hlt,hx,d,go,stop,ih=>
     have t1:((((1:Nat):Int))==1)=true:=rfl;have t2:decide ((((1:Nat):Int))>1)=false:=rfl;have t3:decide ((((1:Nat):Int))>0)=true:=rfl;cases hc:(O==([112,97,99,107]:F))&&(((O::more).length:Int)==3) with
     |true=>
      rw[Bool.and_eq_true] at hc;obtain⟨aN,w2,rfl⟩:∃aN w2,more=[aN,w2]:=by
       have:more.length=2:=by have:=eq_of_beq hc.2;simp at this;omega
       match more,this with
       |[a,b],_=>exact⟨a,b,rfl⟩
      refine go ns aN w2 (by omega) ha (by have:=hm aN (by simp);omega) (by have:=hm w2 (by simp);omega) ?_
      have lo:a6 ([O,aN,w2]:List F).length (1:Int)=some 1:=rfl;have pc:a6 ([O,aN,w2]:List F).length (2:Int)=some 2:=rfl;have eB:([O,aN,w2]:List F)[1]? =some aN:=rfl;have fe:([O,aN,w2]:List F)[2]? =some w2:=rfl;simp only[gZ,cp hlt,d,cond_true,hin,Option.bind_some,hx,c2,hw1,jg,cond_false,hs,kN,t1,gU,dq,hc.1,hc.2,lo,pc,eB,fe,kp]
     |false=>
      refine stop [] false (Nat.zero_le _) ?_
      simp only[gZ,cp hlt,d,cond_true,hin,Option.bind_some,hx,c2,hw1,jg,cond_false,hs,kN,t1,gU,dq];cases bk:O==([112,97,99,107]:F) with
      |false=>simp only[cond_false,Option.bind_some,lu,t2,mV,t3,cond_true]
      |true=>
       rw[bk,Bool.true_and] at hc;simp only[cond_true,hc,cond_false,Option.bind_some,lu,t2,mV,t3]
    |j+2,hn,hi,hin,kp,hlt,hx,d,go,stop,ih=>
     have t1:((((j+2:Nat):Int))==1)=false:=by rw[beq_eq_false_iff_ne];omega
     have t2:decide ((((j+2:Nat):Int))>1)=true:=decide_eq_true (by omega)
     have t3:decide ((((j+2:Nat):Int))>0)=true:=decide_eq_true (by omega)
     cases hxe:x==([]:F) with
     |true=>
      refine stop r1 true mK ?_
      simp only[gZ,cp hlt,d,cond_true,hin,Option.bind_some,hx,c2,hw1,jg,cond_false,hs,kN,t1,lu,t2,hxe]
     |false=>
      cases hc:(O==([110,101,101,100]:F))&&(((O::more).length:Int)==2) with
      |true=>
       rw[Bool.and_eq_true] at hc;obtain⟨aN,rfl⟩:∃aN,more=[aN]:=by
        have:more.length=1:=by have:=eq_of_beq hc.2;simp at this;omega
        match more,this with
        |[a],_=>exact⟨a,rfl⟩
       have asZ:=hm aN (by simp)
       obtain⟨n,ok,e1,e2,bz⟩:=Z3 aN (by omega)
       have fa:cy 40 ns ([(bB.mk n.name n.kind n.a8)]:List bB)=some (ns++[n]):=dZ (by decide) (by unfold aq;simp;omega)
       refine go (ns++[n]) bC vs (by simp;omega) (fun z hz=>by
        rcases List.mem_append.1 hz with hz|hz
        ·exact ha z hz
        ·rw[List.mem_singleton.1 hz];exact⟨by omega,by omega⟩) h1 h2 ?_
       have lo:a6 ([O,aN]:List F).length (1:Int)=some 1:=rfl;have eB:([O,aN]:List F)[1]? =some aN:=rfl;simp only[gZ,cp hlt,d,cond_true,hin,Option.bind_some,hx,c2,hw1,jg,cond_false,hs,kN,t1,lu,t2,hxe,mV,gU,dq,hc.1,hc.2,lo,eB,e1,fa,kp]
      |false=>
       refine stop [] false (Nat.zero_le _) ?_
       simp only[gZ,cp hlt,d,cond_true,hin,Option.bind_some,hx,c2,hw1,jg,cond_false,hs,kN,t1,lu,t2,hxe,mV,gU,dq];cases bk:O==([110,101,101,100]:F) with
       |false=>simp only[cond_false,Option.bind_some,t3,cond_true]
       |true=>
        rw[bk,Bool.true_and] at hc;simp only[cond_true,hc,cond_false,Option.bind_some,t3]
  ·have ar0:decide ((i:Int)<(lines.length:Int))=false:=decide_eq_false (by omega)
   refine⟨[],false,ns,bC,vs,⟨Nat.zero_le _,by omega,ha,h1,h2⟩,.inr (cm ?_)⟩
   simp only[gZ,ar0,cond_false]
theorem Zu(s:F)(hs:s.length<=2000000):∃(r:F) (ok:Bool) (ns:List bB) (bC vs:F),f126 ((s,()),())=some (pf r ok ns bC vs)/\pg s.length r ns bC vs:=by
 have hw:IntKind.i64.wrap (((s.length:Nat):Int)+1)=((s.length+1:Nat):Int):=b0 (by unfold aq;omega)
 have c1:=lv 10 s (by omega) (s.length+1)
 have c1:f73 ((s,((10:Int),(((s.length+1:Nat):Int),()))),())=_:=c1;obtain⟨r,ok,ns,bC,vs,hb,e⟩:=ahs s.length hs (splitN 10 (s.length+1) s) (pj 10 _ s) 9 0 s [] [] [] rfl (Nat.le_refl _) (Nat.zero_le _) (fun x hx=>by cases hx) (Nat.zero_le _) (Nat.zero_le _)
 rcases e with e|e
 ·have e:kS (hN s (0:Int) [] [] [] (splitN 10 (s.length+1) s))=_:=e;refine⟨r,ok,ns,bC,vs,?_,hb⟩;simp only[f126,hw,c1,Option.bind_some,e]
 ·have e:kS (hN s (0:Int) [] [] [] (splitN 10 (s.length+1) s))=_:=e;refine⟨[],false,ns,bC,vs,?_,⟨Nat.zero_le _,hb.2⟩⟩;simp only[f126,hw,c1,Option.bind_some,e]
noncomputable abbrev aqB:bh:=[(50,JW),(123,Im),(126,Vf),(127,Ve)]
theorem J1:a7 U (bg aj aqB):=bf ⟨VT,RS,aj6,z127,⟨⟩⟩
abbrev P0:Shape:=⟨[ao 0,aM 2 2 0,aM 4 4 0,ao 5,au 6],[bv 5000130 .need 2 2,bv 5000131 .entry 2 3,aL 2 [ai,ai,.own 5000130,.own 5000131],bv 5000258 .need 4 2,bv 5000259 .entry 4 3,aL 4 [ai,ai,.own 5000258,.own 5000259]],45⟩
abbrev PR:List aO:=[(.norm,⟨[ao 0,aM 2 2 0,aM 4 4 0,ao 5,au 21],[bv 5000130 .need 2 2,bv 5000131 .entry 2 3,aL 2 [ai,ai,.own 5000130,.own 5000131],bv 5000258 .need 4 2,bv 5000259 .entry 4 3,aL 4 [ai,ai,.own 5000258,.own 5000259]],45⟩)]
noncomputable def nq(y:P0.J):Option (ay PR):=
 bif(!(!y.1.2.2.2.2.1)) then
 some ((y.1.1,(),(),y.1.2.2.2.1,(decide ((y.1.1.length:Int)>(4000:Int))),()),y.2.1,y.2.2.1,(y.2.2.2.1.1,y.2.2.2.1.2.1,(),(),()),y.2.2.2.2.1,y.2.2.2.2.2.1,(y.2.2.2.2.2.2.1.1,y.2.2.2.2.2.2.1.2.1,(),(),()),())
else
 some ((y.1.1,(),(),y.1.2.2.2.1,true,()),y.2.1,y.2.2.1,(y.2.2.2.1.1,y.2.2.2.1.2.1,(),(),()),y.2.2.2.2.1,y.2.2.2.2.2.1,(y.2.2.2.2.2.2.1.1,y.2.2.2.2.2.2.1.2.1,(),(),()),())
theorem ag5:aW U (an (codeOf Tryz.f76) 1 28) (a_ P0 PR nq):=cS J1 (by kernel_rfl) ag fun y=>by kernel_rfl
abbrev OS:Shape:=⟨[ao 0,aM 2 2 0,aM 4 4 0,au 8],[bv 5000130 .need 2 2,bv 5000131 .entry 2 3,aL 2 [ai,ai,.own 5000130,.own 5000131],bv 5000258 .need 4 2,bv 5000259 .entry 4 3,aL 4 [ai,ai,.own 5000258,.own 5000259]],45⟩
abbrev Oz:List aO:=[(.norm,⟨[aM 2 2 0,aM 4 4 0,au 42],[bv 5000130 .need 2 2,bv 5000131 .entry 2 3,aL 2 [ai,ai,.own 5000130,.own 5000131],bv 5000258 .need 4 2,bv 5000259 .entry 4 3,aL 4 [ai,ai,.own 5000258,.own 5000259]],45⟩)]
noncomputable def pO(y:OS.J):Option (ay Oz):=
 bif(!(!y.1.2.2.2.1)) then
(f50 (((y.2.2.2.2.2.2.1.1,y.2.2.2.2.2.2.1.2.1,y.2.2.2.2.1,y.2.2.2.2.2.1,()),()),())).bind fun a=>
 bif(!(!a.1.1)) then
(f123 (((y.2.2.2.2.2.2.1.1,y.2.2.2.2.2.2.1.2.1,y.2.2.2.2.1,y.2.2.2.2.2.1,()),()),())).bind fun b=>
 some (((),(),(!(b.1.1==y.1.1)),()),y.2.1,y.2.2.1,(y.2.2.2.1.1,y.2.2.2.1.2.1,(),(),()),y.2.2.2.2.1,y.2.2.2.2.2.1,(y.2.2.2.2.2.2.1.1,y.2.2.2.2.2.2.1.2.1,(),(),()),())
else
 some (((),(),true,()),y.2.1,y.2.2.1,(y.2.2.2.1.1,y.2.2.2.1.2.1,(),(),()),y.2.2.2.2.1,y.2.2.2.2.2.1,(y.2.2.2.2.2.2.1.1,y.2.2.2.2.2.2.1.2.1,(),(),()),())
else
 some (((),(),true,()),y.2.1,y.2.2.1,(y.2.2.2.1.1,y.2.2.2.1.2.1,(),(),()),y.2.2.2.2.1,y.2.2.2.2.2.1,(y.2.2.2.2.2.2.1.1,y.2.2.2.2.2.2.1.2.1,(),(),()),())
theorem aeT:aW U (an (codeOf Tryz.f76) 1 252) (a_ OS Oz pO):=cS J1 (by kernel_rfl) ag fun y=>by kernel_rfl
abbrev i76:Shape:=⟨[ao 0],[],45⟩
abbrev vI:Shape:=⟨[aM 2 2 0,au 3],[bv 5000130 .need 2 2,bv 5000131 .entry 2 3,aL 2 [ai,ai,.own 5000130,.own 5000131]],45⟩
noncomputable def f76(a:i76.J):Option vI.J:=
(f126 ((a.1.1,()),())).bind fun b=>
(nq ((a.1.1,(),(),b.1.2.1,b.1.2.2.1,()),([]:List bB),([]:List aA),(([]:F),([]:F),(),(),()),b.2.1,b.2.2.1,(b.2.2.2.1.1,b.2.2.2.1.2.1,(),(),()),())).bind fun c=>
 bif c.1.2.2.2.2.1 then
 some (((),false,()),([]:List bB),([]:List aA),(([]:F),([]:F),(),(),()),())
else
(f127 ((c.1.2.2.2.1,()),())).bind fun d=>
(pO ((c.1.1,(),(),d.1.2.1,()),c.2.1,c.2.2.1,(c.2.2.2.1.1,c.2.2.2.1.2.1,(),(),()),c.2.2.2.2.1,d.2.1,(c.2.2.2.2.2.2.1.1,c.2.2.2.2.2.2.1.2.1,(),(),()),())).bind fun e=>
 bif e.1.2.2.1 then
 some (((),false,()),([]:List bB),([]:List aA),(([]:F),([]:F),(),(),()),())
else
 some (((),true,()),e.2.2.2.2.1,e.2.2.2.2.2.1,(e.2.2.2.2.2.2.1.1,e.2.2.2.2.2.2.1.2.1,(),(),()),())
noncomputable def Xy:aH:=aP aj Tryz.f76 i76 vI [] f76
theorem z76:aF U 76 Xy:=aS J1 Tryz.func76 (by kernel_rfl) (a' ag5 (a' aeT ag)) (fun y=>by kernel_rfl) fun a=>by kernel_rfl
def ea(n:bB):F:=fx++32::cG n
theorem ahC{n:bB}(h:dp n=true):b5 10 (ea n):=(b5.lit (by decide)).cP fun z hz=>by
 rcases List.mem_cons.1 hz with rfl|hz
 ·decide
 ·exact O7 h z hz
theorem N0(n:bB)(r:F):cF n++r=ea n++10::r:=by unfold cF ea fx;simp
theorem ahr:∀(ns acc:List bB) (pre more:List F) (L bC vs:F),(∀n,n∈ns->dp n=true)->2<=pre.length->acc.length<=pre.length->pre.length+ns.length<=8->(ns.flatMap cF++10::L).length<=2000000->
  kS (hN (ns.flatMap cF++10::L) (pre.length:Int) acc bC vs (pre++(ns.map ea++[]::more)))=some (.inl (pf L true (acc++ns) bC vs)):=by
 intro ns;induction ns with
 |nil=>
  intro acc pre more L bC vs _ hp _ hi hs;have hlt:pre.length<(pre++(([]:List bB).map ea++[]::more)).length:=by simp
  have hx:(pre++(([]:List bB).map ea++[]::more))[pre.length]? =some []:=by rw[List.getElem?_append_right (Nat.le_refl _)];simp
  have hin:=fS hlt;have d:decide ((pre.length:Int)<=8)=true:=decide_eq_true (by simp at hi;omega)
  have c2:=lv 32 [] (by simp) 2
  have c2:f73 ((([]:F),((32:Int),((2:Int),()))),())=some (((),()),([[]],())):=c2;have hw1:IntKind.i64.wrap (((([]:F).length:Nat):Int)+1)=((1:Nat):Int):=by decide
  have jg:decide (((((10:UInt8)::L).length:Nat):Int)<((1:Nat):Int))=false:=decide_eq_false (by simp only[List.length_cons];omega)
  have kr:br ((10:UInt8)::L) ((1:Nat):Int) ((((10:UInt8)::L).length:Nat):Int)=some L:=gl (xs:=(10:UInt8)::L) (by simp)
  have t1:((pre.length:Int)==1)=false:=by rw[beq_eq_false_iff_ne];omega
  have t2:decide ((pre.length:Int)>1)=true:=decide_eq_true (by omega)
  have hxe:(([]:F)==([]:F))=true:=rfl;rw[List.append_nil];refine cm ?_
  show gZ (hN (10::L) (pre.length:Int) acc bC vs _)=_;simp only[gZ,cp hlt,d,cond_true,hin,Option.bind_some,hx,c2,hw1,jg,cond_false,kr,kN,t1,lu,t2,hxe]
 |cons n ns ih=>
  intro acc pre more L bC vs h hp ha hi hs;have hk:=h n List.mem_cons_self;have hE:(n::ns).flatMap cF++10::L=ea n++10::(ns.flatMap cF++10::L):=by rw[List.flatMap_cons,List.append_assoc,N0]
  rw[hE] at hs ⊢;have hR:pre++((n::ns).map ea++[]::more)=(pre++[ea n])++(ns.map ea++[]::more):=by simp
  have hlt:pre.length<(pre++((n::ns).map ea++[]::more)).length:=by simp
  have hx:(pre++((n::ns).map ea++[]::more))[pre.length]? =some (ea n):=by rw[List.getElem?_append_right (Nat.le_refl _)];simp
  have hin:=fS hlt;have ato:(ea n).length=fx.length+1+(cG n).length:=by unfold ea;simp;omega
  simp only[List.length_append,List.length_cons] at hs hi;have d:decide ((pre.length:Int)<=8)=true:=decide_eq_true (by omega)
  have qs:splitN 32 2 (ea n)=[fx,cG n]:=by
   have hn:b5 32 fx:=b5.lit (by decide)
   unfold ea;rw[LU hn,Mz (abW hk)]
  have c2:=lv 32 (ea n) (by omega) 2
  rw[qs] at c2;have c2:f73 ((ea n,((32:Int),((2:Int),()))),())=some (((),()),([fx,cG n],())):=c2;have hw1:IntKind.i64.wrap ((((ea n).length:Nat):Int)+1)=(((ea n).length+1:Nat):Int):=b0 (by unfold aq;omega)
  have kp:IntKind.i64.wrap (((pre.length:Nat):Int)+1)=((pre.length+1:Nat):Int):=b0 (by unfold aq;omega)
  have jg:decide ((((ea n++10::(ns.flatMap cF++10::L)).length:Nat):Int)<(((ea n).length+1:Nat):Int))=false:=decide_eq_false (by simp;omega)
  have kr:br (ea n++10::(ns.flatMap cF++10::L)) (((ea n).length+1:Nat):Int) (((ea n++10::(ns.flatMap cF++10::L)).length:Nat):Int)=some (ns.flatMap cF++10::L):=by
   rw[gl (by simp only[List.length_append,List.length_cons];omega)]
   refine congrArg some ?_
   rw[show ea n++10::(ns.flatMap cF++10::L)=(ea n++[10])++(ns.flatMap cF++10::L) by simp,List.drop_left' (by simp)]
  have t1:((pre.length:Int)==1)=false:=by rw[beq_eq_false_iff_ne];omega
  have t2:decide ((pre.length:Int)>1)=true:=decide_eq_true (by omega)
  have hxe:(ea n==([]:F))=false:=rfl;have gU:a6 ([fx,cG n]:List F).length (0:Int)=some 0:=rfl;have lo:a6 ([fx,cG n]:List F).length (1:Int)=some 1:=rfl;have dq:([fx,cG n]:List F)[0]? =some fx:=rfl;have eB:([fx,cG n]:List F)[1]? =some (cG n):=rfl;have q0:(fx==([110,101,101,100]:F))=true:=rfl;have q2:((([fx,cG n]:List F).length:Int)==2)=true:=rfl;obtain⟨ok,e1⟩:=Z2 hk (by omega)
  have fa:cy 40 acc ([(bB.mk n.name n.kind n.a8)]:List bB)=some (acc++[n]):=dZ (by decide) (by unfold aq;simp;omega)
  have st:gZ (hN (ea n++10::(ns.flatMap cF++10::L)) (pre.length:Int) acc bC vs (pre++((n::ns).map ea++[]::more)))=some (.inl (hN (ns.flatMap cF++10::L) ((pre.length+1:Nat):Int) (acc++[n]) bC vs (pre++((n::ns).map ea++[]::more)))):=by
   simp only[gZ,cp hlt,d,cond_true,hin,Option.bind_some,hx,c2,hw1,jg,cond_false,kr,kN,t1,lu,t2,hxe,mV,gU,dq,q0,q2,lo,eB,e1,fa,kp]
  have:=ih (acc++[n]) (pre++[ea n]) more L bC vs (fun x hx=>h x (List.mem_cons_of_mem _ hx)) (by simp;omega) (by simp;omega) (by simp;omega) (by simp only[List.length_append,List.length_cons];omega)
  rw[<-hR,List.append_assoc] at this;have oY:(pre++[ea n]).length=pre.length+1:=by simp
  rw[oY] at this;exact(dD st).trans this
theorem _x(ns:List bB)(r:F)(h:∀n,n∈ns->dp n=true):bJ 10 (ns.flatMap cF++10::r)=ns.map ea++[]::bJ 10 r:=by
 induction ns with
 |nil=>exact rc (a:=[]) (b5.nil 10)
 |cons n ns ih=>
  rw[List.flatMap_cons,List.append_assoc,N0,rc (ahC (h n List.mem_cons_self)),ih fun x hx=>h x (List.mem_cons_of_mem _ hx)]
  rfl
theorem aeM(p:ba):b5 10 (eD p):=(b5.lit (by decide)).cP (ON _)
theorem Zt(p:ba)(hk:cH p=true)(hs:(bI p).length<=2000000):f126 ((bI p,()),())=some (pf (c_ p.bW) true p.bm p.name p.a8):=by
 have hw:IntKind.i64.wrap ((((bI p).length:Nat):Int)+1)=(((bI p).length+1:Nat):Int):=b0 (by unfold aq;omega)
 have c1:=lv 10 (bI p) (by omega) ((bI p).length+1)
 obtain⟨h1,h2,h3,ax,_,cl⟩:=mX hk;have kq:splitN 10 ((bI p).length+1) (bI p)=eD p::dN p::(p.bm.map ea++[]::bJ 10 (c_ p.bW)):=by
  rw[w4 10 _ _ (by omega),uk,rc (aeM p),uc,rc (N7 hk),iv,_x _ _ h3]
 rw[kq] at c1;have c1:f73 ((bI p,((10:Int),((((bI p).length+1:Nat):Int),()))),())=_:=c1;generalize arT:p.bm.map ea++[]::bJ 10 (c_ p.bW)=e4 at c1;have Ch:bI p=eD p++10::de p:=uk p;have hB:de p=dN p++10::iv p:=uc p;have eb:(bI p).length=(eD p).length+1+(de p).length:=by rw[Ch];simp;omega
 have gw:(de p).length=(dN p).length+1+(iv p).length:=by rw[hB];simp;omega
 have hlt:∀i,i<2->decide (((i:Nat):Int)<(((eD p::dN p::e4).length:Nat):Int))=true:=fun i hi=>decide_eq_true (by simp;omega)
 have i0:a6 (eD p::dN p::e4).length (0:Int)=some 0:=IW (by simp)
 have i1:a6 (eD p::dN p::e4).length ((0+1:Nat):Int)=some 1:=IV (by simp)
 have e0:(eD p::dN p::e4)[0]? =some (eD p):=rfl;have dV:(eD p::dN p::e4)[1]? =some (dN p):=rfl;have h7:gZ (hN (bI p) (0:Int) [] [] [] (eD p::dN p::e4))=some (.inl (hN (de p) ((0+1:Nat):Int) [] [] [] (eD p::dN p::e4))):=by
  have d:decide ((0:Int)<=8)=true:=rfl;have d0:decide ((0:Int)<(((eD p::dN p::e4).length:Nat):Int))=true:=hlt 0 (by decide)
  have c2:=lv 32 (eD p) (by omega) 2
  have c2:f73 ((eD p,((32:Int),((2:Int),()))),())=_:=c2;have hw1:IntKind.i64.wrap ((((eD p).length:Nat):Int)+1)=(((eD p).length+1:Nat):Int):=b0 (by unfold aq;omega)
  have jg:decide ((((bI p).length:Nat):Int)<(((eD p).length+1:Nat):Int))=false:=decide_eq_false (by omega)
  have kr:br (bI p) (((eD p).length+1:Nat):Int) (((bI p).length:Nat):Int)=some (de p):=by
   rw[gl (by omega)]
   refine congrArg some ?_
   rw[Ch,show eD p++10::de p=(eD p++[10])++de p by simp,List.drop_left' (by simp)]
  have t1:((0:Int)==1)=false:=rfl;have t2:decide ((0:Int)>1)=false:=rfl;have t3:decide ((0:Int)>0)=false:=rfl;have kp:IntKind.i64.wrap ((0:Int)+1)=((0+1:Nat):Int):=by decide
  simp only[gZ,d0,d,cond_true,i0,Option.bind_some,e0,c2,hw1,jg,cond_false,kr,kN,t1,lu,t2,mV,t3,kp]
 have s1:gZ (hN (de p) ((0+1:Nat):Int) [] [] [] (eD p::dN p::e4))=some (.inl (hN (iv p) ((([eD p,dN p]:List F).length:Nat):Int) [] p.name p.a8 (eD p::dN p::e4))):=by
  have d:decide (((0+1:Nat):Int)<=8)=true:=rfl;have d0:=hlt 1 (by decide)
  have d0:decide (((0+1:Nat):Int)<(((eD p::dN p::e4).length:Nat):Int))=true:=d0;have qs:splitN 32 2 (dN p)=[ib,p.name,p.a8]:=by
   rw[w5 32 2 _ (by rw[CI hk];exact Nat.le_refl 3),CI hk]
  have c2:=lv 32 (dN p) (by omega) 2
  rw[qs] at c2;have c2:f73 ((dN p,((32:Int),((2:Int),()))),())=some (((),()),([ib,p.name,p.a8],())):=c2;have hw1:IntKind.i64.wrap ((((dN p).length:Nat):Int)+1)=(((dN p).length+1:Nat):Int):=b0 (by unfold aq;omega)
  have jg:decide ((((de p).length:Nat):Int)<(((dN p).length+1:Nat):Int))=false:=decide_eq_false (by omega)
  have kr:br (de p) (((dN p).length+1:Nat):Int) (((de p).length:Nat):Int)=some (iv p):=by
   rw[gl (by omega)]
   refine congrArg some ?_
   rw[hB,show dN p++10::iv p=(dN p++[10])++iv p by simp,List.drop_left' (by simp)]
  have t1:(((0+1:Nat):Int)==1)=true:=rfl;have gU:a6 ([ib,p.name,p.a8]:List F).length (0:Int)=some 0:=rfl;have lo:a6 ([ib,p.name,p.a8]:List F).length (1:Int)=some 1:=rfl;have pc:a6 ([ib,p.name,p.a8]:List F).length (2:Int)=some 2:=rfl;have dq:([ib,p.name,p.a8]:List F)[0]? =some ib:=rfl;have eB:([ib,p.name,p.a8]:List F)[1]? =some p.name:=rfl;have fe:([ib,p.name,p.a8]:List F)[2]? =some p.a8:=rfl;have q0:(ib==([112,97,99,107]:F))=true:=rfl;have dr:((([ib,p.name,p.a8]:List F).length:Int)==3)=true:=rfl;have kp:IntKind.i64.wrap (((0+1:Nat):Int)+1)=((([eD p,dN p]:List F).length:Nat):Int):=by show IntKind.i64.wrap (((0+1:Nat):Int)+1)=((2:Nat):Int);decide
  simp only[gZ,d0,d,cond_true,i1,Option.bind_some,dV,c2,hw1,jg,cond_false,kr,kN,t1,gU,dq,q0,dr,lo,pc,eB,fe,kp]
 have s2:=ahr p.bm [] [eD p,dN p] (bJ 10 (c_ p.bW)) (c_ p.bW) p.name p.a8 h3 (Nat.le_refl 2) (Nat.zero_le _) (by simp;omega) (by show(iv p).length<=_;omega)
 rw[arT] at s2;have e:kS (hN (bI p) (0:Int) [] [] [] (eD p::dN p::e4))=some (.inl (pf (c_ p.bW) true p.bm p.name p.a8)):=(dD h7).trans ((dD s1).trans s2);simp only[f126,hw,c1,Option.bind_some,e]
abbrev q3(p:ba):vI.J:=(((),(true,())),(p.bm,(p.bW,((p.name,(p.a8,((),((),())))),()))))
abbrev KF:vI.J:=(((),(false,())),(([]:List bB),(([]:List aA),((([]:F),(([]:F),((),((),())))),()))))
theorem ahT{p q:ba}(h:q3 p=q3 q):p=q:=by
 obtain⟨a,b,c,d⟩:=p;obtain⟨cL,bH,fg,Yu⟩:=q;simp only[q3,Prod.mk.injEq] at h;obtain⟨_,rfl,rfl,⟨rfl,rfl,_⟩,_⟩:=h;rfl
theorem Cv{p:ba}(hk:cH p=true)(hl:(bI p).length<=4000):f76 ((bI p,()),())=some (q3 p):=by
 have hb:=Gx hk hl;obtain⟨h1,h2,h3,ax,_,cl⟩:=mX hk;obtain⟨q1,q2,dr,lm⟩:=w_ p;have c1:=Zt p hk (by omega)
 have d:decide (((bI p).length:Int)>4000)=false:=decide_eq_false (by omega)
 have c2:=YU p.bW cl (by omega) hb.2.2.2
 have c3:=DL (((p.name,(p.a8,(p.bm,(p.bW,())))),()),()) hb;have c3:f50 (((p.name,(p.a8,(p.bm,(p.bW,())))),()),())=some ((cH p,()),()):=c3;rw[hk] at c3;have c5:=EK p hb hk;simp only[f76,c1,Option.bind_some,nq,Bool.not_true,Bool.not_false,cond_true,d,cond_false,c2,pO,c3,c5,beq_self_eq_true]
theorem Y'(s:F)(hs:s.length<=2000000):f76 ((s,()),())=some KF\/∃p:ba,f76 ((s,()),())=some (q3 p)/\cH p=true/\bI p=s/\s.length<=4000:=by
 obtain⟨r,ok,ns,bC,vs,c1,aD,az,bD,cQ,fF⟩:=Zu s hs;cases ok with
 |false=>
  refine .inl ?_
  simp only[f76,c1,Option.bind_some,nq,Bool.not_true,Bool.not_false,cond_true,cond_false]
 |true=>
  by_cases hl:s.length<=4000
  ·have d:decide ((s.length:Int)>4000)=false:=decide_eq_false (by omega)
   obtain⟨IM,t,c2,h9,wH⟩:=YV r (by omega)
   cases IM with
   |false=>
    refine .inl ?_
    simp only[f76,c1,Option.bind_some,nq,Bool.not_true,Bool.not_false,cond_true,d,cond_false,c2,pO]
   |true=>
    have hb:ky ⟨bC,vs,ns,t⟩:=⟨by show bC.length<=2097152;omega,by show vs.length<=2097152;omega,⟨by show ns.length<=2097152;omega,fun n hn=>by have:=bD n hn;exact⟨by show n.name.length<=2097152;omega,by show n.a8.length<=2097152;omega⟩⟩,PI h9 wH⟩
    have c3:=DL (((bC,(vs,(ns,(t,())))),()),()) hb;have c3:f50 (((bC,(vs,(ns,(t,())))),()),())=some ((cH ⟨bC,vs,ns,t⟩,()),()):=c3;cases hk:cH ⟨bC,vs,ns,t⟩ with
    |false=>
     rw[hk] at c3;refine .inl ?_
     simp only[f76,c1,Option.bind_some,nq,Bool.not_true,Bool.not_false,cond_true,d,cond_false,c2,pO,c3]
    |true=>
     rw[hk] at c3;have c5:=EK ⟨bC,vs,ns,t⟩ hb hk;have c5:f123 (((bC,(vs,(ns,(t,())))),()),())=_:=c5;cases he:bI ⟨bC,vs,ns,t⟩==s with
     |false=>
      refine .inl ?_
      simp only[f76,c1,Option.bind_some,nq,Bool.not_true,Bool.not_false,cond_true,d,cond_false,c2,pO,c3,c5,he]
     |true=>
      refine .inr ⟨⟨bC,vs,ns,t⟩,?_,hk,eq_of_beq he,hl⟩;simp only[f76,c1,Option.bind_some,nq,Bool.not_true,Bool.not_false,cond_true,d,cond_false,c2,pO,c3,c5,he]
  ·have d:decide ((s.length:Int)>4000)=true:=decide_eq_true (by omega)
   refine .inl ?_
   simp only[f76,c1,Option.bind_some,nq,Bool.not_true,Bool.not_false,cond_true,d]
def ar5(B:Option ba):vI.J:=match B with|some p=>q3 p|none=>KF
theorem aa8(s:F)(hs:s.length<=2000000):∃B:Option ba,f76 ((s,()),())=some (ar5 B)/\nu B (WL s):=by
 rcases Y' s hs with h|⟨p,h,h1,h2,h3⟩
 ·refine⟨none,h,fun p=>⟨fun hp=>(by cases hp),fun⟨q1,q2,dr⟩=>?_⟩⟩
  subst q2;have:=Cv q1 dr;rw[h] at this;simp only[Option.some.injEq,Prod.mk.injEq] at this;exact absurd this.1.2.1 (by decide)
 ·refine⟨some p,h,fun q=>⟨fun hp=>?_,fun⟨q1,q2,dr⟩=>?_⟩⟩
  ·cases hp;exact⟨h1,h2,h3⟩
  ·subst q2;have:=Cv q1 dr;rw[h] at this;rw[ahT (Option.some.inj this)]
noncomputable abbrev aqQ:bh:=[(30,B7),(70,B4),(73,to),(74,B3),(75,nZ),(76,Xy)]
theorem B_:a7 U (bg aj aqQ):=bf ⟨IE,z70,vC,IB,z75,z76,⟨⟩⟩
abbrev NO:Shape:=⟨[ao 0,aM 2 2 0,aM 4 4 0,bc 6 3000384,ae 7],[bv 5000128 .pack 2 0,aL 2 [.own 5000128],bv 5000256 .pack 4 0,aL 4 [.own 5000256],bb 3000384 .str 6 0],73⟩
abbrev NA:List aO:=[(.norm,⟨[ao 0,aM 2 2 0,aM 4 4 0,bc 6 3000384,ae 7,au 37],[bv 5000128 .pack 2 0,aL 2 [.own 5000128],bv 5000256 .pack 4 0,aL 4 [.own 5000256],bb 3000384 .str 6 0],73⟩)]
noncomputable def pC(y:NO.J):Option (ay NA):=
 bif(!(decide ((y.2.2.2.2.2.1.length:Int)<(2:Int)))) then
(a6 y.2.2.2.2.2.1.length (1:Int)).bind fun a=>
(y.2.2.2.2.2.1[a]?).bind fun b=>
(f75 ((y.1.2.2.2.2.1,(1:Int),(b.length:Int),()),())).bind fun c=>
 some ((y.1.1,(),(),(),y.1.2.2.2.2.1,(!c.1.1),()),y.2.1,((),()),y.2.2.2.1,((),()),y.2.2.2.2.2.1,())
else
 some ((y.1.1,(),(),(),y.1.2.2.2.2.1,true,()),y.2.1,((),()),y.2.2.2.1,((),()),y.2.2.2.2.2.1,())
theorem adm:aW U (an (c8 (an (codeOf Tryz.f39) 1 60)) 120 7724) (a_ NO NA pC):=cS B_ (by kernel_rfl) ag fun y=>by kernel_rfl
abbrev uC:Shape:=⟨[ao 0,aM 2 2 0,aM 4 4 0,ao 5],[bv 5000128 .pack 2 0,aL 2 [.own 5000128],bv 5000256 .pack 4 0,aL 4 [.own 5000256]],73⟩
abbrev zB:List aO:=[(.ret,⟨[aM 2 2 0,au 3],[bv 5000128 .pack 2 0,aL 2 [.own 5000128]],73⟩),(.exit 0,⟨[ao 0,aM 2 2 0,aM 4 4 0],[bv 5000128 .pack 2 0,aL 2 [.own 5000128],bv 5000256 .pack 4 0,aL 4 [.own 5000256]],73⟩)]
noncomputable def nr(y:uC.J):bQ uC zB:=
 bif(!(y.1.2.2.2.1==([]:F))) then
 bif(decide ((y.2.2.2.1.length:Int)<=(5:Int))) then
(f73 ((y.1.2.2.2.1,(10:Int),(1:Int),()),())).bind fun a=>
(a6 a.2.1.length (0:Int)).bind fun b=>
(a.2.1[b]?).bind fun c=>
(f74 ((c,()),())).bind fun d=>
(pC ((y.1.1,(),(),(),d.1.1,()),y.2.1,((),()),y.2.2.2.1,((),()),a.2.1,())).bind fun e=>
 bif e.1.2.2.2.2.2.1 then
 some (.inr (.inl (((),false,()),([]:List ba),((),()),())))
else
(a6 e.2.2.2.2.2.1.length (1:Int)).bind fun f=>
(e.2.2.2.2.2.1[f]?).bind fun g=>
(br g (0:Int) e.1.2.2.2.2.1).bind fun h=>
(f76 ((h,()),())).bind fun i=>
 bif(!i.1.2.1) then
 some (.inr (.inl (((),false,()),([]:List ba),((),()),())))
else
(cy 80 e.2.2.2.1 ([(ba.mk i.2.2.2.1.1 i.2.2.2.1.2.1 i.2.1 i.2.2.1)]:List ba)).bind fun j=>
(a6 e.2.2.2.2.2.1.length (1:Int)).bind fun k=>
(e.2.2.2.2.2.1[k]?).bind fun l=>
(br l e.1.2.2.2.2.1 (l.length:Int)).bind fun m=>
 some (.inl ((e.1.1,(),(),m,()),e.2.1,((),()),j,((),()),()))
else
 some (.inr (.inr ((y.1.1,(),(),()),y.2.1,((),()),y.2.2.2.1,((),()),())))
else
 some (.inr (.inr ((y.1.1,(),(),()),y.2.1,((),()),y.2.2.2.1,((),()),())))
noncomputable def uF:uC.J->Option (ay zB):=bx nr
theorem ahg:aW U (an (codeOf Tryz.f39) 1 60) (a_ uC zB uF):=bR B_ (by kernel_rfl) (a' adm ag) fun y=>by kernel_rfl
abbrev OU:Shape:=⟨[ao 0,aM 2 2 0,aM 4 4 0],[bv 5000128 .pack 2 0,aL 2 [.own 5000128],bv 5000256 .pack 4 0,aL 4 [.own 5000256]],73⟩
abbrev OB:List aO:=[(.norm,⟨[aM 2 2 0,aM 4 4 0,au 70],[bv 5000128 .pack 2 0,aL 2 [.own 5000128],bv 5000256 .pack 4 0,aL 4 [.own 5000256]],73⟩)]
noncomputable def rN(y:OU.J):Option (ay OB):=
(f30 (((y.2.2.2.1,()),()),())).bind fun a=>
 bif(!(!a.1.1)) then
(f70 (((y.2.2.2.1,()),()),())).bind fun b=>
 some (((),(),(!(b.1.1==y.1.1)),()),y.2.1,((),()),y.2.2.2.1,((),()),())
else
 some (((),(),true,()),y.2.1,((),()),y.2.2.2.1,((),()),())
theorem aeZ:aW U (an (codeOf Tryz.f39) 1 124) (a_ OU OB rN):=cS B_ (by kernel_rfl) ag fun y=>by kernel_rfl
abbrev i39:Shape:=⟨[ao 0],[],73⟩
abbrev vK:Shape:=⟨[aM 2 2 0,au 3],[bv 5000128 .pack 2 0,aL 2 [.own 5000128]],73⟩
noncomputable def f39(a:i39.J):Option vK.J:=
(uF ((a.1.1,(),(),a.1.1,()),([]:List ba),((),()),([]:List ba),((),()),())).bind fun b=>
(match b with
|.inl c=>
 some (((),c.1.2.1,()),c.2.1,((),()),())
|.inr d=>
(rN ((d.1.1,(),(),()),d.2.1,((),()),d.2.2.2.1,((),()),())).bind fun e=>
 bif e.1.2.2.1 then
 some (((),false,()),([]:List ba),((),()),())
else
 some (((),true,()),e.2.2.2.1,((),()),()))
noncomputable def XK:aH:=aP aj Tryz.f39 i39 vK [] f39
theorem anz:aF U 39 XK:=aS B_ Tryz.func39 (by kernel_rfl) (a' ahg (a' aeZ ag)) (fun y=>by kernel_rfl) fun a=>by kernel_rfl
noncomputable abbrev aq2:bh:=[(39,XK)]
theorem arl:a7 U (bg aj aq2):=bf ⟨anz,⟨⟩⟩
abbrev i12:Shape:=⟨[cB 0 [ai,ai]],[],17⟩
abbrev WF:Shape:=⟨[au 2],[],17⟩
noncomputable def f12(a:i12.J):Option WF.J:=
(f39 ((a.1.1.1,()),())).bind fun b=>
 bif b.1.2.1 then
 some (((a.1.1.2.1==([]:F)),()),())
else
 some ((false,()),())
noncomputable def wo:aH:=aP aj Tryz.f12 i12 WF [] f12
theorem z12:aF U 12 wo:=aS arl Tryz.func12 (by kernel_rfl) ag (fun y=>by kernel_rfl) fun a=>by kernel_rfl
abbrev q6(s rest:F)(ps:List ba):uC.J:=((s,((),((),(rest,())))),(([]:List ba),(((),()),(ps,(((),()),())))))
abbrev Yy(s:F)(ps:List ba):ay zB:=.inr ((s,((),((),()))),(([]:List ba),(((),()),(ps,(((),()),())))))
abbrev KE(ps:List ba):vK.J:=(((),(true,())),(ps,(((),()),())))
abbrev JZ:vK.J:=(((),(false,())),(([]:List ba),(((),()),())))
def aqp(B:Option (List ba)):vK.J:=match B with|some ps=>KE ps|none=>JZ
theorem agQ(s:F):∀(m:Nat) (r:F) (ps:List ba),r.length<=m->m<=2000000->ps.length<=6->oL ps->
  uF (q6 s r ps)=some (.inl JZ)\/∃bY:List ba,uF (q6 s r ps)=some (Yy s bY)/\oL bY/\bY.length<=6:=by
 intro m;induction m with
 |zero=>
  intro r ps hs _ hl ha;have:r=[]:=List.length_eq_zero_iff.1 (by omega)
  subst this;exact .inr ⟨ps,cm rfl,ha,hl⟩
 |succ m ih=>
  intro r ps hs hm hl ha;cases r with
  |nil=>exact .inr ⟨ps,cm rfl,ha,hl⟩
  |cons b r0=>
   have hne:((b::r0)==([]:F))=false:=rfl;generalize ey:b::r0=r at hs hne;by_cases bk:ps.length<=5
   ·have d:decide (((ps.length:Nat):Int)<=5)=true:=decide_eq_true (by omega)
    have c1:=lv 10 r (by omega) 1
    have c1:f73 ((r,((10:Int),((1:Int),()))),())=_:=c1;cases ar:df 10 r with
    |none=>
     have eP:splitN 10 1 r=[r]:=by unfold splitN;rw[ar]
     rw[eP] at c1;have n0:=pr r (by unfold aq;omega)
     have i0:a6 ([r]:List F).length (0:Int)=some 0:=rfl;have e0:([r]:List F)[0]? =some r:=rfl;have d2:decide ((([r]:List F).length:Int)<2)=true:=rfl;refine .inl (cm ?_);simp only[nr,hne,Bool.not_false,cond_true,d,c1,Option.bind_some,i0,e0,n0,pC,d2,Bool.not_true,cond_false]
    |some q=>
     obtain⟨bO,rest⟩:=q;have hlen:=(iO ar).1;have hlen:r.length=bO.length+1+rest.length:=by rw[hlen];simp;omega
     have eP:splitN 10 1 r=[bO,rest]:=by unfold splitN;rw[ar];rfl
     rw[eP] at c1;have n0:=pr bO (by unfold aq;omega)
     have i0:a6 ([bO,rest]:List F).length (0:Int)=some 0:=rfl;have i1:a6 ([bO,rest]:List F).length (1:Int)=some 1:=rfl;have e0:([bO,rest]:List F)[0]? =some bO:=rfl;have dV:([bO,rest]:List F)[1]? =some rest:=rfl;have d2:decide ((([bO,rest]:List F).length:Int)<2)=false:=rfl;have hin:=nm ((gq bO,((1:Int),((rest.length:Int),()))),());have hin:f75 ((gq bO,((1:Int),((rest.length:Int),()))),())=some ((within (gq bO) 1 (rest.length:Int),()),()):=hin;cases hw:within (gq bO) 1 (rest.length:Int) with
     |false=>
      rw[hw] at hin;refine .inl (cm ?_);simp only[nr,hne,Bool.not_false,cond_true,d,c1,Option.bind_some,i0,e0,n0,pC,d2,i1,dV,hin]
     |true=>
      rw[hw] at hin;have hb:=ry hw;obtain⟨n,hn⟩:∃n:Nat,gq bO=(n:Int):=⟨(gq bO).toNat,by omega⟩
      rw[hn] at hin n0 hb;have s1:br rest 0 ((n:Nat):Int)=some (rest.take n):=hO (by omega)
      have s2:br rest ((n:Nat):Int) ((rest.length:Nat):Int)=some (rest.drop n):=gl (by omega)
      have aoR:(rest.take n).length<=2000000:=by simp;omega
      obtain⟨B,g1,g2⟩:=aa8 (rest.take n) aoR;cases B with
      |none=>
       have g1:f76 ((rest.take n,()),())=some KF:=g1;refine .inl (cm ?_);simp only[nr,hne,Bool.not_false,cond_true,d,c1,Option.bind_some,i0,e0,n0,pC,d2,i1,dV,hin,Bool.not_true,cond_false,s1,g1]
      |some p=>
       have g1:f76 ((rest.take n,()),())=some (q3 p):=g1;obtain⟨jf,iK,p3⟩:=(g2 p).1 rfl;have fa:cy 80 ps ([(ba.mk p.name p.a8 p.bm p.bW)]:List ba)=some (ps++[p]):=dZ (by decide) (by unfold aq;simp;omega)
       have st:nr (q6 s r ps)=some (.inl (q6 s (rest.drop n) (ps++[p]))):=by
        simp only[nr,hne,Bool.not_false,cond_true,d,c1,Option.bind_some,i0,e0,n0,pC,d2,i1,dV,hin,Bool.not_true,cond_false,s1,g1,fa,s2]
       rcases ih (rest.drop n) (ps++[p]) (by simp;omega) (by omega) (by simp;omega) (fun z hz=>by
        rcases List.mem_append.1 hz with hz|hz
        ·exact ha z hz
        ·rw[List.mem_singleton.1 hz];exact⟨jf,by rw[iK];exact p3⟩) with e|⟨bY,e1,e2⟩
       ·exact .inl ((dD st).trans e)
       ·exact .inr ⟨bY,(dD st).trans e1,e2⟩
   ·have d:decide (((ps.length:Nat):Int)<=5)=false:=decide_eq_false (by omega)
    refine .inr ⟨ps,cm ?_,ha,hl⟩;simp only[nr,hne,Bool.not_false,cond_true,d,cond_false]
theorem adI{ps:List ba}(h:oL ps)(bk:ps.length<=5):(dF ps).length<=30000:=by
 have h1:=ub (f:=fun p=>fi (bI p)) (xs:=ps) (n:=5000) fun q ar=>by
  have:=(h q ar).2;have:=na (bI q).length (by omega)
  show(fi (bI q)).length<=5000;unfold fi;simp;omega
 have e:(dF ps).length=(ps.flatMap fun p=>fi (bI p)).length:=rfl
 have cl:ps.length*5000<=6*5000:=Nat.mul_le_mul_right _ (by omega)
 omega
theorem agP(s:F):∀(bY ps:List ba),oL bY->ps.length+bY.length<=5->uF (q6 s (dF bY) ps)=some (Yy s (ps++bY)):=by
 intro bY;induction bY with
 |nil=>intro ps _ _;rw[List.append_nil];exact cm rfl
 |cons p bY ih=>
  intro ps h hl;obtain⟨h1,h2⟩:=h p List.mem_cons_self;simp only[List.length_cons] at hl;have hR:dF (p::bY)=fi (bI p)++dF bY:=Dg p bY;have fB:=MB (bI p) (dF bY);have hlen:=adI (ps:=p::bY) h (by simp;omega)
  rw[hR] at hlen ⊢;generalize hr:fi (bI p)++dF bY=r at fB hlen;have eP:splitN 10 1 r=[Lib.itoa ((bI p).length:Int),bI p++dF bY]:=by unfold splitN;rw[fB];rfl
  have hne:(r==([]:F))=false:=by
   have:=(iO fB).1;cases hx:r with
   |nil=>rw[hx] at this;simp at this
   |cons b r=>rfl
  have d:decide (((ps.length:Nat):Int)<=5)=true:=decide_eq_true (by omega)
  have c1:=lv 10 r (by omega) 1
  rw[eP] at c1;have c1:f73 ((r,((10:Int),((1:Int),()))),())=_:=c1;have atp:=na (bI p).length (by omega)
  have n0:=pr (Lib.itoa ((bI p).length:Int)) (by unfold aq;omega)
  rw[Di _ (by omega)] at n0
  generalize Lib.itoa ((bI p).length:Int)=bO at c1 n0;have i0:a6 ([bO,bI p++dF bY]:List F).length (0:Int)=some 0:=rfl;have i1:a6 ([bO,bI p++dF bY]:List F).length (1:Int)=some 1:=rfl;have e0:([bO,bI p++dF bY]:List F)[0]? =some bO:=rfl;have dV:([bO,bI p++dF bY]:List F)[1]? =some (bI p++dF bY):=rfl;have d2:decide ((([bO,bI p++dF bY]:List F).length:Int)<2)=false:=rfl;have my:1<=(bI p).length:=by rw[uk];simp only[List.length_append,List.length_cons];omega
  have hin:=nm ((((bI p).length:Int),((1:Int),(((bI p++dF bY).length:Int),()))),());have hin:f75 ((((bI p).length:Int),((1:Int),(((bI p++dF bY).length:Int),()))),())=some ((true,()),()):=by
   rw[hin];have:within ((bI p).length:Int) 1 ((bI p++dF bY).length:Int)=true:=by
    unfold within;rw[decide_eq_true (by omega),decide_eq_true (by simp only[List.length_append];omega)]
    rfl
   show some ((within ((bI p).length:Int) 1 ((bI p++dF bY).length:Int),()),())=_;rw[this]
  have s1:br (bI p++dF bY) 0 (((bI p).length:Nat):Int)=some (bI p):=by rw[hO (by simp),List.take_left' rfl]
  have s2:br (bI p++dF bY) (((bI p).length:Nat):Int) (((bI p++dF bY).length:Nat):Int)=some (dF bY):=by rw[gl (by simp),List.drop_left' rfl]
  have g1:=Cv h1 h2;have fa:cy 80 ps ([(ba.mk p.name p.a8 p.bm p.bW)]:List ba)=some (ps++[p]):=dZ (by decide) (by unfold aq;simp;omega)
  have st:nr (q6 s r ps)=some (.inl (q6 s (dF bY) (ps++[p]))):=by
   simp only[nr,hne,Bool.not_false,cond_true,d,c1,Option.bind_some,i0,e0,n0,pC,d2,i1,dV,hin,Bool.not_true,cond_false,s1,g1,fa,s2]
  have:=ih (ps++[p]) (fun r hr=>h r (List.mem_cons_of_mem _ hr)) (by simp;omega)
  rw[List.append_assoc] at this;exact(dD st).trans this
theorem aa7(s:F)(hs:s.length<=2000000):∃B:Option (List ba),f39 ((s,()),())=some (aqp B)/\nu B (oV s):=by
 have put:∀ps:List ba,oV s ps->f39 ((s,()),())=some (KE ps):=by
  intro ps ⟨h1,h2,h3⟩;have hl:ps.length<=5:=(wW h1).2;obtain⟨hb,hv⟩:=yZ h3 (by omega)
  have g:=agP s ps [] h3 (by simpa using hl)
  rw[h2] at g;have e:=Ns (((ps,()),()),()) hb hv;have e:f30 (((ps,()),()),())=some ((jK ps,()),()):=e;rw[h1] at e;have e2:=Om ps hb (wW h1).1;simp only[f39,g,List.nil_append,Option.bind_some,rN,e,Bool.not_true,Bool.not_false,cond_true,cond_false,e2,h2,beq_self_eq_true]
 have any:f39 ((s,()),())=some JZ\/∃ps,f39 ((s,()),())=some (KE ps)/\oV s ps:=by
  rcases agQ s s.length s [] (Nat.le_refl _) hs (by decide) (fun x hx=>by cases hx) with g|⟨bY,g,h2,h3⟩
  ·refine .inl ?_
   simp only[f39,g,Option.bind_some]
  ·obtain⟨hb,hv⟩:=yZ h2 h3;have e:=Ns (((bY,()),()),()) hb hv;have e:f30 (((bY,()),()),())=some ((jK bY,()),()):=e;cases hr:jK bY with
   |false=>
    rw[hr] at e;refine .inl ?_
    simp only[f39,g,Option.bind_some,rN,e,Bool.not_false,Bool.not_true,cond_true,cond_false]
   |true=>
    rw[hr] at e;have e2:=Om bY hb (wW hr).1;cases he:dF bY==s with
    |false=>
     refine .inl ?_
     simp only[f39,g,Option.bind_some,rN,e,Bool.not_false,Bool.not_true,cond_true,cond_false,e2,he]
    |true=>
     refine .inr ⟨bY,?_,hr,eq_of_beq he,h2⟩;simp only[f39,g,Option.bind_some,rN,e,Bool.not_false,Bool.not_true,cond_true,cond_false,e2,he]
 rcases any with h|⟨ps,h,hr⟩
 ·refine⟨none,h,fun p=>⟨fun hp=>(by cases hp),fun hp=>?_⟩⟩
  have:=put p hp;rw[h] at this;simp only[Option.some.injEq,Prod.mk.injEq] at this;exact absurd this.1.2.1 (by decide)
 ·refine⟨some ps,h,fun q=>⟨fun hp=>by cases hp;exact hr,fun hp=>?_⟩⟩
  have:=put q hp;rw[h] at this;simp only[Option.some.injEq,Prod.mk.injEq] at this;rw[this.2.1]
theorem acT(s t:F)(hs:s.length<=2000000):∃B:Option (List ba),f12 (((s,(t,())),()),())=some ((B.isSome&&t==[],()),())/\nu B (oV s):=by
 obtain⟨B,h1,h2⟩:=aa7 s hs;refine⟨B,?_,h2⟩;simp only[f12,h1,Option.bind_some];cases B<;>rfl
theorem aej(s t:F)(hs:s.length<=2000000):∃b:Bool,f12 (((s,(t,())),()),())=some ((b,()),())/\f14 (((s,(t,())),()),())=some ((b,()),()):=by
 obtain⟨B,h1,h2⟩:=acT s t hs;obtain⟨cU,h3,ax⟩:=aa3 s t (by omega)
 cases h2.akp ax;exact⟨_,h1,h3⟩
noncomputable abbrev aqU:bh:=[(36,JX),(43,B6),(63,AP),(64,Ba)]
theorem X4:a7 U (bg aj aqU):=bf ⟨VU,ID,G3,Hh,⟨⟩⟩
abbrev ym:Shape:=⟨[aM 3 3 0,aK 11 .pack,ae 12,ae 13],[bv 5000193 .u8 3 1,aL 3 [.dj,.own 5000193]],28⟩
abbrev EQ:List aO:=[(.exit 0,⟨[aM 3 3 0],[bv 5000193 .u8 3 1,aL 3 [.dj,.own 5000193]],28⟩)]
noncomputable def af2(y:ym.J):bQ ym EQ:=
 bif(decide (y.1.2.2.2.1<y.1.2.2.1)) then
(aU y.1.2.1 y.1.2.2.2.1).bind fun a=>
(f36 (((a.name,a.a8,a.bm,a.bW,()),()),())).bind fun b=>
(if-9223372036854775808<=(b.1.1.length:Int)/\(b.1.1.length:Int)<=9223372036854775807 then some () else none).bind fun c=>
(bV (Lib.itoa (b.1.1.length:Int)) ([10]:F)).bind fun d=>
(bV d b.1.1).bind fun e=>
(lJ (((),e,()),y.2.1,((),(),()),())).bind fun f=>
 some (.inl (((),y.1.2.1,y.1.2.2.1,(IntKind.i64.wrap (y.1.2.2.2.1+(1:Int))),()),f.2.1,((),(),()),()))
else
 some (.inr (((),()),y.2.1,((),(),()),()))
noncomputable def Pl:ym.J->Option (ay EQ):=bx af2
theorem ae0:aW U (an (codeOf Tryz.f34) 1 122) (a_ ym EQ Pl):=bR X4 (by kernel_rfl) ag fun y=>by kernel_rfl
abbrev i34:Shape:=⟨[cB 0 [cW .pack]],[],28⟩
abbrev Ww:Shape:=⟨[ao 2],[],28⟩
noncomputable def f34(a:i34.J):Option Ww.J:=
(f43 (((a.1.1.1,()),()),())).bind fun b=>
 bif(!b.1.1) then
 some ((([]:F),()),())
else
(Pl (((),a.1.1.1,(a.1.1.1.length:Int),(0:Int),()),([]:List Int),((),(),()),())).bind fun c=>
 some (((strOf c.2.1),()),())
noncomputable def XM:aH:=aP aj Tryz.f34 i34 Ww [] f34
theorem anB:aF U 34 XM:=aS X4 Tryz.func34 (by kernel_rfl) (a' ae0 ag) (fun y=>by kernel_rfl) fun a=>by kernel_rfl
abbrev i186:Shape:=⟨[cB 0 [ai,bo,ai],ae 1],[],20⟩
abbrev SM:Shape:=⟨[ae 4],[],20⟩
noncomputable def f186(a:i186.J):Option SM.J:=
 bif(decide ((IntKind.i64.wrap (a.1.2.1-(a.1.1.1.length:Int)))<(0:Int))) then
 some ((((-1):Int),()),())
else
 bif(decide ((IntKind.i64.wrap ((IntKind.i64.wrap (a.1.2.1-(a.1.1.1.length:Int)))-(a.1.1.2.2.1.length:Int)))<(0:Int))) then
 some ((((-1):Int),()),())
else
 some (((IntKind.i64.wrap ((IntKind.i64.wrap (a.1.2.1-(a.1.1.1.length:Int)))-(a.1.1.2.2.1.length:Int))),()),())
noncomputable def UH:aH:=aP aj Tryz.f186 i186 SM [] f186
theorem ajM:aF U 186 UH:=aS g0 Tryz.func186 (by kernel_rfl) ag (fun y=>by kernel_rfl) fun a=>by kernel_rfl
noncomputable abbrev amq:bh:=[(186,UH)]
theorem VI:a7 U (bg aj amq):=bf ⟨ajM,⟨⟩⟩
abbrev x1:Shape:=⟨[aK 0 .need,ae 1,ae 5],[],27⟩
abbrev DX:List aO:=[(.ret,⟨[ae 4],[],27⟩),(.exit 0,⟨[ae 1],[],27⟩)]
noncomputable def ad9(y:x1.J):bQ x1 DX:=
 bif(decide (y.1.2.2.1<(y.1.1.length:Int))) then
(aU y.1.1 y.1.2.2.1).bind fun a=>
(f186 (((a.name,a.kind,a.a8,()),y.1.2.1,()),())).bind fun b=>
 bif(decide (b.1.1<(0:Int))) then
 some (.inr (.inl ((((-1):Int),()),())))
else
 some (.inl ((y.1.1,b.1.1,(IntKind.i64.wrap (y.1.2.2.1+(1:Int))),()),()))
else
 some (.inr (.inr ((y.1.2.1,()),())))
noncomputable def N4:x1.J->Option (ay DX):=bx ad9
theorem adC:aW U (an (codeOf Tryz.f134) 1 122) (a_ x1 DX N4):=bR VI (by kernel_rfl) ag fun y=>by kernel_rfl
abbrev i134:Shape:=⟨[aK 0 .need,ae 1],[],27⟩
abbrev Ti:Shape:=⟨[ae 4],[],27⟩
noncomputable def f134(a:i134.J):Option Ti.J:=
 bif(decide ((IntKind.i64.wrap (a.1.2.1-(a.1.1.length:Int)))<(0:Int))) then
 some ((((-1):Int),()),())
else
(N4 ((a.1.1,(IntKind.i64.wrap (a.1.2.1-(a.1.1.length:Int))),(0:Int),()),())).bind fun b=>
(match b with
|.inl c=>
 some ((c.1.1,()),())
|.inr d=>
 some ((d.1.1,()),()))
noncomputable def Vb:aH:=aP aj Tryz.f134 i134 Ti [] f134
theorem aj4:aF U 134 Vb:=aS VI Tryz.func134 (by kernel_rfl) (a' adC ag) (fun y=>by kernel_rfl) fun a=>by kernel_rfl
abbrev i187:Shape:=⟨[cB 0 [ai,bo,bo,ai],ae 1],[],20⟩
abbrev SL:Shape:=⟨[ae 4],[],20⟩
noncomputable def f187(a:i187.J):Option SL.J:=
 bif(decide ((IntKind.i64.wrap (a.1.2.1-(a.1.1.1.length:Int)))<(0:Int))) then
 some ((((-1):Int),()),())
else
 bif(decide ((IntKind.i64.wrap ((IntKind.i64.wrap (a.1.2.1-(a.1.1.1.length:Int)))-(a.1.1.2.2.2.1.length:Int)))<(0:Int))) then
 some ((((-1):Int),()),())
else
 some (((IntKind.i64.wrap ((IntKind.i64.wrap (a.1.2.1-(a.1.1.1.length:Int)))-(a.1.1.2.2.2.1.length:Int))),()),())
noncomputable def UG:aH:=aP aj Tryz.f187 i187 SL [] f187
theorem ajL:aF U 187 UG:=aS g0 Tryz.func187 (by kernel_rfl) ag (fun y=>by kernel_rfl) fun a=>by kernel_rfl
noncomputable abbrev amp:bh:=[(187,UG)]
theorem VH:a7 U (bg aj amp):=bf ⟨ajL,⟨⟩⟩
abbrev x0:Shape:=⟨[aK 0 .entry,ae 1,ae 5],[],27⟩
abbrev DW:List aO:=[(.ret,⟨[ae 4],[],27⟩),(.exit 0,⟨[ae 1],[],27⟩)]
noncomputable def ad8(y:x0.J):bQ x0 DW:=
 bif(decide (y.1.2.2.1<(y.1.1.length:Int))) then
(aU y.1.1 y.1.2.2.1).bind fun a=>
(f187 (((a.path,a.kind,a.mode,a.text,()),y.1.2.1,()),())).bind fun b=>
 bif(decide (b.1.1<(0:Int))) then
 some (.inr (.inl ((((-1):Int),()),())))
else
 some (.inl ((y.1.1,b.1.1,(IntKind.i64.wrap (y.1.2.2.1+(1:Int))),()),()))
else
 some (.inr (.inr ((y.1.2.1,()),())))
noncomputable def N3:x0.J->Option (ay DW):=bx ad8
theorem adB:aW U (an (codeOf Tryz.f135) 1 122) (a_ x0 DW N3):=bR VH (by kernel_rfl) ag fun y=>by kernel_rfl
abbrev i135:Shape:=⟨[aK 0 .entry,ae 1],[],27⟩
abbrev Th:Shape:=⟨[ae 4],[],27⟩
noncomputable def f135(a:i135.J):Option Th.J:=
 bif(decide ((IntKind.i64.wrap (a.1.2.1-(a.1.1.length:Int)))<(0:Int))) then
 some ((((-1):Int),()),())
else
(N3 ((a.1.1,(IntKind.i64.wrap (a.1.2.1-(a.1.1.length:Int))),(0:Int),()),())).bind fun b=>
(match b with
|.inl c=>
 some ((c.1.1,()),())
|.inr d=>
 some ((d.1.1,()),()))
noncomputable def Va:aH:=aP aj Tryz.f135 i135 Th [] f135
theorem aj3:aF U 135 Va:=aS VH Tryz.func135 (by kernel_rfl) (a' adB ag) (fun y=>by kernel_rfl) fun a=>by kernel_rfl
abbrev i188:Shape:=⟨[cB 0 [ai,bo,ai]],[],14⟩
abbrev SK:Shape:=⟨[aM 2 2 0],[aL 2 [ai,bo,ai]],14⟩
noncomputable def f188(a:i188.J):Option SK.J:=
 some (((),()),(a.1.1.1,a.1.1.2.1,a.1.1.2.2.1,()),())
noncomputable def UF:aH:=aP aj Tryz.f188 i188 SK [] f188
theorem ajK:aF U 188 UF:=aS g0 Tryz.func188 (by kernel_rfl) ag (fun y=>by kernel_rfl) fun a=>by kernel_rfl
noncomputable abbrev amo:bh:=[(188,UF)]
theorem VG:a7 U (bg aj amo):=bf ⟨ajK,⟨⟩⟩
abbrev yK:Shape:=⟨[aK 0 .need,bc 3 3000192,ae 4],[bb 3000192 .need 3 0],23⟩
abbrev Fa:List aO:=[(.exit 0,⟨[bc 3 3000192],[bb 3000192 .need 3 0],23⟩)]
noncomputable def af7(y:yK.J):bQ yK Fa:=
 bif(decide (y.1.2.2.1<(y.1.1.length:Int))) then
(aU y.1.1 y.1.2.2.1).bind fun a=>
(f188 (((a.name,a.kind,a.a8,()),()),())).bind fun b=>
(a6 y.2.1.length y.1.2.2.1).bind fun c=>
((y.2.1[c]?).bind fun q=>some (bB.mk b.2.1.1 b.2.1.2.1 b.2.1.2.2.1)).bind fun d=>
 some (.inl ((y.1.1,(),(IntKind.i64.wrap (y.1.2.2.1+(1:Int))),()),(y.2.1.set c d),()))
else
 some (.inr (((),()),y.2.1,()))
noncomputable def Pq:yK.J->Option (ay Fa):=bx af7
theorem afy:aW U (an (codeOf Tryz.f136) 1 58) (a_ yK Fa Pq):=bR VG (by kernel_rfl) ag fun y=>by kernel_rfl
abbrev i136:Shape:=⟨[aK 0 .need],[],23⟩
abbrev Tg:Shape:=⟨[bc 2 3000128],[bb 3000128 .need 2 0],23⟩
noncomputable def f136(a:i136.J):Option Tg.J:=
(jx 40 (a.1.1.length:Int) (a.1.1.length:Int) (bB.mk ([]:F) (0:Int) ([]:F))).bind fun b=>
(Pq ((a.1.1,(),(0:Int),()),b,())).bind fun c=>
 some (((),()),c.2.1,())
noncomputable def U':aH:=aP aj Tryz.f136 i136 Tg [] f136
theorem aj2:aF U 136 U':=aS VG Tryz.func136 (by kernel_rfl) (a' afy ag) (fun y=>by kernel_rfl) fun a=>by kernel_rfl
abbrev i189:Shape:=⟨[cB 0 [ai,bo,bo,ai]],[],17⟩
abbrev SJ:Shape:=⟨[aM 2 2 0],[aL 2 [ai,bo,bo,ai]],17⟩
noncomputable def f189(a:i189.J):Option SJ.J:=
 some (((),()),(a.1.1.1,a.1.1.2.1,a.1.1.2.2.1,a.1.1.2.2.2.1,()),())
noncomputable def UE:aH:=aP aj Tryz.f189 i189 SJ [] f189
theorem ajJ:aF U 189 UE:=aS g0 Tryz.func189 (by kernel_rfl) ag (fun y=>by kernel_rfl) fun a=>by kernel_rfl
noncomputable abbrev amn:bh:=[(189,UE)]
theorem VF:a7 U (bg aj amn):=bf ⟨ajJ,⟨⟩⟩
abbrev yJ:Shape:=⟨[aK 0 .entry,bc 3 3000192,ae 4],[bb 3000192 .entry 3 0],23⟩
abbrev E':List aO:=[(.exit 0,⟨[bc 3 3000192],[bb 3000192 .entry 3 0],23⟩)]
noncomputable def af6(y:yJ.J):bQ yJ E':=
 bif(decide (y.1.2.2.1<(y.1.1.length:Int))) then
(aU y.1.1 y.1.2.2.1).bind fun a=>
(f189 (((a.path,a.kind,a.mode,a.text,()),()),())).bind fun b=>
(a6 y.2.1.length y.1.2.2.1).bind fun c=>
((y.2.1[c]?).bind fun q=>some (aA.mk b.2.1.1 b.2.1.2.1 b.2.1.2.2.1 b.2.1.2.2.2.1)).bind fun d=>
 some (.inl ((y.1.1,(),(IntKind.i64.wrap (y.1.2.2.1+(1:Int))),()),(y.2.1.set c d),()))
else
 some (.inr (((),()),y.2.1,()))
noncomputable def Pp:yJ.J->Option (ay E'):=bx af6
theorem afx:aW U (an (codeOf Tryz.f137) 1 58) (a_ yJ E' Pp):=bR VF (by kernel_rfl) ag fun y=>by kernel_rfl
abbrev i137:Shape:=⟨[aK 0 .entry],[],23⟩
abbrev Tf:Shape:=⟨[bc 2 3000128],[bb 3000128 .entry 2 0],23⟩
noncomputable def f137(a:i137.J):Option Tf.J:=
(jx 48 (a.1.1.length:Int) (a.1.1.length:Int) (aA.mk ([]:F) (0:Int) (0:Int) ([]:F))).bind fun b=>
(Pp ((a.1.1,(),(0:Int),()),b,())).bind fun c=>
 some (((),()),c.2.1,())
noncomputable def U_:aH:=aP aj Tryz.f137 i137 Tf [] f137
theorem aj1:aF U 137 U_:=aS VF Tryz.func137 (by kernel_rfl) (a' afx ag) (fun y=>by kernel_rfl) fun a=>by kernel_rfl
abbrev i190:Shape:=⟨[cB 0 [ai,bo,ai],cB 1 [ai,bo,ai]],[],20⟩
abbrev SI:Shape:=⟨[au 4],[],20⟩
noncomputable def f190(a:i190.J):Option SI.J:=
 bif(!(a.1.1.1==a.1.2.1.1)) then
 some ((false,()),())
else
 bif(a.1.1.2.1 !=a.1.2.1.2.1) then
 some ((false,()),())
else
 bif(!(a.1.1.2.2.1==a.1.2.1.2.2.1)) then
 some ((false,()),())
else
 some ((true,()),())
noncomputable def UD:aH:=aP aj Tryz.f190 i190 SI [] f190
theorem ajI:aF U 190 UD:=aS g0 Tryz.func190 (by kernel_rfl) ag (fun y=>by kernel_rfl) fun a=>by kernel_rfl
noncomputable abbrev amm:bh:=[(190,UD)]
theorem VE:a7 U (bg aj amm):=bf ⟨ajI,⟨⟩⟩
abbrev yI:Shape:=⟨[aK 0 .need,aK 1 .need,ae 5],[],27⟩
abbrev E_:List aO:=[(.ret,⟨[au 4],[],27⟩),(.exit 0,⟨[],[],27⟩)]
noncomputable def af5(y:yI.J):bQ yI E_:=
 bif(decide (y.1.2.2.1<(y.1.1.length:Int))) then
(aU y.1.1 y.1.2.2.1).bind fun a=>
(aU y.1.2.1 y.1.2.2.1).bind fun b=>
(f190 (((a.name,a.kind,a.a8,()),(b.name,b.kind,b.a8,()),()),())).bind fun c=>
 bif(!c.1.1) then
 some (.inr (.inl ((false,()),())))
else
 some (.inl ((y.1.1,y.1.2.1,(IntKind.i64.wrap (y.1.2.2.1+(1:Int))),()),()))
else
 some (.inr (.inr ((),())))
noncomputable def Po:yI.J->Option (ay E_):=bx af5
theorem afw:aW U (an (codeOf Tryz.f138) 1 58) (a_ yI E_ Po):=bR VE (by kernel_rfl) ag fun y=>by kernel_rfl
abbrev i138:Shape:=⟨[aK 0 .need,aK 1 .need],[],27⟩
abbrev Te:Shape:=⟨[au 4],[],27⟩
noncomputable def f138(a:i138.J):Option Te.J:=
 bif((a.1.1.length:Int) !=(a.1.2.1.length:Int)) then
 some ((false,()),())
else
(Po ((a.1.1,a.1.2.1,(0:Int),()),())).bind fun b=>
(match b with
|.inl c=>
 some ((c.1.1,()),())
|.inr d=>
 some ((true,()),()))
noncomputable def U9:aH:=aP aj Tryz.f138 i138 Te [] f138
theorem z138:aF U 138 U9:=aS VE Tryz.func138 (by kernel_rfl) (a' afw ag) (fun y=>by kernel_rfl) fun a=>by kernel_rfl
abbrev i191:Shape:=⟨[cB 0 [ai,bo,bo,ai],cB 1 [ai,bo,bo,ai]],[],25⟩
abbrev SH:Shape:=⟨[au 4],[],25⟩
noncomputable def f191(a:i191.J):Option SH.J:=
 bif(!(a.1.1.1==a.1.2.1.1)) then
 some ((false,()),())
else
 bif(a.1.1.2.1 !=a.1.2.1.2.1) then
 some ((false,()),())
else
 bif(a.1.1.2.2.1 !=a.1.2.1.2.2.1) then
 some ((false,()),())
else
 bif(!(a.1.1.2.2.2.1==a.1.2.1.2.2.2.1)) then
 some ((false,()),())
else
 some ((true,()),())
noncomputable def UC:aH:=aP aj Tryz.f191 i191 SH [] f191
theorem ajH:aF U 191 UC:=aS g0 Tryz.func191 (by kernel_rfl) ag (fun y=>by kernel_rfl) fun a=>by kernel_rfl
noncomputable abbrev aml:bh:=[(191,UC)]
theorem VD:a7 U (bg aj aml):=bf ⟨ajH,⟨⟩⟩
abbrev yH:Shape:=⟨[aK 0 .entry,aK 1 .entry,ae 5],[],27⟩
abbrev E9:List aO:=[(.ret,⟨[au 4],[],27⟩),(.exit 0,⟨[],[],27⟩)]
noncomputable def af4(y:yH.J):bQ yH E9:=
 bif(decide (y.1.2.2.1<(y.1.1.length:Int))) then
(aU y.1.1 y.1.2.2.1).bind fun a=>
(aU y.1.2.1 y.1.2.2.1).bind fun b=>
(f191 (((a.path,a.kind,a.mode,a.text,()),(b.path,b.kind,b.mode,b.text,()),()),())).bind fun c=>
 bif(!c.1.1) then
 some (.inr (.inl ((false,()),())))
else
 some (.inl ((y.1.1,y.1.2.1,(IntKind.i64.wrap (y.1.2.2.1+(1:Int))),()),()))
else
 some (.inr (.inr ((),())))
noncomputable def Pn:yH.J->Option (ay E9):=bx af4
theorem afv:aW U (an (codeOf Tryz.f139) 1 58) (a_ yH E9 Pn):=bR VD (by kernel_rfl) ag fun y=>by kernel_rfl
abbrev i139:Shape:=⟨[aK 0 .entry,aK 1 .entry],[],27⟩
abbrev Td:Shape:=⟨[au 4],[],27⟩
noncomputable def f139(a:i139.J):Option Td.J:=
 bif((a.1.1.length:Int) !=(a.1.2.1.length:Int)) then
 some ((false,()),())
else
(Pn ((a.1.1,a.1.2.1,(0:Int),()),())).bind fun b=>
(match b with
|.inl c=>
 some ((c.1.1,()),())
|.inr d=>
 some ((true,()),()))
noncomputable def U8:aH:=aP aj Tryz.f139 i139 Td [] f139
theorem z139:aF U 139 U8:=aS VD Tryz.func139 (by kernel_rfl) (a' afv ag) (fun y=>by kernel_rfl) fun a=>by kernel_rfl
noncomputable abbrev aqA:bh:=[(134,Vb),(135,Va)]
theorem aq8:a7 U (bg aj aqA):=bf ⟨aj4,aj3,⟨⟩⟩
abbrev i82:Shape:=⟨[cB 0 [ai,ai,cW .need,cW .entry],ae 1],[],32⟩
abbrev Wb:Shape:=⟨[ae 4],[],32⟩
noncomputable def f82(a:i82.J):Option Wb.J:=
 bif(decide ((IntKind.i64.wrap (a.1.2.1-(a.1.1.1.length:Int)))<(0:Int))) then
 some ((((-1):Int),()),())
else
 bif(decide ((IntKind.i64.wrap ((IntKind.i64.wrap (a.1.2.1-(a.1.1.1.length:Int)))-(a.1.1.2.1.length:Int)))<(0:Int))) then
 some ((((-1):Int),()),())
else
(f134 ((a.1.1.2.2.1,(IntKind.i64.wrap ((IntKind.i64.wrap (a.1.2.1-(a.1.1.1.length:Int)))-(a.1.1.2.1.length:Int))),()),())).bind fun b=>
 bif(decide (b.1.1<(0:Int))) then
 some ((((-1):Int),()),())
else
(f135 ((a.1.1.2.2.2.1,b.1.1,()),())).bind fun c=>
 bif(decide (c.1.1<(0:Int))) then
 some ((((-1):Int),()),())
else
 some ((c.1.1,()),())
noncomputable def Xw:aH:=aP aj Tryz.f82 i82 Wb [] f82
theorem anm:aF U 82 Xw:=aS aq8 Tryz.func82 (by kernel_rfl) ag (fun y=>by kernel_rfl) fun a=>by kernel_rfl
noncomputable abbrev aqO:bh:=[(82,Xw)]
theorem X3:a7 U (bg aj aqO):=bf ⟨anm,⟨⟩⟩
abbrev yl:Shape:=⟨[aK 0 .pack,ae 1,ae 5],[],27⟩
abbrev EP:List aO:=[(.ret,⟨[ae 4],[],27⟩),(.exit 0,⟨[ae 1],[],27⟩)]
noncomputable def af1(y:yl.J):bQ yl EP:=
 bif(decide (y.1.2.2.1<(y.1.1.length:Int))) then
(aU y.1.1 y.1.2.2.1).bind fun a=>
(f82 (((a.name,a.a8,a.bm,a.bW,()),y.1.2.1,()),())).bind fun b=>
 bif(decide (b.1.1<(0:Int))) then
 some (.inr (.inl ((((-1):Int),()),())))
else
 some (.inl ((y.1.1,b.1.1,(IntKind.i64.wrap (y.1.2.2.1+(1:Int))),()),()))
else
 some (.inr (.inr ((y.1.2.1,()),())))
noncomputable def Pj:yl.J->Option (ay EP):=bx af1
theorem aeY:aW U (an (codeOf Tryz.f44) 1 122) (a_ yl EP Pj):=bR X3 (by kernel_rfl) ag fun y=>by kernel_rfl
abbrev i44:Shape:=⟨[aK 0 .pack,ae 1],[],27⟩
abbrev Ws:Shape:=⟨[ae 4],[],27⟩
noncomputable def f44(a:i44.J):Option Ws.J:=
 bif(decide ((IntKind.i64.wrap (a.1.2.1-(a.1.1.length:Int)))<(0:Int))) then
 some ((((-1):Int),()),())
else
(Pj ((a.1.1,(IntKind.i64.wrap (a.1.2.1-(a.1.1.length:Int))),(0:Int),()),())).bind fun b=>
(match b with
|.inl c=>
 some ((c.1.1,()),())
|.inr d=>
 some ((d.1.1,()),()))
noncomputable def XJ:aH:=aP aj Tryz.f44 i44 Ws [] f44
theorem anx:aF U 44 XJ:=aS X3 Tryz.func44 (by kernel_rfl) (a' aeY ag) (fun y=>by kernel_rfl) fun a=>by kernel_rfl
noncomputable abbrev aq0:bh:=[(44,XJ)]
theorem arj:a7 U (bg aj aq0):=bf ⟨anx,⟨⟩⟩
abbrev i15:Shape:=⟨[cB 0 [cW .pack],ae 1],[],12⟩
abbrev WD:Shape:=⟨[ae 4],[],12⟩
noncomputable def f15(a:i15.J):Option WD.J:=
(f44 ((a.1.1.1,a.1.2.1,()),())).bind fun b=>
 bif(decide (b.1.1<(0:Int))) then
 some ((((-1):Int),()),())
else
 some ((b.1.1,()),())
noncomputable def wk:aH:=aP aj Tryz.f15 i15 WD [] f15
theorem anG:aF U 15 wk:=aS arj Tryz.func15 (by kernel_rfl) ag (fun y=>by kernel_rfl) fun a=>by kernel_rfl
noncomputable abbrev aqy:bh:=[(136,U'),(137,U_)]
theorem aq6:a7 U (bg aj aqy):=bf ⟨aj2,aj1,⟨⟩⟩
abbrev i84:Shape:=⟨[cB 0 [ai,ai,cW .need,cW .entry]],[],19⟩
abbrev Wa:Shape:=⟨[aM 2 2 0],[bv 5000130 .need 2 2,bv 5000131 .entry 2 3,aL 2 [ai,ai,.own 5000130,.own 5000131]],19⟩
noncomputable def f84(a:i84.J):Option Wa.J:=
(f136 ((a.1.1.2.2.1,()),())).bind fun b=>
(f137 ((a.1.1.2.2.2.1,()),())).bind fun c=>
 some (((),()),b.2.1,c.2.1,(a.1.1.1,a.1.1.2.1,(),(),()),())
noncomputable def Xv:aH:=aP aj Tryz.f84 i84 Wa [] f84
theorem anl:aF U 84 Xv:=aS aq6 Tryz.func84 (by kernel_rfl) ag (fun y=>by kernel_rfl) fun a=>by kernel_rfl
noncomputable abbrev aqM:bh:=[(84,Xv)]
theorem X2:a7 U (bg aj aqM):=bf ⟨anl,⟨⟩⟩
abbrev zP:Shape:=⟨[aK 0 .pack,bc 3 3000192,ae 4],[bb 3000192 .pack 3 0],23⟩
abbrev Gt:List aO:=[(.exit 0,⟨[bc 3 3000192],[bb 3000192 .pack 3 0],23⟩)]
noncomputable def ahF(y:zP.J):bQ zP Gt:=
 bif(decide (y.1.2.2.1<(y.1.1.length:Int))) then
(aU y.1.1 y.1.2.2.1).bind fun a=>
(f84 (((a.name,a.a8,a.bm,a.bW,()),()),())).bind fun b=>
(a6 y.2.1.length y.1.2.2.1).bind fun c=>
((y.2.1[c]?).bind fun q=>some (ba.mk b.2.2.2.1.1 b.2.2.2.1.2.1 b.2.1 b.2.2.1)).bind fun d=>
 some (.inl ((y.1.1,(),(IntKind.i64.wrap (y.1.2.2.1+(1:Int))),()),(y.2.1.set c d),()))
else
 some (.inr (((),()),y.2.1,()))
noncomputable def Qo:zP.J->Option (ay Gt):=bx ahF
theorem ahf:aW U (an (codeOf Tryz.f46) 1 58) (a_ zP Gt Qo):=bR X2 (by kernel_rfl) ag fun y=>by kernel_rfl
abbrev i46:Shape:=⟨[aK 0 .pack],[],23⟩
abbrev Wq:Shape:=⟨[bc 2 3000128],[bb 3000128 .pack 2 0],23⟩
noncomputable def f46(a:i46.J):Option Wq.J:=
(jx 80 (a.1.1.length:Int) (a.1.1.length:Int) (ba.mk ([]:F) ([]:F) ([]:List bB) ([]:List aA))).bind fun b=>
(Qo ((a.1.1,(),(0:Int),()),b,())).bind fun c=>
 some (((),()),c.2.1,())
noncomputable def XH:aH:=aP aj Tryz.f46 i46 Wq [] f46
theorem z46:aF U 46 XH:=aS X2 Tryz.func46 (by kernel_rfl) (a' ahf ag) (fun y=>by kernel_rfl) fun a=>by kernel_rfl
noncomputable abbrev aqY:bh:=[(46,XH)]
theorem ari:a7 U (bg aj aqY):=bf ⟨z46,⟨⟩⟩
abbrev i17:Shape:=⟨[cB 0 [cW .pack]],[],9⟩
abbrev WB:Shape:=⟨[aM 2 2 0],[bv 5000128 .pack 2 0,aL 2 [.own 5000128]],9⟩
noncomputable def f17(a:i17.J):Option WB.J:=
(f46 ((a.1.1.1,()),())).bind fun b=>
 some (((),()),b.2.1,((),()),())
noncomputable def XQ:aH:=aP aj Tryz.f17 i17 WB [] f17
theorem anE:aF U 17 XQ:=aS ari Tryz.func17 (by kernel_rfl) ag (fun y=>by kernel_rfl) fun a=>by kernel_rfl
noncomputable abbrev aqx:bh:=[(138,U9),(139,U8)]
theorem aq5:a7 U (bg aj aqx):=bf ⟨z138,z139,⟨⟩⟩
abbrev i85:Shape:=⟨[cB 0 [ai,ai,cW .need,cW .entry],cB 1 [ai,ai,cW .need,cW .entry]],[],27⟩
abbrev V':Shape:=⟨[au 4],[],27⟩
noncomputable def f85(a:i85.J):Option V'.J:=
 bif(!(a.1.1.1==a.1.2.1.1)) then
 some ((false,()),())
else
 bif(!(a.1.1.2.1==a.1.2.1.2.1)) then
 some ((false,()),())
else
(f138 ((a.1.1.2.2.1,a.1.2.1.2.2.1,()),())).bind fun b=>
 bif(!b.1.1) then
 some ((false,()),())
else
(f139 ((a.1.1.2.2.2.1,a.1.2.1.2.2.2.1,()),())).bind fun c=>
 bif(!c.1.1) then
 some ((false,()),())
else
 some ((true,()),())
noncomputable def Xu:aH:=aP aj Tryz.f85 i85 V' [] f85
theorem z85:aF U 85 Xu:=aS aq5 Tryz.func85 (by kernel_rfl) ag (fun y=>by kernel_rfl) fun a=>by kernel_rfl
noncomputable abbrev aqK:bh:=[(85,Xu)]
theorem X1:a7 U (bg aj aqK):=bf ⟨z85,⟨⟩⟩
abbrev zO:Shape:=⟨[aK 0 .pack,aK 1 .pack,ae 5],[],27⟩
abbrev Gs:List aO:=[(.ret,⟨[au 4],[],27⟩),(.exit 0,⟨[],[],27⟩)]
noncomputable def ahE(y:zO.J):bQ zO Gs:=
 bif(decide (y.1.2.2.1<(y.1.1.length:Int))) then
(aU y.1.1 y.1.2.2.1).bind fun a=>
(aU y.1.2.1 y.1.2.2.1).bind fun b=>
(f85 (((a.name,a.a8,a.bm,a.bW,()),(b.name,b.a8,b.bm,b.bW,()),()),())).bind fun c=>
 bif(!c.1.1) then
 some (.inr (.inl ((false,()),())))
else
 some (.inl ((y.1.1,y.1.2.1,(IntKind.i64.wrap (y.1.2.2.1+(1:Int))),()),()))
else
 some (.inr (.inr ((),())))
noncomputable def Qn:zO.J->Option (ay Gs):=bx ahE
theorem ahe:aW U (an (codeOf Tryz.f48) 1 58) (a_ zO Gs Qn):=bR X1 (by kernel_rfl) ag fun y=>by kernel_rfl
abbrev i48:Shape:=⟨[aK 0 .pack,aK 1 .pack],[],27⟩
abbrev Wo:Shape:=⟨[au 4],[],27⟩
noncomputable def f48(a:i48.J):Option Wo.J:=
 bif((a.1.1.length:Int) !=(a.1.2.1.length:Int)) then
 some ((false,()),())
else
(Qn ((a.1.1,a.1.2.1,(0:Int),()),())).bind fun b=>
(match b with
|.inl c=>
 some ((c.1.1,()),())
|.inr d=>
 some ((true,()),()))
noncomputable def XF:aH:=aP aj Tryz.f48 i48 Wo [] f48
theorem anu:aF U 48 XF:=aS X1 Tryz.func48 (by kernel_rfl) (a' ahe ag) (fun y=>by kernel_rfl) fun a=>by kernel_rfl
noncomputable abbrev aqW:bh:=[(48,XF)]
theorem arh:a7 U (bg aj aqW):=bf ⟨anu,⟨⟩⟩
abbrev i20:Shape:=⟨[cB 0 [cW .pack],cB 1 [cW .pack]],[],11⟩
abbrev Wy:Shape:=⟨[au 4],[],11⟩
noncomputable def f20(a:i20.J):Option Wy.J:=
(f48 ((a.1.1.1,a.1.2.1.1,()),())).bind fun b=>
 bif(!b.1.1) then
 some ((false,()),())
else
 some ((true,()),())
noncomputable def XN:aH:=aP aj Tryz.f20 i20 Wy [] f20
theorem z20:aF U 20 XN:=aS arh Tryz.func20 (by kernel_rfl) ag (fun y=>by kernel_rfl) fun a=>by kernel_rfl
abbrev q7(n:Nat):Prop:=n<=maxLen
abbrev n7(n:Nat):Prop:=n<=1048576
theorem OM{l:Int}{n:Nat}(h0:0<=l)(h1:l<=1048576)(hn:q7 n):IntKind.i64.wrap (l-(n:Int))=l-n:=by
 unfold q7 maxLen at hn;exact ed (by omega) (by omega)
def ahW(l r:Int)(p:Prop):Prop:=r<0\/(0<=r/\r<=l/\p)
theorem Ol{s:F}(h:l9 (.str s)):q7 s.length:=by cases h;assumption
abbrev i19:Shape:=⟨[cB 0 [ai,ai],cB 1 [ai,ai]],[],15⟩
abbrev Wz:Shape:=⟨[au 4],[],15⟩
noncomputable def f19(a:i19.J):Option Wz.J:=
 bif(!(a.1.1.1==a.1.2.1.1)) then
 some ((false,()),())
else
 bif(!(a.1.1.2.1==a.1.2.1.2.1)) then
 some ((false,()),())
else
 some ((true,()),())
noncomputable def XO:aH:=aP aj Tryz.f19 i19 Wz [] f19
theorem anC:aF U 19 XO:=aS g0 Tryz.func19 (by kernel_rfl) ag (fun y=>by kernel_rfl) fun a=>by kernel_rfl
abbrev i11:Shape:=⟨[cB 0 [ai,ai],ae 1],[],20⟩
abbrev By:Shape:=⟨[ae 4],[],20⟩
noncomputable def f11(a:i11.J):Option By.J:=
 bif(decide ((IntKind.i64.wrap (a.1.2.1-(a.1.1.1.length:Int)))<(0:Int))) then
 some ((((-1):Int),()),())
else
 bif(decide ((IntKind.i64.wrap ((IntKind.i64.wrap (a.1.2.1-(a.1.1.1.length:Int)))-(a.1.1.2.1.length:Int)))<(0:Int))) then
 some ((((-1):Int),()),())
else
 some (((IntKind.i64.wrap ((IntKind.i64.wrap (a.1.2.1-(a.1.1.1.length:Int)))-(a.1.1.2.1.length:Int))),()),())
noncomputable def tp:aH:=aP aj Tryz.f11 i11 By [] f11
theorem VX:aF U 11 tp:=aS g0 Tryz.func11 (by kernel_rfl) ag (fun y=>by kernel_rfl) fun a=>by kernel_rfl
abbrev i13:Shape:=⟨[cB 0 [ai,ai]],[],11⟩
abbrev WE:Shape:=⟨[aM 2 2 0],[aL 2 [ai,ai]],11⟩
noncomputable def f13(a:i13.J):Option WE.J:=
 some (((),()),(a.1.1.1,a.1.1.2.1,()),())
noncomputable def wm:aH:=aP aj Tryz.f13 i13 WE [] f13
theorem VW:aF U 13 wm:=aS g0 Tryz.func13 (by kernel_rfl) ag (fun y=>by kernel_rfl) fun a=>by kernel_rfl
noncomputable abbrev aqN:bh:=[(70,B4),(83,B2)]
theorem arb:a7 U (bg aj aqN):=bf ⟨z70,IA,⟨⟩⟩
abbrev i45:Shape:=⟨[cB 0 [cW .pack]],[],13⟩
abbrev Wr:Shape:=⟨[ao 2],[],13⟩
noncomputable def f45(a:i45.J):Option Wr.J:=
(f70 (((a.1.1.1,()),()),())).bind fun b=>
(f83 (((b.1.1.length:Int),()),())).bind fun c=>
(bV c.1.1 ([10]:F)).bind fun d=>
(bV d b.1.1).bind fun e=>
(bV e ([101,110,100,10]:F)).bind fun f=>
 some ((f,()),())
noncomputable def XI:aH:=aP aj Tryz.f45 i45 Wr [] f45
theorem anw:aF U 45 XI:=aS arb Tryz.func45 (by kernel_rfl) ag (fun y=>by kernel_rfl) fun a=>by kernel_rfl
noncomputable abbrev aqZ:bh:=[(12,wo),(30,B7),(45,XI)]
theorem B':a7 U (bg aj aqZ):=bf ⟨z12,IE,anw,⟨⟩⟩
abbrev P7:Shape:=⟨[ae 2,aM 3 3 0,aM 4 4 0,aM 6 6 0],[aL 3 [ai,ai],aL 4 [cW .pack],aL 6 [ai,ai]],33⟩
abbrev PY:List aO:=[(.norm,⟨[ae 2,aM 3 3 0,aM 4 4 0,aM 6 6 0,au 15],[aL 3 [ai,ai],aL 4 [cW .pack],aL 6 [ai,ai]],33⟩)]
noncomputable def QK(y:P7.J):Option (ay PY):=
(f12 (((y.2.1.1,y.2.1.2.1,()),()),())).bind fun a=>
 bif(!(!a.1.1)) then
(f30 (((y.2.2.1.1,()),()),())).bind fun b=>
 some ((y.1.1,(),(),(),(!b.1.1),()),(y.2.1.1,y.2.1.2.1,()),(y.2.2.1.1,()),(y.2.2.2.1.1,y.2.2.2.1.2.1,()),())
else
 some ((y.1.1,(),(),(),true,()),(y.2.1.1,y.2.1.2.1,()),(y.2.2.1.1,()),(y.2.2.2.1.1,y.2.2.2.1.2.1,()),())
theorem ahl:aW U (an (codeOf Tryz.f16) 1 12) (a_ P7 PY QK):=cS B' (by kernel_rfl) ag fun y=>by kernel_rfl
abbrev P6:Shape:=⟨[ae 2,aM 3 3 0,aM 6 6 0,ao 7],[aL 3 [ai,ai],aL 6 [ai,ai]],33⟩
abbrev PX:List aO:=[(.norm,⟨[ae 2,aM 3 3 0,aM 6 6 0,ao 7],[aL 3 [ai,ai],aL 6 [ai,ai]],33⟩)]
noncomputable def QJ(y:P6.J):Option (ay PX):=
 bif(decide (y.1.1<(0:Int))) then
 some (((0:Int),(),(),y.1.2.2.2.1,()),(y.2.1.1,y.2.1.2.1,()),(y.2.2.1.1,y.2.2.1.2.1,()),())
else
 some ((y.1.1,(),(),y.1.2.2.2.1,()),(y.2.1.1,y.2.1.2.1,()),(y.2.2.1.1,y.2.2.1.2.1,()),())
theorem ahk:aW U (an (codeOf Tryz.f16) 1 30) (a_ P6 PX QJ):=cS B' (by kernel_rfl) ag fun y=>by kernel_rfl
abbrev P5:Shape:=⟨[ae 2,aM 3 3 0,aM 6 6 0,ao 7],[aL 3 [ai,ai],aL 6 [ai,ai]],33⟩
abbrev PW:List aO:=[(.norm,⟨[ae 2,aM 3 3 0,aM 6 6 0,ao 7],[aL 3 [ai,ai],aL 6 [ai,ai]],33⟩)]
noncomputable def QI(y:P5.J):Option (ay PW):=
 bif(decide (y.1.1>(y.1.2.2.2.1.length:Int))) then
 some (((y.1.2.2.2.1.length:Int),(),(),y.1.2.2.2.1,()),(y.2.1.1,y.2.1.2.1,()),(y.2.2.1.1,y.2.2.1.2.1,()),())
else
 some ((y.1.1,(),(),y.1.2.2.2.1,()),(y.2.1.1,y.2.1.2.1,()),(y.2.2.1.1,y.2.2.1.2.1,()),())
theorem ahj:aW U (an (codeOf Tryz.f16) 1 62) (a_ P5 PW QI):=cS B' (by kernel_rfl) ag fun y=>by kernel_rfl
abbrev i16:Shape:=⟨[cB 0 [ai,ai],cB 1 [cW .pack],ae 2],[],33⟩
abbrev WC:Shape:=⟨[aM 6 6 0],[aL 6 [ai,ai]],33⟩
noncomputable def f16(a:i16.J):Option WC.J:=
(QK ((a.1.2.2.1,(),(),(),()),(a.1.1.1,a.1.1.2.1,()),(a.1.2.1.1,()),(([]:F),([]:F),()),())).bind fun b=>
 bif b.1.2.2.2.2.1 then
 some (((),()),(([]:F),([]:F),()),())
else
(f45 (((b.2.2.1.1,()),()),())).bind fun c=>
(QJ ((b.1.1,(),(),c.1.1,()),(b.2.1.1,b.2.1.2.1,()),(b.2.2.2.1.1,b.2.2.2.1.2.1,()),())).bind fun d=>
(QI ((d.1.1,(),(),d.1.2.2.2.1,()),(d.2.1.1,d.2.1.2.1,()),(d.2.2.1.1,d.2.2.1.2.1,()),())).bind fun e=>
(br e.1.2.2.2.1 (0:Int) e.1.1).bind fun f=>
 some (((),()),(e.2.1.1,f,()),())
noncomputable def XR:aH:=aP aj Tryz.f16 i16 WC [] f16
theorem anF:aF U 16 XR:=aS B' Tryz.func16 (by kernel_rfl) (a' ahl (a' ahk (a' ahj ag))) (fun y=>by kernel_rfl) fun a=>by kernel_rfl
noncomputable abbrev aqL:bh:=[(64,Ba)]
theorem ara:a7 U (bg aj aqL):=bf ⟨Hh,⟨⟩⟩
abbrev i47:Shape:=⟨[ao 0],[],10⟩
abbrev Wp:Shape:=⟨[ao 2],[],10⟩
noncomputable def f47(a:i47.J):Option Wp.J:=
(if-9223372036854775808<=(a.1.1.length:Int)/\(a.1.1.length:Int)<=9223372036854775807 then some () else none).bind fun b=>
(bV (Lib.itoa (a.1.1.length:Int)) ([10]:F)).bind fun c=>
(bV c a.1.1).bind fun d=>
(bV d ([101,110,100,10]:F)).bind fun e=>
 some ((e,()),())
noncomputable def XG:aH:=aP aj Tryz.f47 i47 Wp [] f47
theorem anv:aF U 47 XG:=aS ara Tryz.func47 (by kernel_rfl) ag (fun y=>by kernel_rfl) fun a=>by kernel_rfl
noncomputable abbrev aqX:bh:=[(14,wl),(34,XM),(43,B6),(47,XG)]
theorem X5:a7 U (bg aj aqX):=bf ⟨VV,anB,ID,anv,⟨⟩⟩
abbrev P4:Shape:=⟨[ae 2,aM 3 3 0,aM 4 4 0,aM 6 6 0],[aL 3 [ai,ai],aL 4 [cW .pack],aL 6 [ai,ai]],30⟩
abbrev PV:List aO:=[(.norm,⟨[ae 2,aM 3 3 0,aM 4 4 0,aM 6 6 0,au 15],[aL 3 [ai,ai],aL 4 [cW .pack],aL 6 [ai,ai]],30⟩)]
noncomputable def QH(y:P4.J):Option (ay PV):=
(f14 (((y.2.1.1,y.2.1.2.1,()),()),())).bind fun a=>
 bif(!(!a.1.1)) then
(f43 (((y.2.2.1.1,()),()),())).bind fun b=>
 some ((y.1.1,(),(),(),(!b.1.1),()),(y.2.1.1,y.2.1.2.1,()),(y.2.2.1.1,()),(y.2.2.2.1.1,y.2.2.2.1.2.1,()),())
else
 some ((y.1.1,(),(),(),true,()),(y.2.1.1,y.2.1.2.1,()),(y.2.2.1.1,()),(y.2.2.2.1.1,y.2.2.2.1.2.1,()),())
theorem ahi:aW U (an (codeOf Tryz.f18) 1 12) (a_ P4 PV QH):=cS X5 (by kernel_rfl) ag fun y=>by kernel_rfl
abbrev i18:Shape:=⟨[cB 0 [ai,ai],cB 1 [cW .pack],ae 2],[],30⟩
abbrev WA:Shape:=⟨[aM 6 6 0],[aL 6 [ai,ai]],30⟩
noncomputable def f18(a:i18.J):Option WA.J:=
(QH ((a.1.2.2.1,(),(),(),()),(a.1.1.1,a.1.1.2.1,()),(a.1.2.1.1,()),(([]:F),([]:F),()),())).bind fun b=>
 bif b.1.2.2.2.2.1 then
 some (((),()),(([]:F),([]:F),()),())
else
(f34 (((b.2.2.1.1,()),()),())).bind fun c=>
(f47 ((c.1.1,()),())).bind fun d=>
(br d.1.1 (0:Int) (k7 (gr b.1.1 (0:Int)) (d.1.1.length:Int))).bind fun e=>
 some (((),()),(b.2.1.1,e,()),())
noncomputable def XP:aH:=aP aj Tryz.f18 i18 WA [] f18
theorem anD:aF U 18 XP:=aS X5 Tryz.func18 (by kernel_rfl) (a' ahi ag) (fun y=>by kernel_rfl) fun a=>by kernel_rfl
noncomputable abbrev KH:bh:=[(11,tp),(12,wo),(13,wm),(14,wl)]
theorem KM:a7 U (bg aj KH):=bf ⟨VX,z12,VW,VV,⟨⟩⟩
abbrev i3:Shape:=⟨[cB 0 [ai,ai]],[],20⟩
abbrev o3:Shape:=⟨[au 2],[],20⟩
noncomputable def f3(a:i3.J):Option o3.J:=
(f11 (((a.1.1.1,a.1.1.2.1,()),(1048576:Int),()),())).bind fun b=>
 bif(decide (b.1.1<(0:Int))) then
 some ((true,()),())
else
(f13 (((a.1.1.1,a.1.1.2.1,()),()),())).bind fun c=>
(f12 (((c.2.1.1,c.2.1.2.1,()),()),())).bind fun d=>
(f13 (((a.1.1.1,a.1.1.2.1,()),()),())).bind fun e=>
(f14 (((e.2.1.1,e.2.1.2.1,()),()),())).bind fun f=>
 bif(!(f.1.1==d.1.1)) then
 some ((false,()),())
else
 some ((true,()),())
noncomputable def hL:aH:=aP aj Tryz.f3 i3 o3 [] f3
theorem z3:aF U 3 hL:=aS KM Tryz.func3 (by kernel_rfl) ag (fun y=>by kernel_rfl) fun a=>by kernel_rfl
noncomputable abbrev KG:bh:=[(11,tp),(13,wm),(15,wk),(16,XR),(17,XQ),(18,XP),(19,XO),(20,XN)]
theorem KL:a7 U (bg aj KG):=bf ⟨VX,VW,anG,anF,anE,anD,anC,z20,⟨⟩⟩
abbrev i4:Shape:=⟨[cB 0 [ai,ai],cB 1 [cW .pack],ae 2],[],43⟩
abbrev Yi:Shape:=⟨[au 6],[],43⟩
noncomputable def f4(a:i4.J):Option Yi.J:=
(f11 (((a.1.1.1,a.1.1.2.1,()),(1048576:Int),()),())).bind fun b=>
 bif(decide (b.1.1<(0:Int))) then
 some ((true,()),())
else
(f15 (((a.1.2.1.1,()),b.1.1,()),())).bind fun c=>
 bif(decide (c.1.1<(0:Int))) then
 some ((true,()),())
else
(f13 (((a.1.1.1,a.1.1.2.1,()),()),())).bind fun d=>
(f17 (((a.1.2.1.1,()),()),())).bind fun e=>
(f16 (((d.2.1.1,d.2.1.2.1,()),(e.2.1,()),a.1.2.2.1,()),())).bind fun f=>
(f17 (((a.1.2.1.1,()),()),())).bind fun g=>
(f13 (((a.1.1.1,a.1.1.2.1,()),()),())).bind fun h=>
(f18 (((h.2.1.1,h.2.1.2.1,()),(g.2.1,()),a.1.2.2.1,()),())).bind fun i=>
(f19 (((i.2.1.1,i.2.1.2.1,()),(f.2.1.1,f.2.1.2.1,()),()),())).bind fun j=>
 bif(!j.1.1) then
 some ((false,()),())
else
(f17 (((a.1.2.1.1,()),()),())).bind fun k=>
(f20 (((g.2.1,()),(k.2.1,()),()),())).bind fun l=>
 bif(!l.1.1) then
 some ((false,()),())
else
 some ((true,()),())
noncomputable def lq:aH:=aP aj Tryz.f4 i4 Yi [] f4
theorem z4:aF U 4 lq:=aS KL Tryz.func4 (by kernel_rfl) ag (fun y=>by kernel_rfl) fun a=>by kernel_rfl
theorem acF(s t:F)(l:Int)(h0:0<=l)(h1:l<=1048576)(hs:q7 s.length)(ap:q7 t.length):∃r:Int,f11 (((s,(t,())),(l,())),())=some ((r,()),())/\ahW l r (n7 s.length/\n7 t.length):=by
 have aN:=OM h0 h1 hs;simp only[f11,aN];by_cases aD:l-(s.length:Int)<0
 ·simp only[aD,decide_true,cond_true];exact⟨-1,rfl,.inl (by omega)⟩
 ·have w2:=OM (l:=l-(s.length:Int)) (by omega) (by omega) ap
  simp only[aD,decide_false,cond_false,w2];by_cases az:l-(s.length:Int)-(t.length:Int)<0
  ·simp only[az,decide_true,cond_true];exact⟨-1,rfl,.inl (by omega)⟩
  ·simp only[az,decide_false,cond_false];exact⟨_,rfl,.inr ⟨by omega,by omega,by unfold n7;omega,by unfold n7;omega⟩⟩
theorem YX(s t:F)(hs:q7 s.length)(ap:q7 t.length):f3 (((s,(t,())),()),())=some ((true,()),()):=by
 obtain⟨r,e1,e2⟩:=acF s t 1048576 (by decide) (by decide) hs ap
 simp only[f3,e1,Option.bind_some];rcases e2 with e2|⟨q1,q2,dr,lm⟩
 ·simp only[e2,decide_true,cond_true]
 ·have:¬r<0:=by omega
  unfold n7 at dr;obtain⟨b,bz,dw⟩:=aej s t (by omega)
  simp only[this,decide_false,cond_false,f13,Option.bind_some,bz,dw,beq_self_eq_true,Bool.not_true]
theorem pure_FnExactDiskOk:LawOk hL [(true,[.str,.str])]:=by
 rintro⟨⟨s,t,u⟩,cn⟩ ⟨h,_⟩;exact⟨((true,()),()),YX s t (Ol (h (.str s) (by simp[fk,dx.mk]))) (Ol (h (.str t) (by simp[fk,dx.mk]))),rfl⟩
end Go.Proofs
