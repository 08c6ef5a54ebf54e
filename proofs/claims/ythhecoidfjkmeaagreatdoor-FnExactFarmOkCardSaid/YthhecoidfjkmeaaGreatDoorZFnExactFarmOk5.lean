/- FnExactFarmOk: the program's FarmOk returns what the reference's returns, for all arguments. (part 6 of 7: JkKF126, JkKF127, JkKPuGq, JkKF76, JkKPuGr, JkKF39, JkKF12, JkKPuGs, JkKF34, JkKPuPc, JkKF186, JkKF134, JkKF187, JkKF135, JkKF188, JkKF136, JkKF189, JkKF137, JkKF190, JkKF138, JkKF191, JkKF139, JkKF82) Conditions: none beyond the statement. -/
import Derived.Test.YthhecoidfjkmeaaGreatDoorZFnExactFarmOk4
import Derived.Tactics
import Derived.Deep.RegionLaw
import Derived.Shelf.Abstract
import Derived.Test.YthhecoidfjkmeaaGreatDoorProg
import Derived.KernelRfl
set_option linter.unusedSimpArgs false
set_option maxRecDepth 100000
set_option linter.unusedVariables false
namespace Go.Proofs
open Go.Jk
noncomputable abbrev apk:bg:=[(73,tL),(179,WA)]
theorem vY:aW U (bd ah apk):=bc ⟨v7,amG,⟨⟩⟩
abbrev M8:Shape:=⟨[aM 2 2 0,aM 5 5 0,bf 6 3000384,ap 7,ad 8,bf 9 3000576],[bv 5000130 .need 2 2,bv 5000131 .entry 2 3,aO 2 [ae,ae,.own 5000130,.own 5000131],bv 5000322 .need 5 2,bv 5000323 .entry 5 3,aO 5 [ae,ae,.own 5000322,.own 5000323],be 3000384 .str 6 0,be 3000576 .str 9 0],118⟩
abbrev M2:List aN:=[(.norm,⟨[aM 2 2 0,aM 5 5 0,bf 6 3000384,ap 7,ad 8,bf 9 3000576,ar 52],[bv 5000130 .need 2 2,bv 5000131 .entry 2 3,aO 2 [ae,ae,.own 5000130,.own 5000131],bv 5000322 .need 5 2,bv 5000323 .entry 5 3,aO 5 [ae,ae,.own 5000322,.own 5000323],be 3000384 .str 6 0,be 3000576 .str 9 0],118⟩)]
noncomputable def kW(y:M8.J):Option (aw M2):=
 bif(y.1.2.2.2.2.1==(1:Int)) then
(a_ y.2.2.2.2.2.2.2.2.1.length (0:Int)).bind fun a=>
(y.2.2.2.2.2.2.2.2.1[a]?).bind fun b=>
 bif(b==([112,97,99,107]:F)) then
 some (((),(),(),y.1.2.2.2.1,y.1.2.2.2.2.1,(),((y.2.2.2.2.2.2.2.2.1.length:Int)==(3:Int)),()),y.2.1,y.2.2.1,(y.2.2.2.1.1,y.2.2.2.1.2.1,(),(),()),y.2.2.2.2.1,y.2.2.2.2.2.1,(y.2.2.2.2.2.2.1.1,y.2.2.2.2.2.2.1.2.1,(),(),()),y.2.2.2.2.2.2.2.1,y.2.2.2.2.2.2.2.2.1,())
else
 some (((),(),(),y.1.2.2.2.1,y.1.2.2.2.2.1,(),false,()),y.2.1,y.2.2.1,(y.2.2.2.1.1,y.2.2.2.1.2.1,(),(),()),y.2.2.2.2.1,y.2.2.2.2.2.1,(y.2.2.2.2.2.2.1.1,y.2.2.2.2.2.2.1.2.1,(),(),()),y.2.2.2.2.2.2.2.1,y.2.2.2.2.2.2.2.2.1,())
else
 some (((),(),(),y.1.2.2.2.1,y.1.2.2.2.2.1,(),false,()),y.2.1,y.2.2.1,(y.2.2.2.1.1,y.2.2.2.1.2.1,(),(),()),y.2.2.2.2.1,y.2.2.2.2.2.1,(y.2.2.2.2.2.2.1.1,y.2.2.2.2.2.2.1.2.1,(),(),()),y.2.2.2.2.2.2.2.1,y.2.2.2.2.2.2.2.2.1,())
theorem abK:aT U (an (c8 (an (codeOf Tryz.f126) 1 250)) 500 128156) (a6 M8 M2 kW):=cQ vY (by kernel_rfl) af fun y=>by kernel_rfl
abbrev M7:Shape:=⟨[aM 2 2 0,aM 5 5 0,bf 6 3000384,ap 7,ad 8,bf 9 3000576],[bv 5000130 .need 2 2,bv 5000131 .entry 2 3,aO 2 [ae,ae,.own 5000130,.own 5000131],bv 5000322 .need 5 2,bv 5000323 .entry 5 3,aO 5 [ae,ae,.own 5000322,.own 5000323],be 3000384 .str 6 0,be 3000576 .str 9 0],118⟩
abbrev M1:List aN:=[(.norm,⟨[aM 2 2 0,aM 5 5 0,bf 6 3000384,ap 7,ad 8,bf 9 3000576,ar 74],[bv 5000130 .need 2 2,bv 5000131 .entry 2 3,aO 2 [ae,ae,.own 5000130,.own 5000131],bv 5000322 .need 5 2,bv 5000323 .entry 5 3,aO 5 [ae,ae,.own 5000322,.own 5000323],be 3000384 .str 6 0,be 3000576 .str 9 0],118⟩)]
noncomputable def lF(y:M7.J):Option (aw M1):=
 bif(decide (y.1.2.2.2.2.1>(1:Int))) then
(a_ y.2.2.2.2.2.2.2.1.length y.1.2.2.2.2.1).bind fun a=>
(y.2.2.2.2.2.2.2.1[a]?).bind fun b=>
 some (((),(),(),y.1.2.2.2.1,y.1.2.2.2.2.1,(),(b==([]:F)),()),y.2.1,y.2.2.1,(y.2.2.2.1.1,y.2.2.2.1.2.1,(),(),()),y.2.2.2.2.1,y.2.2.2.2.2.1,(y.2.2.2.2.2.2.1.1,y.2.2.2.2.2.2.1.2.1,(),(),()),y.2.2.2.2.2.2.2.1,y.2.2.2.2.2.2.2.2.1,())
else
 some (((),(),(),y.1.2.2.2.1,y.1.2.2.2.2.1,(),false,()),y.2.1,y.2.2.1,(y.2.2.2.1.1,y.2.2.2.1.2.1,(),(),()),y.2.2.2.2.1,y.2.2.2.2.2.1,(y.2.2.2.2.2.2.1.1,y.2.2.2.2.2.2.1.2.1,(),(),()),y.2.2.2.2.2.2.2.1,y.2.2.2.2.2.2.2.2.1,())
theorem abJ:aT U (an (c8 (an (codeOf Tryz.f126) 1 250)) 500 512630) (a6 M7 M1 lF):=cQ vY (by kernel_rfl) af fun y=>by kernel_rfl
abbrev MK:Shape:=⟨[aM 2 2 0,aM 5 5 0,bf 6 3000384,ap 7,ad 8,bf 9 3000576],[bv 5000130 .need 2 2,bv 5000131 .entry 2 3,aO 2 [ae,ae,.own 5000130,.own 5000131],bv 5000322 .need 5 2,bv 5000323 .entry 5 3,aO 5 [ae,ae,.own 5000322,.own 5000323],be 3000384 .str 6 0,be 3000576 .str 9 0],118⟩
abbrev MI:List aN:=[(.norm,⟨[aM 2 2 0,aM 5 5 0,bf 6 3000384,ap 7,ad 8,bf 9 3000576,ar 86],[bv 5000130 .need 2 2,bv 5000131 .entry 2 3,aO 2 [ae,ae,.own 5000130,.own 5000131],bv 5000322 .need 5 2,bv 5000323 .entry 5 3,aO 5 [ae,ae,.own 5000322,.own 5000323],be 3000384 .str 6 0,be 3000576 .str 9 0],118⟩)]
noncomputable def nd(y:MK.J):Option (aw MI):=
 bif(decide (y.1.2.2.2.2.1>(1:Int))) then
(a_ y.2.2.2.2.2.2.2.2.1.length (0:Int)).bind fun a=>
(y.2.2.2.2.2.2.2.2.1[a]?).bind fun b=>
 bif(b==([110,101,101,100]:F)) then
 some (((),(),(),y.1.2.2.2.1,y.1.2.2.2.2.1,(),((y.2.2.2.2.2.2.2.2.1.length:Int)==(2:Int)),()),y.2.1,y.2.2.1,(y.2.2.2.1.1,y.2.2.2.1.2.1,(),(),()),y.2.2.2.2.1,y.2.2.2.2.2.1,(y.2.2.2.2.2.2.1.1,y.2.2.2.2.2.2.1.2.1,(),(),()),y.2.2.2.2.2.2.2.1,y.2.2.2.2.2.2.2.2.1,())
else
 some (((),(),(),y.1.2.2.2.1,y.1.2.2.2.2.1,(),false,()),y.2.1,y.2.2.1,(y.2.2.2.1.1,y.2.2.2.1.2.1,(),(),()),y.2.2.2.2.1,y.2.2.2.2.2.1,(y.2.2.2.2.2.2.1.1,y.2.2.2.2.2.2.1.2.1,(),(),()),y.2.2.2.2.2.2.2.1,y.2.2.2.2.2.2.2.2.1,())
else
 some (((),(),(),y.1.2.2.2.1,y.1.2.2.2.2.1,(),false,()),y.2.1,y.2.2.1,(y.2.2.2.1.1,y.2.2.2.1.2.1,(),(),()),y.2.2.2.2.1,y.2.2.2.2.2.1,(y.2.2.2.2.2.2.1.1,y.2.2.2.2.2.2.1.2.1,(),(),()),y.2.2.2.2.2.2.2.1,y.2.2.2.2.2.2.2.2.1,())
theorem aa2:aT U (an (c8 (an (codeOf Tryz.f126) 1 250)) 500 2050526) (a6 MK MI nd):=cQ vY (by kernel_rfl) af fun y=>by kernel_rfl
abbrev uw:Shape:=⟨[aM 2 2 0,aM 5 5 0,bf 6 3000384,ap 7,ad 8],[bv 5000130 .need 2 2,bv 5000131 .entry 2 3,aO 2 [ae,ae,.own 5000130,.own 5000131],bv 5000322 .need 5 2,bv 5000323 .entry 5 3,aO 5 [ae,ae,.own 5000322,.own 5000323],be 3000384 .str 6 0],118⟩
abbrev x':List aN:=[(.ret,⟨[aM 2 2 0,ap 3,ar 4],[bv 5000130 .need 2 2,bv 5000131 .entry 2 3,aO 2 [ae,ae,.own 5000130,.own 5000131]],118⟩),(.exit 0,⟨[aM 2 2 0,aM 5 5 0],[bv 5000130 .need 2 2,bv 5000131 .entry 2 3,aO 2 [ae,ae,.own 5000130,.own 5000131],bv 5000322 .need 5 2,bv 5000323 .entry 5 3,aO 5 [ae,ae,.own 5000322,.own 5000323]],118⟩)]
noncomputable def ho(y:uw.J):bJ uw x':=
 bif(decide (y.1.2.2.2.2.1<(y.2.2.2.2.2.2.2.1.length:Int))) then
 bif(decide (y.1.2.2.2.2.1<=(8:Int))) then
(a_ y.2.2.2.2.2.2.2.1.length y.1.2.2.2.2.1).bind fun a=>
(y.2.2.2.2.2.2.2.1[a]?).bind fun b=>
(f73 ((b,(32:Int),(2:Int),()),())).bind fun c=>
(a_ y.2.2.2.2.2.2.2.1.length y.1.2.2.2.2.1).bind fun d=>
(y.2.2.2.2.2.2.2.1[d]?).bind fun e=>
 bif(decide ((y.1.2.2.2.1.length:Int)<(IntKind.i64.wrap ((e.length:Int)+(1:Int))))) then
 some (.inr (.inl (((),([]:F),false,()),y.2.2.2.2.1,y.2.2.2.2.2.1,(y.2.2.2.2.2.2.1.1,y.2.2.2.2.2.2.1.2.1,(),(),()),())))
else
(a_ y.2.2.2.2.2.2.2.1.length y.1.2.2.2.2.1).bind fun f=>
(y.2.2.2.2.2.2.2.1[f]?).bind fun g=>
(bw y.1.2.2.2.1 (IntKind.i64.wrap ((g.length:Int)+(1:Int))) (y.1.2.2.2.1.length:Int)).bind fun h=>
(kW (((),(),(),h,y.1.2.2.2.2.1,(),()),y.2.1,y.2.2.1,(y.2.2.2.1.1,y.2.2.2.1.2.1,(),(),()),y.2.2.2.2.1,y.2.2.2.2.2.1,(y.2.2.2.2.2.2.1.1,y.2.2.2.2.2.2.1.2.1,(),(),()),y.2.2.2.2.2.2.2.1,c.2.1,())).bind fun i=>
 bif i.1.2.2.2.2.2.2.1 then
(a_ i.2.2.2.2.2.2.2.2.1.length (1:Int)).bind fun j=>
(i.2.2.2.2.2.2.2.2.1[j]?).bind fun k=>
(a_ i.2.2.2.2.2.2.2.2.1.length (2:Int)).bind fun l=>
(i.2.2.2.2.2.2.2.2.1[l]?).bind fun m=>
 some (.inl (((),(),(),i.1.2.2.2.1,(IntKind.i64.wrap (i.1.2.2.2.2.1+(1:Int))),()),i.2.1,i.2.2.1,(i.2.2.2.1.1,i.2.2.2.1.2.1,(),(),()),i.2.2.2.2.1,i.2.2.2.2.2.1,(k,m,(),(),()),i.2.2.2.2.2.2.2.1,()))
else
(lF (((),(),(),i.1.2.2.2.1,i.1.2.2.2.2.1,(),()),i.2.1,i.2.2.1,(i.2.2.2.1.1,i.2.2.2.1.2.1,(),(),()),i.2.2.2.2.1,i.2.2.2.2.2.1,(i.2.2.2.2.2.2.1.1,i.2.2.2.2.2.2.1.2.1,(),(),()),i.2.2.2.2.2.2.2.1,i.2.2.2.2.2.2.2.2.1,())).bind fun n=>
 bif n.1.2.2.2.2.2.2.1 then
 some (.inr (.inl (((),n.1.2.2.2.1,true,()),n.2.2.2.2.1,n.2.2.2.2.2.1,(n.2.2.2.2.2.2.1.1,n.2.2.2.2.2.2.1.2.1,(),(),()),())))
else
(nd (((),(),(),n.1.2.2.2.1,n.1.2.2.2.2.1,(),()),n.2.1,n.2.2.1,(n.2.2.2.1.1,n.2.2.2.1.2.1,(),(),()),n.2.2.2.2.1,n.2.2.2.2.2.1,(n.2.2.2.2.2.2.1.1,n.2.2.2.2.2.2.1.2.1,(),(),()),n.2.2.2.2.2.2.2.1,n.2.2.2.2.2.2.2.2.1,())).bind fun B=>
 bif B.1.2.2.2.2.2.2.1 then
(a_ B.2.2.2.2.2.2.2.2.1.length (1:Int)).bind fun p=>
(B.2.2.2.2.2.2.2.2.1[p]?).bind fun q=>
(f179 ((q,()),())).bind fun r=>
(cy 40 B.2.2.2.2.1 ([(bB.mk r.2.1.1 r.2.1.2.1 r.2.1.2.2.1)]:List bB)).bind fun s=>
 some (.inl (((),(),(),B.1.2.2.2.1,(IntKind.i64.wrap (B.1.2.2.2.2.1+(1:Int))),()),B.2.1,B.2.2.1,(B.2.2.2.1.1,B.2.2.2.1.2.1,(),(),()),s,B.2.2.2.2.2.1,(B.2.2.2.2.2.2.1.1,B.2.2.2.2.2.2.1.2.1,(),(),()),B.2.2.2.2.2.2.2.1,()))
else
 bif(decide (B.1.2.2.2.2.1>(0:Int))) then
 some (.inr (.inl (((),([]:F),false,()),B.2.2.2.2.1,B.2.2.2.2.2.1,(B.2.2.2.2.2.2.1.1,B.2.2.2.2.2.2.1.2.1,(),(),()),())))
else
 some (.inl (((),(),(),B.1.2.2.2.1,(IntKind.i64.wrap (B.1.2.2.2.2.1+(1:Int))),()),B.2.1,B.2.2.1,(B.2.2.2.1.1,B.2.2.2.1.2.1,(),(),()),B.2.2.2.2.1,B.2.2.2.2.2.1,(B.2.2.2.2.2.2.1.1,B.2.2.2.2.2.2.1.2.1,(),(),()),B.2.2.2.2.2.2.2.1,()))
else
 some (.inr (.inr (((),(),()),y.2.1,y.2.2.1,(y.2.2.2.1.1,y.2.2.2.1.2.1,(),(),()),y.2.2.2.2.1,y.2.2.2.2.2.1,(y.2.2.2.2.2.2.1.1,y.2.2.2.2.2.2.1.2.1,(),(),()),())))
else
 some (.inr (.inr (((),(),()),y.2.1,y.2.2.1,(y.2.2.2.1.1,y.2.2.2.1.2.1,(),(),()),y.2.2.2.2.1,y.2.2.2.2.2.1,(y.2.2.2.2.2.2.1.1,y.2.2.2.2.2.2.1.2.1,(),(),()),())))
noncomputable def k2:uw.J->Option (aw x'):=bn ho
theorem ags:aT U (an (codeOf Tryz.f126) 1 250) (a6 uw x' k2):=bN vY (by kernel_rfl) (bb abK (bb abJ (bb aa2 af))) fun y=>by kernel_rfl
abbrev i126:Shape:=⟨[ap 0],[],118⟩
abbrev IT:Shape:=⟨[aM 2 2 0,ap 3,ar 4],[bv 5000130 .need 2 2,bv 5000131 .entry 2 3,aO 2 [ae,ae,.own 5000130,.own 5000131]],118⟩
noncomputable def f126(a:i126.J):Option IT.J:=
(f73 ((a.1.1,(10:Int),(IntKind.i64.wrap ((a.1.1.length:Int)+(1:Int))),()),())).bind fun b=>
(k2 (((),(),(),a.1.1,(0:Int),()),([]:List bB),([]:List aC),(([]:F),([]:F),(),(),()),([]:List bB),([]:List aC),(([]:F),([]:F),(),(),()),b.2.1,())).bind fun c=>
(match c with
|.inl d=>
 some (((),d.1.2.1,d.1.2.2.1,()),d.2.1,d.2.2.1,(d.2.2.2.1.1,d.2.2.2.1.2.1,(),(),()),())
|.inr e=>
 some (((),([]:F),false,()),e.2.2.2.2.1,e.2.2.2.2.2.1,(e.2.2.2.2.2.2.1.1,e.2.2.2.2.2.2.1.2.1,(),(),()),()))
noncomputable def W3:aF:=aK ah Tryz.f126 i126 IT [] f126
theorem amU:aE U 126 W3:=aL vY Tryz.func126 (by kernel_rfl) (bb ags af) (fun y=>by kernel_rfl) fun a=>by kernel_rfl
noncomputable abbrev apj:bg:=[(90,CU),(180,Wz),(181,Jz)]
theorem Xx:aW U (bd ah apj):=bc ⟨JX,amF,TA,⟨⟩⟩
abbrev zl:Shape:=⟨[ap 0,bf 4 3000256,ap 5],[be 3000256 .entry 4 0],41⟩
abbrev Gb:List aN:=[(.ret,⟨[bf 2 3000128,ar 3],[be 3000128 .entry 2 0],41⟩),(.exit 0,⟨[ap 0,bf 4 3000256],[be 3000256 .entry 4 0],41⟩)]
noncomputable def pZ(y:zl.J):bJ zl Gb:=
 bif(!(y.1.2.2.1==([]:F))) then
 bif(decide ((y.2.1.length:Int)<=(16:Int))) then
(f180 ((y.1.2.2.1,()),())).bind fun a=>
 bif(!a.1.2.2.1) then
 some (.inr (.inl (((),false,()),y.2.1,())))
else
(cy 48 y.2.1 ([(aC.mk a.2.1.1 a.2.1.2.1 a.2.1.2.2.1 a.2.1.2.2.2.1)]:List aC)).bind fun b=>
 some (.inl ((y.1.1,(),a.1.2.1,()),b,()))
else
 some (.inr (.inr ((y.1.1,(),()),y.2.1,())))
else
 some (.inr (.inr ((y.1.1,(),()),y.2.1,())))
noncomputable def uO:zl.J->Option (aw Gb):=bn pZ
theorem air:aT U (an (codeOf Tryz.f127) 1 60) (a6 zl Gb uO):=bN Xx (by kernel_rfl) af fun y=>by kernel_rfl
abbrev i127:Shape:=⟨[ap 0],[],41⟩
abbrev U9:Shape:=⟨[bf 2 3000128,ar 3],[be 3000128 .entry 2 0],41⟩
noncomputable def f127(a:i127.J):Option U9.J:=
(uO ((a.1.1,(),a.1.1,()),([]:List aC),())).bind fun b=>
(match b with
|.inl c=>
 some (((),c.1.2.1,()),c.2.1,())
|.inr d=>
(f90 ((d.2.1,()),())).bind fun e=>
 bif e.1.1 then
(f181 ((d.2.1,()),())).bind fun f=>
 some (((),(f.1.1==d.1.1),()),d.2.1,())
else
 some (((),false,()),d.2.1,()))
noncomputable def W2:aF:=aK ah Tryz.f127 i127 U9 [] f127
theorem z127:aE U 127 W2:=aL Xx Tryz.func127 (by kernel_rfl) (bb air af) (fun y=>by kernel_rfl) fun a=>by kernel_rfl
theorem akk(s:F):∀(m:Nat) (r:F) (t:List aC),r.length<=m->m<=2000000->t.length<=17->o5 2000000 t->
  ∃ns:List aC,ns.length<=17/\o5 2000000 ns/\(uO ((s,((),(r,()))),(t,()))=some (.inr ((s,((),())),(ns,())))\/uO ((s,((),(r,()))),(t,()))=some (.inl (((),(false,())),(ns,())))):=by
 intro m;induction m with
 |zero=>
  intro r t hs _ aq ha;have:r=[]:=List.length_eq_zero_iff.1 (by omega)
  subst this;exact⟨t,aq,ha,.inl (ca rfl)⟩
 |succ m ih=>
  intro r t hs hm aq ha;cases r with
  |nil=>exact⟨t,aq,ha,.inl (ca rfl)⟩
  |cons b r0=>
   have hne:((b::r0)==([]:F))=false:=rfl;generalize ez:b::r0=r at hs hne;by_cases wM:t.length<=16
   ·have d:decide (((t.length:Nat):Int)<=16)=true:=decide_eq_true (by omega)
    obtain⟨ey,e,h1,h2⟩:=O_ r (by omega)
    cases hr:mN r with
    |none=>
     rw[hr] at h1;refine⟨t,aq,ha,.inr (ca ?_)⟩;simp only[pZ,hne,Bool.not_false,cond_true,d,h1,Option.bind_some,Option.isSome_none]
    |some q=>
     have au:=h2 q hr;subst au;rw[hr] at h1;obtain⟨ec,gC,wY⟩:=QP hr;have fe:cy 48 t ([(aC.mk e.path e.kind e.mode e.text)]:List aC)=some (t++[e]):=dS (by decide) (by unfold am;simp;omega)
     have st:pZ ((s,((),(r,()))),(t,()))=some (.inl ((s,((),(ey,()))),(t++[e],()))):=by
      simp only[pZ,hne,Bool.not_false,cond_true,d,h1,Option.bind_some,Option.isSome_some,Bool.not_true,cond_false,fe]
     obtain⟨ns,g1,g2,g3⟩:=ih ey (t++[e]) (by omega) (by omega) (by simp;omega) (fun x hx=>by
      rcases List.mem_append.1 hx with hx|hx
      ·exact ha x hx
      ·rw[List.mem_singleton.1 hx];exact⟨by omega,by omega⟩)
     exact⟨ns,g1,g2,g3.imp (du st).trans (du st).trans⟩
   ·have d:decide (((t.length:Nat):Int)<=16)=false:=decide_eq_false (by omega)
    refine⟨t,aq,ha,.inl (ca ?_)⟩;simp only[pZ,hne,Bool.not_false,cond_true,d,cond_false]
theorem akj(s:F):∀(ce t:List aC),(∀e,e∈ce->eK e=true)->t.length+ce.length<=16->(dd ce).length<=2000000->
  uO ((s,((),(dd ce,()))),(t,()))=some (.inr ((s,((),())),(t++ce,()))):=by
 intro ce;induction ce with
 |nil=>intro t _ _ _;rw[List.append_nil];exact ca rfl
 |cons e ce ih=>
  intro t h aq hl;have he:=h e List.mem_cons_self;have hr:=ahC he (dd ce);have hE:dd (e::ce)=d_ e++dd ce:=by unfold dd;rw[List.flatMap_cons]
  rw[hE] at hl ⊢;have hlen:=(QP hr).2.2;have hne:((d_ e++dd ce)==([]:F))=false:=by
   cases hx:d_ e++dd ce with
   |nil=>rw[hx] at hlen;simp at hlen
   |cons b r=>rfl
  obtain⟨r,cE,h1,h2⟩:=O_ (d_ e++dd ce) hl;have au:=h2 _ hr;simp only[Prod.mk.injEq] at au;obtain⟨rfl,rfl⟩:=au;rw[hr] at h1;have d:decide (((t.length:Nat):Int)<=16)=true:=decide_eq_true (by omega)
  have fe:cy 48 t ([(aC.mk e.path e.kind e.mode e.text)]:List aC)=some (t++[e]):=dS (by decide) (by unfold am;simp;simp at aq;omega)
  have st:pZ ((s,((),(d_ e++dd ce,()))),(t,()))=some (.inl ((s,((),(dd ce,()))),(t++[e],()))):=by
   simp only[pZ,hne,Bool.not_false,cond_true,d,h1,Option.bind_some,Option.isSome_some,Bool.not_true,cond_false,fe]
  have:=ih (t++[e]) (fun x hx=>h x (List.mem_cons_of_mem _ hx)) (by simp at aq ⊢;omega) (by omega)
  rw[List.append_assoc] at this;exact(du st).trans this
theorem Rm{t:List aC}(hl:t.length<=17)(h:o5 2000000 t):is t:=⟨by show t.length<=2097152;omega,fun e he=>by have:=h e he;exact⟨by show e.path.length<=2097152;omega,by show e.text.length<=2097152;omega⟩⟩
theorem aae(s:F)(hs:s.length<=2000000):∃(ok:Bool) (t:List aC),f127 ((s,()),())=some (((),(ok,())),(t,()))/\t.length<=17/\o5 2000000 t:=by
 obtain⟨ns,g1,g2,g3⟩:=akk s s.length s [] (Nat.le_refl _) hs (by decide) (fun x hx=>by cases hx)
 rcases g3 with g3|g3
 ·have hb:=Rm g1 g2;have aq:=x9 ((ns,()),()) hb;have aq:f90 ((ns,()),())=some ((dJ ns,()),()):=aq;cases hk:dJ ns with
  |false=>
   rw[hk] at aq;exact⟨false,ns,by simp only[f127,g3,Option.bind_some,aq,cond_false],g1,g2⟩
  |true=>
   rw[hk] at aq;have hl:=DW ns (rE hk) hb (jt hk);exact⟨_,ns,by simp only[f127,g3,Option.bind_some,aq,cond_true,hl];rfl,g1,g2⟩
 ·exact⟨false,ns,by simp only[f127,g3,Option.bind_some],g1,g2⟩
theorem aad(t:List aC)(h:dJ t=true)(hs:(dd t).length<=2000000)(hb:is t):
  f127 ((dd t,()),())=some (((),(true,())),(t,())):=by
 have g1:=akj (dd t) t [] (ug h) (by have:=jt h;simpa using this) hs
 have aq:=x9 ((t,()),()) hb;have aq:f90 ((t,()),())=some ((dJ t,()),()):=aq;rw[h] at aq;have hl:=DW t (rE h) hb (jt h);simp only[f127,g1,List.nil_append,Option.bind_some,aq,cond_true,hl,beq_self_eq_true]
theorem aeE{n:bB}(h:dv n=true):b9 32 (cK n):=by
 obtain⟨h1,h2⟩:=xk h;have hs:b9 32 (dB n.kind):=by unfold dB;cases n.kind==1<;>cases n.kind==2<;>cases n.kind==3<;>exact b9.lit (by decide)
 refine((TP h1).cU hs).cU ?_
 rcases h2 with⟨_,h2⟩|⟨_,h2⟩
 ·rw[h2];exact b9.nil _
 ·exact TH h2
abbrev hT(rest:F)(i:Int)(ns:List bB)(bE vs:F)(lines:List F):uw.J:=(((),((),((),(rest,(i,()))))),(([]:List bB),(([]:List aC),((([]:F),(([]:F),((),((),())))),(ns,(([]:List aC),((bE,(vs,((),((),())))),(lines,()))))))))
abbrev pq(r:F)(ok:Bool)(ns:List bB)(bE vs:F):IT.J:=(((),(r,(ok,()))),(ns,(([]:List aC),((bE,(vs,((),((),())))),()))))
abbrev Ml(ns:List bB)(bE vs:F):aw x':=.inr (((),((),())),(([]:List bB),(([]:List aC),((([]:F),(([]:F),((),((),())))),(ns,(([]:List aC),((bE,(vs,((),((),())))),())))))))
abbrev pr(k:Nat)(r:F)(ns:List bB)(bE vs:F):Prop:=r.length<=k/\ns.length<=9/\td k ns/\bE.length<=k/\vs.length<=k
theorem akh(K:Nat)(bR:K<=2000000)(lines:List F)(dY:∀x,x∈lines->x.length<=K):∀(k i:Nat) (rest:F) (ns:List bB) (bE vs:F),k+i=9->rest.length<=K->ns.length<=i->td K ns->bE.length<=K->vs.length<=K->
  ∃(r:F) (ok:Bool) (kx:List bB) (ky cn:F),pr K r kx ky cn/\(k2 (hT rest (i:Int) ns bE vs lines)=some (.inl (pq r ok kx ky cn))\/k2 (hT rest (i:Int) ns bE vs lines)=some (Ml kx ky cn)):=by
 intro k;induction k with
 |zero=>
  intro i rest ns bE vs hi hr hn ha h1 h2;refine⟨[],false,ns,bE,vs,⟨Nat.zero_le _,by omega,ha,h1,h2⟩,.inr (ca ?_)⟩
  have d:decide ((i:Int)<=8)=false:=decide_eq_false (by omega)
  simp only[ho,d,cond_false];cases decide ((i:Int)<(lines.length:Int))<;>rfl
 |succ k ih=>
  intro i rest ns bE vs hi hr hn ha h1 h2;have d:decide ((i:Int)<=8)=true:=decide_eq_true (by omega)
  by_cases hlt:i<lines.length
  ·have hx:lines[i]? =some lines[i]:=List.getElem?_eq_getElem hlt;have hxl:=dY _ (List.getElem_mem hlt);generalize lines[i]=x at hx hxl;have hin:a_ lines.length (i:Int)=some i:=fm hlt;have hw1:IntKind.i64.wrap (((x.length:Nat):Int)+1)=((x.length+1:Nat):Int):=bK (by unfold am;omega)
   have kz:IntKind.i64.wrap (((i:Nat):Int)+1)=((i+1:Nat):Int):=bK (by unfold am;omega)
   have c2:=lG 32 x (by omega) 2
   have c2:f73 ((x,((32:Int),((2:Int),()))),())=_:=c2;have hm:=pw 32 2 x;have hp:=Ny 32 2 x;generalize splitN 32 2 x=ws at c2 hm hp;obtain⟨O,more,rfl⟩:∃O more,ws=O::more:=by
    cases ws with
    |nil=>exact absurd hp (by decide)
    |cons a b=>exact⟨a,b,rfl⟩
   have g_:a_ (O::more).length (0:Int)=some 0:=Kl (by simp)
   have dw:(O::more)[0]? =some O:=rfl;by_cases hlen:rest.length<x.length+1
   ·have jq:decide (((rest.length:Nat):Int)<((x.length+1:Nat):Int))=true:=decide_eq_true (by omega)
    refine⟨[],false,ns,bE,vs,⟨Nat.zero_le _,by omega,ha,h1,h2⟩,.inl (ca ?_)⟩
    simp only[ho,bZ hlt,d,cond_true,hin,Option.bind_some,hx,c2,hw1,jq]
   ·have jq:decide (((rest.length:Nat):Int)<((x.length+1:Nat):Int))=false:=decide_eq_false (by omega)
    have hs:bw rest ((x.length+1:Nat):Int) ((rest.length:Nat):Int)=some (rest.drop (x.length+1)):=gu (by omega)
    have mU:(rest.drop (x.length+1)).length<=K:=by simp;omega
    generalize rest.drop (x.length+1)=r1 at hs mU;have go:∀(wi:List bB) (Ct v8:F),wi.length<=i+1->td K wi->Ct.length<=K->v8.length<=K->ho (hT rest (i:Int) ns bE vs lines)=some (.inl (hT r1 ((i+1:Nat):Int) wi Ct v8 lines))->
      ∃(r:F) (ok:Bool) (kx:List bB) (ky cn:F),pr K r kx ky cn/\(k2 (hT rest (i:Int) ns bE vs lines)=some (.inl (pq r ok kx ky cn))\/k2 (hT rest (i:Int) ns bE vs lines)=some (Ml kx ky cn)):=by
     intro wi Ct v8 q1 q2 cV jL q_;obtain⟨r,ok,kx,ky,cn,b,e⟩:=ih (i+1) r1 wi Ct v8 (by omega) mU q1 q2 cV jL
     exact⟨r,ok,kx,ky,cn,b,e.imp (du q_).trans (du q_).trans⟩
    have stop:∀(r:F) (ok:Bool),r.length<=K->ho (hT rest (i:Int) ns bE vs lines)=some (.inr (.inl (pq r ok ns bE vs)))->
      ∃(r:F) (ok:Bool) (kx:List bB) (ky cn:F),pr K r kx ky cn/\(k2 (hT rest (i:Int) ns bE vs lines)=some (.inl (pq r ok kx ky cn))\/k2 (hT rest (i:Int) ns bE vs lines)=some (Ml kx ky cn)):=
     fun r ok q1 q2=>⟨r,ok,ns,bE,vs,⟨q1,by omega,ha,h1,h2⟩,.inl (ca q2)⟩
    match i,hn,hi,hin,kz,hlt,hx,d,go,stop,ih with
    |0,hn,hi,hin,kz,hlt,hx,d,go,stop,ih=>
     refine go ns bE vs (by omega) ha h1 h2 ?_
     have t1:((((0:Nat):Int))==1)=false:=rfl;have t2:decide ((((0:Nat):Int))>1)=false:=rfl;have t3:decide ((((0:Nat):Int))>0)=false:=rfl;simp only[ho,bZ hlt,d,cond_true,hin,Option.bind_some,hx,c2,hw1,jq,cond_false,hs,kW,t1,lF,t2,nd,t3,kz]
    |1,hn,hi,hin,kz,hlt,hx,d,go,stop,ih=>
     have t1:((((1:Nat):Int))==1)=true:=rfl;have t2:decide ((((1:Nat):Int))>1)=false:=rfl;have t3:decide ((((1:Nat):Int))>0)=true:=rfl;cases hc:(O==([112,97,99,107]:F))&&(((O::more).length:Int)==3) with
     |true=>
      rw[Bool.and_eq_true] at hc;obtain⟨aS,w2,rfl⟩:∃aS w2,more=[aS,w2]:=by
       have:more.length=2:=by have:=eq_of_beq hc.2;simp at this;omega
       match more,this with
       |[a,b],_=>exact⟨a,b,rfl⟩
      refine go ns aS w2 (by omega) ha (by have:=hm aS (by simp);omega) (by have:=hm w2 (by simp);omega) ?_
      have lA:a_ ([O,aS,w2]:List F).length (1:Int)=some 1:=rfl;have pk:a_ ([O,aS,w2]:List F).length (2:Int)=some 2:=rfl;have eD:([O,aS,w2]:List F)[1]? =some aS:=rfl;have fi:([O,aS,w2]:List F)[2]? =some w2:=rfl;simp only[ho,bZ hlt,d,cond_true,hin,Option.bind_some,hx,c2,hw1,jq,cond_false,hs,kW,t1,g_,dw,hc.1,hc.2,lA,pk,eD,fi,kz]
     |false=>
      refine stop [] false (Nat.zero_le _) ?_
      simp only[ho,bZ hlt,d,cond_true,hin,Option.bind_some,hx,c2,hw1,jq,cond_false,hs,kW,t1,g_,dw];cases bo:O==([112,97,99,107]:F) with
      |false=>simp only[cond_false,Option.bind_some,lF,t2,nd,t3,cond_true]
      |true=>
       rw[bo,Bool.true_and] at hc;simp only[cond_true,hc,cond_false,Option.bind_some,lF,t2,nd,t3]
    |j+2,hn,hi,hin,kz,hlt,hx,d,go,stop,ih=>
     have t1:((((j+2:Nat):Int))==1)=false:=by rw[beq_eq_false_iff_ne];omega
     have t2:decide ((((j+2:Nat):Int))>1)=true:=decide_eq_true (by omega)
     have t3:decide ((((j+2:Nat):Int))>0)=true:=decide_eq_true (by omega)
     cases hxe:x==([]:F) with
     |true=>
      refine stop r1 true mU ?_
      simp only[ho,bZ hlt,d,cond_true,hin,Option.bind_some,hx,c2,hw1,jq,cond_false,hs,kW,t1,lF,t2,hxe]
     |false=>
      cases hc:(O==([110,101,101,100]:F))&&(((O::more).length:Int)==2) with
      |true=>
       rw[Bool.and_eq_true] at hc;obtain⟨aS,rfl⟩:∃aS,more=[aS]:=by
        have:more.length=1:=by have:=eq_of_beq hc.2;simp at this;omega
        match more,this with
        |[a],_=>exact⟨a,rfl⟩
       have awa:=hm aS (by simp)
       obtain⟨n,ok,e1,e2,bz⟩:=abo aS (by omega)
       have fe:cy 40 ns ([(bB.mk n.name n.kind n.aU)]:List bB)=some (ns++[n]):=dS (by decide) (by unfold am;simp;omega)
       refine go (ns++[n]) bE vs (by simp;omega) (fun z hz=>by
        rcases List.mem_append.1 hz with hz|hz
        ·exact ha z hz
        ·rw[List.mem_singleton.1 hz];exact⟨by omega,by omega⟩) h1 h2 ?_
       have lA:a_ ([O,aS]:List F).length (1:Int)=some 1:=rfl;have eD:([O,aS]:List F)[1]? =some aS:=rfl;simp only[ho,bZ hlt,d,cond_true,hin,Option.bind_some,hx,c2,hw1,jq,cond_false,hs,kW,t1,lF,t2,hxe,nd,g_,dw,hc.1,hc.2,lA,eD,e1,fe,kz]
      |false=>
       refine stop [] false (Nat.zero_le _) ?_
       simp only[ho,bZ hlt,d,cond_true,hin,Option.bind_some,hx,c2,hw1,jq,cond_false,hs,kW,t1,lF,t2,hxe,nd,g_,dw];cases bo:O==([110,101,101,100]:F) with
       |false=>simp only[cond_false,Option.bind_some,t3,cond_true]
       |true=>
        rw[bo,Bool.true_and] at hc;simp only[cond_true,hc,cond_false,Option.bind_some,t3]
  ·have avc:decide ((i:Int)<(lines.length:Int))=false:=decide_eq_false (by omega)
   refine⟨[],false,ns,bE,vs,⟨Nat.zero_le _,by omega,ha,h1,h2⟩,.inr (ca ?_)⟩
   simp only[ho,avc,cond_false]
theorem aaO(s:F)(hs:s.length<=2000000):∃(r:F) (ok:Bool) (ns:List bB) (bE vs:F),f126 ((s,()),())=some (pq r ok ns bE vs)/\pr s.length r ns bE vs:=by
 have hw:IntKind.i64.wrap (((s.length:Nat):Int)+1)=((s.length+1:Nat):Int):=bK (by unfold am;omega)
 have c1:=lG 10 s (by omega) (s.length+1)
 have c1:f73 ((s,((10:Int),(((s.length+1:Nat):Int),()))),())=_:=c1;obtain⟨r,ok,ns,bE,vs,hb,e⟩:=akh s.length hs (splitN 10 (s.length+1) s) (pw 10 _ s) 9 0 s [] [] [] rfl (Nat.le_refl _) (Nat.zero_le _) (fun x hx=>by cases hx) (Nat.zero_le _) (Nat.zero_le _)
 rcases e with e|e
 ·have e:k2 (hT s (0:Int) [] [] [] (splitN 10 (s.length+1) s))=_:=e;refine⟨r,ok,ns,bE,vs,?_,hb⟩;simp only[f126,hw,c1,Option.bind_some,e]
 ·have e:k2 (hT s (0:Int) [] [] [] (splitN 10 (s.length+1) s))=_:=e;refine⟨[],false,ns,bE,vs,?_,⟨Nat.zero_le _,hb.2⟩⟩;simp only[f126,hw,c1,Option.bind_some,e]
noncomputable abbrev atv:bg:=[(50,CZ),(123,JH),(126,W3),(127,W2)]
theorem Lx:aW U (bd ah atv):=bc ⟨J1,TG,amU,z127,⟨⟩⟩
abbrev RE:Shape:=⟨[ap 0,aM 2 2 0,aM 4 4 0,ap 5,ar 6],[bv 5000130 .need 2 2,bv 5000131 .entry 2 3,aO 2 [ae,ae,.own 5000130,.own 5000131],bv 5000258 .need 4 2,bv 5000259 .entry 4 3,aO 4 [ae,ae,.own 5000258,.own 5000259]],45⟩
abbrev Rv:List aN:=[(.norm,⟨[ap 0,aM 2 2 0,aM 4 4 0,ap 5,ar 21],[bv 5000130 .need 2 2,bv 5000131 .entry 2 3,aO 2 [ae,ae,.own 5000130,.own 5000131],bv 5000258 .need 4 2,bv 5000259 .entry 4 3,aO 4 [ae,ae,.own 5000258,.own 5000259]],45⟩)]
noncomputable def nC(y:RE.J):Option (aw Rv):=
 bif(!(!y.1.2.2.2.2.1)) then
 some ((y.1.1,(),(),y.1.2.2.2.1,(decide ((y.1.1.length:Int)>(4000:Int))),()),y.2.1,y.2.2.1,(y.2.2.2.1.1,y.2.2.2.1.2.1,(),(),()),y.2.2.2.2.1,y.2.2.2.2.2.1,(y.2.2.2.2.2.2.1.1,y.2.2.2.2.2.2.1.2.1,(),(),()),())
else
 some ((y.1.1,(),(),y.1.2.2.2.1,true,()),y.2.1,y.2.2.1,(y.2.2.2.1.1,y.2.2.2.1.2.1,(),(),()),y.2.2.2.2.1,y.2.2.2.2.2.1,(y.2.2.2.2.2.2.1.1,y.2.2.2.2.2.2.1.2.1,(),(),()),())
theorem ajQ:aT U (an (codeOf Tryz.f76) 1 28) (a6 RE Rv nC):=cQ Lx (by kernel_rfl) af fun y=>by kernel_rfl
abbrev Qz:Shape:=⟨[ap 0,aM 2 2 0,aM 4 4 0,ar 8],[bv 5000130 .need 2 2,bv 5000131 .entry 2 3,aO 2 [ae,ae,.own 5000130,.own 5000131],bv 5000258 .need 4 2,bv 5000259 .entry 4 3,aO 4 [ae,ae,.own 5000258,.own 5000259]],45⟩
abbrev Qf:List aN:=[(.norm,⟨[aM 2 2 0,aM 4 4 0,ar 42],[bv 5000130 .need 2 2,bv 5000131 .entry 2 3,aO 2 [ae,ae,.own 5000130,.own 5000131],bv 5000258 .need 4 2,bv 5000259 .entry 4 3,aO 4 [ae,ae,.own 5000258,.own 5000259]],45⟩)]
noncomputable def pX(y:Qz.J):Option (aw Qf):=
 bif(!(!y.1.2.2.2.1)) then
(f50 (((y.2.2.2.2.2.2.1.1,y.2.2.2.2.2.2.1.2.1,y.2.2.2.2.1,y.2.2.2.2.2.1,()),()),())).bind fun a=>
 bif(!(!a.1.1)) then
(f123 (((y.2.2.2.2.2.2.1.1,y.2.2.2.2.2.2.1.2.1,y.2.2.2.2.1,y.2.2.2.2.2.1,()),()),())).bind fun b=>
 some (((),(),(!(b.1.1==y.1.1)),()),y.2.1,y.2.2.1,(y.2.2.2.1.1,y.2.2.2.1.2.1,(),(),()),y.2.2.2.2.1,y.2.2.2.2.2.1,(y.2.2.2.2.2.2.1.1,y.2.2.2.2.2.2.1.2.1,(),(),()),())
else
 some (((),(),true,()),y.2.1,y.2.2.1,(y.2.2.2.1.1,y.2.2.2.1.2.1,(),(),()),y.2.2.2.2.1,y.2.2.2.2.2.1,(y.2.2.2.2.2.2.1.1,y.2.2.2.2.2.2.1.2.1,(),(),()),())
else
 some (((),(),true,()),y.2.1,y.2.2.1,(y.2.2.2.1.1,y.2.2.2.1.2.1,(),(),()),y.2.2.2.2.1,y.2.2.2.2.2.1,(y.2.2.2.2.2.2.1.1,y.2.2.2.2.2.2.1.2.1,(),(),()),())
theorem ahG:aT U (an (codeOf Tryz.f76) 1 252) (a6 Qz Qf pX):=cQ Lx (by kernel_rfl) af fun y=>by kernel_rfl
abbrev i76:Shape:=⟨[ap 0],[],45⟩
abbrev wc:Shape:=⟨[aM 2 2 0,ar 3],[bv 5000130 .need 2 2,bv 5000131 .entry 2 3,aO 2 [ae,ae,.own 5000130,.own 5000131]],45⟩
noncomputable def f76(a:i76.J):Option wc.J:=
(f126 ((a.1.1,()),())).bind fun b=>
(nC ((a.1.1,(),(),b.1.2.1,b.1.2.2.1,()),([]:List bB),([]:List aC),(([]:F),([]:F),(),(),()),b.2.1,b.2.2.1,(b.2.2.2.1.1,b.2.2.2.1.2.1,(),(),()),())).bind fun c=>
 bif c.1.2.2.2.2.1 then
 some (((),false,()),([]:List bB),([]:List aC),(([]:F),([]:F),(),(),()),())
else
(f127 ((c.1.2.2.2.1,()),())).bind fun d=>
(pX ((c.1.1,(),(),d.1.2.1,()),c.2.1,c.2.2.1,(c.2.2.2.1.1,c.2.2.2.1.2.1,(),(),()),c.2.2.2.2.1,d.2.1,(c.2.2.2.2.2.2.1.1,c.2.2.2.2.2.2.1.2.1,(),(),()),())).bind fun e=>
 bif e.1.2.2.1 then
 some (((),false,()),([]:List bB),([]:List aC),(([]:F),([]:F),(),(),()),())
else
 some (((),true,()),e.2.2.2.2.1,e.2.2.2.2.2.1,(e.2.2.2.2.2.2.1.1,e.2.2.2.2.2.2.1.2.1,(),(),()),())
noncomputable def ZF:aF:=aK ah Tryz.f76 i76 wc [] f76
theorem z76:aE U 76 ZF:=aL Lx Tryz.func76 (by kernel_rfl) (bb ajQ (bb ahG af)) (fun y=>by kernel_rfl) fun a=>by kernel_rfl
def eb(n:bB):F:=fD++32::cK n
theorem akr{n:bB}(h:dv n=true):b9 10 (eb n):=(b9.lit (by decide)).cU fun z hz=>by
 rcases List.mem_cons.1 hz with rfl|hz
 ·decide
 ·exact QQ h z hz
theorem PL(n:bB)(r:F):cJ n++r=eb n++10::r:=by unfold cJ eb fD;simp
theorem akg:∀(ns acc:List bB) (pre more:List F) (L bE vs:F),(∀n,n∈ns->dv n=true)->2<=pre.length->acc.length<=pre.length->pre.length+ns.length<=8->(ns.flatMap cJ++10::L).length<=2000000->
  k2 (hT (ns.flatMap cJ++10::L) (pre.length:Int) acc bE vs (pre++(ns.map eb++[]::more)))=some (.inl (pq L true (acc++ns) bE vs)):=by
 intro ns;induction ns with
 |nil=>
  intro acc pre more L bE vs _ hp _ hi hs;have hlt:pre.length<(pre++(([]:List bB).map eb++[]::more)).length:=by simp
  have hx:(pre++(([]:List bB).map eb++[]::more))[pre.length]? =some []:=by rw[List.getElem?_append_right (Nat.le_refl _)];simp
  have hin:=fm hlt;have d:decide ((pre.length:Int)<=8)=true:=decide_eq_true (by simp at hi;omega)
  have c2:=lG 32 [] (by simp) 2
  have c2:f73 ((([]:F),((32:Int),((2:Int),()))),())=some (((),()),([[]],())):=c2;have hw1:IntKind.i64.wrap (((([]:F).length:Nat):Int)+1)=((1:Nat):Int):=by decide
  have jq:decide (((((10:UInt8)::L).length:Nat):Int)<((1:Nat):Int))=false:=decide_eq_false (by simp only[List.length_cons];omega)
  have kB:bw ((10:UInt8)::L) ((1:Nat):Int) ((((10:UInt8)::L).length:Nat):Int)=some L:=gu (xs:=(10:UInt8)::L) (by simp)
  have t1:((pre.length:Int)==1)=false:=by rw[beq_eq_false_iff_ne];omega
  have t2:decide ((pre.length:Int)>1)=true:=decide_eq_true (by omega)
  have hxe:(([]:F)==([]:F))=true:=rfl;rw[List.append_nil];refine ca ?_
  show ho (hT (10::L) (pre.length:Int) acc bE vs _)=_;simp only[ho,bZ hlt,d,cond_true,hin,Option.bind_some,hx,c2,hw1,jq,cond_false,kB,kW,t1,lF,t2,hxe]
 |cons n ns ih=>
  intro acc pre more L bE vs h hp ha hi hs;have hk:=h n List.mem_cons_self;have hE:(n::ns).flatMap cJ++10::L=eb n++10::(ns.flatMap cJ++10::L):=by rw[List.flatMap_cons,List.append_assoc,PL]
  rw[hE] at hs ⊢;have hR:pre++((n::ns).map eb++[]::more)=(pre++[eb n])++(ns.map eb++[]::more):=by simp
  have hlt:pre.length<(pre++((n::ns).map eb++[]::more)).length:=by simp
  have hx:(pre++((n::ns).map eb++[]::more))[pre.length]? =some (eb n):=by rw[List.getElem?_append_right (Nat.le_refl _)];simp
  have hin:=fm hlt;have awz:(eb n).length=fD.length+1+(cK n).length:=by unfold eb;simp;omega
  simp only[List.length_append,List.length_cons] at hs hi;have d:decide ((pre.length:Int)<=8)=true:=decide_eq_true (by omega)
  have qE:splitN 32 2 (eb n)=[fD,cK n]:=by
   have hn:b9 32 fD:=b9.lit (by decide)
   unfold eb;rw[Nz hn,Oe (aeE hk)]
  have c2:=lG 32 (eb n) (by omega) 2
  rw[qE] at c2;have c2:f73 ((eb n,((32:Int),((2:Int),()))),())=some (((),()),([fD,cK n],())):=c2;have hw1:IntKind.i64.wrap ((((eb n).length:Nat):Int)+1)=(((eb n).length+1:Nat):Int):=bK (by unfold am;omega)
  have kz:IntKind.i64.wrap (((pre.length:Nat):Int)+1)=((pre.length+1:Nat):Int):=bK (by unfold am;omega)
  have jq:decide ((((eb n++10::(ns.flatMap cJ++10::L)).length:Nat):Int)<(((eb n).length+1:Nat):Int))=false:=decide_eq_false (by simp;omega)
  have kB:bw (eb n++10::(ns.flatMap cJ++10::L)) (((eb n).length+1:Nat):Int) (((eb n++10::(ns.flatMap cJ++10::L)).length:Nat):Int)=some (ns.flatMap cJ++10::L):=by
   rw[gu (by simp only[List.length_append,List.length_cons];omega)]
   refine congrArg some ?_
   rw[show eb n++10::(ns.flatMap cJ++10::L)=(eb n++[10])++(ns.flatMap cJ++10::L) by simp,List.drop_left' (by simp)]
  have t1:((pre.length:Int)==1)=false:=by rw[beq_eq_false_iff_ne];omega
  have t2:decide ((pre.length:Int)>1)=true:=decide_eq_true (by omega)
  have hxe:(eb n==([]:F))=false:=rfl;have g_:a_ ([fD,cK n]:List F).length (0:Int)=some 0:=rfl;have lA:a_ ([fD,cK n]:List F).length (1:Int)=some 1:=rfl;have dw:([fD,cK n]:List F)[0]? =some fD:=rfl;have eD:([fD,cK n]:List F)[1]? =some (cK n):=rfl;have q0:(fD==([110,101,101,100]:F))=true:=rfl;have q2:((([fD,cK n]:List F).length:Int)==2)=true:=rfl;obtain⟨ok,e1⟩:=abn hk (by omega)
  have fe:cy 40 acc ([(bB.mk n.name n.kind n.aU)]:List bB)=some (acc++[n]):=dS (by decide) (by unfold am;simp;omega)
  have st:ho (hT (eb n++10::(ns.flatMap cJ++10::L)) (pre.length:Int) acc bE vs (pre++((n::ns).map eb++[]::more)))=some (.inl (hT (ns.flatMap cJ++10::L) ((pre.length+1:Nat):Int) (acc++[n]) bE vs (pre++((n::ns).map eb++[]::more)))):=by
   simp only[ho,bZ hlt,d,cond_true,hin,Option.bind_some,hx,c2,hw1,jq,cond_false,kB,kW,t1,lF,t2,hxe,nd,g_,dw,q0,q2,lA,eD,e1,fe,kz]
  have:=ih (acc++[n]) (pre++[eb n]) more L bE vs (fun x hx=>h x (List.mem_cons_of_mem _ hx)) (by simp;omega) (by simp;omega) (by simp;omega) (by simp only[List.length_append,List.length_cons];omega)
  rw[<-hR,List.append_assoc] at this;have o_:(pre++[eb n]).length=pre.length+1:=by simp
  rw[o_] at this;exact(du st).trans this
theorem abV(ns:List bB)(r:F)(h:∀n,n∈ns->dv n=true):bO 10 (ns.flatMap cJ++10::r)=ns.map eb++[]::bO 10 r:=by
 induction ns with
 |nil=>exact ry (a:=[]) (b9.nil 10)
 |cons n ns ih=>
  rw[List.flatMap_cons,List.append_assoc,PL,ry (akr (h n List.mem_cons_self)),ih fun x hx=>h x (List.mem_cons_of_mem _ hx)]
  rfl
theorem ahz(p:ba):b9 10 (eF p):=(b9.lit (by decide)).cU (Qu _)
theorem aaN(p:ba)(hk:cu p=true)(hs:(bM p).length<=2000000):f126 ((bM p,()),())=some (pq (dd p.bL) true p.bj p.name p.aU):=by
 have hw:IntKind.i64.wrap ((((bM p).length:Nat):Int)+1)=(((bM p).length+1:Nat):Int):=bK (by unfold am;omega)
 have c1:=lG 10 (bM p) (by omega) ((bM p).length+1)
 obtain⟨h1,h2,h3,ay,_,cc⟩:=ng hk;have kA:splitN 10 ((bM p).length+1) (bM p)=eF p::dN p::(p.bj.map eb++[]::bO 10 (dd p.bL)):=by
  rw[xq 10 _ _ (by omega),uJ,ry (ahz p),uB,ry (PQ hk),iC,abV _ _ h3]
 rw[kA] at c1;have c1:f73 ((bM p,((10:Int),((((bM p).length+1:Nat):Int),()))),())=_:=c1;generalize au5:p.bj.map eb++[]::bO 10 (dd p.bL)=e7 at c1;have Db:bM p=eF p++10::di p:=uJ p;have hB:di p=dN p++10::iC p:=uB p;have ec:(bM p).length=(eF p).length+1+(di p).length:=by rw[Db];simp;omega
 have gC:(di p).length=(dN p).length+1+(iC p).length:=by rw[hB];simp;omega
 have hlt:∀i,i<2->decide (((i:Nat):Int)<(((eF p::dN p::e7).length:Nat):Int))=true:=fun i hi=>decide_eq_true (by simp;omega)
 have i0:a_ (eF p::dN p::e7).length (0:Int)=some 0:=Kl (by simp)
 have i1:a_ (eF p::dN p::e7).length ((0+1:Nat):Int)=some 1:=Kk (by simp)
 have e4:(eF p::dN p::e7)[0]? =some (eF p):=rfl;have dX:(eF p::dN p::e7)[1]? =some (dN p):=rfl;have fq:ho (hT (bM p) (0:Int) [] [] [] (eF p::dN p::e7))=some (.inl (hT (di p) ((0+1:Nat):Int) [] [] [] (eF p::dN p::e7))):=by
  have d:decide ((0:Int)<=8)=true:=rfl;have d0:decide ((0:Int)<(((eF p::dN p::e7).length:Nat):Int))=true:=hlt 0 (by decide)
  have c2:=lG 32 (eF p) (by omega) 2
  have c2:f73 ((eF p,((32:Int),((2:Int),()))),())=_:=c2;have hw1:IntKind.i64.wrap ((((eF p).length:Nat):Int)+1)=(((eF p).length+1:Nat):Int):=bK (by unfold am;omega)
  have jq:decide ((((bM p).length:Nat):Int)<(((eF p).length+1:Nat):Int))=false:=decide_eq_false (by omega)
  have kB:bw (bM p) (((eF p).length+1:Nat):Int) (((bM p).length:Nat):Int)=some (di p):=by
   rw[gu (by omega)]
   refine congrArg some ?_
   rw[Db,show eF p++10::di p=(eF p++[10])++di p by simp,List.drop_left' (by simp)]
  have t1:((0:Int)==1)=false:=rfl;have t2:decide ((0:Int)>1)=false:=rfl;have t3:decide ((0:Int)>0)=false:=rfl;have kz:IntKind.i64.wrap ((0:Int)+1)=((0+1:Nat):Int):=by decide
  simp only[ho,d0,d,cond_true,i0,Option.bind_some,e4,c2,hw1,jq,cond_false,kB,kW,t1,lF,t2,nd,t3,kz]
 have s1:ho (hT (di p) ((0+1:Nat):Int) [] [] [] (eF p::dN p::e7))=some (.inl (hT (iC p) ((([eF p,dN p]:List F).length:Nat):Int) [] p.name p.aU (eF p::dN p::e7))):=by
  have d:decide (((0+1:Nat):Int)<=8)=true:=rfl;have d0:=hlt 1 (by decide)
  have d0:decide (((0+1:Nat):Int)<(((eF p::dN p::e7).length:Nat):Int))=true:=d0;have qE:splitN 32 2 (dN p)=[ik,p.name,p.aU]:=by
   rw[xr 32 2 _ (by rw[DC hk];exact Nat.le_refl 3),DC hk]
  have c2:=lG 32 (dN p) (by omega) 2
  rw[qE] at c2;have c2:f73 ((dN p,((32:Int),((2:Int),()))),())=some (((),()),([ik,p.name,p.aU],())):=c2;have hw1:IntKind.i64.wrap ((((dN p).length:Nat):Int)+1)=(((dN p).length+1:Nat):Int):=bK (by unfold am;omega)
  have jq:decide ((((di p).length:Nat):Int)<(((dN p).length+1:Nat):Int))=false:=decide_eq_false (by omega)
  have kB:bw (di p) (((dN p).length+1:Nat):Int) (((di p).length:Nat):Int)=some (iC p):=by
   rw[gu (by omega)]
   refine congrArg some ?_
   rw[hB,show dN p++10::iC p=(dN p++[10])++iC p by simp,List.drop_left' (by simp)]
  have t1:(((0+1:Nat):Int)==1)=true:=rfl;have g_:a_ ([ik,p.name,p.aU]:List F).length (0:Int)=some 0:=rfl;have lA:a_ ([ik,p.name,p.aU]:List F).length (1:Int)=some 1:=rfl;have pk:a_ ([ik,p.name,p.aU]:List F).length (2:Int)=some 2:=rfl;have dw:([ik,p.name,p.aU]:List F)[0]? =some ik:=rfl;have eD:([ik,p.name,p.aU]:List F)[1]? =some p.name:=rfl;have fi:([ik,p.name,p.aU]:List F)[2]? =some p.aU:=rfl;have q0:(ik==([112,97,99,107]:F))=true:=rfl;have cV:((([ik,p.name,p.aU]:List F).length:Int)==3)=true:=rfl;have kz:IntKind.i64.wrap (((0+1:Nat):Int)+1)=((([eF p,dN p]:List F).length:Nat):Int):=by show IntKind.i64.wrap (((0+1:Nat):Int)+1)=((2:Nat):Int);decide
  simp only[ho,d0,d,cond_true,i1,Option.bind_some,dX,c2,hw1,jq,cond_false,kB,kW,t1,g_,dw,q0,cV,lA,pk,eD,fi,kz]
 have s2:=akg p.bj [] [eF p,dN p] (bO 10 (dd p.bL)) (dd p.bL) p.name p.aU h3 (Nat.le_refl 2) (Nat.zero_le _) (by simp;omega) (by show(iC p).length<=_;omega)
 rw[au5] at s2;have e:k2 (hT (bM p) (0:Int) [] [] [] (eF p::dN p::e7))=some (.inl (pq (dd p.bL) true p.bj p.name p.aU)):=(du fq).trans ((du s1).trans s2);simp only[f126,hw,c1,Option.bind_some,e]
abbrev rh(p:ba):wc.J:=(((),(true,())),(p.bj,(p.bL,((p.name,(p.aU,((),((),())))),()))))
abbrev Mg:wc.J:=(((),(false,())),(([]:List bB),(([]:List aC),((([]:F),(([]:F),((),((),())))),()))))
theorem akH{p q:ba}(h:rh p=rh q):p=q:=by
 obtain⟨a,b,c,d⟩:=p;obtain⟨cP,bI,fj,_O⟩:=q;simp only[rh,Prod.mk.injEq] at h;obtain⟨_,rfl,rfl,⟨rfl,rfl,_⟩,_⟩:=h;rfl
theorem Dp{p:ba}(hk:cu p=true)(hl:(bM p).length<=4000):f76 ((bM p,()),())=some (rh p):=by
 have hb:=HI hk hl;obtain⟨h1,h2,h3,ay,_,cc⟩:=ng hk;obtain⟨q1,q2,cV,jL⟩:=xx p;have c1:=aaN p hk (by omega)
 have d:decide (((bM p).length:Int)>4000)=false:=decide_eq_false (by omega)
 have c2:=aad p.bL cc (by omega) hb.2.2.2
 have c3:=x_ (((p.name,(p.aU,(p.bj,(p.bL,())))),()),()) hb;have c3:f50 (((p.name,(p.aU,(p.bj,(p.bL,())))),()),())=some ((cu p,()),()):=c3;rw[hk] at c3;have c5:=FI p hb hk;simp only[f76,c1,Option.bind_some,nC,Bool.not_true,Bool.not_false,cond_true,d,cond_false,c2,pX,c3,c5,beq_self_eq_true]
theorem aat(s:F)(hs:s.length<=2000000):f76 ((s,()),())=some Mg\/∃p:ba,f76 ((s,()),())=some (rh p)/\cu p=true/\bM p=s/\s.length<=4000:=by
 obtain⟨r,ok,ns,bE,vs,c1,aB,aA,bC,cO,fK⟩:=aaO s hs;cases ok with
 |false=>
  refine .inl ?_
  simp only[f76,c1,Option.bind_some,nC,Bool.not_true,Bool.not_false,cond_true,cond_false]
 |true=>
  by_cases hl:s.length<=4000
  ·have d:decide ((s.length:Int)>4000)=false:=decide_eq_false (by omega)
   obtain⟨Kc,t,c2,ie,w5⟩:=aae r (by omega)
   cases Kc with
   |false=>
    refine .inl ?_
    simp only[f76,c1,Option.bind_some,nC,Bool.not_true,Bool.not_false,cond_true,d,cond_false,c2,pX]
   |true=>
    have hb:ka ⟨bE,vs,ns,t⟩:=⟨by show bE.length<=2097152;omega,by show vs.length<=2097152;omega,⟨by show ns.length<=2097152;omega,fun n hn=>by have:=bC n hn;exact⟨by show n.name.length<=2097152;omega,by show n.aU.length<=2097152;omega⟩⟩,Rm ie w5⟩
    have c3:=x_ (((bE,(vs,(ns,(t,())))),()),()) hb;have c3:f50 (((bE,(vs,(ns,(t,())))),()),())=some ((cu ⟨bE,vs,ns,t⟩,()),()):=c3;cases hk:cu ⟨bE,vs,ns,t⟩ with
    |false=>
     rw[hk] at c3;refine .inl ?_
     simp only[f76,c1,Option.bind_some,nC,Bool.not_true,Bool.not_false,cond_true,d,cond_false,c2,pX,c3]
    |true=>
     rw[hk] at c3;have c5:=FI ⟨bE,vs,ns,t⟩ hb hk;have c5:f123 (((bE,(vs,(ns,(t,())))),()),())=_:=c5;cases he:bM ⟨bE,vs,ns,t⟩==s with
     |false=>
      refine .inl ?_
      simp only[f76,c1,Option.bind_some,nC,Bool.not_true,Bool.not_false,cond_true,d,cond_false,c2,pX,c3,c5,he]
     |true=>
      refine .inr ⟨⟨bE,vs,ns,t⟩,?_,hk,eq_of_beq he,hl⟩;simp only[f76,c1,Option.bind_some,nC,Bool.not_true,Bool.not_false,cond_true,d,cond_false,c2,pX,c3,c5,he]
  ·have d:decide ((s.length:Int)>4000)=true:=decide_eq_true (by omega)
   refine .inl ?_
   simp only[f76,c1,Option.bind_some,nC,Bool.not_true,Bool.not_false,cond_true,d]
def avh(B:Option ba):wc.J:=match B with|some p=>rh p|none=>Mg
theorem adQ(s:F)(hs:s.length<=2000000):∃B:Option ba,f76 ((s,()),())=some (avh B)/\nE B (YQ s):=by
 rcases aat s hs with h|⟨p,h,h1,h2,h3⟩
 ·refine⟨none,h,fun p=>⟨fun hp=>(by cases hp),fun⟨q1,q2,cV⟩=>?_⟩⟩
  subst q2;have:=Dp q1 cV;rw[h] at this;simp only[Option.some.injEq,Prod.mk.injEq] at this;exact absurd this.1.2.1 (by decide)
 ·refine⟨some p,h,fun q=>⟨fun hp=>?_,fun⟨q1,q2,cV⟩=>?_⟩⟩
  ·cases hp;exact⟨h1,h2,h3⟩
  ·subst q2;have:=Dp q1 cV;rw[h] at this;rw[akH (Option.some.inj this)]
noncomputable abbrev atP:bg:=[(30,C1),(70,CX),(73,tL),(74,CW),(75,oa),(76,ZF)]
theorem C4:aW U (bd ah atP):=bc ⟨J3,z70,v7,JZ,z75,z76,⟨⟩⟩
abbrev Pz:Shape:=⟨[ap 0,aM 2 2 0,aM 4 4 0,bf 6 3000384,ad 7],[bv 5000128 .pack 2 0,aO 2 [.own 5000128],bv 5000256 .pack 4 0,aO 4 [.own 5000256],be 3000384 .str 6 0],73⟩
abbrev Pl:List aN:=[(.norm,⟨[ap 0,aM 2 2 0,aM 4 4 0,bf 6 3000384,ad 7,ar 37],[bv 5000128 .pack 2 0,aO 2 [.own 5000128],bv 5000256 .pack 4 0,aO 4 [.own 5000256],be 3000384 .str 6 0],73⟩)]
noncomputable def pM(y:Pz.J):Option (aw Pl):=
 bif(!(decide ((y.2.2.2.2.2.1.length:Int)<(2:Int)))) then
(a_ y.2.2.2.2.2.1.length (1:Int)).bind fun a=>
(y.2.2.2.2.2.1[a]?).bind fun b=>
(f75 ((y.1.2.2.2.2.1,(1:Int),(b.length:Int),()),())).bind fun c=>
 some ((y.1.1,(),(),(),y.1.2.2.2.2.1,(!c.1.1),()),y.2.1,((),()),y.2.2.2.1,((),()),y.2.2.2.2.2.1,())
else
 some ((y.1.1,(),(),(),y.1.2.2.2.2.1,true,()),y.2.1,((),()),y.2.2.2.1,((),()),y.2.2.2.2.2.1,())
theorem aga:aT U (an (c8 (an (codeOf Tryz.f39) 1 60)) 120 7724) (a6 Pz Pl pM):=cQ C4 (by kernel_rfl) af fun y=>by kernel_rfl
abbrev uZ:Shape:=⟨[ap 0,aM 2 2 0,aM 4 4 0,ap 5],[bv 5000128 .pack 2 0,aO 2 [.own 5000128],bv 5000256 .pack 4 0,aO 4 [.own 5000256]],73⟩
abbrev An:List aN:=[(.ret,⟨[aM 2 2 0,ar 3],[bv 5000128 .pack 2 0,aO 2 [.own 5000128]],73⟩),(.exit 0,⟨[ap 0,aM 2 2 0,aM 4 4 0],[bv 5000128 .pack 2 0,aO 2 [.own 5000128],bv 5000256 .pack 4 0,aO 4 [.own 5000256]],73⟩)]
noncomputable def nD(y:uZ.J):bJ uZ An:=
 bif(!(y.1.2.2.2.1==([]:F))) then
 bif(decide ((y.2.2.2.1.length:Int)<=(5:Int))) then
(f73 ((y.1.2.2.2.1,(10:Int),(1:Int),()),())).bind fun a=>
(a_ a.2.1.length (0:Int)).bind fun b=>
(a.2.1[b]?).bind fun c=>
(f74 ((c,()),())).bind fun d=>
(pM ((y.1.1,(),(),(),d.1.1,()),y.2.1,((),()),y.2.2.2.1,((),()),a.2.1,())).bind fun e=>
 bif e.1.2.2.2.2.2.1 then
 some (.inr (.inl (((),false,()),([]:List ba),((),()),())))
else
(a_ e.2.2.2.2.2.1.length (1:Int)).bind fun f=>
(e.2.2.2.2.2.1[f]?).bind fun g=>
(bw g (0:Int) e.1.2.2.2.2.1).bind fun h=>
(f76 ((h,()),())).bind fun i=>
 bif(!i.1.2.1) then
 some (.inr (.inl (((),false,()),([]:List ba),((),()),())))
else
(cy 80 e.2.2.2.1 ([(ba.mk i.2.2.2.1.1 i.2.2.2.1.2.1 i.2.1 i.2.2.1)]:List ba)).bind fun j=>
(a_ e.2.2.2.2.2.1.length (1:Int)).bind fun k=>
(e.2.2.2.2.2.1[k]?).bind fun l=>
(bw l e.1.2.2.2.2.1 (l.length:Int)).bind fun m=>
 some (.inl ((e.1.1,(),(),m,()),e.2.1,((),()),j,((),()),()))
else
 some (.inr (.inr ((y.1.1,(),(),()),y.2.1,((),()),y.2.2.2.1,((),()),())))
else
 some (.inr (.inr ((y.1.1,(),(),()),y.2.1,((),()),y.2.2.2.1,((),()),())))
noncomputable def u4:uZ.J->Option (aw An):=bn nD
theorem aj4:aT U (an (codeOf Tryz.f39) 1 60) (a6 uZ An u4):=bN C4 (by kernel_rfl) (bb aga af) fun y=>by kernel_rfl
abbrev QC:Shape:=⟨[ap 0,aM 2 2 0,aM 4 4 0],[bv 5000128 .pack 2 0,aO 2 [.own 5000128],bv 5000256 .pack 4 0,aO 4 [.own 5000256]],73⟩
abbrev Qi:List aN:=[(.norm,⟨[aM 2 2 0,aM 4 4 0,ar 70],[bv 5000128 .pack 2 0,aO 2 [.own 5000128],bv 5000256 .pack 4 0,aO 4 [.own 5000256]],73⟩)]
noncomputable def r_(y:QC.J):Option (aw Qi):=
(f30 (((y.2.2.2.1,()),()),())).bind fun a=>
 bif(!(!a.1.1)) then
(f70 (((y.2.2.2.1,()),()),())).bind fun b=>
 some (((),(),(!(b.1.1==y.1.1)),()),y.2.1,((),()),y.2.2.2.1,((),()),())
else
 some (((),(),true,()),y.2.1,((),()),y.2.2.2.1,((),()),())
theorem ahO:aT U (an (codeOf Tryz.f39) 1 124) (a6 QC Qi r_):=cQ C4 (by kernel_rfl) af fun y=>by kernel_rfl
abbrev i39:Shape:=⟨[ap 0],[],73⟩
abbrev wg:Shape:=⟨[aM 2 2 0,ar 3],[bv 5000128 .pack 2 0,aO 2 [.own 5000128]],73⟩
noncomputable def f39(a:i39.J):Option wg.J:=
(u4 ((a.1.1,(),(),a.1.1,()),([]:List ba),((),()),([]:List ba),((),()),())).bind fun b=>
(match b with
|.inl c=>
 some (((),c.1.2.1,()),c.2.1,((),()),())
|.inr d=>
(r_ ((d.1.1,(),(),()),d.2.1,((),()),d.2.2.2.1,((),()),())).bind fun e=>
 bif e.1.2.2.1 then
 some (((),false,()),([]:List ba),((),()),())
else
 some (((),true,()),e.2.2.2.1,((),()),()))
noncomputable def ZS:aF:=aK ah Tryz.f39 i39 wg [] f39
theorem aqo:aE U 39 ZS:=aL C4 Tryz.func39 (by kernel_rfl) (bb aj4 (bb ahO af)) (fun y=>by kernel_rfl) fun a=>by kernel_rfl
noncomputable abbrev at7:bg:=[(39,ZS)]
theorem auy:aW U (bd ah at7):=bc ⟨aqo,⟨⟩⟩
abbrev i12:Shape:=⟨[b_ 0 [ae,ae]],[],17⟩
abbrev YK:Shape:=⟨[ar 2],[],17⟩
noncomputable def f12(a:i12.J):Option YK.J:=
(f39 ((a.1.1.1,()),())).bind fun b=>
 bif b.1.2.1 then
 some (((a.1.1.2.1==([]:F)),()),())
else
 some ((false,()),())
noncomputable def tO:aF:=aK ah Tryz.f12 i12 YK [] f12
theorem z12:aE U 12 tO:=aL auy Tryz.func12 (by kernel_rfl) af (fun y=>by kernel_rfl) fun a=>by kernel_rfl
abbrev rl(s rest:F)(ps:List ba):uZ.J:=((s,((),((),(rest,())))),(([]:List ba),(((),()),(ps,(((),()),())))))
abbrev _S(s:F)(ps:List ba):aw An:=.inr ((s,((),((),()))),(([]:List ba),(((),()),(ps,(((),()),())))))
abbrev Mf(ps:List ba):wg.J:=(((),(true,())),(ps,(((),()),())))
abbrev Lv:wg.J:=(((),(false,())),(([]:List ba),(((),()),())))
def ati(B:Option (List ba)):wg.J:=match B with|some ps=>Mf ps|none=>Lv
theorem ajA(s:F):∀(m:Nat) (r:F) (ps:List ba),r.length<=m->m<=2000000->ps.length<=6->oT ps->
  u4 (rl s r ps)=some (.inl Lv)\/∃b4:List ba,u4 (rl s r ps)=some (_S s b4)/\oT b4/\b4.length<=6:=by
 intro m;induction m with
 |zero=>
  intro r ps hs _ hl ha;have:r=[]:=List.length_eq_zero_iff.1 (by omega)
  subst this;exact .inr ⟨ps,ca rfl,ha,hl⟩
 |succ m ih=>
  intro r ps hs hm hl ha;cases r with
  |nil=>exact .inr ⟨ps,ca rfl,ha,hl⟩
  |cons b r0=>
   have hne:((b::r0)==([]:F))=false:=rfl;generalize ez:b::r0=r at hs hne;by_cases bo:ps.length<=5
   ·have d:decide (((ps.length:Nat):Int)<=5)=true:=decide_eq_true (by omega)
    have c1:=lG 10 r (by omega) 1
    have c1:f73 ((r,((10:Int),((1:Int),()))),())=_:=c1;cases au:dj 10 r with
    |none=>
     have eQ:splitN 10 1 r=[r]:=by unfold splitN;rw[au]
     rw[eQ] at c1;have n0:=pF r (by unfold am;omega)
     have i0:a_ ([r]:List F).length (0:Int)=some 0:=rfl;have e4:([r]:List F)[0]? =some r:=rfl;have d2:decide ((([r]:List F).length:Int)<2)=true:=rfl;refine .inl (ca ?_);simp only[nD,hne,Bool.not_false,cond_true,d,c1,Option.bind_some,i0,e4,n0,pM,d2,Bool.not_true,cond_false]
    |some q=>
     obtain⟨bT,rest⟩:=q;have hlen:=(iW au).1;have hlen:r.length=bT.length+1+rest.length:=by rw[hlen];simp;omega
     have eQ:splitN 10 1 r=[bT,rest]:=by unfold splitN;rw[au];rfl
     rw[eQ] at c1;have n0:=pF bT (by unfold am;omega)
     have i0:a_ ([bT,rest]:List F).length (0:Int)=some 0:=rfl;have i1:a_ ([bT,rest]:List F).length (1:Int)=some 1:=rfl;have e4:([bT,rest]:List F)[0]? =some bT:=rfl;have dX:([bT,rest]:List F)[1]? =some rest:=rfl;have d2:decide ((([bT,rest]:List F).length:Int)<2)=false:=rfl;have hin:=nA ((gy bT,((1:Int),((rest.length:Int),()))),());have hin:f75 ((gy bT,((1:Int),((rest.length:Int),()))),())=some ((within (gy bT) 1 (rest.length:Int),()),()):=hin;cases hw:within (gy bT) 1 (rest.length:Int) with
     |false=>
      rw[hw] at hin;refine .inl (ca ?_);simp only[nD,hne,Bool.not_false,cond_true,d,c1,Option.bind_some,i0,e4,n0,pM,d2,i1,dX,hin]
     |true=>
      rw[hw] at hin;have hb:=rN hw;obtain⟨n,hn⟩:∃n:Nat,gy bT=(n:Int):=⟨(gy bT).toNat,by omega⟩
      rw[hn] at hin n0 hb;have s1:bw rest 0 ((n:Nat):Int)=some (rest.take n):=hU (by omega)
      have s2:bw rest ((n:Nat):Int) ((rest.length:Nat):Int)=some (rest.drop n):=gu (by omega)
      have arK:(rest.take n).length<=2000000:=by simp;omega
      obtain⟨B,g1,g2⟩:=adQ (rest.take n) arK;cases B with
      |none=>
       have g1:f76 ((rest.take n,()),())=some Mg:=g1;refine .inl (ca ?_);simp only[nD,hne,Bool.not_false,cond_true,d,c1,Option.bind_some,i0,e4,n0,pM,d2,i1,dX,hin,Bool.not_true,cond_false,s1,g1]
      |some p=>
       have g1:f76 ((rest.take n,()),())=some (rh p):=g1;obtain⟨iw,ic,p3⟩:=(g2 p).1 rfl;have fe:cy 80 ps ([(ba.mk p.name p.aU p.bj p.bL)]:List ba)=some (ps++[p]):=dS (by decide) (by unfold am;simp;omega)
       have st:nD (rl s r ps)=some (.inl (rl s (rest.drop n) (ps++[p]))):=by
        simp only[nD,hne,Bool.not_false,cond_true,d,c1,Option.bind_some,i0,e4,n0,pM,d2,i1,dX,hin,Bool.not_true,cond_false,s1,g1,fe,s2]
       rcases ih (rest.drop n) (ps++[p]) (by simp;omega) (by omega) (by simp;omega) (fun z hz=>by
        rcases List.mem_append.1 hz with hz|hz
        ·exact ha z hz
        ·rw[List.mem_singleton.1 hz];exact⟨iw,by rw[ic];exact p3⟩) with e|⟨b4,e1,e2⟩
       ·exact .inl ((du st).trans e)
       ·exact .inr ⟨b4,(du st).trans e1,e2⟩
   ·have d:decide (((ps.length:Nat):Int)<=5)=false:=decide_eq_false (by omega)
    refine .inr ⟨ps,ca ?_,ha,hl⟩;simp only[nD,hne,Bool.not_false,cond_true,d,cond_false]
theorem agx{ps:List ba}(h:oT ps)(bo:ps.length<=5):(dG ps).length<=30000:=by
 have h1:=uA (f:=fun p=>fo (bM p)) (xs:=ps) (n:=5000) fun q au=>by
  have:=(h q au).2;have:=nl (bM q).length (by omega)
  show(fo (bM q)).length<=5000;unfold fo;simp;omega
 have e:(dG ps).length=(ps.flatMap fun p=>fo (bM p)).length:=rfl
 have cc:ps.length*5000<=6*5000:=Nat.mul_le_mul_right _ (by omega)
 omega
theorem ajz(s:F):∀(b4 ps:List ba),oT b4->ps.length+b4.length<=5->u4 (rl s (dG b4) ps)=some (_S s (ps++b4)):=by
 intro b4;induction b4 with
 |nil=>intro ps _ _;rw[List.append_nil];exact ca rfl
 |cons p b4 ih=>
  intro ps h hl;obtain⟨h1,h2⟩:=h p List.mem_cons_self;simp only[List.length_cons] at hl;have hR:dG (p::b4)=fo (bM p)++dG b4:=Ea p b4;have fG:=Og (bM p) (dG b4);have hlen:=agx (ps:=p::b4) h (by simp;omega)
  rw[hR] at hlen ⊢;generalize hr:fo (bM p)++dG b4=r at fG hlen;have eQ:splitN 10 1 r=[Lib.itoa ((bM p).length:Int),bM p++dG b4]:=by unfold splitN;rw[fG];rfl
  have hne:(r==([]:F))=false:=by
   have:=(iW fG).1;cases hx:r with
   |nil=>rw[hx] at this;simp at this
   |cons b r=>rfl
  have d:decide (((ps.length:Nat):Int)<=5)=true:=decide_eq_true (by omega)
  have c1:=lG 10 r (by omega) 1
  rw[eQ] at c1;have c1:f73 ((r,((10:Int),((1:Int),()))),())=_:=c1;have awA:=nl (bM p).length (by omega)
  have n0:=pF (Lib.itoa ((bM p).length:Int)) (by unfold am;omega)
  rw[Ec _ (by omega)] at n0
  generalize Lib.itoa ((bM p).length:Int)=bT at c1 n0;have i0:a_ ([bT,bM p++dG b4]:List F).length (0:Int)=some 0:=rfl;have i1:a_ ([bT,bM p++dG b4]:List F).length (1:Int)=some 1:=rfl;have e4:([bT,bM p++dG b4]:List F)[0]? =some bT:=rfl;have dX:([bT,bM p++dG b4]:List F)[1]? =some (bM p++dG b4):=rfl;have d2:decide ((([bT,bM p++dG b4]:List F).length:Int)<2)=false:=rfl;have mI:1<=(bM p).length:=by rw[uJ];simp only[List.length_append,List.length_cons];omega
  have hin:=nA ((((bM p).length:Int),((1:Int),(((bM p++dG b4).length:Int),()))),());have hin:f75 ((((bM p).length:Int),((1:Int),(((bM p++dG b4).length:Int),()))),())=some ((true,()),()):=by
   rw[hin];have:within ((bM p).length:Int) 1 ((bM p++dG b4).length:Int)=true:=by
    unfold within;rw[decide_eq_true (by omega),decide_eq_true (by simp only[List.length_append];omega)]
    rfl
   show some ((within ((bM p).length:Int) 1 ((bM p++dG b4).length:Int),()),())=_;rw[this]
  have s1:bw (bM p++dG b4) 0 (((bM p).length:Nat):Int)=some (bM p):=by rw[hU (by simp),List.take_left' rfl]
  have s2:bw (bM p++dG b4) (((bM p).length:Nat):Int) (((bM p++dG b4).length:Nat):Int)=some (dG b4):=by rw[gu (by simp),List.drop_left' rfl]
  have g1:=Dp h1 h2;have fe:cy 80 ps ([(ba.mk p.name p.aU p.bj p.bL)]:List ba)=some (ps++[p]):=dS (by decide) (by unfold am;simp;omega)
  have st:nD (rl s r ps)=some (.inl (rl s (dG b4) (ps++[p]))):=by
   simp only[nD,hne,Bool.not_false,cond_true,d,c1,Option.bind_some,i0,e4,n0,pM,d2,i1,dX,hin,Bool.not_true,cond_false,s1,g1,fe,s2]
  have:=ih (ps++[p]) (fun r hr=>h r (List.mem_cons_of_mem _ hr)) (by simp;omega)
  rw[List.append_assoc] at this;exact(du st).trans this
theorem adP(s:F)(hs:s.length<=2000000):∃B:Option (List ba),f39 ((s,()),())=some (ati B)/\nE B (o7 s):=by
 have put:∀ps:List ba,o7 s ps->f39 ((s,()),())=some (Mf ps):=by
  intro ps ⟨h1,h2,h3⟩;have hl:ps.length<=5:=(xj h1).2;obtain⟨hb,hv⟩:=zA h3 (by omega)
  have g:=ajz s ps [] h3 (by simpa using hl)
  rw[h2] at g;have e:=Pb (((ps,()),()),()) hb hv;have e:f30 (((ps,()),()),())=some ((jU ps,()),()):=e;rw[h1] at e;have e2:=P7 ps hb (xj h1).1;simp only[f39,g,List.nil_append,Option.bind_some,r_,e,Bool.not_true,Bool.not_false,cond_true,cond_false,e2,h2,beq_self_eq_true]
 have any:f39 ((s,()),())=some Lv\/∃ps,f39 ((s,()),())=some (Mf ps)/\o7 s ps:=by
  rcases ajA s s.length s [] (Nat.le_refl _) hs (by decide) (fun x hx=>by cases hx) with g|⟨b4,g,h2,h3⟩
  ·refine .inl ?_
   simp only[f39,g,Option.bind_some]
  ·obtain⟨hb,hv⟩:=zA h2 h3;have e:=Pb (((b4,()),()),()) hb hv;have e:f30 (((b4,()),()),())=some ((jU b4,()),()):=e;cases hr:jU b4 with
   |false=>
    rw[hr] at e;refine .inl ?_
    simp only[f39,g,Option.bind_some,r_,e,Bool.not_false,Bool.not_true,cond_true,cond_false]
   |true=>
    rw[hr] at e;have e2:=P7 b4 hb (xj hr).1;cases he:dG b4==s with
    |false=>
     refine .inl ?_
     simp only[f39,g,Option.bind_some,r_,e,Bool.not_false,Bool.not_true,cond_true,cond_false,e2,he]
    |true=>
     refine .inr ⟨b4,?_,hr,eq_of_beq he,h2⟩;simp only[f39,g,Option.bind_some,r_,e,Bool.not_false,Bool.not_true,cond_true,cond_false,e2,he]
 rcases any with h|⟨ps,h,hr⟩
 ·refine⟨none,h,fun p=>⟨fun hp=>(by cases hp),fun hp=>?_⟩⟩
  have:=put p hp;rw[h] at this;simp only[Option.some.injEq,Prod.mk.injEq] at this;exact absurd this.1.2.1 (by decide)
 ·refine⟨some ps,h,fun q=>⟨fun hp=>by cases hp;exact hr,fun hp=>?_⟩⟩
  have:=put q hp;rw[h] at this;simp only[Option.some.injEq,Prod.mk.injEq] at this;rw[this.2.1]
theorem afI(s t:F)(hs:s.length<=2000000):∃B:Option (List ba),f12 (((s,(t,())),()),())=some ((B.isSome&&t==[],()),())/\nE B (o7 s):=by
 obtain⟨B,h1,h2⟩:=adP s hs;refine⟨B,?_,h2⟩;simp only[f12,h1,Option.bind_some];cases B<;>rfl
theorem ag5(s t:F)(hs:s.length<=2000000):∃b:Bool,f12 (((s,(t,())),()),())=some ((b,()),())/\f14 (((s,(t,())),()),())=some ((b,()),()):=by
 obtain⟨B,h1,h2⟩:=afI s t hs;obtain⟨cZ,h3,ay⟩:=adH s t (by omega)
 cases h2.anf ay;exact⟨_,h1,h3⟩
noncomputable abbrev atU:bg:=[(36,Ls),(43,C0),(63,BI),(64,B7)]
theorem _l:aW U (bd ah atU):=bc ⟨XK,J2,Ii,IA,⟨⟩⟩
abbrev yV:Shape:=⟨[aM 3 3 0,aH 11 .pack,ad 12,ad 13],[bv 5000193 .u8 3 1,aO 3 [.dn,.own 5000193]],28⟩
abbrev FP:List aN:=[(.exit 0,⟨[aM 3 3 0],[bv 5000193 .u8 3 1,aO 3 [.dn,.own 5000193]],28⟩)]
noncomputable def aiR(y:yV.J):bJ yV FP:=
 bif(decide (y.1.2.2.2.1<y.1.2.2.1)) then
(aP y.1.2.1 y.1.2.2.2.1).bind fun a=>
(f36 (((a.name,a.aU,a.bj,a.bL,()),()),())).bind fun b=>
(if-9223372036854775808<=(b.1.1.length:Int)/\(b.1.1.length:Int)<=9223372036854775807 then some () else none).bind fun c=>
(bY (Lib.itoa (b.1.1.length:Int)) ([10]:F)).bind fun d=>
(bY d b.1.1).bind fun e=>
(lT (((),e,()),y.2.1,((),(),()),())).bind fun f=>
 some (.inl (((),y.1.2.1,y.1.2.2.1,(IntKind.i64.wrap (y.1.2.2.2.1+(1:Int))),()),f.2.1,((),(),()),()))
else
 some (.inr (((),()),y.2.1,((),(),()),()))
noncomputable def Q5:yV.J->Option (aw FP):=bn aiR
theorem ahP:aT U (an (codeOf Tryz.f34) 1 122) (a6 yV FP Q5):=bN _l (by kernel_rfl) af fun y=>by kernel_rfl
abbrev i34:Shape:=⟨[b_ 0 [b6 .pack]],[],28⟩
abbrev Yw:Shape:=⟨[ap 2],[],28⟩
noncomputable def f34(a:i34.J):Option Yw.J:=
(f43 (((a.1.1.1,()),()),())).bind fun b=>
 bif(!b.1.1) then
 some ((([]:F),()),())
else
(Q5 (((),a.1.1.1,(a.1.1.1.length:Int),(0:Int),()),([]:List Int),((),(),()),())).bind fun c=>
 some (((strOf c.2.1),()),())
noncomputable def ZU:aF:=aK ah Tryz.f34 i34 Yw [] f34
theorem aqq:aE U 34 ZU:=aL _l Tryz.func34 (by kernel_rfl) (bb ahP af) (fun y=>by kernel_rfl) fun a=>by kernel_rfl
abbrev i186:Shape:=⟨[b_ 0 [ae,br,ae],ad 1],[],20⟩
abbrev Uz:Shape:=⟨[ad 4],[],20⟩
noncomputable def f186(a:i186.J):Option Uz.J:=
 bif(decide ((IntKind.i64.wrap (a.1.2.1-(a.1.1.1.length:Int)))<(0:Int))) then
 some ((((-1):Int),()),())
else
 bif(decide ((IntKind.i64.wrap ((IntKind.i64.wrap (a.1.2.1-(a.1.1.1.length:Int)))-(a.1.1.2.2.1.length:Int)))<(0:Int))) then
 some ((((-1):Int),()),())
else
 some (((IntKind.i64.wrap ((IntKind.i64.wrap (a.1.2.1-(a.1.1.1.length:Int)))-(a.1.1.2.2.1.length:Int))),()),())
noncomputable def Ww:aF:=aK ah Tryz.f186 i186 Uz [] f186
theorem amD:aE U 186 Ww:=aL g0 Tryz.func186 (by kernel_rfl) af (fun y=>by kernel_rfl) fun a=>by kernel_rfl
noncomputable abbrev apg:bg:=[(186,Ww)]
theorem Xv:aW U (bd ah apg):=bc ⟨amD,⟨⟩⟩
abbrev yp:Shape:=⟨[aH 0 .need,ad 1,ad 5],[],27⟩
abbrev ES:List aN:=[(.ret,⟨[ad 4],[],27⟩),(.exit 0,⟨[ad 1],[],27⟩)]
noncomputable def yK(y:yp.J):bJ yp ES:=
 bif(decide (y.1.2.2.1<(y.1.1.length:Int))) then
(aP y.1.1 y.1.2.2.1).bind fun a=>
(f186 (((a.name,a.kind,a.aU,()),y.1.2.1,()),())).bind fun b=>
 bif(decide (b.1.1<(0:Int))) then
 some (.inr (.inl ((((-1):Int),()),())))
else
 some (.inl ((y.1.1,b.1.1,(IntKind.i64.wrap (y.1.2.2.1+(1:Int))),()),()))
else
 some (.inr (.inr ((y.1.2.1,()),())))
noncomputable def yy:yp.J->Option (aw ES):=bn yK
theorem agr:aT U (an (codeOf Tryz.f134) 1 122) (a6 yp ES yy):=bN Xv (by kernel_rfl) af fun y=>by kernel_rfl
abbrev i134:Shape:=⟨[aH 0 .need,ad 1],[],27⟩
abbrev U6:Shape:=⟨[ad 4],[],27⟩
noncomputable def f134(a:i134.J):Option U6.J:=
 bif(decide ((IntKind.i64.wrap (a.1.2.1-(a.1.1.length:Int)))<(0:Int))) then
 some ((((-1):Int),()),())
else
(yy ((a.1.1,(IntKind.i64.wrap (a.1.2.1-(a.1.1.length:Int))),(0:Int),()),())).bind fun b=>
(match b with
|.inl c=>
 some ((c.1.1,()),())
|.inr d=>
 some ((d.1.1,()),()))
noncomputable def WY:aF:=aK ah Tryz.f134 i134 U6 [] f134
theorem amS:aE U 134 WY:=aL Xv Tryz.func134 (by kernel_rfl) (bb agr af) (fun y=>by kernel_rfl) fun a=>by kernel_rfl
abbrev i187:Shape:=⟨[b_ 0 [ae,br,br,ae],ad 1],[],20⟩
abbrev Uy:Shape:=⟨[ad 4],[],20⟩
noncomputable def f187(a:i187.J):Option Uy.J:=
 bif(decide ((IntKind.i64.wrap (a.1.2.1-(a.1.1.1.length:Int)))<(0:Int))) then
 some ((((-1):Int),()),())
else
 bif(decide ((IntKind.i64.wrap ((IntKind.i64.wrap (a.1.2.1-(a.1.1.1.length:Int)))-(a.1.1.2.2.2.1.length:Int)))<(0:Int))) then
 some ((((-1):Int),()),())
else
 some (((IntKind.i64.wrap ((IntKind.i64.wrap (a.1.2.1-(a.1.1.1.length:Int)))-(a.1.1.2.2.2.1.length:Int))),()),())
noncomputable def Wv:aF:=aK ah Tryz.f187 i187 Uy [] f187
theorem amC:aE U 187 Wv:=aL g0 Tryz.func187 (by kernel_rfl) af (fun y=>by kernel_rfl) fun a=>by kernel_rfl
noncomputable abbrev apf:bg:=[(187,Wv)]
theorem Xu:aW U (bd ah apf):=bc ⟨amC,⟨⟩⟩
abbrev yo:Shape:=⟨[aH 0 .entry,ad 1,ad 5],[],27⟩
abbrev ER:List aN:=[(.ret,⟨[ad 4],[],27⟩),(.exit 0,⟨[ad 1],[],27⟩)]
noncomputable def yJ(y:yo.J):bJ yo ER:=
 bif(decide (y.1.2.2.1<(y.1.1.length:Int))) then
(aP y.1.1 y.1.2.2.1).bind fun a=>
(f187 (((a.path,a.kind,a.mode,a.text,()),y.1.2.1,()),())).bind fun b=>
 bif(decide (b.1.1<(0:Int))) then
 some (.inr (.inl ((((-1):Int),()),())))
else
 some (.inl ((y.1.1,b.1.1,(IntKind.i64.wrap (y.1.2.2.1+(1:Int))),()),()))
else
 some (.inr (.inr ((y.1.2.1,()),())))
noncomputable def yx:yo.J->Option (aw ER):=bn yJ
theorem agq:aT U (an (codeOf Tryz.f135) 1 122) (a6 yo ER yx):=bN Xu (by kernel_rfl) af fun y=>by kernel_rfl
abbrev i135:Shape:=⟨[aH 0 .entry,ad 1],[],27⟩
abbrev U5:Shape:=⟨[ad 4],[],27⟩
noncomputable def f135(a:i135.J):Option U5.J:=
 bif(decide ((IntKind.i64.wrap (a.1.2.1-(a.1.1.length:Int)))<(0:Int))) then
 some ((((-1):Int),()),())
else
(yx ((a.1.1,(IntKind.i64.wrap (a.1.2.1-(a.1.1.length:Int))),(0:Int),()),())).bind fun b=>
(match b with
|.inl c=>
 some ((c.1.1,()),())
|.inr d=>
 some ((d.1.1,()),()))
noncomputable def WX:aF:=aK ah Tryz.f135 i135 U5 [] f135
theorem amR:aE U 135 WX:=aL Xu Tryz.func135 (by kernel_rfl) (bb agq af) (fun y=>by kernel_rfl) fun a=>by kernel_rfl
abbrev i188:Shape:=⟨[b_ 0 [ae,br,ae]],[],14⟩
abbrev Ux:Shape:=⟨[aM 2 2 0],[aO 2 [ae,br,ae]],14⟩
noncomputable def f188(a:i188.J):Option Ux.J:=
 some (((),()),(a.1.1.1,a.1.1.2.1,a.1.1.2.2.1,()),())
noncomputable def Wu:aF:=aK ah Tryz.f188 i188 Ux [] f188
theorem amB:aE U 188 Wu:=aL g0 Tryz.func188 (by kernel_rfl) af (fun y=>by kernel_rfl) fun a=>by kernel_rfl
noncomputable abbrev ape:bg:=[(188,Wu)]
theorem Xt:aW U (bd ah ape):=bc ⟨amB,⟨⟩⟩
abbrev zi:Shape:=⟨[aH 0 .need,bf 3 3000192,ad 4],[be 3000192 .need 3 0],23⟩
abbrev F':List aN:=[(.exit 0,⟨[bf 3 3000192],[be 3000192 .need 3 0],23⟩)]
noncomputable def zX(y:zi.J):bJ zi F':=
 bif(decide (y.1.2.2.1<(y.1.1.length:Int))) then
(aP y.1.1 y.1.2.2.1).bind fun a=>
(f188 (((a.name,a.kind,a.aU,()),()),())).bind fun b=>
(a_ y.2.1.length y.1.2.2.1).bind fun c=>
((y.2.1[c]?).bind fun q=>some (bB.mk b.2.1.1 b.2.1.2.1 b.2.1.2.2.1)).bind fun d=>
 some (.inl ((y.1.1,(),(IntKind.i64.wrap (y.1.2.2.1+(1:Int))),()),(y.2.1.set c d),()))
else
 some (.inr (((),()),y.2.1,()))
noncomputable def GM:zi.J->Option (aw F'):=bn zX
theorem aio:aT U (an (codeOf Tryz.f136) 1 58) (a6 zi F' GM):=bN Xt (by kernel_rfl) af fun y=>by kernel_rfl
abbrev i136:Shape:=⟨[aH 0 .need],[],23⟩
abbrev U4:Shape:=⟨[bf 2 3000128],[be 3000128 .need 2 0],23⟩
noncomputable def f136(a:i136.J):Option U4.J:=
(jj 40 (a.1.1.length:Int) (a.1.1.length:Int) (bB.mk ([]:F) (0:Int) ([]:F))).bind fun b=>
(GM ((a.1.1,(),(0:Int),()),b,())).bind fun c=>
 some (((),()),c.2.1,())
noncomputable def WW:aF:=aK ah Tryz.f136 i136 U4 [] f136
theorem amQ:aE U 136 WW:=aL Xt Tryz.func136 (by kernel_rfl) (bb aio af) (fun y=>by kernel_rfl) fun a=>by kernel_rfl
abbrev i189:Shape:=⟨[b_ 0 [ae,br,br,ae]],[],17⟩
abbrev Uw:Shape:=⟨[aM 2 2 0],[aO 2 [ae,br,br,ae]],17⟩
noncomputable def f189(a:i189.J):Option Uw.J:=
 some (((),()),(a.1.1.1,a.1.1.2.1,a.1.1.2.2.1,a.1.1.2.2.2.1,()),())
noncomputable def Wt:aF:=aK ah Tryz.f189 i189 Uw [] f189
theorem amA:aE U 189 Wt:=aL g0 Tryz.func189 (by kernel_rfl) af (fun y=>by kernel_rfl) fun a=>by kernel_rfl
noncomputable abbrev apd:bg:=[(189,Wt)]
theorem Xs:aW U (bd ah apd):=bc ⟨amA,⟨⟩⟩
abbrev zh:Shape:=⟨[aH 0 .entry,bf 3 3000192,ad 4],[be 3000192 .entry 3 0],23⟩
abbrev F_:List aN:=[(.exit 0,⟨[bf 3 3000192],[be 3000192 .entry 3 0],23⟩)]
noncomputable def zW(y:zh.J):bJ zh F_:=
 bif(decide (y.1.2.2.1<(y.1.1.length:Int))) then
(aP y.1.1 y.1.2.2.1).bind fun a=>
(f189 (((a.path,a.kind,a.mode,a.text,()),()),())).bind fun b=>
(a_ y.2.1.length y.1.2.2.1).bind fun c=>
((y.2.1[c]?).bind fun q=>some (aC.mk b.2.1.1 b.2.1.2.1 b.2.1.2.2.1 b.2.1.2.2.2.1)).bind fun d=>
 some (.inl ((y.1.1,(),(IntKind.i64.wrap (y.1.2.2.1+(1:Int))),()),(y.2.1.set c d),()))
else
 some (.inr (((),()),y.2.1,()))
noncomputable def GL:zh.J->Option (aw F_):=bn zW
theorem ain:aT U (an (codeOf Tryz.f137) 1 58) (a6 zh F_ GL):=bN Xs (by kernel_rfl) af fun y=>by kernel_rfl
abbrev i137:Shape:=⟨[aH 0 .entry],[],23⟩
abbrev U3:Shape:=⟨[bf 2 3000128],[be 3000128 .entry 2 0],23⟩
noncomputable def f137(a:i137.J):Option U3.J:=
(jj 48 (a.1.1.length:Int) (a.1.1.length:Int) (aC.mk ([]:F) (0:Int) (0:Int) ([]:F))).bind fun b=>
(GL ((a.1.1,(),(0:Int),()),b,())).bind fun c=>
 some (((),()),c.2.1,())
noncomputable def WV:aF:=aK ah Tryz.f137 i137 U3 [] f137
theorem amP:aE U 137 WV:=aL Xs Tryz.func137 (by kernel_rfl) (bb ain af) (fun y=>by kernel_rfl) fun a=>by kernel_rfl
abbrev i190:Shape:=⟨[b_ 0 [ae,br,ae],b_ 1 [ae,br,ae]],[],20⟩
abbrev Uv:Shape:=⟨[ar 4],[],20⟩
noncomputable def f190(a:i190.J):Option Uv.J:=
 bif(!(a.1.1.1==a.1.2.1.1)) then
 some ((false,()),())
else
 bif(a.1.1.2.1 !=a.1.2.1.2.1) then
 some ((false,()),())
else
 bif(!(a.1.1.2.2.1==a.1.2.1.2.2.1)) then
 some ((false,()),())
else
 some ((true,()),())
noncomputable def Ws:aF:=aK ah Tryz.f190 i190 Uv [] f190
theorem amz:aE U 190 Ws:=aL g0 Tryz.func190 (by kernel_rfl) af (fun y=>by kernel_rfl) fun a=>by kernel_rfl
noncomputable abbrev apc:bg:=[(190,Ws)]
theorem Xr:aW U (bd ah apc):=bc ⟨amz,⟨⟩⟩
abbrev zg:Shape:=⟨[aH 0 .need,aH 1 .need,ad 5],[],27⟩
abbrev F9:List aN:=[(.ret,⟨[ar 4],[],27⟩),(.exit 0,⟨[],[],27⟩)]
noncomputable def zV(y:zg.J):bJ zg F9:=
 bif(decide (y.1.2.2.1<(y.1.1.length:Int))) then
(aP y.1.1 y.1.2.2.1).bind fun a=>
(aP y.1.2.1 y.1.2.2.1).bind fun b=>
(f190 (((a.name,a.kind,a.aU,()),(b.name,b.kind,b.aU,()),()),())).bind fun c=>
 bif(!c.1.1) then
 some (.inr (.inl ((false,()),())))
else
 some (.inl ((y.1.1,y.1.2.1,(IntKind.i64.wrap (y.1.2.2.1+(1:Int))),()),()))
else
 some (.inr (.inr ((),())))
noncomputable def GK:zg.J->Option (aw F9):=bn zV
theorem aim:aT U (an (codeOf Tryz.f138) 1 58) (a6 zg F9 GK):=bN Xr (by kernel_rfl) af fun y=>by kernel_rfl
abbrev i138:Shape:=⟨[aH 0 .need,aH 1 .need],[],27⟩
abbrev U2:Shape:=⟨[ar 4],[],27⟩
noncomputable def f138(a:i138.J):Option U2.J:=
 bif((a.1.1.length:Int) !=(a.1.2.1.length:Int)) then
 some ((false,()),())
else
(GK ((a.1.1,a.1.2.1,(0:Int),()),())).bind fun b=>
(match b with
|.inl c=>
 some ((c.1.1,()),())
|.inr d=>
 some ((true,()),()))
noncomputable def WU:aF:=aK ah Tryz.f138 i138 U2 [] f138
theorem z138:aE U 138 WU:=aL Xr Tryz.func138 (by kernel_rfl) (bb aim af) (fun y=>by kernel_rfl) fun a=>by kernel_rfl
abbrev i191:Shape:=⟨[b_ 0 [ae,br,br,ae],b_ 1 [ae,br,br,ae]],[],25⟩
abbrev Uu:Shape:=⟨[ar 4],[],25⟩
noncomputable def f191(a:i191.J):Option Uu.J:=
 bif(!(a.1.1.1==a.1.2.1.1)) then
 some ((false,()),())
else
 bif(a.1.1.2.1 !=a.1.2.1.2.1) then
 some ((false,()),())
else
 bif(a.1.1.2.2.1 !=a.1.2.1.2.2.1) then
 some ((false,()),())
else
 bif(!(a.1.1.2.2.2.1==a.1.2.1.2.2.2.1)) then
 some ((false,()),())
else
 some ((true,()),())
noncomputable def Wr:aF:=aK ah Tryz.f191 i191 Uu [] f191
theorem amy:aE U 191 Wr:=aL g0 Tryz.func191 (by kernel_rfl) af (fun y=>by kernel_rfl) fun a=>by kernel_rfl
noncomputable abbrev apb:bg:=[(191,Wr)]
theorem Xq:aW U (bd ah apb):=bc ⟨amy,⟨⟩⟩
abbrev zf:Shape:=⟨[aH 0 .entry,aH 1 .entry,ad 5],[],27⟩
abbrev F8:List aN:=[(.ret,⟨[ar 4],[],27⟩),(.exit 0,⟨[],[],27⟩)]
noncomputable def zU(y:zf.J):bJ zf F8:=
 bif(decide (y.1.2.2.1<(y.1.1.length:Int))) then
(aP y.1.1 y.1.2.2.1).bind fun a=>
(aP y.1.2.1 y.1.2.2.1).bind fun b=>
(f191 (((a.path,a.kind,a.mode,a.text,()),(b.path,b.kind,b.mode,b.text,()),()),())).bind fun c=>
 bif(!c.1.1) then
 some (.inr (.inl ((false,()),())))
else
 some (.inl ((y.1.1,y.1.2.1,(IntKind.i64.wrap (y.1.2.2.1+(1:Int))),()),()))
else
 some (.inr (.inr ((),())))
noncomputable def GJ:zf.J->Option (aw F8):=bn zU
theorem ail:aT U (an (codeOf Tryz.f139) 1 58) (a6 zf F8 GJ):=bN Xq (by kernel_rfl) af fun y=>by kernel_rfl
abbrev i139:Shape:=⟨[aH 0 .entry,aH 1 .entry],[],27⟩
abbrev U1:Shape:=⟨[ar 4],[],27⟩
noncomputable def f139(a:i139.J):Option U1.J:=
 bif((a.1.1.length:Int) !=(a.1.2.1.length:Int)) then
 some ((false,()),())
else
(GJ ((a.1.1,a.1.2.1,(0:Int),()),())).bind fun b=>
(match b with
|.inl c=>
 some ((c.1.1,()),())
|.inr d=>
 some ((true,()),()))
noncomputable def WT:aF:=aK ah Tryz.f139 i139 U1 [] f139
theorem z139:aE U 139 WT:=aL Xq Tryz.func139 (by kernel_rfl) (bb ail af) (fun y=>by kernel_rfl) fun a=>by kernel_rfl
noncomputable abbrev atu:bg:=[(134,WY),(135,WX)]
theorem aug:aW U (bd ah atu):=bc ⟨amS,amR,⟨⟩⟩
abbrev i82:Shape:=⟨[b_ 0 [ae,ae,b6 .need,b6 .entry],ad 1],[],32⟩
abbrev X7:Shape:=⟨[ad 4],[],32⟩
noncomputable def f82(a:i82.J):Option X7.J:=
 bif(decide ((IntKind.i64.wrap (a.1.2.1-(a.1.1.1.length:Int)))<(0:Int))) then
 some ((((-1):Int),()),())
else
 bif(decide ((IntKind.i64.wrap ((IntKind.i64.wrap (a.1.2.1-(a.1.1.1.length:Int)))-(a.1.1.2.1.length:Int)))<(0:Int))) then
 some ((((-1):Int),()),())
else
(f134 ((a.1.1.2.2.1,(IntKind.i64.wrap ((IntKind.i64.wrap (a.1.2.1-(a.1.1.1.length:Int)))-(a.1.1.2.1.length:Int))),()),())).bind fun b=>
 bif(decide (b.1.1<(0:Int))) then
 some ((((-1):Int),()),())
else
(f135 ((a.1.1.2.2.2.1,b.1.1,()),())).bind fun c=>
 bif(decide (c.1.1<(0:Int))) then
 some ((((-1):Int),()),())
else
 some ((c.1.1,()),())
noncomputable def ZD:aF:=aK ah Tryz.f82 i82 X7 [] f82
theorem aqd:aE U 82 ZD:=aL aug Tryz.func82 (by kernel_rfl) af (fun y=>by kernel_rfl) fun a=>by kernel_rfl
noncomputable abbrev atN:bg:=[(82,ZD)]
theorem _k:aW U (bd ah atN):=bc ⟨aqd,⟨⟩⟩
abbrev yU:Shape:=⟨[aH 0 .pack,ad 1,ad 5],[],27⟩
abbrev FO:List aN:=[(.ret,⟨[ad 4],[],27⟩),(.exit 0,⟨[ad 1],[],27⟩)]
noncomputable def zF(y:yU.J):bJ yU FO:=
 bif(decide (y.1.2.2.1<(y.1.1.length:Int))) then
(aP y.1.1 y.1.2.2.1).bind fun a=>
(f82 (((a.name,a.aU,a.bj,a.bL,()),y.1.2.1,()),())).bind fun b=>
 bif(decide (b.1.1<(0:Int))) then
 some (.inr (.inl ((((-1):Int),()),())))
else
 some (.inl ((y.1.1,b.1.1,(IntKind.i64.wrap (y.1.2.2.1+(1:Int))),()),()))
else
 some (.inr (.inr ((y.1.2.1,()),())))
noncomputable def zx:yU.J->Option (aw FO):=bn zF
theorem ahN:aT U (an (codeOf Tryz.f44) 1 122) (a6 yU FO zx):=bN _k (by kernel_rfl) af fun y=>by kernel_rfl
abbrev i44:Shape:=⟨[aH 0 .pack,ad 1],[],27⟩
abbrev Ys:Shape:=⟨[ad 4],[],27⟩
noncomputable def f44(a:i44.J):Option Ys.J:=
 bif(decide ((IntKind.i64.wrap (a.1.2.1-(a.1.1.length:Int)))<(0:Int))) then
 some ((((-1):Int),()),())
else
(zx ((a.1.1,(IntKind.i64.wrap (a.1.2.1-(a.1.1.length:Int))),(0:Int),()),())).bind fun b=>
(match b with
|.inl c=>
 some ((c.1.1,()),())
|.inr d=>
 some ((d.1.1,()),()))
noncomputable def Lr:aF:=aK ah Tryz.f44 i44 Ys [] f44
theorem XJ:aE U 44 Lr:=aL _k Tryz.func44 (by kernel_rfl) (bb ahN af) (fun y=>by kernel_rfl) fun a=>by kernel_rfl
noncomputable abbrev at5:bg:=[(44,Lr)]
theorem auv:aW U (bd ah at5):=bc ⟨XJ,⟨⟩⟩
abbrev i15:Shape:=⟨[b_ 0 [b6 .pack],ad 1],[],12⟩
abbrev YI:Shape:=⟨[ad 4],[],12⟩
noncomputable def f15(a:i15.J):Option YI.J:=
(f44 ((a.1.1.1,a.1.2.1,()),())).bind fun b=>
 bif(decide (b.1.1<(0:Int))) then
 some ((((-1):Int),()),())
else
 some ((b.1.1,()),())
noncomputable def wQ:aF:=aK ah Tryz.f15 i15 YI [] f15
theorem aqx:aE U 15 wQ:=aL auv Tryz.func15 (by kernel_rfl) af (fun y=>by kernel_rfl) fun a=>by kernel_rfl
noncomputable abbrev ats:bg:=[(136,WW),(137,WV)]
theorem aue:aW U (bd ah ats):=bc ⟨amQ,amP,⟨⟩⟩
abbrev i84:Shape:=⟨[b_ 0 [ae,ae,b6 .need,b6 .entry]],[],19⟩
abbrev X6:Shape:=⟨[aM 2 2 0],[bv 5000130 .need 2 2,bv 5000131 .entry 2 3,aO 2 [ae,ae,.own 5000130,.own 5000131]],19⟩
noncomputable def f84(a:i84.J):Option X6.J:=
(f136 ((a.1.1.2.2.1,()),())).bind fun b=>
(f137 ((a.1.1.2.2.2.1,()),())).bind fun c=>
 some (((),()),b.2.1,c.2.1,(a.1.1.1,a.1.1.2.1,(),(),()),())
noncomputable def ZC:aF:=aK ah Tryz.f84 i84 X6 [] f84
theorem aqc:aE U 84 ZC:=aL aue Tryz.func84 (by kernel_rfl) af (fun y=>by kernel_rfl) fun a=>by kernel_rfl
noncomputable abbrev atL:bg:=[(84,ZC)]
theorem _j:aW U (bd ah atL):=bc ⟨aqc,⟨⟩⟩
abbrev AF:Shape:=⟨[aH 0 .pack,bf 3 3000192,ad 4],[be 3000192 .pack 3 0],23⟩
abbrev HD:List aN:=[(.exit 0,⟨[bf 3 3000192],[be 3000192 .pack 3 0],23⟩)]
noncomputable def A7(y:AF.J):bJ AF HD:=
 bif(decide (y.1.2.2.1<(y.1.1.length:Int))) then
(aP y.1.1 y.1.2.2.1).bind fun a=>
(f84 (((a.name,a.aU,a.bj,a.bL,()),()),())).bind fun b=>
(a_ y.2.1.length y.1.2.2.1).bind fun c=>
((y.2.1[c]?).bind fun q=>some (ba.mk b.2.2.2.1.1 b.2.2.2.1.2.1 b.2.1 b.2.2.1)).bind fun d=>
 some (.inl ((y.1.1,(),(IntKind.i64.wrap (y.1.2.2.1+(1:Int))),()),(y.2.1.set c d),()))
else
 some (.inr (((),()),y.2.1,()))
noncomputable def H4:AF.J->Option (aw HD):=bn A7
theorem aj3:aT U (an (codeOf Tryz.f46) 1 58) (a6 AF HD H4):=bN _j (by kernel_rfl) af fun y=>by kernel_rfl
abbrev i46:Shape:=⟨[aH 0 .pack],[],23⟩
abbrev Yq:Shape:=⟨[bf 2 3000128],[be 3000128 .pack 2 0],23⟩
noncomputable def f46(a:i46.J):Option Yq.J:=
(jj 80 (a.1.1.length:Int) (a.1.1.length:Int) (ba.mk ([]:F) ([]:F) ([]:List bB) ([]:List aC))).bind fun b=>
(H4 ((a.1.1,(),(0:Int),()),b,())).bind fun c=>
 some (((),()),c.2.1,())
noncomputable def Lq:aF:=aK ah Tryz.f46 i46 Yq [] f46
theorem z46:aE U 46 Lq:=aL _j Tryz.func46 (by kernel_rfl) (bb aj3 af) (fun y=>by kernel_rfl) fun a=>by kernel_rfl
noncomputable abbrev at3:bg:=[(46,Lq)]
theorem auu:aW U (bd ah at3):=bc ⟨z46,⟨⟩⟩
abbrev i17:Shape:=⟨[b_ 0 [b6 .pack]],[],9⟩
abbrev YG:Shape:=⟨[aM 2 2 0],[bv 5000128 .pack 2 0,aO 2 [.own 5000128]],9⟩
noncomputable def f17(a:i17.J):Option YG.J:=
(f46 ((a.1.1.1,()),())).bind fun b=>
 some (((),()),b.2.1,((),()),())
noncomputable def Z2:aF:=aK ah Tryz.f17 i17 YG [] f17
theorem aqv:aE U 17 Z2:=aL auu Tryz.func17 (by kernel_rfl) af (fun y=>by kernel_rfl) fun a=>by kernel_rfl
noncomputable abbrev atr:bg:=[(138,WU),(139,WT)]
theorem aud:aW U (bd ah atr):=bc ⟨z138,z139,⟨⟩⟩
abbrev i85:Shape:=⟨[b_ 0 [ae,ae,b6 .need,b6 .entry],b_ 1 [ae,ae,b6 .need,b6 .entry]],[],27⟩
abbrev X5:Shape:=⟨[ar 4],[],27⟩
noncomputable def f85(a:i85.J):Option X5.J:=
 bif(!(a.1.1.1==a.1.2.1.1)) then
 some ((false,()),())
else
 bif(!(a.1.1.2.1==a.1.2.1.2.1)) then
 some ((false,()),())
else
(f138 ((a.1.1.2.2.1,a.1.2.1.2.2.1,()),())).bind fun b=>
 bif(!b.1.1) then
 some ((false,()),())
else
(f139 ((a.1.1.2.2.2.1,a.1.2.1.2.2.2.1,()),())).bind fun c=>
 bif(!c.1.1) then
 some ((false,()),())
else
 some ((true,()),())
noncomputable def ZB:aF:=aK ah Tryz.f85 i85 X5 [] f85
theorem z85:aE U 85 ZB:=aL aud Tryz.func85 (by kernel_rfl) af (fun y=>by kernel_rfl) fun a=>by kernel_rfl
noncomputable abbrev atJ:bg:=[(85,ZB)]
theorem _i:aW U (bd ah atJ):=bc ⟨z85,⟨⟩⟩
abbrev AE:Shape:=⟨[aH 0 .pack,aH 1 .pack,ad 5],[],27⟩
abbrev HC:List aN:=[(.ret,⟨[ar 4],[],27⟩),(.exit 0,⟨[],[],27⟩)]
noncomputable def A6(y:AE.J):bJ AE HC:=
 bif(decide (y.1.2.2.1<(y.1.1.length:Int))) then
(aP y.1.1 y.1.2.2.1).bind fun a=>
(aP y.1.2.1 y.1.2.2.1).bind fun b=>
(f85 (((a.name,a.aU,a.bj,a.bL,()),(b.name,b.aU,b.bj,b.bL,()),()),())).bind fun c=>
 bif(!c.1.1) then
 some (.inr (.inl ((false,()),())))
else
 some (.inl ((y.1.1,y.1.2.1,(IntKind.i64.wrap (y.1.2.2.1+(1:Int))),()),()))
else
 some (.inr (.inr ((),())))
noncomputable def H3:AE.J->Option (aw HC):=bn A6
theorem aj2:aT U (an (codeOf Tryz.f48) 1 58) (a6 AE HC H3):=bN _i (by kernel_rfl) af fun y=>by kernel_rfl
abbrev i48:Shape:=⟨[aH 0 .pack,aH 1 .pack],[],27⟩
abbrev Yo:Shape:=⟨[ar 4],[],27⟩
noncomputable def f48(a:i48.J):Option Yo.J:=
 bif((a.1.1.length:Int) !=(a.1.2.1.length:Int)) then
 some ((false,()),())
else
(H3 ((a.1.1,a.1.2.1,(0:Int),()),())).bind fun b=>
(match b with
|.inl c=>
 some ((c.1.1,()),())
|.inr d=>
 some ((true,()),()))
noncomputable def Lp:aF:=aK ah Tryz.f48 i48 Yo [] f48
theorem XI:aE U 48 Lp:=aL _i Tryz.func48 (by kernel_rfl) (bb aj2 af) (fun y=>by kernel_rfl) fun a=>by kernel_rfl
noncomputable abbrev at1:bg:=[(48,Lp)]
theorem aut:aW U (bd ah at1):=bc ⟨XI,⟨⟩⟩
abbrev i20:Shape:=⟨[b_ 0 [b6 .pack],b_ 1 [b6 .pack]],[],11⟩
abbrev YD:Shape:=⟨[ar 4],[],11⟩
noncomputable def f20(a:i20.J):Option YD.J:=
(f48 ((a.1.1.1,a.1.2.1.1,()),())).bind fun b=>
 bif(!b.1.1) then
 some ((false,()),())
else
 some ((true,()),())
noncomputable def Z0:aF:=aK ah Tryz.f20 i20 YD [] f20
theorem z20:aE U 20 Z0:=aL aut Tryz.func20 (by kernel_rfl) af (fun y=>by kernel_rfl) fun a=>by kernel_rfl
abbrev e6(n:Nat):Prop:=n<=maxLen
abbrev gr(n:Nat):Prop:=n<=1048576
abbrev Z5(n:bB):Prop:=e6 n.name.length/\e6 n.aU.length
abbrev Lf(n:bB):Prop:=gr n.name.length/\gr n.aU.length
abbrev Z7(e:aC):Prop:=e6 e.path.length/\e6 e.text.length
abbrev Lh(e:aC):Prop:=gr e.path.length/\gr e.text.length
abbrev JJ(l:List bB):Prop:=e6 l.length/\∀n,n∈l->Z5 n
abbrev VU(l:List bB):Prop:=gr l.length/\∀n,n∈l->Lf n
abbrev JL(l:List aC):Prop:=e6 l.length/\∀n,n∈l->Z7 n
abbrev VV(l:List aC):Prop:=gr l.length/\∀n,n∈l->Lh n
abbrev Z4(p:ba):Prop:=e6 p.name.length/\e6 p.aU.length/\JJ p.bj/\JL p.bL
abbrev Le(p:ba):Prop:=gr p.name.length/\gr p.aU.length/\VU p.bj/\VV p.bL
abbrev JI(l:List ba):Prop:=e6 l.length/\∀n,n∈l->Z4 n
abbrev B6(l:List ba):Prop:=gr l.length/\∀n,n∈l->Le n
theorem jS{l:Int}{n:Nat}(h0:0<=l)(h1:l<=1048576)(hn:e6 n):IntKind.i64.wrap (l-(n:Int))=l-n:=by
 unfold e6 maxLen at hn;exact ee (by omega) (by omega)
def nF(l r:Int)(p:Prop):Prop:=r<0\/(0<=r/\r<=l/\p)
theorem yP{ax J bm:Type}(g:J->Option (Sum J bm))(xs:List ax)(st:Nat->Int->J)(no:bm)(nR:Int->bm)(W:ax->Prop)
  (h1:∀i x s,xs[i]? =some x->0<=s->s<=1048576->g (st i s)=some (.inr no)\/∃aD,0<=aD/\aD<=s/\W x/\g (st i s)=some (.inl (st (i+1) aD)))
  (h2:∀s,g (st xs.length s)=some (.inr (nR s))) (s:Int) (h3:0<=s) (ay:s<=1048576):
  bn g (st 0 s)=some no\/∃aD,0<=aD/\aD<=s/\(∀x,x∈xs->W x)/\bn g (st 0 s)=some (nR aD):=by
 suffices h:∀(r:List ax) (k:Nat) (s:Int),xs.drop k=r->k<=xs.length->0<=s->s<=1048576->bn g (st k s)=some no\/∃aD,0<=aD/\aD<=s/\(∀x,x∈r->W x)/\bn g (st k s)=some (nR aD) from
  h xs 0 s rfl (Nat.zero_le _) h3 ay
 intro r;induction r with
 |nil=>
  intro k s hr hk h3 ay;have:=drop_nil hr;obtain rfl:k=xs.length:=by omega
  exact .inr ⟨s,h3,Int.le_refl _,fun x h=>(by cases h),ca (h2 s)⟩
 |cons x r ih=>
  intro k s hr hk h3 ay;obtain⟨c1,c2,c3⟩:=drop_cons hr;rcases h1 k x s c1 h3 ay with h|⟨aD,aB,aA,bC,cO⟩
  ·exact .inl (ca h)
  ·rw[du cO];rcases ih (k+1) aD c2 (by omega) aB (by omega) with h|⟨s2,q1,q2,cV,jL⟩
   ·exact .inl h
   ·exact .inr ⟨s2,q1,by omega,fun y hy=>by
     rcases List.mem_cons.1 hy with rfl|hy
     ·exact bC
     ·exact cV y hy,jL⟩
theorem afp(a)(h0:0<=a.1.2.1)(h1:a.1.2.1<=1048576)(hm:Z5 ⟨a.1.1.1,a.1.1.2.1,a.1.1.2.2.1⟩):∃r:Int,f186 a=some ((r,()),())/\nF a.1.2.1 r (Lf ⟨a.1.1.1,a.1.1.2.1,a.1.1.2.2.1⟩):=by
 obtain⟨⟨⟨(n:F),k,(v:F),u⟩,(l:Int),b7⟩,ln⟩:=a;have h0:0<=l:=h0;have h1:l<=1048576:=h1;obtain⟨m1,m2⟩:=hm;have m1:e6 n.length:=m1;have m2:e6 v.length:=m2;simp only[f186,jS h0 h1 m1];by_cases c:l-(n.length:Int)<0
 ·simp only[c,decide_true,cond_true];exact⟨_,rfl,.inl (by omega)⟩
 ·simp only[c,decide_false,cond_false,jS (l:=l-n.length) (by omega) (by omega) m2]
  by_cases c2:l-(n.length:Int)-(v.length:Int)<0
  ·simp only[c2,decide_true,cond_true];exact⟨_,rfl,.inl (by omega)⟩
  ·simp only[c2,decide_false,cond_false];exact⟨_,rfl,.inr ⟨by omega,(by show l-n.length-v.length<=l;omega),(by show n.length<=1048576;omega),(by show v.length<=1048576;omega)⟩⟩
theorem adv(a)(h0:0<=a.1.2.1)(h1:a.1.2.1<=1048576)(hm:Z7 ⟨a.1.1.1,a.1.1.2.1,a.1.1.2.2.1,a.1.1.2.2.2.1⟩):∃r:Int,f187 a=some ((r,()),())/\nF a.1.2.1 r (Lh ⟨a.1.1.1,a.1.1.2.1,a.1.1.2.2.1,a.1.1.2.2.2.1⟩):=by
 obtain⟨⟨⟨(n:F),k,aA,(v:F),u⟩,(l:Int),b7⟩,ln⟩:=a;have h0:0<=l:=h0;have h1:l<=1048576:=h1;obtain⟨m1,m2⟩:=hm;have m1:e6 n.length:=m1;have m2:e6 v.length:=m2;simp only[f187,jS h0 h1 m1];by_cases c:l-(n.length:Int)<0
 ·simp only[c,decide_true,cond_true];exact⟨_,rfl,.inl (by omega)⟩
 ·simp only[c,decide_false,cond_false,jS (l:=l-n.length) (by omega) (by omega) m2]
  by_cases c2:l-(n.length:Int)-(v.length:Int)<0
  ·simp only[c2,decide_true,cond_true];exact⟨_,rfl,.inl (by omega)⟩
  ·simp only[c2,decide_false,cond_false];exact⟨_,rfl,.inr ⟨by omega,(by show l-n.length-v.length<=l;omega),(by show n.length<=1048576;omega),(by show v.length<=1048576;omega)⟩⟩
theorem adt(a)(h0:0<=a.1.2.1)(h1:a.1.2.1<=1048576)(hm:JJ a.1.1):∃r:Int,f134 a=some ((r,()),())/\nF a.1.2.1 r (VU a.1.1):=by
 obtain⟨⟨xs,(l:Int),u⟩,b7⟩:=a;have h0:0<=l:=h0;have h1:l<=1048576:=h1;obtain⟨m1,m2⟩:=hm;have m1:e6 xs.length:=m1;simp only[f134,jS h0 h1 m1];by_cases c:l-(xs.length:Int)<0
 ·simp only[c,decide_true,cond_true];exact⟨_,rfl,.inl (by omega)⟩
 ·simp only[c,decide_false,cond_false];have hl:xs.length<=1048576:=by omega
  have key:=yP yK xs (fun i s=>((xs,(s,((i:Int),()))),())) (.inl (((-1:Int),()),())) (fun s=>.inr ((s,()),())) Lf (fun i x s hx fq s1=>?_) (fun s=>?_) (l-xs.length) (by omega) (by omega)
  ·rcases key with h|⟨aD,aB,aA,bC,h⟩
   ·have h:yy ((xs,(l-xs.length,((0:Int),()))),())=_:=h;exact⟨-1,by rw[h];rfl,.inl (by omega)⟩
   ·have h:yy ((xs,(l-xs.length,((0:Int),()))),())=_:=h;exact⟨aD,by rw[h];rfl,.inr ⟨aB,(by show aD<=l;omega),hl,bC⟩⟩
  ·have hi:=ct hx;have hw:am i:=by unfold am;omega
   obtain⟨r,e1,e2⟩:=afp (((x.name,(x.kind,(x.aU,()))),(s,())),()) fq s1 (m2 x (List.mem_of_getElem? hx));simp only[yK,bZ hi,cond_true,bQ,hx,Option.bind_some,e1,bK hw];rcases e2 with e2|⟨q1,q2,cV⟩
   ·left;simp only[e2,decide_true,cond_true]
   ·have:¬r<0:=by omega
    right;refine⟨r,q1,q2,cV,?_⟩;simp only[this,decide_false,cond_false]
  ·simp only[yK,cX,cond_false]
theorem ach(a)(h0:0<=a.1.2.1)(h1:a.1.2.1<=1048576)(hm:JL a.1.1):∃r:Int,f135 a=some ((r,()),())/\nF a.1.2.1 r (VV a.1.1):=by
 obtain⟨⟨xs,(l:Int),u⟩,b7⟩:=a;have h0:0<=l:=h0;have h1:l<=1048576:=h1;obtain⟨m1,m2⟩:=hm;have m1:e6 xs.length:=m1;simp only[f135,jS h0 h1 m1];by_cases c:l-(xs.length:Int)<0
 ·simp only[c,decide_true,cond_true];exact⟨_,rfl,.inl (by omega)⟩
 ·simp only[c,decide_false,cond_false];have hl:xs.length<=1048576:=by omega
  have key:=yP yJ xs (fun i s=>((xs,(s,((i:Int),()))),())) (.inl (((-1:Int),()),())) (fun s=>.inr ((s,()),())) Lh (fun i x s hx fq s1=>?_) (fun s=>?_) (l-xs.length) (by omega) (by omega)
  ·rcases key with h|⟨aD,aB,aA,bC,h⟩
   ·have h:yx ((xs,(l-xs.length,((0:Int),()))),())=_:=h;exact⟨-1,by rw[h];rfl,.inl (by omega)⟩
   ·have h:yx ((xs,(l-xs.length,((0:Int),()))),())=_:=h;exact⟨aD,by rw[h];rfl,.inr ⟨aB,(by show aD<=l;omega),hl,bC⟩⟩
  ·have hi:=ct hx;have hw:am i:=by unfold am;omega
   obtain⟨r,e1,e2⟩:=adv (((x.path,(x.kind,(x.mode,(x.text,())))),(s,())),()) fq s1 (m2 x (List.mem_of_getElem? hx));simp only[yJ,bZ hi,cond_true,bQ,hx,Option.bind_some,e1,bK hw];rcases e2 with e2|⟨q1,q2,cV⟩
   ·left;simp only[e2,decide_true,cond_true]
   ·have:¬r<0:=by omega
    right;refine⟨r,q1,q2,cV,?_⟩;simp only[this,decide_false,cond_false]
  ·simp only[yJ,cX,cond_false]
theorem afo(a)(h0:0<=a.1.2.1)(h1:a.1.2.1<=1048576)(hm:Z4 ⟨a.1.1.1,a.1.1.2.1,a.1.1.2.2.1,a.1.1.2.2.2.1⟩):∃r:Int,f82 a=some ((r,()),())/\nF a.1.2.1 r (Le ⟨a.1.1.1,a.1.1.2.1,a.1.1.2.2.1,a.1.1.2.2.2.1⟩):=by
 obtain⟨⟨⟨(n:F),(v:F),ns,es,u⟩,(l:Int),b7⟩,ln⟩:=a;have h0:0<=l:=h0;have h1:l<=1048576:=h1;obtain⟨m1,m2,m3,m4⟩:=hm;have m1:e6 n.length:=m1;have m2:e6 v.length:=m2;simp only[f82,jS h0 h1 m1];by_cases c:l-(n.length:Int)<0
 ·simp only[c,decide_true,cond_true];exact⟨_,rfl,.inl (by omega)⟩
 ·simp only[c,decide_false,cond_false,jS (l:=l-n.length) (by omega) (by omega) m2]
  by_cases c2:l-(n.length:Int)-(v.length:Int)<0
  ·simp only[c2,decide_true,cond_true];exact⟨_,rfl,.inl (by omega)⟩
  ·simp only[c2,decide_false,cond_false];obtain⟨r,e1,e2⟩:=adt ((ns,(l-(n.length:Int)-(v.length:Int),())),()) (by show 0<=l-(n.length:Int)-(v.length:Int);omega) (by show l-(n.length:Int)-(v.length:Int)<=_;omega) m3
   simp only[e1,Option.bind_some];rcases e2 with e2|⟨q1,q2,cV⟩
   ·simp only[e2,decide_true,cond_true];exact⟨_,rfl,.inl (by omega)⟩
   ·have q2:r<=l-(n.length:Int)-(v.length:Int):=q2;have c3:¬r<0:=by omega
    simp only[c3,decide_false,cond_false];obtain⟨r2,bz,da⟩:=ach ((es,(r,())),()) q1 (by show r<=_;omega) m4
    simp only[bz,Option.bind_some];rcases da with da|⟨jL,q_,auV⟩
    ·simp only[da,decide_true,cond_true];exact⟨_,rfl,.inl (by omega)⟩
    ·have q_:r2<=r:=q_;have c5:¬r2<0:=by omega
     simp only[c5,decide_false,cond_false];exact⟨_,rfl,.inr ⟨jL,(by show r2<=l;omega),(by show n.length<=1048576;omega),(by show v.length<=1048576;omega),cV,auV⟩⟩
theorem ads(a)(h0:0<=a.1.2.1)(h1:a.1.2.1<=1048576)(hm:JI a.1.1):∃r:Int,f44 a=some ((r,()),())/\nF a.1.2.1 r (B6 a.1.1):=by
 obtain⟨⟨xs,(l:Int),u⟩,b7⟩:=a;have h0:0<=l:=h0;have h1:l<=1048576:=h1;obtain⟨m1,m2⟩:=hm;have m1:e6 xs.length:=m1;simp only[f44,jS h0 h1 m1];by_cases c:l-(xs.length:Int)<0
 ·simp only[c,decide_true,cond_true];exact⟨_,rfl,.inl (by omega)⟩
 ·simp only[c,decide_false,cond_false];have hl:xs.length<=1048576:=by omega
  have key:=yP zF xs (fun i s=>((xs,(s,((i:Int),()))),())) (.inl (((-1:Int),()),())) (fun s=>.inr ((s,()),())) Le (fun i x s hx fq s1=>?_) (fun s=>?_) (l-xs.length) (by omega) (by omega)
  ·rcases key with h|⟨aD,aB,aA,bC,h⟩
   ·have h:zx ((xs,(l-xs.length,((0:Int),()))),())=_:=h;exact⟨-1,by rw[h];rfl,.inl (by omega)⟩
   ·have h:zx ((xs,(l-xs.length,((0:Int),()))),())=_:=h;exact⟨aD,by rw[h];rfl,.inr ⟨aB,(by show aD<=l;omega),hl,bC⟩⟩
  ·have hi:=ct hx;have hw:am i:=by unfold am;omega
   obtain⟨r,e1,e2⟩:=afo (((x.name,(x.aU,(x.bj,(x.bL,())))),(s,())),()) fq s1 (m2 x (List.mem_of_getElem? hx));simp only[zF,bZ hi,cond_true,bQ,hx,Option.bind_some,e1,bK hw];rcases e2 with e2|⟨q1,q2,cV⟩
   ·left;simp only[e2,decide_true,cond_true]
   ·have:¬r<0:=by omega
    right;refine⟨r,q1,q2,cV,?_⟩;simp only[this,decide_false,cond_false]
  ·simp only[zF,cX,cond_false]
theorem x6{ax J bm:Type}(g:J->Option (Sum J bm))(xs:List ax)(z:ax)(st:Nat->List ax->J)(fin:List ax->bm)
  (h1:∀i x acc,xs[i]? =some x->acc.length=xs.length->g (st i acc)=some (.inl (st (i+1) (acc.set i x))))
  (h2:g (st xs.length xs)=some (.inr (fin xs))):bn g (st 0 (List.replicate xs.length z))=some (fin xs):=by
 suffices h:∀(r:List ax) (k:Nat),xs.drop k=r->k<=xs.length->bn g (st k (xs.take k++List.replicate (xs.length-k) z))=some (fin xs) from by
  have:=h xs 0 rfl (Nat.zero_le _);simpa using this
 intro r;induction r with
 |nil=>
  intro k hr hk;have:=drop_nil hr;obtain rfl:k=xs.length:=by omega
  simp only[Nat.sub_self,List.replicate_zero,List.append_nil,List.take_length];exact ca h2
 |cons x r ih=>
  intro k hr hk;obtain⟨c1,c2,c3⟩:=drop_cons hr;have hl:(xs.take k++List.replicate (xs.length-k) z).length=xs.length:=by simp;omega
  rw[du (h1 k x _ c1 hl)];have e:(xs.take k++List.replicate (xs.length-k) z).set k x=xs.take (k+1)++List.replicate (xs.length-(k+1)) z:=by
   have wC:(xs.take k).length=k:=by simp;omega
   obtain⟨m,hm⟩:∃m,xs.length-k=m+1:=⟨xs.length-k-1,by omega⟩
   rw[List.set_append_right _ _ (by omega),wC,Nat.sub_self,hm,show xs.length-(k+1)=m by omega,List.replicate_succ,List.set_cons_zero,List.take_add_one,c1]
   simp
  rw[e];exact ih (k+1) c2 c3
theorem adq(a)(hs:cv a.1.1.length):f136 a=some (((),()),(a.1.1,())):=by
 obtain⟨⟨xs,u⟩,b7⟩:=a;have hs:xs.length<=2097152:=hs;have key:=x6 zX xs (bB.mk [] 0 []) (fun i acc=>((xs,((),((i:Int),()))),(acc,()))) (fun acc=>(((),()),(acc,()))) (fun i x acc hx hl=>?_) ?_
 ·have key:GM ((xs,((),((0:Int),()))),(List.replicate xs.length (bB.mk [] 0 []),()))=_:=key;simp only[f136,sr (show(40:Nat)<=100 by decide) (show am xs.length by unfold am;omega),Option.bind_some,key]
 ·have hi:=ct hx;have hw:am i:=by unfold am;omega
  have au:acc[i]? =some acc[i]:=List.getElem?_eq_getElem (by omega)
  simp only[zX,bZ hi,cond_true,bQ,hx,Option.bind_some,f188,fm (show i<acc.length by omega),au,bK hw]
 ·simp only[zX,cX,cond_false]
theorem acg(a)(hs:cv a.1.1.length):f137 a=some (((),()),(a.1.1,())):=by
 obtain⟨⟨xs,u⟩,b7⟩:=a;have hs:xs.length<=2097152:=hs;have key:=x6 zW xs (aC.mk [] 0 0 []) (fun i acc=>((xs,((),((i:Int),()))),(acc,()))) (fun acc=>(((),()),(acc,()))) (fun i x acc hx hl=>?_) ?_
 ·have key:GL ((xs,((),((0:Int),()))),(List.replicate xs.length (aC.mk [] 0 0 []),()))=_:=key;simp only[f137,sr (show(48:Nat)<=100 by decide) (show am xs.length by unfold am;omega),Option.bind_some,key]
 ·have hi:=ct hx;have hw:am i:=by unfold am;omega
  have au:acc[i]? =some acc[i]:=List.getElem?_eq_getElem (by omega)
  simp only[zW,bZ hi,cond_true,bQ,hx,Option.bind_some,f189,fm (show i<acc.length by omega),au,bK hw]
 ·simp only[zW,cX,cond_false]
theorem adp(a)(hs:ir a.1.1):f46 a=some (((),()),(a.1.1,())):=by
 obtain⟨⟨xs,u⟩,b7⟩:=a;obtain⟨hs,hm⟩:=hs;have hs:xs.length<=2097152:=hs;have key:=x6 A7 xs (ba.mk [] [] [] []) (fun i acc=>((xs,((),((i:Int),()))),(acc,()))) (fun acc=>(((),()),(acc,()))) (fun i x acc hx hl=>?_) ?_
 ·have key:H4 ((xs,((),((0:Int),()))),(List.replicate xs.length (ba.mk [] [] [] []),()))=_:=key;simp only[f46,sr (show(80:Nat)<=100 by decide) (show am xs.length by unfold am;omega),Option.bind_some,key]
 ·have hi:=ct hx;have hw:am i:=by unfold am;omega
  have au:acc[i]? =some acc[i]:=List.getElem?_eq_getElem (by omega)
  obtain⟨_,_,b3,rc⟩:=hm x (List.mem_of_getElem? hx);simp only[A7,bZ hi,cond_true,bQ,hx,Option.bind_some,f84,adq ((x.bj,()),()) b3.1,acg ((x.bL,()),()) rc.1,fm (show i<acc.length by omega),au,bK hw]
 ·simp only[A7,cX,cond_false]
theorem x7{ax:Type}:∀(xs:List ax) (i:Nat),allI (fun _ _=>true) i xs=true:=by
 intro xs;induction xs with
 |nil=>intro i;rfl
 |cons x r ih=>intro i;simp only[allI,ih,Bool.and_self]
theorem rL(a:Int):(a !=a)=false:=by simp
theorem afD(a)(h:a.1.1=a.1.2.1):f190 a=some ((true,()),()):=by
 obtain⟨⟨x,y,u⟩,b7⟩:=a;have h:x=y:=h;subst h;simp only[f190,beq_self_eq_true,Bool.not_true,cond_false,rL]
theorem adL(a)(h:a.1.1=a.1.2.1):f191 a=some ((true,()),()):=by
 obtain⟨⟨x,y,u⟩,b7⟩:=a;have h:x=y:=h;subst h;simp only[f191,beq_self_eq_true,Bool.not_true,cond_false,rL]
theorem adJ(xs:List bB)(hs:cv xs.length):f138 ((xs,(xs,())),())=some ((true,()),()):=by
 have key:GK ((xs,(xs,((0:Int),()))),())=some (bif allI (fun _ _=>true) 0 xs then .inr ((),()) else .inl ((false,()),())):=by
  refine fl zV xs (fun i=>((xs,(xs,((i:Int),()))),())) _ _ _ (fun i x hx=>?_) ?_
  ·have hi:=ct hx;have hw:am i:=by unfold am;omega
   simp only[zV,bZ hi,cond_true,bQ,hx,Option.bind_some,afD (((x.name,(x.kind,(x.aU,()))),((x.name,(x.kind,(x.aU,()))),())),()) rfl,Bool.not_true,cond_false,bK hw]
  ·simp only[zV,cX,cond_false]
 rw[x7] at key;simp only[f138,rL,cond_false,key,cond_true,Option.bind_some]
theorem acr(xs:List aC)(hs:cv xs.length):f139 ((xs,(xs,())),())=some ((true,()),()):=by
 have key:GJ ((xs,(xs,((0:Int),()))),())=some (bif allI (fun _ _=>true) 0 xs then .inr ((),()) else .inl ((false,()),())):=by
  refine fl zU xs (fun i=>((xs,(xs,((i:Int),()))),())) _ _ _ (fun i x hx=>?_) ?_
  ·have hi:=ct hx;have hw:am i:=by unfold am;omega
   simp only[zU,bZ hi,cond_true,bQ,hx,Option.bind_some,adL (((x.path,(x.kind,(x.mode,(x.text,())))),((x.path,(x.kind,(x.mode,(x.text,())))),())),()) rfl,Bool.not_true,cond_false,bK hw]
  ·simp only[zU,cX,cond_false]
 rw[x7] at key;simp only[f139,rL,cond_false,key,cond_true,Option.bind_some]
theorem afC(x:ba)(h:ka x):f85 (((x.name,(x.aU,(x.bj,(x.bL,())))),((x.name,(x.aU,(x.bj,(x.bL,())))),())),())=some ((true,()),()):=by
 simp only[f85,beq_self_eq_true,Bool.not_true,cond_false,adJ _ h.2.2.1.1,acr _ h.2.2.2.1,Option.bind_some]
theorem adI(xs:List ba)(hs:ir xs):f48 ((xs,(xs,())),())=some ((true,()),()):=by
 have hl:xs.length<=2097152:=hs.1;have key:H3 ((xs,(xs,((0:Int),()))),())=some (bif allI (fun _ _=>true) 0 xs then .inr ((),()) else .inl ((false,()),())):=by
  refine fl A6 xs (fun i=>((xs,(xs,((i:Int),()))),())) _ _ _ (fun i x hx=>?_) ?_
  ·have hi:=ct hx;have hw:am i:=by unfold am;omega
   simp only[A6,bZ hi,cond_true,bQ,hx,Option.bind_some,afC x (hs.2 x (List.mem_of_getElem? hx)),Bool.not_true,cond_false,bK hw]
  ·simp only[A6,cX,cond_false]
 rw[x7] at key;simp only[f48,rL,cond_false,key,cond_true,Option.bind_some]
theorem B6.L8{ps:List ba}(h:B6 ps):ir ps/\rj ps:=by
 obtain⟨h1,h2⟩:=h;have up:∀{n:Nat},gr n->cv n:=fun h=>Nat.le_trans h (by decide)
 have XO:∀{n:Nat},gr n->n<=2097151:=fun h=>Nat.le_trans h (by decide)
 refine⟨⟨up h1,fun p hp=>?_⟩,fun p hp=>?_⟩
 ·obtain⟨a,b,c,d⟩:=h2 p hp;exact⟨up a,up b,⟨up c.1,fun n hn=>⟨up (c.2 n hn).1,up (c.2 n hn).2⟩⟩,up d.1,fun n hn=>⟨up (d.2 n hn).1,up (d.2 n hn).2⟩⟩
 ·obtain⟨a,b,c,d⟩:=h2 p hp;exact⟨XO b,fun n hn=>XO (c.2 n hn).2⟩
theorem ms{s:F}(h:iQ (.str s)):e6 s.length:=by cases h;assumption
theorem Ai{t:a7}{xs:List (den t)}(h:iQ (.sl t xs)):e6 xs.length/\∀x,x∈xs->∀d,d∈enc t x->iQ d:=by cases h;exact⟨by assumption,by assumption⟩
theorem afm{xs:List bB}(h:iQ (.sl .need xs)):JJ xs:=by
 obtain⟨h1,h2⟩:=Ai h;exact⟨h1,fun x hx=>⟨ms (h2 x hx (.str x.name) (by simp[enc])),ms (h2 x hx (.str x.aU) (by simp[enc]))⟩⟩
theorem ace{xs:List aC}(h:iQ (.sl .entry xs)):JL xs:=by
 obtain⟨h1,h2⟩:=Ai h;exact⟨h1,fun x hx=>⟨ms (h2 x hx (.str x.path) (by simp[enc])),ms (h2 x hx (.str x.text) (by simp[enc]))⟩⟩
theorem afl{xs:List ba}(h:iQ (.sl .pack xs)):JI xs:=by
 obtain⟨h1,h2⟩:=Ai h;exact⟨h1,fun x hx=>⟨ms (h2 x hx (.str x.name) (by simp[enc])),ms (h2 x hx (.str x.aU) (by simp[enc])),afm (h2 x hx (.sl .need x.bj) (by simp[enc])),ace (h2 x hx (.sl .entry x.bL) (by simp[enc]))⟩⟩
abbrev i19:Shape:=⟨[b_ 0 [ae,ae],b_ 1 [ae,ae]],[],15⟩
abbrev YE:Shape:=⟨[ar 4],[],15⟩
noncomputable def f19(a:i19.J):Option YE.J:=
 bif(!(a.1.1.1==a.1.2.1.1)) then
 some ((false,()),())
else
 bif(!(a.1.1.2.1==a.1.2.1.2.1)) then
 some ((false,()),())
else
 some ((true,()),())
noncomputable def Lt:aF:=aK ah Tryz.f19 i19 YE [] f19
theorem XL:aE U 19 Lt:=aL g0 Tryz.func19 (by kernel_rfl) af (fun y=>by kernel_rfl) fun a=>by kernel_rfl
theorem afE(s t:F):f19 (((s,(t,())),((s,(t,())),())),())=some ((true,()),()):=by
 simp only[f19,beq_self_eq_true,Bool.not_true,cond_false]
abbrev i11:Shape:=⟨[b_ 0 [ae,ae],ad 1],[],20⟩
abbrev Cs:Shape:=⟨[ad 4],[],20⟩
noncomputable def f11(a:i11.J):Option Cs.J:=
 bif(decide ((IntKind.i64.wrap (a.1.2.1-(a.1.1.1.length:Int)))<(0:Int))) then
 some ((((-1):Int),()),())
else
 bif(decide ((IntKind.i64.wrap ((IntKind.i64.wrap (a.1.2.1-(a.1.1.1.length:Int)))-(a.1.1.2.1.length:Int)))<(0:Int))) then
 some ((((-1):Int),()),())
else
 some (((IntKind.i64.wrap ((IntKind.i64.wrap (a.1.2.1-(a.1.1.1.length:Int)))-(a.1.1.2.1.length:Int))),()),())
noncomputable def qZ:aF:=aK ah Tryz.f11 i11 Cs [] f11
theorem J6:aE U 11 qZ:=aL g0 Tryz.func11 (by kernel_rfl) af (fun y=>by kernel_rfl) fun a=>by kernel_rfl
abbrev i13:Shape:=⟨[b_ 0 [ae,ae]],[],11⟩
abbrev YJ:Shape:=⟨[aM 2 2 0],[aO 2 [ae,ae]],11⟩
noncomputable def f13(a:i13.J):Option YJ.J:=
 some (((),()),(a.1.1.1,a.1.1.2.1,()),())
noncomputable def tN:aF:=aK ah Tryz.f13 i13 YJ [] f13
theorem J5:aE U 13 tN:=aL g0 Tryz.func13 (by kernel_rfl) af (fun y=>by kernel_rfl) fun a=>by kernel_rfl
noncomputable abbrev atM:bg:=[(70,CX),(83,CV)]
theorem auk:aW U (bd ah atM):=bc ⟨z70,JY,⟨⟩⟩
abbrev i45:Shape:=⟨[b_ 0 [b6 .pack]],[],13⟩
abbrev Yr:Shape:=⟨[ap 2],[],13⟩
noncomputable def f45(a:i45.J):Option Yr.J:=
(f70 (((a.1.1.1,()),()),())).bind fun b=>
(f83 (((b.1.1.length:Int),()),())).bind fun c=>
(bY c.1.1 ([10]:F)).bind fun d=>
(bY d b.1.1).bind fun e=>
(bY e ([101,110,100,10]:F)).bind fun f=>
 some ((f,()),())
noncomputable def ZR:aF:=aK ah Tryz.f45 i45 Yr [] f45
theorem aqn:aE U 45 ZR:=aL auk Tryz.func45 (by kernel_rfl) af (fun y=>by kernel_rfl) fun a=>by kernel_rfl
noncomputable abbrev at4:bg:=[(12,tO),(30,C1),(45,ZR)]
theorem C5:aW U (bd ah at4):=bc ⟨z12,J3,aqn,⟨⟩⟩
abbrev RM:Shape:=⟨[ad 2,aM 3 3 0,aM 4 4 0,aM 6 6 0],[aO 3 [ae,ae],aO 4 [b6 .pack],aO 6 [ae,ae]],33⟩
abbrev RC:List aN:=[(.norm,⟨[ad 2,aM 3 3 0,aM 4 4 0,aM 6 6 0,ar 15],[aO 3 [ae,ae],aO 4 [b6 .pack],aO 6 [ae,ae]],33⟩)]
noncomputable def Sn(y:RM.J):Option (aw RC):=
(f12 (((y.2.1.1,y.2.1.2.1,()),()),())).bind fun a=>
 bif(!(!a.1.1)) then
(f30 (((y.2.2.1.1,()),()),())).bind fun b=>
 some ((y.1.1,(),(),(),(!b.1.1),()),(y.2.1.1,y.2.1.2.1,()),(y.2.2.1.1,()),(y.2.2.2.1.1,y.2.2.2.1.2.1,()),())
else
 some ((y.1.1,(),(),(),true,()),(y.2.1.1,y.2.1.2.1,()),(y.2.2.1.1,()),(y.2.2.2.1.1,y.2.2.2.1.2.1,()),())
theorem aka:aT U (an (codeOf Tryz.f16) 1 12) (a6 RM RC Sn):=cQ C5 (by kernel_rfl) af fun y=>by kernel_rfl
abbrev RL:Shape:=⟨[ad 2,aM 3 3 0,aM 6 6 0,ap 7],[aO 3 [ae,ae],aO 6 [ae,ae]],33⟩
abbrev RB:List aN:=[(.norm,⟨[ad 2,aM 3 3 0,aM 6 6 0,ap 7],[aO 3 [ae,ae],aO 6 [ae,ae]],33⟩)]
noncomputable def Sm(y:RL.J):Option (aw RB):=
 bif(decide (y.1.1<(0:Int))) then
 some (((0:Int),(),(),y.1.2.2.2.1,()),(y.2.1.1,y.2.1.2.1,()),(y.2.2.1.1,y.2.2.1.2.1,()),())
else
 some ((y.1.1,(),(),y.1.2.2.2.1,()),(y.2.1.1,y.2.1.2.1,()),(y.2.2.1.1,y.2.2.1.2.1,()),())
theorem aj9:aT U (an (codeOf Tryz.f16) 1 30) (a6 RL RB Sm):=cQ C5 (by kernel_rfl) af fun y=>by kernel_rfl
abbrev RJ:Shape:=⟨[ad 2,aM 3 3 0,aM 6 6 0,ap 7],[aO 3 [ae,ae],aO 6 [ae,ae]],33⟩
abbrev RA:List aN:=[(.norm,⟨[ad 2,aM 3 3 0,aM 6 6 0,ap 7],[aO 3 [ae,ae],aO 6 [ae,ae]],33⟩)]
noncomputable def Sl(y:RJ.J):Option (aw RA):=
 bif(decide (y.1.1>(y.1.2.2.2.1.length:Int))) then
 some (((y.1.2.2.2.1.length:Int),(),(),y.1.2.2.2.1,()),(y.2.1.1,y.2.1.2.1,()),(y.2.2.1.1,y.2.2.1.2.1,()),())
else
 some ((y.1.1,(),(),y.1.2.2.2.1,()),(y.2.1.1,y.2.1.2.1,()),(y.2.2.1.1,y.2.2.1.2.1,()),())
theorem aj8:aT U (an (codeOf Tryz.f16) 1 62) (a6 RJ RA Sl):=cQ C5 (by kernel_rfl) af fun y=>by kernel_rfl
abbrev i16:Shape:=⟨[b_ 0 [ae,ae],b_ 1 [b6 .pack],ad 2],[],33⟩
abbrev YH:Shape:=⟨[aM 6 6 0],[aO 6 [ae,ae]],33⟩
noncomputable def f16(a:i16.J):Option YH.J:=
(Sn ((a.1.2.2.1,(),(),(),()),(a.1.1.1,a.1.1.2.1,()),(a.1.2.1.1,()),(([]:F),([]:F),()),())).bind fun b=>
 bif b.1.2.2.2.2.1 then
 some (((),()),(([]:F),([]:F),()),())
else
(f45 (((b.2.2.1.1,()),()),())).bind fun c=>
(Sm ((b.1.1,(),(),c.1.1,()),(b.2.1.1,b.2.1.2.1,()),(b.2.2.2.1.1,b.2.2.2.1.2.1,()),())).bind fun d=>
(Sl ((d.1.1,(),(),d.1.2.2.2.1,()),(d.2.1.1,d.2.1.2.1,()),(d.2.2.1.1,d.2.2.1.2.1,()),())).bind fun e=>
(bw e.1.2.2.2.1 (0:Int) e.1.1).bind fun f=>
 some (((),()),(e.2.1.1,f,()),())
noncomputable def Z3:aF:=aK ah Tryz.f16 i16 YH [] f16
theorem aqw:aE U 16 Z3:=aL C5 Tryz.func16 (by kernel_rfl) (bb aka (bb aj9 (bb aj8 af))) (fun y=>by kernel_rfl) fun a=>by kernel_rfl
noncomputable abbrev atK:bg:=[(64,B7)]
theorem auj:aW U (bd ah atK):=bc ⟨IA,⟨⟩⟩
abbrev i47:Shape:=⟨[ap 0],[],10⟩
abbrev Yp:Shape:=⟨[ap 2],[],10⟩
noncomputable def f47(a:i47.J):Option Yp.J:=
(if-9223372036854775808<=(a.1.1.length:Int)/\(a.1.1.length:Int)<=9223372036854775807 then some () else none).bind fun b=>
(bY (Lib.itoa (a.1.1.length:Int)) ([10]:F)).bind fun c=>
(bY c a.1.1).bind fun d=>
(bY d ([101,110,100,10]:F)).bind fun e=>
 some ((e,()),())
noncomputable def ZQ:aF:=aK ah Tryz.f47 i47 Yp [] f47
theorem aqm:aE U 47 ZQ:=aL auj Tryz.func47 (by kernel_rfl) af (fun y=>by kernel_rfl) fun a=>by kernel_rfl
noncomputable abbrev at2:bg:=[(14,tM),(34,ZU),(43,C0),(47,ZQ)]
theorem _m:aW U (bd ah at2):=bc ⟨J4,aqq,J2,aqm,⟨⟩⟩
abbrev RI:Shape:=⟨[ad 2,aM 3 3 0,aM 4 4 0,aM 6 6 0],[aO 3 [ae,ae],aO 4 [b6 .pack],aO 6 [ae,ae]],30⟩
abbrev Rz:List aN:=[(.norm,⟨[ad 2,aM 3 3 0,aM 4 4 0,aM 6 6 0,ar 15],[aO 3 [ae,ae],aO 4 [b6 .pack],aO 6 [ae,ae]],30⟩)]
noncomputable def Sk(y:RI.J):Option (aw Rz):=
(f14 (((y.2.1.1,y.2.1.2.1,()),()),())).bind fun a=>
 bif(!(!a.1.1)) then
(f43 (((y.2.2.1.1,()),()),())).bind fun b=>
 some ((y.1.1,(),(),(),(!b.1.1),()),(y.2.1.1,y.2.1.2.1,()),(y.2.2.1.1,()),(y.2.2.2.1.1,y.2.2.2.1.2.1,()),())
else
 some ((y.1.1,(),(),(),true,()),(y.2.1.1,y.2.1.2.1,()),(y.2.2.1.1,()),(y.2.2.2.1.1,y.2.2.2.1.2.1,()),())
theorem aj7:aT U (an (codeOf Tryz.f18) 1 12) (a6 RI Rz Sk):=cQ _m (by kernel_rfl) af fun y=>by kernel_rfl
abbrev i18:Shape:=⟨[b_ 0 [ae,ae],b_ 1 [b6 .pack],ad 2],[],30⟩
abbrev YF:Shape:=⟨[aM 6 6 0],[aO 6 [ae,ae]],30⟩
noncomputable def f18(a:i18.J):Option YF.J:=
(Sk ((a.1.2.2.1,(),(),(),()),(a.1.1.1,a.1.1.2.1,()),(a.1.2.1.1,()),(([]:F),([]:F),()),())).bind fun b=>
 bif b.1.2.2.2.2.1 then
 some (((),()),(([]:F),([]:F),()),())
else
(f34 (((b.2.2.1.1,()),()),())).bind fun c=>
(f47 ((c.1.1,()),())).bind fun d=>
(bw d.1.1 (0:Int) (li (gz b.1.1 (0:Int)) (d.1.1.length:Int))).bind fun e=>
 some (((),()),(b.2.1.1,e,()),())
noncomputable def Z1:aF:=aK ah Tryz.f18 i18 YF [] f18
theorem aqu:aE U 18 Z1:=aL _m Tryz.func18 (by kernel_rfl) (bb aj7 af) (fun y=>by kernel_rfl) fun a=>by kernel_rfl
noncomputable abbrev Mi:bg:=[(11,qZ),(12,tO),(13,tN),(14,tM)]
theorem Mo:aW U (bd ah Mi):=bc ⟨J6,z12,J5,J4,⟨⟩⟩
abbrev i3:Shape:=⟨[b_ 0 [ae,ae]],[],20⟩
abbrev o3:Shape:=⟨[ar 2],[],20⟩
noncomputable def f3(a:i3.J):Option o3.J:=
(f11 (((a.1.1.1,a.1.1.2.1,()),(1048576:Int),()),())).bind fun b=>
 bif(decide (b.1.1<(0:Int))) then
 some ((true,()),())
else
(f13 (((a.1.1.1,a.1.1.2.1,()),()),())).bind fun c=>
(f12 (((c.2.1.1,c.2.1.2.1,()),()),())).bind fun d=>
(f13 (((a.1.1.1,a.1.1.2.1,()),()),())).bind fun e=>
(f14 (((e.2.1.1,e.2.1.2.1,()),()),())).bind fun f=>
 bif(!(f.1.1==d.1.1)) then
 some ((false,()),())
else
 some ((true,()),())
noncomputable def iU:aF:=aK ah Tryz.f3 i3 o3 [] f3
theorem z3:aE U 3 iU:=aL Mo Tryz.func3 (by kernel_rfl) af (fun y=>by kernel_rfl) fun a=>by kernel_rfl
noncomputable abbrev Mh:bg:=[(11,qZ),(13,tN),(15,wQ),(16,Z3),(17,Z2),(18,Z1),(19,Lt),(20,Z0)]
theorem Mn:aW U (bd ah Mh):=bc ⟨J6,J5,aqx,aqw,aqv,aqu,XL,z20,⟨⟩⟩
abbrev i4:Shape:=⟨[b_ 0 [ae,ae],b_ 1 [b6 .pack],ad 2],[],43⟩
abbrev _C:Shape:=⟨[ar 6],[],43⟩
noncomputable def f4(a:i4.J):Option _C.J:=
(f11 (((a.1.1.1,a.1.1.2.1,()),(1048576:Int),()),())).bind fun b=>
 bif(decide (b.1.1<(0:Int))) then
 some ((true,()),())
else
(f15 (((a.1.2.1.1,()),b.1.1,()),())).bind fun c=>
 bif(decide (c.1.1<(0:Int))) then
 some ((true,()),())
else
(f13 (((a.1.1.1,a.1.1.2.1,()),()),())).bind fun d=>
(f17 (((a.1.2.1.1,()),()),())).bind fun e=>
(f16 (((d.2.1.1,d.2.1.2.1,()),(e.2.1,()),a.1.2.2.1,()),())).bind fun f=>
(f17 (((a.1.2.1.1,()),()),())).bind fun g=>
(f13 (((a.1.1.1,a.1.1.2.1,()),()),())).bind fun h=>
(f18 (((h.2.1.1,h.2.1.2.1,()),(g.2.1,()),a.1.2.2.1,()),())).bind fun i=>
(f19 (((i.2.1.1,i.2.1.2.1,()),(f.2.1.1,f.2.1.2.1,()),()),())).bind fun j=>
 bif(!j.1.1) then
 some ((false,()),())
else
(f17 (((a.1.2.1.1,()),()),())).bind fun k=>
(f20 (((g.2.1,()),(k.2.1,()),()),())).bind fun l=>
 bif(!l.1.1) then
 some ((false,()),())
else
 some ((true,()),())
noncomputable def lC:aF:=aK ah Tryz.f4 i4 _C [] f4
theorem z4:aE U 4 lC:=aL Mn Tryz.func4 (by kernel_rfl) af (fun y=>by kernel_rfl) fun a=>by kernel_rfl
theorem afr(s t:F)(l:Int)(h0:0<=l)(h1:l<=1048576)(hs:e6 s.length)(aq:e6 t.length):∃r:Int,f11 (((s,(t,())),(l,())),())=some ((r,()),())/\nF l r (gr s.length/\gr t.length):=by
 have aS:=jS h0 h1 hs;simp only[f11,aS];by_cases aB:l-(s.length:Int)<0
 ·simp only[aB,decide_true,cond_true];exact⟨-1,rfl,.inl (by omega)⟩
 ·have w2:=jS (l:=l-(s.length:Int)) (by omega) (by omega) aq
  simp only[aB,decide_false,cond_false,w2];by_cases aA:l-(s.length:Int)-(t.length:Int)<0
  ·simp only[aA,decide_true,cond_true];exact⟨-1,rfl,.inl (by omega)⟩
  ·simp only[aA,decide_false,cond_false];exact⟨_,rfl,.inr ⟨by omega,by omega,by unfold gr;omega,by unfold gr;omega⟩⟩
abbrev i106:Shape:=⟨[b_ 0 [ae,ae],b_ 1 [ae,ae]],[],15⟩
abbrev Vj:Shape:=⟨[ar 4],[],15⟩
noncomputable def f106(a:i106.J):Option Vj.J:=
 bif(!(a.1.1.1==a.1.2.1.1)) then
 some ((false,()),())
else
 bif(!(a.1.1.2.1==a.1.2.1.2.1)) then
 some ((false,()),())
else
 some ((true,()),())
noncomputable def Xa:aF:=aK ah Tryz.f106 i106 Vj [] f106
theorem amZ:aE U 106 Xa:=aL g0 Tryz.func106 (by kernel_rfl) af (fun y=>by kernel_rfl) fun a=>by kernel_rfl
abbrev i86:Shape:=⟨[b_ 0 [ae,ae],ad 1],[],20⟩
abbrev X4:Shape:=⟨[ad 4],[],20⟩
noncomputable def f86(a:i86.J):Option X4.J:=
 bif(decide ((IntKind.i64.wrap (a.1.2.1-(a.1.1.1.length:Int)))<(0:Int))) then
 some ((((-1):Int),()),())
else
 bif(decide ((IntKind.i64.wrap ((IntKind.i64.wrap (a.1.2.1-(a.1.1.1.length:Int)))-(a.1.1.2.1.length:Int)))<(0:Int))) then
 some ((((-1):Int),()),())
else
 some (((IntKind.i64.wrap ((IntKind.i64.wrap (a.1.2.1-(a.1.1.1.length:Int)))-(a.1.1.2.1.length:Int))),()),())
noncomputable def ZA:aF:=aK ah Tryz.f86 i86 X4 [] f86
theorem aqb:aE U 86 ZA:=aL g0 Tryz.func86 (by kernel_rfl) af (fun y=>by kernel_rfl) fun a=>by kernel_rfl
noncomputable abbrev atI:bg:=[(86,ZA)]
theorem _h:aW U (bd ah atI):=bc ⟨aqb,⟨⟩⟩
abbrev yT:Shape:=⟨[aH 0 .file,ad 1,ad 5],[],27⟩
abbrev FN:List aN:=[(.ret,⟨[ad 4],[],27⟩),(.exit 0,⟨[ad 1],[],27⟩)]
noncomputable def zE(y:yT.J):bJ yT FN:=
 bif(decide (y.1.2.2.1<(y.1.1.length:Int))) then
(aP y.1.1 y.1.2.2.1).bind fun a=>
(f86 (((a.name,a.text,()),y.1.2.1,()),())).bind fun b=>
 bif(decide (b.1.1<(0:Int))) then
 some (.inr (.inl ((((-1):Int),()),())))
else
 some (.inl ((y.1.1,b.1.1,(IntKind.i64.wrap (y.1.2.2.1+(1:Int))),()),()))
else
 some (.inr (.inr ((y.1.2.1,()),())))
noncomputable def zw:yT.J->Option (aw FN):=bn zE
theorem ahM:aT U (an (codeOf Tryz.f49) 1 122) (a6 yT FN zw):=bN _h (by kernel_rfl) af fun y=>by kernel_rfl
abbrev i49:Shape:=⟨[aH 0 .file,ad 1],[],27⟩
abbrev Yn:Shape:=⟨[ad 4],[],27⟩
noncomputable def f49(a:i49.J):Option Yn.J:=
 bif(decide ((IntKind.i64.wrap (a.1.2.1-(a.1.1.length:Int)))<(0:Int))) then
 some ((((-1):Int),()),())
else
(zw ((a.1.1,(IntKind.i64.wrap (a.1.2.1-(a.1.1.length:Int))),(0:Int),()),())).bind fun b=>
(match b with
|.inl c=>
 some ((c.1.1,()),())
|.inr d=>
 some ((d.1.1,()),()))
noncomputable def ZP:aF:=aK ah Tryz.f49 i49 Yn [] f49
theorem z49:aE U 49 ZP:=aL _h Tryz.func49 (by kernel_rfl) (bb ahM af) (fun y=>by kernel_rfl) fun a=>by kernel_rfl
noncomputable abbrev at0:bg:=[(11,qZ),(44,Lr),(49,ZP)]
theorem aus:aW U (bd ah at0):=bc ⟨J6,XJ,z49,⟨⟩⟩
abbrev i21:Shape:=⟨[b_ 0 [b6 .file,b6 .pack,ae,ae],ad 1],[],24⟩
abbrev YC:Shape:=⟨[ad 4],[],24⟩
noncomputable def f21(a:i21.J):Option YC.J:=
(f49 ((a.1.1.1,a.1.2.1,()),())).bind fun b=>
 bif(decide (b.1.1<(0:Int))) then
 some ((((-1):Int),()),())
else
(f44 ((a.1.1.2.1,b.1.1,()),())).bind fun c=>
 bif(decide (c.1.1<(0:Int))) then
 some ((((-1):Int),()),())
else
(f11 (((a.1.1.2.2.1,a.1.1.2.2.2.1,()),c.1.1,()),())).bind fun d=>
 bif(decide (d.1.1<(0:Int))) then
 some ((((-1):Int),()),())
else
 some ((d.1.1,()),())
noncomputable def ZZ:aF:=aK ah Tryz.f21 i21 YC [] f21
theorem z21:aE U 21 ZZ:=aL aus Tryz.func21 (by kernel_rfl) af (fun y=>by kernel_rfl) fun a=>by kernel_rfl
abbrev Ap:Shape:=⟨[aH 0 .file,ap 1,ad 5],[],20⟩
abbrev Hm:List aN:=[(.ret,⟨[ad 4],[],20⟩),(.exit 0,⟨[],[],20⟩)]
noncomputable def u9(y:Ap.J):bJ Ap Hm:=
 bif(decide (y.1.2.2.1<(y.1.1.length:Int))) then
(aP y.1.1 y.1.2.2.1).bind fun a=>
 bif(a.name==y.1.2.1) then
 some (.inr (.inl ((y.1.2.2.1,()),())))
else
 some (.inl ((y.1.1,y.1.2.1,(IntKind.i64.wrap (y.1.2.2.1+(1:Int))),()),()))
else
 some (.inr (.inr ((),())))
noncomputable def su:Ap.J->Option (aw Hm):=bn u9
theorem ajJ:aT U (an (codeOf Tryz.f93) 1 26) (a6 Ap Hm su):=bN g0 (by kernel_rfl) af fun y=>by kernel_rfl
abbrev i93:Shape:=⟨[aH 0 .file,ap 1],[],20⟩
abbrev XX:Shape:=⟨[ad 4],[],20⟩
noncomputable def f93(a:i93.J):Option XX.J:=
(su ((a.1.1,a.1.2.1,(0:Int),()),())).bind fun b=>
(match b with
|.inl c=>
 some ((c.1.1,()),())
|.inr d=>
 some ((((-1):Int),()),()))
noncomputable def Zy:aF:=aK ah Tryz.f93 i93 XX [] f93
theorem z93:aE U 93 Zy:=aL g0 Tryz.func93 (by kernel_rfl) (bb ajJ af) (fun y=>by kernel_rfl) fun a=>by kernel_rfl
noncomputable abbrev atG:bg:=[(91,Ll),(92,Lk),(93,Zy)]
theorem Lz:aW U (bd ah atG):=bc ⟨z91,XF,z93,⟨⟩⟩
abbrev QB:Shape:=⟨[aH 0 .file,ad 3],[],40⟩
abbrev Qh:List aN:=[(.norm,⟨[aH 0 .file,ad 3,ar 36],[],40⟩)]
noncomputable def G3(y:QB.J):Option (aw Qh):=
(aP y.1.1 y.1.2.1).bind fun a=>
(f91 ((a.name,()),())).bind fun b=>
 bif(!(!b.1.1)) then
(aP y.1.1 y.1.2.1).bind fun c=>
(f92 ((c.text,()),())).bind fun d=>
 bif(!(!d.1.1)) then
(aP y.1.1 y.1.2.1).bind fun e=>
(f93 ((y.1.1,e.name,()),())).bind fun f=>
 some ((y.1.1,y.1.2.1,(f.1.1 !=y.1.2.1),()),())
else
 some ((y.1.1,y.1.2.1,true,()),())
else
 some ((y.1.1,y.1.2.1,true,()),())
theorem ahL:aT U (an (c8 (an (codeOf Tryz.f51) 1 26)) 52 840) (a6 QB Qh G3):=cQ Lz (by kernel_rfl) af fun y=>by kernel_rfl
abbrev AD:Shape:=⟨[aH 0 .file,ad 3],[],40⟩
abbrev HB:List aN:=[(.ret,⟨[ar 2],[],40⟩),(.exit 0,⟨[aH 0 .file],[],40⟩)]
noncomputable def A5(y:AD.J):bJ AD HB:=
 bif(decide (y.1.2.1<(y.1.1.length:Int))) then
(G3 ((y.1.1,y.1.2.1,()),())).bind fun a=>
 bif a.1.2.2.1 then
 some (.inr (.inl ((false,()),())))
else
 some (.inl ((a.1.1,(IntKind.i64.wrap (a.1.2.1+(1:Int))),()),()))
else
 some (.inr (.inr ((y.1.1,()),())))
noncomputable def H2:AD.J->Option (aw HB):=bn A5
theorem aj1:aT U (an (codeOf Tryz.f51) 1 26) (a6 AD HB H2):=bN Lz (by kernel_rfl) (bb ahL af) fun y=>by kernel_rfl
abbrev i51:Shape:=⟨[aH 0 .file],[],40⟩
abbrev Yl:Shape:=⟨[ar 2],[],40⟩
noncomputable def f51(a:i51.J):Option Yl.J:=
(H2 ((a.1.1,(0:Int),()),())).bind fun b=>
(match b with
|.inl c=>
 some ((c.1.1,()),())
|.inr d=>
 some (((decide ((d.1.1.length:Int)<=(6:Int))),()),()))
noncomputable def ZO:aF:=aK ah Tryz.f51 i51 Yl [] f51
theorem z51:aE U 51 ZO:=aL Lz Tryz.func51 (by kernel_rfl) (bb aj1 af) (fun y=>by kernel_rfl) fun a=>by kernel_rfl
noncomputable abbrev atZ:bg:=[(12,tO),(50,CZ),(51,ZO)]
theorem LB:aW U (bd ah atZ):=bc ⟨z12,J1,z51,⟨⟩⟩
abbrev QD:Shape:=⟨[aM 1 1 0,ad 3],[aO 1 [b6 .file,b6 .pack,ae,ae]],52⟩
abbrev Qj:List aN:=[(.norm,⟨[aM 1 1 0,ad 3,aM 11 1 1,aH 12 .pack,ad 13,(14,.ak (.en [.str,.str,.sl .need,.sl .entry] 0)),b_ 15 [ae,ae,b6 .need,b6 .entry],ar 16,ar 17,ar 18,ar 37],[aO 1 [b6 .file,b6 .pack,ae,ae]],52⟩)]
noncomputable def G6(y:QD.J):Option (aw Qj):=
(aP y.2.1.2.1 y.1.2.1).bind fun a=>
(f50 (((a.name,a.aU,a.bj,a.bL,()),()),())).bind fun b=>
 bif(!b.1.1) then
 some (((),y.1.2.1,(),y.2.1.2.1,y.1.2.1,(a.name,a.aU,a.bj,a.bL,()),(a.name,a.aU,a.bj,a.bL,()),b.1.1,(!b.1.1),true,true,()),(y.2.1.1,y.2.1.2.1,y.2.1.2.2.1,y.2.1.2.2.2.1,()),())
else
 bif(decide (y.1.2.1>(0:Int))) then
(aP y.2.1.2.1 (IntKind.i64.wrap (y.1.2.1-(1:Int)))).bind fun c=>
(aP y.2.1.2.1 y.1.2.1).bind fun d=>
 some (((),y.1.2.1,(),y.2.1.2.1,y.1.2.1,(a.name,a.aU,a.bj,a.bL,()),(a.name,a.aU,a.bj,a.bL,()),b.1.1,(!b.1.1),false,(!(Op.bytesLess c.name d.name)),()),(y.2.1.1,y.2.1.2.1,y.2.1.2.2.1,y.2.1.2.2.2.1,()),())
else
 some (((),y.1.2.1,(),y.2.1.2.1,y.1.2.1,(a.name,a.aU,a.bj,a.bL,()),(a.name,a.aU,a.bj,a.bL,()),b.1.1,(!b.1.1),false,false,()),(y.2.1.1,y.2.1.2.1,y.2.1.2.2.1,y.2.1.2.2.2.1,()),())
theorem ahV:aT U (an (c8 (an (codeOf Tryz.f22) 1 26)) 52 840) (a6 QD Qj G6):=cQ LB (by kernel_rfl) af fun y=>by kernel_rfl
abbrev AH:Shape:=⟨[aM 1 1 0,ad 3],[aO 1 [b6 .file,b6 .pack,ae,ae]],52⟩
abbrev HF:List aN:=[(.ret,⟨[ar 2],[],52⟩),(.exit 0,⟨[aM 1 1 0],[aO 1 [b6 .file,b6 .pack,ae,ae]],52⟩)]
noncomputable def A8(y:AH.J):bJ AH HF:=
 bif(decide (y.1.2.1<(y.2.1.2.1.length:Int))) then
(G6 (((),y.1.2.1,()),(y.2.1.1,y.2.1.2.1,y.2.1.2.2.1,y.2.1.2.2.2.1,()),())).bind fun a=>
 bif a.1.2.2.2.2.2.2.2.2.2.2.1 then
 some (.inr (.inl ((false,()),())))
else
 some (.inl (((),(IntKind.i64.wrap (a.1.2.1+(1:Int))),()),(a.2.1.1,a.2.1.2.1,a.2.1.2.2.1,a.2.1.2.2.2.1,()),()))
else
 some (.inr (.inr (((),()),(y.2.1.1,y.2.1.2.1,y.2.1.2.2.1,y.2.1.2.2.2.1,()),())))
noncomputable def H5:AH.J->Option (aw HF):=bn A8
theorem aj6:aT U (an (codeOf Tryz.f22) 1 26) (a6 AH HF H5):=bN LB (by kernel_rfl) (bb ahV af) fun y=>by kernel_rfl
abbrev i22:Shape:=⟨[b_ 0 [b6 .file,b6 .pack,ae,ae]],[],52⟩
abbrev YB:Shape:=⟨[ar 2],[],52⟩
noncomputable def f22(a:i22.J):Option YB.J:=
(H5 (((),(0:Int),()),(a.1.1.1,a.1.1.2.1,a.1.1.2.2.1,a.1.1.2.2.2.1,()),())).bind fun b=>
(match b with
|.inl c=>
 some ((c.1.1,()),())
|.inr d=>
(f51 ((d.2.1.1,()),())).bind fun e=>
 bif e.1.1 then
 bif(decide ((d.2.1.2.1.length:Int)<=(8:Int))) then
(f12 (((d.2.1.2.2.1,d.2.1.2.2.2.1,()),()),())).bind fun f=>
 some ((f.1.1,()),())
else
 some ((false,()),())
else
 some ((false,()),()))
noncomputable def ZY:aF:=aK ah Tryz.f22 i22 YB [] f22
theorem aqt:aE U 22 ZY:=aL LB Tryz.func22 (by kernel_rfl) (bb aj6 af) (fun y=>by kernel_rfl) fun a=>by kernel_rfl
abbrev i94:Shape:=⟨[b_ 0 [ae,ae]],[],11⟩
abbrev XW:Shape:=⟨[aM 2 2 0],[aO 2 [ae,ae]],11⟩
noncomputable def f94(a:i94.J):Option XW.J:=
 some (((),()),(a.1.1.1,a.1.1.2.1,()),())
noncomputable def Zx:aF:=aK ah Tryz.f94 i94 XW [] f94
theorem ap9:aE U 94 Zx:=aL g0 Tryz.func94 (by kernel_rfl) af (fun y=>by kernel_rfl) fun a=>by kernel_rfl
noncomputable abbrev atF:bg:=[(94,Zx)]
theorem _g:aW U (bd ah atF):=bc ⟨ap9,⟨⟩⟩
abbrev AC:Shape:=⟨[aH 0 .file,bf 3 3000192,ad 4],[be 3000192 .file 3 0],23⟩
abbrev Hz:List aN:=[(.exit 0,⟨[bf 3 3000192],[be 3000192 .file 3 0],23⟩)]
noncomputable def A4(y:AC.J):bJ AC Hz:=
 bif(decide (y.1.2.2.1<(y.1.1.length:Int))) then
(aP y.1.1 y.1.2.2.1).bind fun a=>
(f94 (((a.name,a.text,()),()),())).bind fun b=>
(a_ y.2.1.length y.1.2.2.1).bind fun c=>
((y.2.1[c]?).bind fun q=>some (ea.mk b.2.1.1 b.2.1.2.1)).bind fun d=>
 some (.inl ((y.1.1,(),(IntKind.i64.wrap (y.1.2.2.1+(1:Int))),()),(y.2.1.set c d),()))
else
 some (.inr (((),()),y.2.1,()))
noncomputable def H1:AC.J->Option (aw Hz):=bn A4
theorem aj0:aT U (an (codeOf Tryz.f52) 1 58) (a6 AC Hz H1):=bN _g (by kernel_rfl) af fun y=>by kernel_rfl
abbrev i52:Shape:=⟨[aH 0 .file],[],23⟩
abbrev Yk:Shape:=⟨[bf 2 3000128],[be 3000128 .file 2 0],23⟩
noncomputable def f52(a:i52.J):Option Yk.J:=
(jj 32 (a.1.1.length:Int) (a.1.1.length:Int) (ea.mk ([]:F) ([]:F))).bind fun b=>
(H1 ((a.1.1,(),(0:Int),()),b,())).bind fun c=>
 some (((),()),c.2.1,())
noncomputable def ZN:aF:=aK ah Tryz.f52 i52 Yk [] f52
theorem aql:aE U 52 ZN:=aL _g Tryz.func52 (by kernel_rfl) (bb aj0 af) (fun y=>by kernel_rfl) fun a=>by kernel_rfl
noncomputable abbrev atY:bg:=[(13,tN),(46,Lq),(52,ZN)]
theorem aur:aW U (bd ah atY):=bc ⟨J5,z46,aql,⟨⟩⟩
abbrev i23:Shape:=⟨[b_ 0 [b6 .file,b6 .pack,ae,ae]],[],17⟩
abbrev YA:Shape:=⟨[aM 2 2 0],[bv 5000128 .file 2 0,bv 5000129 .pack 2 1,aO 2 [.own 5000128,.own 5000129,ae,ae]],17⟩
noncomputable def f23(a:i23.J):Option YA.J:=
(f52 ((a.1.1.1,()),())).bind fun b=>
(f46 ((a.1.1.2.1,()),())).bind fun c=>
(f13 (((a.1.1.2.2.1,a.1.1.2.2.2.1,()),()),())).bind fun d=>
 some (((),()),b.2.1,c.2.1,((),(),d.2.1.1,d.2.1.2.1,()),())
noncomputable def ZX:aF:=aK ah Tryz.f23 i23 YA [] f23
theorem aqs:aE U 23 ZX:=aL aur Tryz.func23 (by kernel_rfl) af (fun y=>by kernel_rfl) fun a=>by kernel_rfl
noncomputable abbrev atk:bg:=[(147,JF),(148,JE)]
theorem aub:aW U (bd ah atk):=bc ⟨TE,z148,⟨⟩⟩
abbrev i97:Shape:=⟨[b_ 0 [ae,ae]],[],11⟩
abbrev XU:Shape:=⟨[ar 2],[],11⟩
noncomputable def f97(a:i97.J):Option XU.J:=
(f147 ((a.1.1.1,()),())).bind fun b=>
 bif b.1.1 then
(f148 ((a.1.1.2.1,()),())).bind fun c=>
 some ((c.1.1,()),())
else
 some ((false,()),())
noncomputable def Zv:aF:=aK ah Tryz.f97 i97 XU [] f97
theorem ap7:aE U 97 Zv:=aL aub Tryz.func97 (by kernel_rfl) af (fun y=>by kernel_rfl) fun a=>by kernel_rfl
noncomputable abbrev al1:bg:=[(97,Zv)]
theorem Tr:aW U (bd ah al1):=bc ⟨ap7,⟨⟩⟩
abbrev yb:Shape:=⟨[(1,.ak (.fn 97 [])),aH 7 .file,ad 8,ad 9],[],18⟩
abbrev EG:List aN:=[(.ret,⟨[ar 4],[],18⟩),(.exit 0,⟨[],[],18⟩)]
noncomputable def yC(y:yb.J):bJ yb EG:=
 bif(decide (y.1.2.2.2.1<y.1.2.2.1)) then
(aP y.1.2.1 y.1.2.2.2.1).bind fun a=>
(f97 (((a.name,a.text,()),()),())).bind fun b=>
 bif(!b.1.1) then
 some (.inr (.inl ((false,()),())))
else
 some (.inl (((),y.1.2.1,y.1.2.2.1,(IntKind.i64.wrap (y.1.2.2.2.1+(1:Int))),()),()))
else
 some (.inr (.inr ((),())))
noncomputable def E8:yb.J->Option (aw EG):=bn yC
theorem af4:aT U (an (codeOf Tryz.f96) 1 26) (a6 yb EG E8):=bN Tr (by kernel_rfl) af fun y=>by kernel_rfl
abbrev S9:Shape:=⟨[aH 0 .file,(1,.ak (.fn 97 []))],[],18⟩
abbrev SY:Shape:=⟨[ar 4],[],18⟩
noncomputable def vr(a:S9.J):Option SY.J:=
(E8 (((),a.1.1,(a.1.1.length:Int),(0:Int),()),())).bind fun b=>
(match b with
|.inl c=>
 some ((c.1.1,()),())
|.inr d=>
 some ((true,()),()))
noncomputable def Tp:aF:=aK ah Tryz.f96 S9 SY [] vr
theorem ak2:aE U 96 Tp:=aL Tr Tryz.func96 (by kernel_rfl) (bb af4 af) (fun y=>by kernel_rfl) fun a=>by kernel_rfl
abbrev i95:Shape:=⟨[b_ 0 [ae,ae]],[],5⟩
abbrev XV:Shape:=⟨[ap 2],[],5⟩
noncomputable def f95(a:i95.J):Option XV.J:=
 some ((a.1.1.1,()),())
noncomputable def Zw:aF:=aK ah Tryz.f95 i95 XV [] f95
theorem ap8:aE U 95 Zw:=aL g0 Tryz.func95 (by kernel_rfl) af (fun y=>by kernel_rfl) fun a=>by kernel_rfl
noncomputable abbrev al0:bg:=[(95,Zw),(149,JD),(150,JC)]
theorem Tq:aW U (bd ah al0):=bc ⟨ap8,TD,TC,⟨⟩⟩
abbrev ya:Shape:=⟨[(1,.ak (.fn 95 [])),bf 7 3000448,aH 12 .file,ad 13,ad 14],[be 3000448 .str 7 0],30⟩
abbrev rO:List aN:=[(.ret,⟨[ar 6],[],30⟩),(.exit 0,⟨[],[],30⟩)]
noncomputable def yB(y:ya.J):bJ ya rO:=
 bif(decide (y.1.2.2.2.2.1<y.1.2.2.2.1)) then
(aP y.1.2.2.1 y.1.2.2.2.2.1).bind fun a=>
(f95 (((a.name,a.text,()),()),())).bind fun b=>
(f150 ((y.2.1,b.1.1,()),())).bind fun c=>
 bif c.1.1 then
 some (.inr (.inl ((true,()),())))
else
(f95 (((a.name,a.text,()),()),())).bind fun d=>
(cy 16 y.2.1 ([d.1.1]:List F)).bind fun e=>
 some (.inl (((),(),y.1.2.2.1,y.1.2.2.2.1,(IntKind.i64.wrap (y.1.2.2.2.2.1+(1:Int))),()),e,()))
else
 some (.inr (.inr ((),())))
noncomputable def E7:ya.J->Option (aw rO):=bn yB
theorem af3:aT U (an (codeOf Tryz.f98) 1 58) (a6 ya rO E7):=bN Tq (by kernel_rfl) af fun y=>by kernel_rfl
abbrev S8:Shape:=⟨[aH 0 .file,(1,.ak (.fn 95 [])),aH 2 .str],[],30⟩
abbrev SX:Shape:=⟨[ar 6],[],30⟩
noncomputable def BA(a:S8.J):Option SX.J:=
(f149 ((a.1.2.2.1,()),())).bind fun b=>
(E7 (((),(),a.1.1,(a.1.1.length:Int),(0:Int),()),b.2.1,())).bind fun c=>
(match c with
|.inl d=>
 some ((d.1.1,()),())
|.inr e=>
 some ((false,()),()))
noncomputable def To:aF:=aK ah Tryz.f98 S8 SX [] BA
theorem ak1:aE U 98 To:=aL Tq Tryz.func98 (by kernel_rfl) (bb af3 af) (fun y=>by kernel_rfl) fun a=>by kernel_rfl
noncomputable abbrev atE:bg:=[(96,Tp),(98,To)]
theorem auh:aW U (bd ah atE):=bc ⟨ak2,ak1,⟨⟩⟩
abbrev i53:Shape:=⟨[aH 0 .file],[],17⟩
abbrev Yj:Shape:=⟨[ar 2],[],17⟩
noncomputable def f53(a:i53.J):Option Yj.J:=
 bif(decide ((a.1.1.length:Int)<=(6:Int))) then
(vr ((a.1.1,(),()),())).bind fun b=>
 bif b.1.1 then
(BA ((a.1.1,(),([]:List F),()),())).bind fun c=>
 some (((!c.1.1),()),())
else
 some ((false,()),())
else
 some ((false,()),())
noncomputable def ZM:aF:=aK ah Tryz.f53 i53 Yj [] f53
theorem z53:aE U 53 ZM:=aL auh Tryz.func53 (by kernel_rfl) af (fun y=>by kernel_rfl) fun a=>by kernel_rfl
noncomputable abbrev atX:bg:=[(14,tM),(53,ZM),(54,Iy),(56,Lo)]
theorem auq:aW U (bd ah atX):=bc ⟨J4,z53,SM,XH,⟨⟩⟩
abbrev i24:Shape:=⟨[b_ 0 [b6 .file,b6 .pack,ae,ae]],[],27⟩
abbrev Yz:Shape:=⟨[ar 2],[],27⟩
noncomputable def f24(a:i24.J):Option Yz.J:=
(f53 ((a.1.1.1,()),())).bind fun b=>
 bif b.1.1 then
 bif(decide ((a.1.1.2.1.length:Int)<=(8:Int))) then
(sS ((a.1.1.2.1,(),()),())).bind fun c=>
 bif c.1.1 then
(f56 ((a.1.1.2.1,()),())).bind fun d=>
 bif d.1.1 then
(f14 (((a.1.1.2.2.1,a.1.1.2.2.2.1,()),()),())).bind fun e=>
 some ((e.1.1,()),())
else
 some ((false,()),())
else
 some ((false,()),())
else
 some ((false,()),())
else
 some ((false,()),())
noncomputable def ZW:aF:=aK ah Tryz.f24 i24 Yz [] f24
theorem z24:aE U 24 ZW:=aL auq Tryz.func24 (by kernel_rfl) af (fun y=>by kernel_rfl) fun a=>by kernel_rfl
noncomputable abbrev atC:bg:=[(106,Xa)]
theorem _e:aW U (bd ah atC):=bc ⟨amZ,⟨⟩⟩
abbrev AA:Shape:=⟨[aH 0 .file,aH 1 .file,ad 5],[],27⟩
abbrev Hw:List aN:=[(.ret,⟨[ar 4],[],27⟩),(.exit 0,⟨[],[],27⟩)]
noncomputable def A2(y:AA.J):bJ AA Hw:=
 bif(decide (y.1.2.2.1<(y.1.1.length:Int))) then
(aP y.1.1 y.1.2.2.1).bind fun a=>
(aP y.1.2.1 y.1.2.2.1).bind fun b=>
(f106 (((a.name,a.text,()),(b.name,b.text,()),()),())).bind fun c=>
 bif(!c.1.1) then
 some (.inr (.inl ((false,()),())))
else
 some (.inl ((y.1.1,y.1.2.1,(IntKind.i64.wrap (y.1.2.2.1+(1:Int))),()),()))
else
 some (.inr (.inr ((),())))
noncomputable def HZ:AA.J->Option (aw Hw):=bn A2
theorem ajX:aT U (an (codeOf Tryz.f57) 1 58) (a6 AA Hw HZ):=bN _e (by kernel_rfl) af fun y=>by kernel_rfl
abbrev i57:Shape:=⟨[aH 0 .file,aH 1 .file],[],27⟩
abbrev Yg:Shape:=⟨[ar 4],[],27⟩
noncomputable def f57(a:i57.J):Option Yg.J:=
 bif((a.1.1.length:Int) !=(a.1.2.1.length:Int)) then
 some ((false,()),())
else
(HZ ((a.1.1,a.1.2.1,(0:Int),()),())).bind fun b=>
(match b with
|.inl c=>
 some ((c.1.1,()),())
|.inr d=>
 some ((true,()),()))
noncomputable def ZL:aF:=aK ah Tryz.f57 i57 Yg [] f57
theorem aqk:aE U 57 ZL:=aL _e Tryz.func57 (by kernel_rfl) (bb ajX af) (fun y=>by kernel_rfl) fun a=>by kernel_rfl
noncomputable abbrev atW:bg:=[(19,Lt),(48,Lp),(57,ZL)]
theorem aup:aW U (bd ah atW):=bc ⟨XL,XI,aqk,⟨⟩⟩
abbrev i25:Shape:=⟨[b_ 0 [b6 .file,b6 .pack,ae,ae],b_ 1 [b6 .file,b6 .pack,ae,ae]],[],23⟩
abbrev Yy:Shape:=⟨[ar 4],[],23⟩
noncomputable def f25(a:i25.J):Option Yy.J:=
(f57 ((a.1.1.1,a.1.2.1.1,()),())).bind fun b=>
 bif(!b.1.1) then
 some ((false,()),())
else
(f48 ((a.1.1.2.1,a.1.2.1.2.1,()),())).bind fun c=>
 bif(!c.1.1) then
 some ((false,()),())
else
(f19 (((a.1.1.2.2.1,a.1.1.2.2.2.1,()),(a.1.2.1.2.2.1,a.1.2.1.2.2.2.1,()),()),())).bind fun d=>
 bif(!d.1.1) then
 some ((false,()),())
else
 some ((true,()),())
noncomputable def ZV:aF:=aK ah Tryz.f25 i25 Yy [] f25
theorem aqr:aE U 25 ZV:=aL aup Tryz.func25 (by kernel_rfl) af (fun y=>by kernel_rfl) fun a=>by kernel_rfl
noncomputable abbrev avk:bg:=[(21,ZZ),(22,ZY),(23,ZX),(24,ZW),(25,ZV)]
theorem Mm:aW U (bd ah avk):=bc ⟨z21,aqt,aqs,z24,aqr,⟨⟩⟩
abbrev i5:Shape:=⟨[b_ 0 [b6 .file,b6 .pack,ae,ae]],[],27⟩
abbrev C9:Shape:=⟨[ar 2],[],27⟩
noncomputable def f5(a:i5.J):Option C9.J:=
(f21 (((a.1.1.1,a.1.1.2.1,a.1.1.2.2.1,a.1.1.2.2.2.1,()),(1048576:Int),()),())).bind fun b=>
 bif(decide (b.1.1<(0:Int))) then
 some ((true,()),())
else
(f23 (((a.1.1.1,a.1.1.2.1,a.1.1.2.2.1,a.1.1.2.2.2.1,()),()),())).bind fun c=>
(f22 (((c.2.1,c.2.2.1,c.2.2.2.1.2.2.1,c.2.2.2.1.2.2.2.1,()),()),())).bind fun d=>
(f23 (((a.1.1.1,a.1.1.2.1,a.1.1.2.2.1,a.1.1.2.2.2.1,()),()),())).bind fun e=>
(f24 (((e.2.1,e.2.2.1,e.2.2.2.1.2.2.1,e.2.2.2.1.2.2.2.1,()),()),())).bind fun f=>
 bif(!(f.1.1==d.1.1)) then
 some ((false,()),())
else
(f23 (((a.1.1.1,a.1.1.2.1,a.1.1.2.2.1,a.1.1.2.2.2.1,()),()),())).bind fun g=>
(f25 (((e.2.1,e.2.2.1,e.2.2.2.1.2.2.1,e.2.2.2.1.2.2.2.1,()),(g.2.1,g.2.2.1,g.2.2.2.1.2.2.1,g.2.2.2.1.2.2.2.1,()),()),())).bind fun h=>
 bif(!h.1.1) then
 some ((false,()),())
else
 some ((true,()),())
noncomputable def po:aF:=aK ah Tryz.f5 i5 C9 [] f5
theorem z5:aE U 5 po:=aL Mm Tryz.func5 (by kernel_rfl) af (fun y=>by kernel_rfl) fun a=>by kernel_rfl
abbrev _p(f:ea):Prop:=cv f.name.length/\cv f.text.length
abbrev qz(aJ:List ea):Prop:=cv aJ.length/\∀f,f∈aJ->_p f
def kn(f:ea):Bool:=h5 f.name&&kg f.text
def p'(aJ:List ea):Bool:=decide (aJ.length<=6)&&(aJ.all kn&&!gQ [] (aJ.map (·.name)))
theorem afB(f:ea)(h:_p f):f97 (((f.name,(f.text,())),()),())=some ((kn f,()),()):=by
 have e1:=O6 ((f.name,()),()) h.1;have e1:f147 ((f.name,()),())=some ((h5 f.name,()),()):=e1;have e2:=Ns ((f.text,()),()) h.2;have e2:f148 ((f.text,()),())=some ((kg f.text,()),()):=e2;unfold kn;simp only[f97,e1,Option.bind_some];cases h5 f.name with
 |false=>rfl
 |true=>simp only[cond_true,e2,Option.bind_some,Bool.true_and]
theorem adO(a)(hs:qz a.1.1):vr a=some ((a.1.1.all kn,()),()):=by
 obtain⟨⟨ps,u⟩,b7⟩:=a;obtain⟨hl,hn⟩:=hs;have hl:ps.length<=2097152:=hl;have key:E8 (((),(ps,((ps.length:Int),((0:Int),())))),())=some (bif allI (fun _ n=>kn n) 0 ps then .inr ((),()) else .inl ((false,()),())):=by
  refine fl yC ps (fun i=>(((),(ps,((ps.length:Int),((i:Int),())))),())) _ _ _ (fun i x hx=>?_) ?_
  ·have hi:=ct hx;have hw:am i:=by unfold am;omega
   have hb:=hn x (List.mem_of_getElem? hx);simp only[yC,bZ hi,cond_true,bQ,hx,Option.bind_some,afB x hb,bK hw];cases kn x<;>rfl
  ·simp only[yC,cX,cond_false]
 rw[fX] at key;simp only[vr,key,Option.bind_some];cases List.all ps kn<;>rfl
theorem aaQ(aJ:List ea)(hs:qz aJ)(_y u):BA ((aJ,(_y,(([]:List F),u))),())=some ((gQ [] (aJ.map (·.name)),()),()):=by
 have hl:aJ.length<=2097152:=hs.1;have hc:=Pd ((([]:List F),()),()) (by decide)
 have hc:f149 ((([]:List F),()),())=some (((),()),(([]:List F),())):=hc;have key:(E7 (((),((),(aJ,((aJ.length:Int),((0:Int),()))))),(([]:List F),())))=_:=k1 yB aJ (fun i (out:List F)=>(((),((),(aJ,((aJ.length:Int),((i:Int),()))))),(out,())))
  (fun i (n:ea) out=>some (bif out.contains n.name then .inr ((.inl ((true,()),())):aw rO) else .inl (out++[n.name]))) (fun _=>.inr ((),())) (fun i out=>out.length<=i+1) [] (Nat.zero_le _) (fun i x out hx dk=>?_) (fun out _=>?_)
 ·have fold:∀(r:List ea) (k:Nat) (out:List F),(eA (fun i (n:ea) out=>some (bif out.contains n.name then .inr ((.inl ((true,()),())):aw rO) else .inl (out++[n.name]))) (fun _=>(.inr ((),()):aw rO)) k r out)=
    some (bif gQ out (r.map (·.name)) then .inl ((true,()),()) else .inr ((),())):=by
   intro r;induction r with
   |nil=>intro k out;rfl
   |cons n r ih=>
    intro k out;simp only[eA,List.map_cons,gQ];cases out.contains n.name with
    |true=>rfl
    |false=>simp only[cond_false,Bool.false_or];exact ih _ _
  rw[fold] at key;simp only[BA,hc,Option.bind_some,key];cases gQ [] (aJ.map (·.name))<;>rfl
 ·have hi:=ct hx;have hw:am i:=by unfold am;omega
  refine⟨?_,fun aD ai=>?_⟩
  ·simp only[yB,bZ hi,cond_true,bQ,hx,Option.bind_some,f95];rw[Nt _ (show cv out.length by show out.length<=2097152;omega)]
   simp only[Option.bind_some];cases au:out.contains x.name with
   |true=>rfl
   |false=>
    simp only[cond_false];rw[dS (by decide) (by unfold am;simp only[List.length_cons,List.length_nil];omega)]
    simp only[Option.bind_some,bK hw,Option.map_some]
  ·simp only[Option.some.injEq] at ai;cases au:out.contains x.name with
   |true=>rw[au] at ai;cases ai
   |false=>
    rw[au] at ai;simp only[cond_false,Sum.inl.injEq] at ai;subst ai;simp only[List.length_append,List.length_cons,List.length_nil];omega
 ·simp only[yB,cX,cond_false]
theorem acp(aJ:List ea)(hs:qz aJ):f53 ((aJ,()),())=some ((p' aJ,()),()):=by
 have cc:decide (((aJ.length:Nat):Int)<=6)=decide (aJ.length<=6):=by congr 1;apply propext;omega
 unfold p';simp only[f53,cc];cases decide (aJ.length<=6) with
 |false=>rfl
 |true=>
  have e1:=adO ((aJ,((),())),()) hs;have e1:vr ((aJ,((),())),())=some ((aJ.all kn,()),()):=e1;simp only[cond_true,e1,Option.bind_some,Bool.true_and];cases aJ.all kn with
  |false=>rfl
  |true=>
   have e2:=aaQ aJ hs () ();simp only[cond_true,e2,Option.bind_some,Bool.true_and]
def qv(n:F)(k:Nat):List ea->Int
 |[]=>-1
 |f::r=>bif f.name==n then(k:Int) else qv n (k+1) r
theorem aiJ(aJ:List ea)(hl:aJ.length<=2097152)(n:F):∀(r:List ea) (k:Nat),aJ.drop k=r->k<=aJ.length->
  ((su ((aJ,(n,((k:Int),()))),())).bind fun r=>match r with|.inl x=>some ((x.1.1,()),())|.inr _=>some (((-1:Int),()),()))=some ((qv n k r,()),()):=by
 intro r;induction r with
 |nil=>
  intro k hr hk;have:=drop_nil hr;obtain rfl:k=aJ.length:=by omega
  have e:su ((aJ,(n,((aJ.length:Int),()))),())=some (.inr ((),())):=ca (by simp only[u9,cX,cond_false])
  rw[e];rfl
 |cons f r ih=>
  intro k hr hk;obtain⟨c1,c2,c3⟩:=drop_cons hr;have hi:=ct c1;unfold qv;cases hc:f.name==n with
  |true=>
   have e:su ((aJ,(n,((k:Int),()))),())=some (.inl (((k:Int),()),())):=ca (by simp only[u9,bZ hi,cond_true,bQ,c1,Option.bind_some,hc])
   rw[e];rfl
  |false=>
   have e:u9 ((aJ,(n,((k:Int),()))),())=some (.inl ((aJ,(n,(((k+1:Nat):Int),()))),())):=by
    simp only[u9,bZ hi,cond_true,bQ,c1,Option.bind_some,hc,cond_false,bK (i:=k) (by unfold am;omega)]
   have e:su ((aJ,(n,((k:Int),()))),())=_:=du e;rw[e];exact ih (k+1) c2 (by omega)
theorem afw(aJ:List ea)(hl:aJ.length<=2097152)(n:F):f93 ((aJ,(n,())),())=some ((qv n 0 aJ,()),()):=by
 rw[<-aiJ aJ hl n aJ 0 rfl (Nat.zero_le _)];simp only[f93];rfl
theorem aku:∀(r:List ea) (k i:Nat) (x:ea),r[i]? =some x->(qv x.name k r !=((k+i:Nat):Int))=((r.map (·.name)).take i).contains x.name:=by
 intro r;induction r with
 |nil=>intro k i x h;simp at h
 |cons f r ih=>
  intro k i x h;cases i with
  |zero=>
   have:f=x:=by simpa using h
   subst this;simp[qv]
  |succ i=>
   have h:r[i]? =some x:=by simpa using h
   simp only[qv,List.map_cons,List.take_succ_cons,List.contains_cons];cases hc:f.name==x.name with
   |true=>
    have:(x.name==f.name)=true:=by rw[eq_of_beq hc];simp
    rw[this];simp;omega
   |false=>
    have n5:(x.name==f.name)=false:=by
     cases h2:x.name==f.name with
     |false=>rfl
     |true=>rw[eq_of_beq h2] at hc;simp at hc
    rw[n5,cond_false,Bool.false_or,<-ih (k+1) i x h];congr 2
    omega
theorem ahk{ax lv:Type}(f:ax->lv)(p:Nat->lv->Bool):∀(xs:List ax) (k:Nat),allI (fun i x=>p i (f x)) k xs=allI p k (xs.map f):=by
 intro xs;induction xs with
 |nil=>intro k;rfl
 |cons x xs ih=>intro k;simp only[allI,List.map_cons,ih]
theorem adS(aJ:List ea)(hs:qz aJ):f51 ((aJ,()),())=some ((p' aJ,()),()):=by
 have hl:aJ.length<=2097152:=hs.1;have key:H2 ((aJ,((0:Int),())),())=some (bif allI (fun i x=>kn x&&!(((aJ.map (·.name)).take i).contains x.name)) 0 aJ then .inr ((aJ,()),()) else .inl ((false,()),())):=by
  refine fl A5 aJ (fun i=>((aJ,((i:Int),())),())) _ _ _ (fun i x hx=>?_) ?_
  ·have hi:=ct hx;have hw:am i:=by unfold am;omega
   have hb:=hs.2 x (List.mem_of_getElem? hx);have e1:=Pa ((x.name,()),()) hb.1;have e1:f91 ((x.name,()),())=some ((h5 x.name,()),()):=e1;have e2:=O9 ((x.text,()),()) hb.2;have e2:f92 ((x.text,()),())=some ((kg x.text,()),()):=e2;have bz:=afw aJ hl x.name;have da:=aku aJ 0 i x hx;rw[Nat.zero_add] at da;simp only[A5,bZ hi,cond_true,G3,bQ,hx,Option.bind_some,e1];unfold kn;cases h5 x.name with
   |false=>rfl
   |true=>
    simp only[Bool.not_true,Bool.not_false,cond_true,e2,Option.bind_some,Bool.true_and];cases kg x.text with
    |false=>rfl
    |true=>
     simp only[Bool.not_true,Bool.not_false,cond_true,bz,Option.bind_some,Bool.true_and,da,bK hw];cases ((aJ.map (·.name)).take i).contains x.name<;>rfl
  ·simp only[A5,cX,cond_false]
 rw[yO (ok:=fun _ x=>kn x) (lp:=fun i x=>!(((aJ.map (·.name)).take i).contains x.name)),fX,ahk (fun f:ea=>f.name) (fun i n=>!(((aJ.map (·.name)).take i).contains n)),PX (aJ.map (·.name)) (aJ.map (·.name)) 0 rfl,List.take_zero] at key
 have cc:decide (((aJ.length:Nat):Int)<=6)=decide (aJ.length<=6):=by congr 1;apply propext;omega
 unfold p';simp only[f51,key,Option.bind_some];cases aJ.all kn&&!gQ [] (aJ.map (·.name)) with
 |false=>simp only[cond_false,Bool.and_false]
 |true=>simp only[cond_true,Bool.and_true,cc]
def Bz(aJ:List ea)(ps:List ba):Bool:=p' aJ&&(decide (ps.length<=8)&&(ps.all cu&&je ps))
theorem adG(aJ:List ea)(ps:List ba)(s t:F)(hf:qz aJ)(hb:ir ps)(b:Bool)(h:f14 (((s,(t,())),()),())=some ((b,()),())):
  f24 (((aJ,(ps,(s,(t,())))),()),())=some ((Bz aJ ps&&b,()),()):=by
 have h8:decide (((ps.length:Nat):Int)<=8)=decide (ps.length<=8):=by congr 1;apply propext;omega
 have e2:=NY ((ps,((),())),()) hb;have e2:sS ((ps,((),())),())=some ((ps.all cu,()),()):=e2;have bz:=ME ((ps,()),()) hb.1;have bz:f56 ((ps,()),())=some ((je ps,()),()):=bz;unfold Bz;simp only[f24,acp aJ hf,Option.bind_some,h8];cases p' aJ with
 |false=>rfl
 |true=>
  cases decide (ps.length<=8) with
  |false=>rfl
  |true=>
   simp only[cond_true,e2,Option.bind_some,Bool.true_and];cases ps.all cu with
   |false=>rfl
   |true=>
    simp only[cond_true,bz,Option.bind_some,Bool.true_and];cases je ps with
    |false=>rfl
    |true=>simp only[cond_true,h,Option.bind_some,Bool.true_and]
theorem afH(aJ:List ea)(ps:List ba)(s t:F)(hf:qz aJ)(hb:ir ps)(b:Bool)(h:f12 (((s,(t,())),()),())=some ((b,()),())):
  f22 (((aJ,(ps,(s,(t,())))),()),())=some ((Bz aJ ps&&b,()),()):=by
 have hl:ps.length<=2097152:=hb.1;have h8:decide (((ps.length:Nat):Int)<=8)=decide (ps.length<=8):=by congr 1;apply propext;omega
 have key:H5 (((),((0:Int),())),((aJ,(ps,(s,(t,())))),()))=some (bif allI (tk ps) 0 ps then .inr (((),()),((aJ,(ps,(s,(t,())))),())) else .inl ((false,()),())):=by
  refine fl A8 ps (fun i=>(((),((i:Int),())),((aJ,(ps,(s,(t,())))),()))) _ _ _ (fun i x hx=>?_) ?_
  ·have hi:=ct hx;have hw:am i:=by unfold am;omega
   have wH:=hb.2 x (List.mem_of_getElem? hx);simp only[A8,bZ hi,cond_true,G6,bQ,hx,Option.bind_some];rw[x_ _ wH];simp only[Option.bind_some,tk,B2];cases cu x with
   |false=>rfl
   |true=>
    simp only[Bool.not_true,cond_false,Bool.true_and,mD];cases i with
    |zero=>simp only[beq_self_eq_true,Bool.not_true,cond_false,Option.bind_some,Bool.true_or,cond_true,bK hw]
    |succ i=>
     have h0:(i+1==0)=false:=rfl;have jn:i<ps.length:=by omega
     obtain⟨q,au⟩:∃q,ps[i]? =some q:=⟨ps[i],List.getElem?_eq_getElem jn⟩;simp only[h0,Bool.not_false,cond_true,uk (i:=i) (by unfold am;omega),bQ,au,hx,Option.bind_some,Bool.false_or,Nat.add_sub_cancel]
     cases Op.bytesLess q.name x.name with
     |false=>rfl
     |true=>simp only[Bool.not_true,cond_false,cond_true,bK hw]
  ·simp only[A8,cX,cond_false]
 rw[QW] at key;unfold Bz;simp only[f22,key,Option.bind_some];cases dR:(ps.all cu&&je ps) with
 |false=>simp only[cond_false,Bool.and_false,Bool.false_and]
 |true=>
  simp only[cond_true,Bool.and_true,adS aJ hf,Option.bind_some,h8];cases p' aJ with
  |false=>rfl
  |true=>
   cases decide (ps.length<=8) with
   |false=>rfl
   |true=>simp only[cond_true,h,Option.bind_some,Bool.and_self,Bool.true_and]
abbrev Z6(f:ea):Prop:=e6 f.name.length/\e6 f.text.length
abbrev Lg(f:ea):Prop:=gr f.name.length/\gr f.text.length
abbrev JK(l:List ea):Prop:=e6 l.length/\∀n,n∈l->Z6 n
abbrev Jo(l:List ea):Prop:=gr l.length/\∀n,n∈l->Lg n
theorem Jo.L8{aJ:List ea}(h:Jo aJ):qz aJ:=⟨Nat.le_trans h.1 (by decide),fun f hf=>⟨Nat.le_trans (h.2 f hf).1 (by decide),Nat.le_trans (h.2 f hf).2 (by decide)⟩⟩
theorem afq(f:ea)(l:Int)(h0:0<=l)(h1:l<=1048576)(hm:Z6 f):∃r:Int,f86 (((f.name,(f.text,())),(l,())),())=some ((r,()),())/\nF l r (Lg f):=by
 have aS:=jS h0 h1 hm.1;simp only[f86,aS];by_cases aB:l-(f.name.length:Int)<0
 ·simp only[aB,decide_true,cond_true];exact⟨-1,rfl,.inl (by omega)⟩
 ·have w2:=jS (l:=l-(f.name.length:Int)) (by omega) (by omega) hm.2
  simp only[aB,decide_false,cond_false,w2];by_cases aA:l-(f.name.length:Int)-(f.text.length:Int)<0
  ·simp only[aA,decide_true,cond_true];exact⟨-1,rfl,.inl (by omega)⟩
  ·simp only[aA,decide_false,cond_false];exact⟨_,rfl,.inr ⟨by omega,by omega,by show f.name.length<=1048576;omega,by show f.text.length<=1048576;omega⟩⟩
theorem adu(xs:List ea)(l:Int)(h0:0<=l)(h1:l<=1048576)(hm:JK xs):∃r:Int,f49 ((xs,(l,())),())=some ((r,()),())/\nF l r (Jo xs):=by
 obtain⟨m1,m2⟩:=hm;simp only[f49,jS h0 h1 m1];by_cases c:l-(xs.length:Int)<0
 ·simp only[c,decide_true,cond_true];exact⟨_,rfl,.inl (by omega)⟩
 ·simp only[c,decide_false,cond_false];have hl:xs.length<=1048576:=by omega
  have key:=yP zE xs (fun i s=>((xs,(s,((i:Int),()))),())) (.inl (((-1:Int),()),())) (fun s=>.inr ((s,()),())) Lg (fun i x s hx fq s1=>?_) (fun s=>?_) (l-xs.length) (by omega) (by omega)
  ·rcases key with h|⟨aD,aB,aA,bC,h⟩
   ·have h:zw ((xs,(l-xs.length,((0:Int),()))),())=_:=h;exact⟨-1,by rw[h];rfl,.inl (by omega)⟩
   ·have h:zw ((xs,(l-xs.length,((0:Int),()))),())=_:=h;exact⟨aD,by rw[h];rfl,.inr ⟨aB,by omega,hl,bC⟩⟩
  ·have hi:=ct hx;have hw:am i:=by unfold am;omega
   obtain⟨r,e1,e2⟩:=afq x s fq s1 (m2 x (List.mem_of_getElem? hx));simp only[zE,bZ hi,cond_true,bQ,hx,Option.bind_some,e1,bK hw];rcases e2 with e2|⟨q1,q2,cV⟩
   ·left;simp only[e2,decide_true,cond_true]
   ·have:¬r<0:=by omega
    right;refine⟨r,q1,q2,cV,?_⟩;simp only[this,decide_false,cond_false]
  ·simp only[zE,cX,cond_false]
theorem adr(xs:List ea)(hs:cv xs.length):f52 ((xs,()),())=some (((),()),(xs,())):=by
 have hs:xs.length<=2097152:=hs;have key:=x6 A4 xs (ea.mk [] []) (fun i acc=>((xs,((),((i:Int),()))),(acc,()))) (fun acc=>(((),()),(acc,()))) (fun i x acc hx hl=>?_) ?_
 ·have key:H1 ((xs,((),((0:Int),()))),(List.replicate xs.length (ea.mk [] []),()))=_:=key;simp only[f52,sr (show(32:Nat)<=100 by decide) (show am xs.length by unfold am;omega),Option.bind_some,key]
 ·have hi:=ct hx;have hw:am i:=by unfold am;omega
  have au:acc[i]? =some acc[i]:=List.getElem?_eq_getElem (by omega)
  simp only[A4,bZ hi,cond_true,bQ,hx,Option.bind_some,f94,fm (show i<acc.length by omega),au,bK hw]
 ·simp only[A4,cX,cond_false]
theorem adK(xs:List ea)(hs:cv xs.length):f57 ((xs,(xs,())),())=some ((true,()),()):=by
 have hs:xs.length<=2097152:=hs;have key:HZ ((xs,(xs,((0:Int),()))),())=some (bif allI (fun _ _=>true) 0 xs then .inr ((),()) else .inl ((false,()),())):=by
  refine fl A2 xs (fun i=>((xs,(xs,((i:Int),()))),())) _ _ _ (fun i x hx=>?_) ?_
  ·have hi:=ct hx;have hw:am i:=by unfold am;omega
   simp only[A2,bZ hi,cond_true,bQ,hx,Option.bind_some,f106,beq_self_eq_true,Bool.not_true,cond_false,bK hw]
  ·simp only[A2,cX,cond_false]
 rw[x7] at key;simp only[f57,rL,cond_false,key,cond_true,Option.bind_some]
theorem afn{xs:List ea}(h:iQ (.sl .file xs)):JK xs:=by
 have:=Ai h;exact⟨this.1,fun f hf=>⟨ms (this.2 f hf (.str f.name) (by simp[enc])),ms (this.2 f hf (.str f.text) (by simp[enc]))⟩⟩
theorem aag(aJ:List ea)(ps:List ba)(s t:F)(hf:JK aJ)(hm:JI ps)(hs:e6 s.length)(aq:e6 t.length):f5 (((aJ,(ps,(s,(t,())))),()),())=some ((true,()),()):=by
 obtain⟨r1,a1,b1⟩:=adu aJ 1048576 (by decide) (by decide) hf
 simp only[f5,f21,a1,Option.bind_some];rcases b1 with b1|⟨iw,ic,p3⟩
 ·simp only[b1,decide_true,cond_true,Option.bind_some];rfl
 ·have c1:¬r1<0:=by omega
  obtain⟨r2,a2,b2⟩:=ads ((ps,(r1,())),()) iw ic hm;simp only[c1,decide_false,cond_false,a2,Option.bind_some];rcases b2 with b2|⟨q1,q2,cV⟩
  ·simp only[b2,decide_true,cond_true,Option.bind_some];rfl
  ·have c2:¬r2<0:=by omega
   have q2:r2<=r1:=q2;obtain⟨hO,a3,b3⟩:=afr s t r2 q1 (by omega) hs aq
   simp only[c2,decide_false,cond_false,a3,Option.bind_some];rcases b3 with b3|⟨d1,d2,d3,d4⟩
   ·simp only[b3,decide_true,cond_true,Option.bind_some];rfl
   ·have c3:¬hO<0:=by omega
    unfold gr at d3;have tE:=p3.L8;obtain⟨hb,_⟩:=B6.L8 cV;obtain⟨b,bz,da⟩:=ag5 s t (by omega)
    have w:=afH aJ ps s t tE hb b bz;have w':=adG aJ ps s t tE hb b da;have t1:=adr aJ tE.1;have t2:=adp ((ps,()),()) hb;have t2:f46 ((ps,()),())=some (((),()),(ps,())):=t2;have t3:=adK aJ tE.1;have t4:=adI ps hb;have t5:=afE s t;simp only[c3,decide_false,cond_false,Option.bind_some,f23,t1,t2,f13,w,w',beq_self_eq_true,Bool.not_true,f25,t3,t4,t5]
theorem pure_FnExactFarmOk:LawOk po [(true,[.sl .file,.sl .pack,.str,.str])]:=by
 rintro⟨⟨aJ,ps,s,t,u⟩,b7⟩ ⟨h,_⟩;exact⟨((true,()),()),aag aJ ps s t (afn (h (.sl .file aJ) (by simp[eY,dq.mk]))) (afl (h (.sl .pack ps) (by simp[eY,dq.mk]))) (ms (h (.str s) (by simp[eY,dq.mk]))) (ms (h (.str t) (by simp[eY,dq.mk]))),rfl⟩
end Go.Proofs
