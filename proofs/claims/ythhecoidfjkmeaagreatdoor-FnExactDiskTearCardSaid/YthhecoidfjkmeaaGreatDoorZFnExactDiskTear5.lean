/- FnExactDiskTear: the program's DiskTear returns what the reference's returns, for all arguments. (part 6 of 7: JkKF126, JkKF127, JkKPuGq, JkKF76, JkKPuGr, JkKF39, JkKF12, JkKPuGs, JkKF34, JkKPuPc, JkKF186, JkKF134, JkKF187, JkKF135, JkKF188, JkKF136, JkKF189, JkKF137, JkKF190, JkKF138, JkKF191, JkKF139, JkKF82) Conditions: none beyond the statement. -/
import Derived.Test.YthhecoidfjkmeaaGreatDoorZFnExactDiskTear4
import Derived.Tactics
import Derived.Deep.RegionLaw
import Derived.Shelf.Abstract
import Derived.Test.YthhecoidfjkmeaaGreatDoorProg
import Derived.KernelRfl
set_option linter.unusedSimpArgs false
set_option maxRecDepth 100000
set_option linter.unusedVariables false
namespace Go.Proofs
open Go.Jk
noncomputable abbrev anq:bi:=[(73,tF),(179,Vh)]
theorem vO:a_ U (bg aj anq):=bf ⟨vR,akK,⟨⟩⟩
abbrev Mk:Shape:=⟨[aM 2 2 0,aM 5 5 0,bc 6 3000384,ao 7,ae 8,bc 9 3000576],[bx 5000130 .need 2 2,bx 5000131 .entry 2 3,aL 2 [ai,ai,.own 5000130,.own 5000131],bx 5000322 .need 5 2,bx 5000323 .entry 5 3,aL 5 [ai,ai,.own 5000322,.own 5000323],bb 3000384 .str 6 0,bb 3000576 .str 9 0],118⟩
abbrev Me:List aO:=[(.norm,⟨[aM 2 2 0,aM 5 5 0,bc 6 3000384,ao 7,ae 8,bc 9 3000576,au 52],[bx 5000130 .need 2 2,bx 5000131 .entry 2 3,aL 2 [ai,ai,.own 5000130,.own 5000131],bx 5000322 .need 5 2,bx 5000323 .entry 5 3,aL 5 [ai,ai,.own 5000322,.own 5000323],bb 3000384 .str 6 0,bb 3000576 .str 9 0],118⟩)]
noncomputable def kW(y:Mk.J):Option (aD Me):=
 bif(y.1.2.2.2.2.1==(1:Int)) then
(a8 y.2.2.2.2.2.2.2.2.1.length (0:Int)).bind fun a=>
(y.2.2.2.2.2.2.2.2.1[a]?).bind fun b=>
 bif(b==([112,97,99,107]:F)) then
 some (((),(),(),y.1.2.2.2.1,y.1.2.2.2.2.1,(),((y.2.2.2.2.2.2.2.2.1.length:Int)==(3:Int)),()),y.2.1,y.2.2.1,(y.2.2.2.1.1,y.2.2.2.1.2.1,(),(),()),y.2.2.2.2.1,y.2.2.2.2.2.1,(y.2.2.2.2.2.2.1.1,y.2.2.2.2.2.2.1.2.1,(),(),()),y.2.2.2.2.2.2.2.1,y.2.2.2.2.2.2.2.2.1,())
else
 some (((),(),(),y.1.2.2.2.1,y.1.2.2.2.2.1,(),false,()),y.2.1,y.2.2.1,(y.2.2.2.1.1,y.2.2.2.1.2.1,(),(),()),y.2.2.2.2.1,y.2.2.2.2.2.1,(y.2.2.2.2.2.2.1.1,y.2.2.2.2.2.2.1.2.1,(),(),()),y.2.2.2.2.2.2.2.1,y.2.2.2.2.2.2.2.2.1,())
else
 some (((),(),(),y.1.2.2.2.1,y.1.2.2.2.2.1,(),false,()),y.2.1,y.2.2.1,(y.2.2.2.1.1,y.2.2.2.1.2.1,(),(),()),y.2.2.2.2.1,y.2.2.2.2.2.1,(y.2.2.2.2.2.2.1.1,y.2.2.2.2.2.2.1.2.1,(),(),()),y.2.2.2.2.2.2.2.1,y.2.2.2.2.2.2.2.2.1,())
theorem _2:aY U (an (da (an (codeOf Tryz.f126) 1 250)) 500 128156) (a' Mk Me kW):=cW vO (by kernel_rfl) ag fun y=>by kernel_rfl
abbrev Mj:Shape:=⟨[aM 2 2 0,aM 5 5 0,bc 6 3000384,ao 7,ae 8,bc 9 3000576],[bx 5000130 .need 2 2,bx 5000131 .entry 2 3,aL 2 [ai,ai,.own 5000130,.own 5000131],bx 5000322 .need 5 2,bx 5000323 .entry 5 3,aL 5 [ai,ai,.own 5000322,.own 5000323],bb 3000384 .str 6 0,bb 3000576 .str 9 0],118⟩
abbrev Md:List aO:=[(.norm,⟨[aM 2 2 0,aM 5 5 0,bc 6 3000384,ao 7,ae 8,bc 9 3000576,au 74],[bx 5000130 .need 2 2,bx 5000131 .entry 2 3,aL 2 [ai,ai,.own 5000130,.own 5000131],bx 5000322 .need 5 2,bx 5000323 .entry 5 3,aL 5 [ai,ai,.own 5000322,.own 5000323],bb 3000384 .str 6 0,bb 3000576 .str 9 0],118⟩)]
noncomputable def lB(y:Mj.J):Option (aD Md):=
 bif(decide (y.1.2.2.2.2.1>(1:Int))) then
(a8 y.2.2.2.2.2.2.2.1.length y.1.2.2.2.2.1).bind fun a=>
(y.2.2.2.2.2.2.2.1[a]?).bind fun b=>
 some (((),(),(),y.1.2.2.2.1,y.1.2.2.2.2.1,(),(b==([]:F)),()),y.2.1,y.2.2.1,(y.2.2.2.1.1,y.2.2.2.1.2.1,(),(),()),y.2.2.2.2.1,y.2.2.2.2.2.1,(y.2.2.2.2.2.2.1.1,y.2.2.2.2.2.2.1.2.1,(),(),()),y.2.2.2.2.2.2.2.1,y.2.2.2.2.2.2.2.2.1,())
else
 some (((),(),(),y.1.2.2.2.1,y.1.2.2.2.2.1,(),false,()),y.2.1,y.2.2.1,(y.2.2.2.1.1,y.2.2.2.1.2.1,(),(),()),y.2.2.2.2.1,y.2.2.2.2.2.1,(y.2.2.2.2.2.2.1.1,y.2.2.2.2.2.2.1.2.1,(),(),()),y.2.2.2.2.2.2.2.1,y.2.2.2.2.2.2.2.2.1,())
theorem _1:aY U (an (da (an (codeOf Tryz.f126) 1 250)) 500 512630) (a' Mj Md lB):=cW vO (by kernel_rfl) ag fun y=>by kernel_rfl
abbrev LX:Shape:=⟨[aM 2 2 0,aM 5 5 0,bc 6 3000384,ao 7,ae 8,bc 9 3000576],[bx 5000130 .need 2 2,bx 5000131 .entry 2 3,aL 2 [ai,ai,.own 5000130,.own 5000131],bx 5000322 .need 5 2,bx 5000323 .entry 5 3,aL 5 [ai,ai,.own 5000322,.own 5000323],bb 3000384 .str 6 0,bb 3000576 .str 9 0],118⟩
abbrev LV:List aO:=[(.norm,⟨[aM 2 2 0,aM 5 5 0,bc 6 3000384,ao 7,ae 8,bc 9 3000576,au 86],[bx 5000130 .need 2 2,bx 5000131 .entry 2 3,aL 2 [ai,ai,.own 5000130,.own 5000131],bx 5000322 .need 5 2,bx 5000323 .entry 5 3,aL 5 [ai,ai,.own 5000322,.own 5000323],bb 3000384 .str 6 0,bb 3000576 .str 9 0],118⟩)]
noncomputable def nh(y:LX.J):Option (aD LV):=
 bif(decide (y.1.2.2.2.2.1>(1:Int))) then
(a8 y.2.2.2.2.2.2.2.2.1.length (0:Int)).bind fun a=>
(y.2.2.2.2.2.2.2.2.1[a]?).bind fun b=>
 bif(b==([110,101,101,100]:F)) then
 some (((),(),(),y.1.2.2.2.1,y.1.2.2.2.2.1,(),((y.2.2.2.2.2.2.2.2.1.length:Int)==(2:Int)),()),y.2.1,y.2.2.1,(y.2.2.2.1.1,y.2.2.2.1.2.1,(),(),()),y.2.2.2.2.1,y.2.2.2.2.2.1,(y.2.2.2.2.2.2.1.1,y.2.2.2.2.2.2.1.2.1,(),(),()),y.2.2.2.2.2.2.2.1,y.2.2.2.2.2.2.2.2.1,())
else
 some (((),(),(),y.1.2.2.2.1,y.1.2.2.2.2.1,(),false,()),y.2.1,y.2.2.1,(y.2.2.2.1.1,y.2.2.2.1.2.1,(),(),()),y.2.2.2.2.1,y.2.2.2.2.2.1,(y.2.2.2.2.2.2.1.1,y.2.2.2.2.2.2.1.2.1,(),(),()),y.2.2.2.2.2.2.2.1,y.2.2.2.2.2.2.2.2.1,())
else
 some (((),(),(),y.1.2.2.2.1,y.1.2.2.2.2.1,(),false,()),y.2.1,y.2.2.1,(y.2.2.2.1.1,y.2.2.2.1.2.1,(),(),()),y.2.2.2.2.1,y.2.2.2.2.2.1,(y.2.2.2.2.2.2.1.1,y.2.2.2.2.2.2.1.2.1,(),(),()),y.2.2.2.2.2.2.2.1,y.2.2.2.2.2.2.2.2.1,())
theorem _k:aY U (an (da (an (codeOf Tryz.f126) 1 250)) 500 2050526) (a' LX LV nh):=cW vO (by kernel_rfl) ag fun y=>by kernel_rfl
abbrev ul:Shape:=⟨[aM 2 2 0,aM 5 5 0,bc 6 3000384,ao 7,ae 8],[bx 5000130 .need 2 2,bx 5000131 .entry 2 3,aL 2 [ai,ai,.own 5000130,.own 5000131],bx 5000322 .need 5 2,bx 5000323 .entry 5 3,aL 5 [ai,ai,.own 5000322,.own 5000323],bb 3000384 .str 6 0],118⟩
abbrev x0:List aO:=[(.ret,⟨[aM 2 2 0,ao 3,au 4],[bx 5000130 .need 2 2,bx 5000131 .entry 2 3,aL 2 [ai,ai,.own 5000130,.own 5000131]],118⟩),(.exit 0,⟨[aM 2 2 0,aM 5 5 0],[bx 5000130 .need 2 2,bx 5000131 .entry 2 3,aL 2 [ai,ai,.own 5000130,.own 5000131],bx 5000322 .need 5 2,bx 5000323 .entry 5 3,aL 5 [ai,ai,.own 5000322,.own 5000323]],118⟩)]
noncomputable def hq(y:ul.J):bR ul x0:=
 bif(decide (y.1.2.2.2.2.1<(y.2.2.2.2.2.2.2.1.length:Int))) then
 bif(decide (y.1.2.2.2.2.1<=(8:Int))) then
(a8 y.2.2.2.2.2.2.2.1.length y.1.2.2.2.2.1).bind fun a=>
(y.2.2.2.2.2.2.2.1[a]?).bind fun b=>
(f73 ((b,(32:Int),(2:Int),()),())).bind fun c=>
(a8 y.2.2.2.2.2.2.2.1.length y.1.2.2.2.2.1).bind fun d=>
(y.2.2.2.2.2.2.2.1[d]?).bind fun e=>
 bif(decide ((y.1.2.2.2.1.length:Int)<(IntKind.i64.wrap ((e.length:Int)+(1:Int))))) then
 some (.inr (.inl (((),([]:F),false,()),y.2.2.2.2.1,y.2.2.2.2.2.1,(y.2.2.2.2.2.2.1.1,y.2.2.2.2.2.2.1.2.1,(),(),()),())))
else
(a8 y.2.2.2.2.2.2.2.1.length y.1.2.2.2.2.1).bind fun f=>
(y.2.2.2.2.2.2.2.1[f]?).bind fun g=>
(br y.1.2.2.2.1 (IntKind.i64.wrap ((g.length:Int)+(1:Int))) (y.1.2.2.2.1.length:Int)).bind fun h=>
(kW (((),(),(),h,y.1.2.2.2.2.1,(),()),y.2.1,y.2.2.1,(y.2.2.2.1.1,y.2.2.2.1.2.1,(),(),()),y.2.2.2.2.1,y.2.2.2.2.2.1,(y.2.2.2.2.2.2.1.1,y.2.2.2.2.2.2.1.2.1,(),(),()),y.2.2.2.2.2.2.2.1,c.2.1,())).bind fun i=>
 bif i.1.2.2.2.2.2.2.1 then
(a8 i.2.2.2.2.2.2.2.2.1.length (1:Int)).bind fun j=>
(i.2.2.2.2.2.2.2.2.1[j]?).bind fun k=>
(a8 i.2.2.2.2.2.2.2.2.1.length (2:Int)).bind fun l=>
(i.2.2.2.2.2.2.2.2.1[l]?).bind fun m=>
 some (.inl (((),(),(),i.1.2.2.2.1,(IntKind.i64.wrap (i.1.2.2.2.2.1+(1:Int))),()),i.2.1,i.2.2.1,(i.2.2.2.1.1,i.2.2.2.1.2.1,(),(),()),i.2.2.2.2.1,i.2.2.2.2.2.1,(k,m,(),(),()),i.2.2.2.2.2.2.2.1,()))
else
(lB (((),(),(),i.1.2.2.2.1,i.1.2.2.2.2.1,(),()),i.2.1,i.2.2.1,(i.2.2.2.1.1,i.2.2.2.1.2.1,(),(),()),i.2.2.2.2.1,i.2.2.2.2.2.1,(i.2.2.2.2.2.2.1.1,i.2.2.2.2.2.2.1.2.1,(),(),()),i.2.2.2.2.2.2.2.1,i.2.2.2.2.2.2.2.2.1,())).bind fun n=>
 bif n.1.2.2.2.2.2.2.1 then
 some (.inr (.inl (((),n.1.2.2.2.1,true,()),n.2.2.2.2.1,n.2.2.2.2.2.1,(n.2.2.2.2.2.2.1.1,n.2.2.2.2.2.2.1.2.1,(),(),()),())))
else
(nh (((),(),(),n.1.2.2.2.1,n.1.2.2.2.2.1,(),()),n.2.1,n.2.2.1,(n.2.2.2.1.1,n.2.2.2.1.2.1,(),(),()),n.2.2.2.2.1,n.2.2.2.2.2.1,(n.2.2.2.2.2.2.1.1,n.2.2.2.2.2.2.1.2.1,(),(),()),n.2.2.2.2.2.2.2.1,n.2.2.2.2.2.2.2.2.1,())).bind fun B=>
 bif B.1.2.2.2.2.2.2.1 then
(a8 B.2.2.2.2.2.2.2.2.1.length (1:Int)).bind fun p=>
(B.2.2.2.2.2.2.2.2.1[p]?).bind fun q=>
(f179 ((q,()),())).bind fun r=>
(cy 40 B.2.2.2.2.1 ([(bB.mk r.2.1.1 r.2.1.2.1 r.2.1.2.2.1)]:List bB)).bind fun s=>
 some (.inl (((),(),(),B.1.2.2.2.1,(IntKind.i64.wrap (B.1.2.2.2.2.1+(1:Int))),()),B.2.1,B.2.2.1,(B.2.2.2.1.1,B.2.2.2.1.2.1,(),(),()),s,B.2.2.2.2.2.1,(B.2.2.2.2.2.2.1.1,B.2.2.2.2.2.2.1.2.1,(),(),()),B.2.2.2.2.2.2.2.1,()))
else
 bif(decide (B.1.2.2.2.2.1>(0:Int))) then
 some (.inr (.inl (((),([]:F),false,()),B.2.2.2.2.1,B.2.2.2.2.2.1,(B.2.2.2.2.2.2.1.1,B.2.2.2.2.2.2.1.2.1,(),(),()),())))
else
 some (.inl (((),(),(),B.1.2.2.2.1,(IntKind.i64.wrap (B.1.2.2.2.2.1+(1:Int))),()),B.2.1,B.2.2.1,(B.2.2.2.1.1,B.2.2.2.1.2.1,(),(),()),B.2.2.2.2.1,B.2.2.2.2.2.1,(B.2.2.2.2.2.2.1.1,B.2.2.2.2.2.2.1.2.1,(),(),()),B.2.2.2.2.2.2.2.1,()))
else
 some (.inr (.inr (((),(),()),y.2.1,y.2.2.1,(y.2.2.2.1.1,y.2.2.2.1.2.1,(),(),()),y.2.2.2.2.1,y.2.2.2.2.2.1,(y.2.2.2.2.2.2.1.1,y.2.2.2.2.2.2.1.2.1,(),(),()),())))
else
 some (.inr (.inr (((),(),()),y.2.1,y.2.2.1,(y.2.2.2.1.1,y.2.2.2.1.2.1,(),(),()),y.2.2.2.2.1,y.2.2.2.2.2.1,(y.2.2.2.2.2.2.1.1,y.2.2.2.2.2.2.1.2.1,(),(),()),())))
noncomputable def k1:ul.J->Option (aD x0):=bv hq
theorem aeI:aY U (an (codeOf Tryz.f126) 1 250) (a' ul x0 k1):=bT vO (by kernel_rfl) (ba _2 (ba _1 (ba _k ag))) fun y=>by kernel_rfl
abbrev i126:Shape:=⟨[ao 0],[],118⟩
abbrev Im:Shape:=⟨[aM 2 2 0,ao 3,au 4],[bx 5000130 .need 2 2,bx 5000131 .entry 2 3,aL 2 [ai,ai,.own 5000130,.own 5000131]],118⟩
noncomputable def f126(a:i126.J):Option Im.J:=
(f73 ((a.1.1,(10:Int),(IntKind.i64.wrap ((a.1.1.length:Int)+(1:Int))),()),())).bind fun b=>
(k1 (((),(),(),a.1.1,(0:Int),()),([]:List bB),([]:List az),(([]:F),([]:F),(),(),()),([]:List bB),([]:List az),(([]:F),([]:F),(),(),()),b.2.1,())).bind fun c=>
(match c with
|.inl d=>
 some (((),d.1.2.1,d.1.2.2.1,()),d.2.1,d.2.2.1,(d.2.2.2.1.1,d.2.2.2.1.2.1,(),(),()),())
|.inr e=>
 some (((),([]:F),false,()),e.2.2.2.2.1,e.2.2.2.2.2.1,(e.2.2.2.2.2.2.1.1,e.2.2.2.2.2.2.1.2.1,(),(),()),()))
noncomputable def VN:aH:=aP aj Tryz.f126 i126 Im [] f126
theorem ak1:aG U 126 VN:=aS vO Tryz.func126 (by kernel_rfl) (ba aeI ag) (fun y=>by kernel_rfl) fun a=>by kernel_rfl
noncomputable abbrev anp:bi:=[(90,Cr),(180,Vg),(181,I5)]
theorem Wg:a_ U (bg aj anp):=bf ⟨Jm,akJ,Sj,⟨⟩⟩
abbrev y5:Shape:=⟨[ao 0,bc 4 3000256,ao 5],[bb 3000256 .entry 4 0],41⟩
abbrev FM:List aO:=[(.ret,⟨[bc 2 3000128,au 3],[bb 3000128 .entry 2 0],41⟩),(.exit 0,⟨[ao 0,bc 4 3000256],[bb 3000256 .entry 4 0],41⟩)]
noncomputable def p'(y:y5.J):bR y5 FM:=
 bif(!(y.1.2.2.1==([]:F))) then
 bif(decide ((y.2.1.length:Int)<=(16:Int))) then
(f180 ((y.1.2.2.1,()),())).bind fun a=>
 bif(!a.1.2.2.1) then
 some (.inr (.inl (((),false,()),y.2.1,())))
else
(cy 48 y.2.1 ([(az.mk a.2.1.1 a.2.1.2.1 a.2.1.2.2.1 a.2.1.2.2.2.1)]:List az)).bind fun b=>
 some (.inl ((y.1.1,(),a.1.2.1,()),b,()))
else
 some (.inr (.inr ((y.1.1,(),()),y.2.1,())))
else
 some (.inr (.inr ((y.1.1,(),()),y.2.1,())))
noncomputable def uE:y5.J->Option (aD FM):=bv p'
theorem agF:aY U (an (codeOf Tryz.f127) 1 60) (a' y5 FM uE):=bT Wg (by kernel_rfl) ag fun y=>by kernel_rfl
abbrev i127:Shape:=⟨[ao 0],[],41⟩
abbrev TQ:Shape:=⟨[bc 2 3000128,au 3],[bb 3000128 .entry 2 0],41⟩
noncomputable def f127(a:i127.J):Option TQ.J:=
(uE ((a.1.1,(),a.1.1,()),([]:List az),())).bind fun b=>
(match b with
|.inl c=>
 some (((),c.1.2.1,()),c.2.1,())
|.inr d=>
(f90 ((d.2.1,()),())).bind fun e=>
 bif e.1.1 then
(f181 ((d.2.1,()),())).bind fun f=>
 some (((),(f.1.1==d.1.1),()),d.2.1,())
else
 some (((),false,()),d.2.1,()))
noncomputable def VM:aH:=aP aj Tryz.f127 i127 TQ [] f127
theorem z127:aG U 127 VM:=aS Wg Tryz.func127 (by kernel_rfl) (ba agF ag) (fun y=>by kernel_rfl) fun a=>by kernel_rfl
theorem ait(s:F):∀(m:Nat) (r:F) (t:List az),r.length<=m->m<=2000000->t.length<=17->o' 2000000 t->
  ∃ns:List az,ns.length<=17/\o' 2000000 ns/\(uE ((s,((),(r,()))),(t,()))=some (.inr ((s,((),())),(ns,())))\/uE ((s,((),(r,()))),(t,()))=some (.inl (((),(false,())),(ns,())))):=by
 intro m;induction m with
 |zero=>
  intro r t hs _ aq ha;have:r=[]:=List.length_eq_zero_iff.1 (by omega)
  subst this;exact⟨t,aq,ha,.inl (ca rfl)⟩
 |succ m ih=>
  intro r t hs hm aq ha;cases r with
  |nil=>exact⟨t,aq,ha,.inl (ca rfl)⟩
  |cons b r0=>
   have hne:((b::r0)==([]:F))=false:=rfl;generalize eA:b::r0=r at hs hne;by_cases wB:t.length<=16
   ·have d:decide (((t.length:Nat):Int)<=16)=true:=decide_eq_true (by omega)
    obtain⟨ez,e,h1,h2⟩:=Oc r (by omega)
    cases hr:mN r with
    |none=>
     rw[hr] at h1;refine⟨t,aq,ha,.inr (ca ?_)⟩;simp only[p',hne,Bool.not_false,cond_true,d,h1,Option.bind_some,Option.isSome_none]
    |some q=>
     have ar:=h2 q hr;subst ar;rw[hr] at h1;obtain⟨ee,gB,wQ⟩:=PO hr;have fc:cy 48 t ([(az.mk e.path e.kind e.mode e.text)]:List az)=some (t++[e]):=d' (by decide) (by unfold ap;simp;omega)
     have st:p' ((s,((),(r,()))),(t,()))=some (.inl ((s,((),(ez,()))),(t++[e],()))):=by
      simp only[p',hne,Bool.not_false,cond_true,d,h1,Option.bind_some,Option.isSome_some,Bool.not_true,cond_false,fc]
     obtain⟨ns,g1,g2,g3⟩:=ih ez (t++[e]) (by omega) (by omega) (by simp;omega) (fun x hx=>by
      rcases List.mem_append.1 hx with hx|hx
      ·exact ha x hx
      ·rw[List.mem_singleton.1 hx];exact⟨by omega,by omega⟩)
     exact⟨ns,g1,g2,g3.imp (dz st).trans (dz st).trans⟩
   ·have d:decide (((t.length:Nat):Int)<=16)=false:=decide_eq_false (by omega)
    refine⟨t,aq,ha,.inl (ca ?_)⟩;simp only[p',hne,Bool.not_false,cond_true,d,cond_false]
theorem ais(s:F):∀(b' t:List az),(∀e,e∈b'->eL e=true)->t.length+b'.length<=16->(dd b').length<=2000000->
  uE ((s,((),(dd b',()))),(t,()))=some (.inr ((s,((),())),(t++b',()))):=by
 intro b';induction b' with
 |nil=>intro t _ _ _;rw[List.append_nil];exact ca rfl
 |cons e b' ih=>
  intro t h aq hl;have he:=h e List.mem_cons_self;have hr:=afS he (dd b');have hE:dd (e::b')=ea e++dd b':=by unfold dd;rw[List.flatMap_cons]
  rw[hE] at hl ⊢;have hlen:=(PO hr).2.2;have hne:((ea e++dd b')==([]:F))=false:=by
   cases hx:ea e++dd b' with
   |nil=>rw[hx] at hlen;simp at hlen
   |cons b r=>rfl
  obtain⟨r,cz,h1,h2⟩:=Oc (ea e++dd b') hl;have ar:=h2 _ hr;simp only[Prod.mk.injEq] at ar;obtain⟨rfl,rfl⟩:=ar;rw[hr] at h1;have d:decide (((t.length:Nat):Int)<=16)=true:=decide_eq_true (by omega)
  have fc:cy 48 t ([(az.mk e.path e.kind e.mode e.text)]:List az)=some (t++[e]):=d' (by decide) (by unfold ap;simp;simp at aq;omega)
  have st:p' ((s,((),(ea e++dd b',()))),(t,()))=some (.inl ((s,((),(dd b',()))),(t++[e],()))):=by
   simp only[p',hne,Bool.not_false,cond_true,d,h1,Option.bind_some,Option.isSome_some,Bool.not_true,cond_false,fc]
  have:=ih (t++[e]) (fun x hx=>h x (List.mem_cons_of_mem _ hx)) (by simp at aq ⊢;omega) (by omega)
  rw[List.append_assoc] at this;exact(dz st).trans this
theorem Qj{t:List az}(hl:t.length<=17)(h:o' 2000000 t):io t:=⟨by show t.length<=2097152;omega,fun e he=>by have:=h e he;exact⟨by show e.path.length<=2097152;omega,by show e.text.length<=2097152;omega⟩⟩
theorem Zz(s:F)(hs:s.length<=2000000):∃(ok:Bool) (t:List az),f127 ((s,()),())=some (((),(ok,())),(t,()))/\t.length<=17/\o' 2000000 t:=by
 obtain⟨ns,g1,g2,g3⟩:=ait s s.length s [] (Nat.le_refl _) hs (by decide) (fun x hx=>by cases hx)
 rcases g3 with g3|g3
 ·have hb:=Qj g1 g2;have aq:=xZ ((ns,()),()) hb;have aq:f90 ((ns,()),())=some ((dL ns,()),()):=aq;cases hk:dL ns with
  |false=>
   rw[hk] at aq;exact⟨false,ns,by simp only[f127,g3,Option.bind_some,aq,cond_false],g1,g2⟩
  |true=>
   rw[hk] at aq;have hl:=Ds ns (rF hk) hb (jp hk);exact⟨_,ns,by simp only[f127,g3,Option.bind_some,aq,cond_true,hl];rfl,g1,g2⟩
 ·exact⟨false,ns,by simp only[f127,g3,Option.bind_some],g1,g2⟩
theorem Zy(t:List az)(h:dL t=true)(hs:(dd t).length<=2000000)(hb:io t):
  f127 ((dd t,()),())=some (((),(true,())),(t,())):=by
 have g1:=ais (dd t) t [] (t_ h) (by have:=jp h;simpa using this) hs
 have aq:=xZ ((t,()),()) hb;have aq:f90 ((t,()),())=some ((dL t,()),()):=aq;rw[h] at aq;have hl:=Ds t (rF h) hb (jp h);simp only[f127,g1,List.nil_append,Option.bind_some,aq,cond_true,hl,beq_self_eq_true]
theorem acS{n:bB}(h:du n=true):b7 32 (cH n):=by
 obtain⟨h1,h2⟩:=xb h;have hs:b7 32 (dE n.kind):=by unfold dE;cases n.kind==1<;>cases n.kind==2<;>cases n.kind==3<;>exact b7.lit (by decide)
 refine((Sv h1).cT hs).cT ?_
 rcases h2 with⟨_,h2⟩|⟨_,h2⟩
 ·rw[h2];exact b7.nil _
 ·exact Sn h2
abbrev hU(rest:F)(i:Int)(ns:List bB)(bE vs:F)(lines:List F):ul.J:=(((),((),((),(rest,(i,()))))),(([]:List bB),(([]:List az),((([]:F),(([]:F),((),((),())))),(ns,(([]:List az),((bE,(vs,((),((),())))),(lines,()))))))))
abbrev px(r:F)(ok:Bool)(ns:List bB)(bE vs:F):Im.J:=(((),(r,(ok,()))),(ns,(([]:List az),((bE,(vs,((),((),())))),()))))
abbrev Ly(ns:List bB)(bE vs:F):aD x0:=.inr (((),((),())),(([]:List bB),(([]:List az),((([]:F),(([]:F),((),((),())))),(ns,(([]:List az),((bE,(vs,((),((),())))),())))))))
abbrev py(k:Nat)(r:F)(ns:List bB)(bE vs:F):Prop:=r.length<=k/\ns.length<=9/\s' k ns/\bE.length<=k/\vs.length<=k
theorem aiq(K:Nat)(bM:K<=2000000)(lines:List F)(dY:∀x,x∈lines->x.length<=K):∀(k i:Nat) (rest:F) (ns:List bB) (bE vs:F),k+i=9->rest.length<=K->ns.length<=i->s' K ns->bE.length<=K->vs.length<=K->
  ∃(r:F) (ok:Bool) (kx:List bB) (ky ck:F),py K r kx ky ck/\(k1 (hU rest (i:Int) ns bE vs lines)=some (.inl (px r ok kx ky ck))\/k1 (hU rest (i:Int) ns bE vs lines)=some (Ly kx ky ck)):=by
 intro k;induction k with
 |zero=>
  intro i rest ns bE vs hi hr hn ha h1 h2;refine⟨[],false,ns,bE,vs,⟨Nat.zero_le _,by omega,ha,h1,h2⟩,.inr (ca ?_)⟩
  have d:decide ((i:Int)<=8)=false:=decide_eq_false (by omega)
  simp only[hq,d,cond_false];cases decide ((i:Int)<(lines.length:Int))<;>rfl
 |succ k ih=>
  intro i rest ns bE vs hi hr hn ha h1 h2;have d:decide ((i:Int)<=8)=true:=decide_eq_true (by omega)
  by_cases hlt:i<lines.length
  ·have hx:lines[i]? =some lines[i]:=List.getElem?_eq_getElem hlt;have hxl:=dY _ (List.getElem_mem hlt);generalize lines[i]=x at hx hxl;have hin:a8 lines.length (i:Int)=some i:=fq hlt;have hw1:IntKind.i64.wrap (((x.length:Nat):Int)+1)=((x.length+1:Nat):Int):=bS (by unfold ap;omega)
   have kz:IntKind.i64.wrap (((i:Nat):Int)+1)=((i+1:Nat):Int):=bS (by unfold ap;omega)
   have c2:=lC 32 x (by omega) 2
   have c2:f73 ((x,((32:Int),((2:Int),()))),())=_:=c2;have hm:=pC 32 2 x;have hp:=MH 32 2 x;generalize splitN 32 2 x=ws at c2 hm hp;obtain⟨O,more,rfl⟩:∃O more,ws=O::more:=by
    cases ws with
    |nil=>exact absurd hp (by decide)
    |cons a b=>exact⟨a,b,rfl⟩
   have g':a8 (O::more).length (0:Int)=some 0:=JI (by simp)
   have dw:(O::more)[0]? =some O:=rfl;by_cases hlen:rest.length<x.length+1
   ·have jn:decide (((rest.length:Nat):Int)<((x.length+1:Nat):Int))=true:=decide_eq_true (by omega)
    refine⟨[],false,ns,bE,vs,⟨Nat.zero_le _,by omega,ha,h1,h2⟩,.inl (ca ?_)⟩
    simp only[hq,b8 hlt,d,cond_true,hin,Option.bind_some,hx,c2,hw1,jn]
   ·have jn:decide (((rest.length:Nat):Int)<((x.length+1:Nat):Int))=false:=decide_eq_false (by omega)
    have hs:br rest ((x.length+1:Nat):Int) ((rest.length:Nat):Int)=some (rest.drop (x.length+1)):=gu (by omega)
    have mU:(rest.drop (x.length+1)).length<=K:=by simp;omega
    generalize rest.drop (x.length+1)=r1 at hs mU;have go:∀(v6:List bB) (B2 vS:F),v6.length<=i+1->s' K v6->B2.length<=K->vS.length<=K->hq (hU rest (i:Int) ns bE vs lines)=some (.inl (hU r1 ((i+1:Nat):Int) v6 B2 vS lines))->
      ∃(r:F) (ok:Bool) (kx:List bB) (ky ck:F),py K r kx ky ck/\(k1 (hU rest (i:Int) ns bE vs lines)=some (.inl (px r ok kx ky ck))\/k1 (hU rest (i:Int) ns bE vs lines)=some (Ly kx ky ck)):=by
     intro v6 B2 vS q1 q2 cU jm ra;obtain⟨r,ok,kx,ky,ck,b,e⟩:=ih (i+1) r1 v6 B2 vS (by omega) mU q1 q2 cU jm
     exact⟨r,ok,kx,ky,ck,b,e.imp (dz ra).trans (dz ra).trans⟩
    have stop:∀(r:F) (ok:Bool),r.length<=K->hq (hU rest (i:Int) ns bE vs lines)=some (.inr (.inl (px r ok ns bE vs)))->
      ∃(r:F) (ok:Bool) (kx:List bB) (ky ck:F),py K r kx ky ck/\(k1 (hU rest (i:Int) ns bE vs lines)=some (.inl (px r ok kx ky ck))\/k1 (hU rest (i:Int) ns bE vs lines)=some (Ly kx ky ck)):=
     fun r ok q1 q2=>⟨r,ok,ns,bE,vs,⟨q1,by omega,ha,h1,h2⟩,.inl (ca q2)⟩
    match i,hn,hi,hin,kz,hlt,hx,d,go,stop,ih with
    |0,hn,hi,hin,kz,hlt,hx,d,go,stop,ih=>
     refine go ns bE vs (by omega) ha h1 h2 ?_
     have t1:((((0:Nat):Int))==1)=false:=rfl;have t2:decide ((((0:Nat):Int))>1)=false:=rfl;have t3:decide ((((0:Nat):Int))>0)=false:=rfl;simp only[hq,b8 hlt,d,cond_true,hin,Option.bind_some,hx,c2,hw1,jn,cond_false,hs,kW,t1,lB,t2,nh,t3,kz]
    |1,hn,hi,hin,kz,hlt,hx,d,go,stop,ih=>
     have t1:((((1:Nat):Int))==1)=true:=rfl;have t2:decide ((((1:Nat):Int))>1)=false:=rfl;have t3:decide ((((1:Nat):Int))>0)=true:=rfl;cases hc:(O==([112,97,99,107]:F))&&(((O::more).length:Int)==3) with
     |true=>
      rw[Bool.and_eq_true] at hc;obtain⟨aN,w2,rfl⟩:∃aN w2,more=[aN,w2]:=by
       have:more.length=2:=by have:=eq_of_beq hc.2;simp at this;omega
       match more,this with
       |[a,b],_=>exact⟨a,b,rfl⟩
      refine go ns aN w2 (by omega) ha (by have:=hm aN (by simp);omega) (by have:=hm w2 (by simp);omega) ?_
      have lx:a8 ([O,aN,w2]:List F).length (1:Int)=some 1:=rfl;have pu:a8 ([O,aN,w2]:List F).length (2:Int)=some 2:=rfl;have eD:([O,aN,w2]:List F)[1]? =some aN:=rfl;have fh:([O,aN,w2]:List F)[2]? =some w2:=rfl;simp only[hq,b8 hlt,d,cond_true,hin,Option.bind_some,hx,c2,hw1,jn,cond_false,hs,kW,t1,g',dw,hc.1,hc.2,lx,pu,eD,fh,kz]
     |false=>
      refine stop [] false (Nat.zero_le _) ?_
      simp only[hq,b8 hlt,d,cond_true,hin,Option.bind_some,hx,c2,hw1,jn,cond_false,hs,kW,t1,g',dw];cases bk:O==([112,97,99,107]:F) with
      |false=>simp only[cond_false,Option.bind_some,lB,t2,nh,t3,cond_true]
      |true=>
       rw[bk,Bool.true_and] at hc;simp only[cond_true,hc,cond_false,Option.bind_some,lB,t2,nh,t3]
    |j+2,hn,hi,hin,kz,hlt,hx,d,go,stop,ih=>
     have t1:((((j+2:Nat):Int))==1)=false:=by rw[beq_eq_false_iff_ne];omega
     have t2:decide ((((j+2:Nat):Int))>1)=true:=decide_eq_true (by omega)
     have t3:decide ((((j+2:Nat):Int))>0)=true:=decide_eq_true (by omega)
     cases hxe:x==([]:F) with
     |true=>
      refine stop r1 true mU ?_
      simp only[hq,b8 hlt,d,cond_true,hin,Option.bind_some,hx,c2,hw1,jn,cond_false,hs,kW,t1,lB,t2,hxe]
     |false=>
      cases hc:(O==([110,101,101,100]:F))&&(((O::more).length:Int)==2) with
      |true=>
       rw[Bool.and_eq_true] at hc;obtain⟨aN,rfl⟩:∃aN,more=[aN]:=by
        have:more.length=1:=by have:=eq_of_beq hc.2;simp at this;omega
        match more,this with
        |[a],_=>exact⟨a,rfl⟩
       have atW:=hm aN (by simp)
       obtain⟨n,ok,e1,e2,bp⟩:=_G aN (by omega)
       have fc:cy 40 ns ([(bB.mk n.name n.kind n.aV)]:List bB)=some (ns++[n]):=d' (by decide) (by unfold ap;simp;omega)
       refine go (ns++[n]) bE vs (by simp;omega) (fun z hz=>by
        rcases List.mem_append.1 hz with hz|hz
        ·exact ha z hz
        ·rw[List.mem_singleton.1 hz];exact⟨by omega,by omega⟩) h1 h2 ?_
       have lx:a8 ([O,aN]:List F).length (1:Int)=some 1:=rfl;have eD:([O,aN]:List F)[1]? =some aN:=rfl;simp only[hq,b8 hlt,d,cond_true,hin,Option.bind_some,hx,c2,hw1,jn,cond_false,hs,kW,t1,lB,t2,hxe,nh,g',dw,hc.1,hc.2,lx,eD,e1,fc,kz]
      |false=>
       refine stop [] false (Nat.zero_le _) ?_
       simp only[hq,b8 hlt,d,cond_true,hin,Option.bind_some,hx,c2,hw1,jn,cond_false,hs,kW,t1,lB,t2,hxe,nh,g',dw];cases bk:O==([110,101,101,100]:F) with
       |false=>simp only[cond_false,Option.bind_some,t3,cond_true]
       |true=>
        rw[bk,Bool.true_and] at hc;simp only[cond_true,hc,cond_false,Option.bind_some,t3]
  ·have asW:decide ((i:Int)<(lines.length:Int))=false:=decide_eq_false (by omega)
   refine⟨[],false,ns,bE,vs,⟨Nat.zero_le _,by omega,ha,h1,h2⟩,.inr (ca ?_)⟩
   simp only[hq,asW,cond_false]
theorem Z9(s:F)(hs:s.length<=2000000):∃(r:F) (ok:Bool) (ns:List bB) (bE vs:F),f126 ((s,()),())=some (px r ok ns bE vs)/\py s.length r ns bE vs:=by
 have hw:IntKind.i64.wrap (((s.length:Nat):Int)+1)=((s.length+1:Nat):Int):=bS (by unfold ap;omega)
 have c1:=lC 10 s (by omega) (s.length+1)
 have c1:f73 ((s,((10:Int),(((s.length+1:Nat):Int),()))),())=_:=c1;obtain⟨r,ok,ns,bE,vs,hb,e⟩:=aiq s.length hs (splitN 10 (s.length+1) s) (pC 10 _ s) 9 0 s [] [] [] rfl (Nat.le_refl _) (Nat.zero_le _) (fun x hx=>by cases hx) (Nat.zero_le _) (Nat.zero_le _)
 rcases e with e|e
 ·have e:k1 (hU s (0:Int) [] [] [] (splitN 10 (s.length+1) s))=_:=e;refine⟨r,ok,ns,bE,vs,?_,hb⟩;simp only[f126,hw,c1,Option.bind_some,e]
 ·have e:k1 (hU s (0:Int) [] [] [] (splitN 10 (s.length+1) s))=_:=e;refine⟨[],false,ns,bE,vs,?_,⟨Nat.zero_le _,hb.2⟩⟩;simp only[f126,hw,c1,Option.bind_some,e]
noncomputable abbrev ary:bi:=[(50,KK),(123,I9),(126,VN),(127,VM)]
theorem KP:a_ U (bg aj ary):=bf ⟨Wp,Sm,ak1,z127,⟨⟩⟩
abbrev QB:Shape:=⟨[ao 0,aM 2 2 0,aM 4 4 0,ao 5,au 6],[bx 5000130 .need 2 2,bx 5000131 .entry 2 3,aL 2 [ai,ai,.own 5000130,.own 5000131],bx 5000258 .need 4 2,bx 5000259 .entry 4 3,aL 4 [ai,ai,.own 5000258,.own 5000259]],45⟩
abbrev Qs:List aO:=[(.norm,⟨[ao 0,aM 2 2 0,aM 4 4 0,ao 5,au 21],[bx 5000130 .need 2 2,bx 5000131 .entry 2 3,aL 2 [ai,ai,.own 5000130,.own 5000131],bx 5000258 .need 4 2,bx 5000259 .entry 4 3,aL 4 [ai,ai,.own 5000258,.own 5000259]],45⟩)]
noncomputable def nE(y:QB.J):Option (aD Qs):=
 bif(!(!y.1.2.2.2.2.1)) then
 some ((y.1.1,(),(),y.1.2.2.2.1,(decide ((y.1.1.length:Int)>(4000:Int))),()),y.2.1,y.2.2.1,(y.2.2.2.1.1,y.2.2.2.1.2.1,(),(),()),y.2.2.2.2.1,y.2.2.2.2.2.1,(y.2.2.2.2.2.2.1.1,y.2.2.2.2.2.2.1.2.1,(),(),()),())
else
 some ((y.1.1,(),(),y.1.2.2.2.1,true,()),y.2.1,y.2.2.1,(y.2.2.2.1.1,y.2.2.2.1.2.1,(),(),()),y.2.2.2.2.1,y.2.2.2.2.2.1,(y.2.2.2.2.2.2.1.1,y.2.2.2.2.2.2.1.2.1,(),(),()),())
theorem ah3:aY U (an (codeOf Tryz.f76) 1 28) (a' QB Qs nE):=cW KP (by kernel_rfl) ag fun y=>by kernel_rfl
abbrev PA:Shape:=⟨[ao 0,aM 2 2 0,aM 4 4 0,au 8],[bx 5000130 .need 2 2,bx 5000131 .entry 2 3,aL 2 [ai,ai,.own 5000130,.own 5000131],bx 5000258 .need 4 2,bx 5000259 .entry 4 3,aL 4 [ai,ai,.own 5000258,.own 5000259]],45⟩
abbrev Ph:List aO:=[(.norm,⟨[aM 2 2 0,aM 4 4 0,au 42],[bx 5000130 .need 2 2,bx 5000131 .entry 2 3,aL 2 [ai,ai,.own 5000130,.own 5000131],bx 5000258 .need 4 2,bx 5000259 .entry 4 3,aL 4 [ai,ai,.own 5000258,.own 5000259]],45⟩)]
noncomputable def p4(y:PA.J):Option (aD Ph):=
 bif(!(!y.1.2.2.2.1)) then
(f50 (((y.2.2.2.2.2.2.1.1,y.2.2.2.2.2.2.1.2.1,y.2.2.2.2.1,y.2.2.2.2.2.1,()),()),())).bind fun a=>
 bif(!(!a.1.1)) then
(f123 (((y.2.2.2.2.2.2.1.1,y.2.2.2.2.2.2.1.2.1,y.2.2.2.2.1,y.2.2.2.2.2.1,()),()),())).bind fun b=>
 some (((),(),(!(b.1.1==y.1.1)),()),y.2.1,y.2.2.1,(y.2.2.2.1.1,y.2.2.2.1.2.1,(),(),()),y.2.2.2.2.1,y.2.2.2.2.2.1,(y.2.2.2.2.2.2.1.1,y.2.2.2.2.2.2.1.2.1,(),(),()),())
else
 some (((),(),true,()),y.2.1,y.2.2.1,(y.2.2.2.1.1,y.2.2.2.1.2.1,(),(),()),y.2.2.2.2.1,y.2.2.2.2.2.1,(y.2.2.2.2.2.2.1.1,y.2.2.2.2.2.2.1.2.1,(),(),()),())
else
 some (((),(),true,()),y.2.1,y.2.2.1,(y.2.2.2.1.1,y.2.2.2.1.2.1,(),(),()),y.2.2.2.2.1,y.2.2.2.2.2.1,(y.2.2.2.2.2.2.1.1,y.2.2.2.2.2.2.1.2.1,(),(),()),())
theorem afW:aY U (an (codeOf Tryz.f76) 1 252) (a' PA Ph p4):=cW KP (by kernel_rfl) ag fun y=>by kernel_rfl
abbrev i76:Shape:=⟨[ao 0],[],45⟩
abbrev vW:Shape:=⟨[aM 2 2 0,au 3],[bx 5000130 .need 2 2,bx 5000131 .entry 2 3,aL 2 [ai,ai,.own 5000130,.own 5000131]],45⟩
noncomputable def f76(a:i76.J):Option vW.J:=
(f126 ((a.1.1,()),())).bind fun b=>
(nE ((a.1.1,(),(),b.1.2.1,b.1.2.2.1,()),([]:List bB),([]:List az),(([]:F),([]:F),(),(),()),b.2.1,b.2.2.1,(b.2.2.2.1.1,b.2.2.2.1.2.1,(),(),()),())).bind fun c=>
 bif c.1.2.2.2.2.1 then
 some (((),false,()),([]:List bB),([]:List az),(([]:F),([]:F),(),(),()),())
else
(f127 ((c.1.2.2.2.1,()),())).bind fun d=>
(p4 ((c.1.1,(),(),d.1.2.1,()),c.2.1,c.2.2.1,(c.2.2.2.1.1,c.2.2.2.1.2.1,(),(),()),c.2.2.2.2.1,d.2.1,(c.2.2.2.2.2.2.1.1,c.2.2.2.2.2.2.1.2.1,(),(),()),())).bind fun e=>
 bif e.1.2.2.1 then
 some (((),false,()),([]:List bB),([]:List az),(([]:F),([]:F),(),(),()),())
else
 some (((),true,()),e.2.2.2.2.1,e.2.2.2.2.2.1,(e.2.2.2.2.2.2.1.1,e.2.2.2.2.2.2.1.2.1,(),(),()),())
noncomputable def X9:aH:=aP aj Tryz.f76 i76 vW [] f76
theorem z76:aG U 76 X9:=aS KP Tryz.func76 (by kernel_rfl) (ba ah3 (ba afW ag)) (fun y=>by kernel_rfl) fun a=>by kernel_rfl
def ed(n:bB):F:=fC++32::cH n
theorem aiA{n:bB}(h:du n=true):b7 10 (ed n):=(b7.lit (by decide)).cT fun z hz=>by
 rcases List.mem_cons.1 hz with rfl|hz
 ·decide
 ·exact PP h z hz
theorem OP(n:bB)(r:F):cG n++r=ed n++10::r:=by unfold cG ed fC;simp
theorem aip:∀(ns acc:List bB) (pre more:List F) (L bE vs:F),(∀n,n∈ns->du n=true)->2<=pre.length->acc.length<=pre.length->pre.length+ns.length<=8->(ns.flatMap cG++10::L).length<=2000000->
  k1 (hU (ns.flatMap cG++10::L) (pre.length:Int) acc bE vs (pre++(ns.map ed++[]::more)))=some (.inl (px L true (acc++ns) bE vs)):=by
 intro ns;induction ns with
 |nil=>
  intro acc pre more L bE vs _ hp _ hi hs;have hlt:pre.length<(pre++(([]:List bB).map ed++[]::more)).length:=by simp
  have hx:(pre++(([]:List bB).map ed++[]::more))[pre.length]? =some []:=by rw[List.getElem?_append_right (Nat.le_refl _)];simp
  have hin:=fq hlt;have d:decide ((pre.length:Int)<=8)=true:=decide_eq_true (by simp at hi;omega)
  have c2:=lC 32 [] (by simp) 2
  have c2:f73 ((([]:F),((32:Int),((2:Int),()))),())=some (((),()),([[]],())):=c2;have hw1:IntKind.i64.wrap (((([]:F).length:Nat):Int)+1)=((1:Nat):Int):=by decide
  have jn:decide (((((10:UInt8)::L).length:Nat):Int)<((1:Nat):Int))=false:=decide_eq_false (by simp only[List.length_cons];omega)
  have kB:br ((10:UInt8)::L) ((1:Nat):Int) ((((10:UInt8)::L).length:Nat):Int)=some L:=gu (xs:=(10:UInt8)::L) (by simp)
  have t1:((pre.length:Int)==1)=false:=by rw[beq_eq_false_iff_ne];omega
  have t2:decide ((pre.length:Int)>1)=true:=decide_eq_true (by omega)
  have hxe:(([]:F)==([]:F))=true:=rfl;rw[List.append_nil];refine ca ?_
  show hq (hU (10::L) (pre.length:Int) acc bE vs _)=_;simp only[hq,b8 hlt,d,cond_true,hin,Option.bind_some,hx,c2,hw1,jn,cond_false,kB,kW,t1,lB,t2,hxe]
 |cons n ns ih=>
  intro acc pre more L bE vs h hp ha hi hs;have hk:=h n List.mem_cons_self;have hE:(n::ns).flatMap cG++10::L=ed n++10::(ns.flatMap cG++10::L):=by rw[List.flatMap_cons,List.append_assoc,OP]
  rw[hE] at hs ⊢;have hR:pre++((n::ns).map ed++[]::more)=(pre++[ed n])++(ns.map ed++[]::more):=by simp
  have hlt:pre.length<(pre++((n::ns).map ed++[]::more)).length:=by simp
  have hx:(pre++((n::ns).map ed++[]::more))[pre.length]? =some (ed n):=by rw[List.getElem?_append_right (Nat.le_refl _)];simp
  have hin:=fq hlt;have aun:(ed n).length=fC.length+1+(cH n).length:=by unfold ed;simp;omega
  simp only[List.length_append,List.length_cons] at hs hi;have d:decide ((pre.length:Int)<=8)=true:=decide_eq_true (by omega)
  have qG:splitN 32 2 (ed n)=[fC,cH n]:=by
   have hn:b7 32 fC:=b7.lit (by decide)
   unfold ed;rw[MI hn,Nn (acS hk)]
  have c2:=lC 32 (ed n) (by omega) 2
  rw[qG] at c2;have c2:f73 ((ed n,((32:Int),((2:Int),()))),())=some (((),()),([fC,cH n],())):=c2;have hw1:IntKind.i64.wrap ((((ed n).length:Nat):Int)+1)=(((ed n).length+1:Nat):Int):=bS (by unfold ap;omega)
  have kz:IntKind.i64.wrap (((pre.length:Nat):Int)+1)=((pre.length+1:Nat):Int):=bS (by unfold ap;omega)
  have jn:decide ((((ed n++10::(ns.flatMap cG++10::L)).length:Nat):Int)<(((ed n).length+1:Nat):Int))=false:=decide_eq_false (by simp;omega)
  have kB:br (ed n++10::(ns.flatMap cG++10::L)) (((ed n).length+1:Nat):Int) (((ed n++10::(ns.flatMap cG++10::L)).length:Nat):Int)=some (ns.flatMap cG++10::L):=by
   rw[gu (by simp only[List.length_append,List.length_cons];omega)]
   refine congrArg some ?_
   rw[show ed n++10::(ns.flatMap cG++10::L)=(ed n++[10])++(ns.flatMap cG++10::L) by simp,List.drop_left' (by simp)]
  have t1:((pre.length:Int)==1)=false:=by rw[beq_eq_false_iff_ne];omega
  have t2:decide ((pre.length:Int)>1)=true:=decide_eq_true (by omega)
  have hxe:(ed n==([]:F))=false:=rfl;have g':a8 ([fC,cH n]:List F).length (0:Int)=some 0:=rfl;have lx:a8 ([fC,cH n]:List F).length (1:Int)=some 1:=rfl;have dw:([fC,cH n]:List F)[0]? =some fC:=rfl;have eD:([fC,cH n]:List F)[1]? =some (cH n):=rfl;have q0:(fC==([110,101,101,100]:F))=true:=rfl;have q2:((([fC,cH n]:List F).length:Int)==2)=true:=rfl;obtain⟨ok,e1⟩:=_F hk (by omega)
  have fc:cy 40 acc ([(bB.mk n.name n.kind n.aV)]:List bB)=some (acc++[n]):=d' (by decide) (by unfold ap;simp;omega)
  have st:hq (hU (ed n++10::(ns.flatMap cG++10::L)) (pre.length:Int) acc bE vs (pre++((n::ns).map ed++[]::more)))=some (.inl (hU (ns.flatMap cG++10::L) ((pre.length+1:Nat):Int) (acc++[n]) bE vs (pre++((n::ns).map ed++[]::more)))):=by
   simp only[hq,b8 hlt,d,cond_true,hin,Option.bind_some,hx,c2,hw1,jn,cond_false,kB,kW,t1,lB,t2,hxe,nh,g',dw,q0,q2,lx,eD,e1,fc,kz]
  have:=ih (acc++[n]) (pre++[ed n]) more L bE vs (fun x hx=>h x (List.mem_cons_of_mem _ hx)) (by simp;omega) (by simp;omega) (by simp;omega) (by simp only[List.length_append,List.length_cons];omega)
  rw[<-hR,List.append_assoc] at this;have pe:(pre++[ed n]).length=pre.length+1:=by simp
  rw[pe] at this;exact(dz st).trans this
theorem aac(ns:List bB)(r:F)(h:∀n,n∈ns->du n=true):bJ 10 (ns.flatMap cG++10::r)=ns.map ed++[]::bJ 10 r:=by
 induction ns with
 |nil=>exact rz (a:=[]) (b7.nil 10)
 |cons n ns ih=>
  rw[List.flatMap_cons,List.append_assoc,OP,rz (aiA (h n List.mem_cons_self)),ih fun x hx=>h x (List.mem_cons_of_mem _ hx)]
  rfl
theorem afP(p:aW):b7 10 (eF p):=(b7.lit (by decide)).cT (Pv _)
theorem Z8(p:aW)(hk:cB p=true)(hs:(bA p).length<=2000000):f126 ((bA p,()),())=some (px (dd p.bQ) true p.bl p.name p.aV):=by
 have hw:IntKind.i64.wrap ((((bA p).length:Nat):Int)+1)=(((bA p).length+1:Nat):Int):=bS (by unfold ap;omega)
 have c1:=lC 10 (bA p) (by omega) ((bA p).length+1)
 obtain⟨h1,h2,h3,aw,_,cp⟩:=nj hk;have kA:splitN 10 ((bA p).length+1) (bA p)=eF p::dP p::(p.bl.map ed++[]::bJ 10 (dd p.bQ)):=by
  rw[xg 10 _ _ (by omega),uz,rz (afP p),uq,rz (OU hk),iA,aac _ _ h3]
 rw[kA] at c1;have c1:f73 ((bA p,((10:Int),((((bA p).length+1:Nat):Int),()))),())=_:=c1;generalize asP:p.bl.map ed++[]::bJ 10 (dd p.bQ)=e5 at c1;have CI:bA p=eF p++10::dj p:=uz p;have hB:dj p=dP p++10::iA p:=uq p;have ee:(bA p).length=(eF p).length+1+(dj p).length:=by rw[CI];simp;omega
 have gB:(dj p).length=(dP p).length+1+(iA p).length:=by rw[hB];simp;omega
 have hlt:∀i,i<2->decide (((i:Nat):Int)<(((eF p::dP p::e5).length:Nat):Int))=true:=fun i hi=>decide_eq_true (by simp;omega)
 have i0:a8 (eF p::dP p::e5).length (0:Int)=some 0:=JI (by simp)
 have i1:a8 (eF p::dP p::e5).length ((0+1:Nat):Int)=some 1:=JH (by simp)
 have e3:(eF p::dP p::e5)[0]? =some (eF p):=rfl;have dX:(eF p::dP p::e5)[1]? =some (dP p):=rfl;have fJ:hq (hU (bA p) (0:Int) [] [] [] (eF p::dP p::e5))=some (.inl (hU (dj p) ((0+1:Nat):Int) [] [] [] (eF p::dP p::e5))):=by
  have d:decide ((0:Int)<=8)=true:=rfl;have d0:decide ((0:Int)<(((eF p::dP p::e5).length:Nat):Int))=true:=hlt 0 (by decide)
  have c2:=lC 32 (eF p) (by omega) 2
  have c2:f73 ((eF p,((32:Int),((2:Int),()))),())=_:=c2;have hw1:IntKind.i64.wrap ((((eF p).length:Nat):Int)+1)=(((eF p).length+1:Nat):Int):=bS (by unfold ap;omega)
  have jn:decide ((((bA p).length:Nat):Int)<(((eF p).length+1:Nat):Int))=false:=decide_eq_false (by omega)
  have kB:br (bA p) (((eF p).length+1:Nat):Int) (((bA p).length:Nat):Int)=some (dj p):=by
   rw[gu (by omega)]
   refine congrArg some ?_
   rw[CI,show eF p++10::dj p=(eF p++[10])++dj p by simp,List.drop_left' (by simp)]
  have t1:((0:Int)==1)=false:=rfl;have t2:decide ((0:Int)>1)=false:=rfl;have t3:decide ((0:Int)>0)=false:=rfl;have kz:IntKind.i64.wrap ((0:Int)+1)=((0+1:Nat):Int):=by decide
  simp only[hq,d0,d,cond_true,i0,Option.bind_some,e3,c2,hw1,jn,cond_false,kB,kW,t1,lB,t2,nh,t3,kz]
 have s1:hq (hU (dj p) ((0+1:Nat):Int) [] [] [] (eF p::dP p::e5))=some (.inl (hU (iA p) ((([eF p,dP p]:List F).length:Nat):Int) [] p.name p.aV (eF p::dP p::e5))):=by
  have d:decide (((0+1:Nat):Int)<=8)=true:=rfl;have d0:=hlt 1 (by decide)
  have d0:decide (((0+1:Nat):Int)<(((eF p::dP p::e5).length:Nat):Int))=true:=d0;have qG:splitN 32 2 (dP p)=[ig,p.name,p.aV]:=by
   rw[xh 32 2 _ (by rw[C9 hk];exact Nat.le_refl 3),C9 hk]
  have c2:=lC 32 (dP p) (by omega) 2
  rw[qG] at c2;have c2:f73 ((dP p,((32:Int),((2:Int),()))),())=some (((),()),([ig,p.name,p.aV],())):=c2;have hw1:IntKind.i64.wrap ((((dP p).length:Nat):Int)+1)=(((dP p).length+1:Nat):Int):=bS (by unfold ap;omega)
  have jn:decide ((((dj p).length:Nat):Int)<(((dP p).length+1:Nat):Int))=false:=decide_eq_false (by omega)
  have kB:br (dj p) (((dP p).length+1:Nat):Int) (((dj p).length:Nat):Int)=some (iA p):=by
   rw[gu (by omega)]
   refine congrArg some ?_
   rw[hB,show dP p++10::iA p=(dP p++[10])++iA p by simp,List.drop_left' (by simp)]
  have t1:(((0+1:Nat):Int)==1)=true:=rfl;have g':a8 ([ig,p.name,p.aV]:List F).length (0:Int)=some 0:=rfl;have lx:a8 ([ig,p.name,p.aV]:List F).length (1:Int)=some 1:=rfl;have pu:a8 ([ig,p.name,p.aV]:List F).length (2:Int)=some 2:=rfl;have dw:([ig,p.name,p.aV]:List F)[0]? =some ig:=rfl;have eD:([ig,p.name,p.aV]:List F)[1]? =some p.name:=rfl;have fh:([ig,p.name,p.aV]:List F)[2]? =some p.aV:=rfl;have q0:(ig==([112,97,99,107]:F))=true:=rfl;have cU:((([ig,p.name,p.aV]:List F).length:Int)==3)=true:=rfl;have kz:IntKind.i64.wrap (((0+1:Nat):Int)+1)=((([eF p,dP p]:List F).length:Nat):Int):=by show IntKind.i64.wrap (((0+1:Nat):Int)+1)=((2:Nat):Int);decide
  simp only[hq,d0,d,cond_true,i1,Option.bind_some,dX,c2,hw1,jn,cond_false,kB,kW,t1,g',dw,q0,cU,lx,pu,eD,fh,kz]
 have s2:=aip p.bl [] [eF p,dP p] (bJ 10 (dd p.bQ)) (dd p.bQ) p.name p.aV h3 (Nat.le_refl 2) (Nat.zero_le _) (by simp;omega) (by show(iA p).length<=_;omega)
 rw[asP] at s2;have e:k1 (hU (bA p) (0:Int) [] [] [] (eF p::dP p::e5))=some (.inl (px (dd p.bQ) true p.bl p.name p.aV)):=(dz fJ).trans ((dz s1).trans s2);simp only[f126,hw,c1,Option.bind_some,e]
abbrev rj(p:aW):vW.J:=(((),(true,())),(p.bl,(p.bQ,((p.name,(p.aV,((),((),())))),()))))
abbrev Lt:vW.J:=(((),(false,())),(([]:List bB),(([]:List az),((([]:F),(([]:F),((),((),())))),()))))
theorem aiP{p q:aW}(h:rj p=rj q):p=q:=by
 obtain⟨a,b,c,d⟩:=p;obtain⟨cM,bI,fi,Y9⟩:=q;simp only[rj,Prod.mk.injEq] at h;obtain⟨_,rfl,rfl,⟨rfl,rfl,_⟩,_⟩:=h;rfl
theorem CW{p:aW}(hk:cB p=true)(hl:(bA p).length<=4000):f76 ((bA p,()),())=some (rj p):=by
 have hb:=Hb hk hl;obtain⟨h1,h2,h3,aw,_,cp⟩:=nj hk;obtain⟨q1,q2,cU,jm⟩:=xm p;have c1:=Z8 p hk (by omega)
 have d:decide (((bA p).length:Int)>4000)=false:=decide_eq_false (by omega)
 have c2:=Zy p.bQ cp (by omega) hb.2.2.2
 have c3:=Ef (((p.name,(p.aV,(p.bl,(p.bQ,())))),()),()) hb;have c3:f50 (((p.name,(p.aV,(p.bl,(p.bQ,())))),()),())=some ((cB p,()),()):=c3;rw[hk] at c3;have c5:=Fh p hb hk;simp only[f76,c1,Option.bind_some,nE,Bool.not_true,Bool.not_false,cond_true,d,cond_false,c2,p4,c3,c5,beq_self_eq_true]
theorem ZO(s:F)(hs:s.length<=2000000):f76 ((s,()),())=some Lt\/∃p:aW,f76 ((s,()),())=some (rj p)/\cB p=true/\bA p=s/\s.length<=4000:=by
 obtain⟨r,ok,ns,bE,vs,c1,aB,aA,bC,cL,fK⟩:=Z9 s hs;cases ok with
 |false=>
  refine .inl ?_
  simp only[f76,c1,Option.bind_some,nE,Bool.not_true,Bool.not_false,cond_true,cond_false]
 |true=>
  by_cases hl:s.length<=4000
  ·have d:decide ((s.length:Int)>4000)=false:=decide_eq_false (by omega)
   obtain⟨Jz,t,c2,ia,wW⟩:=Zz r (by omega)
   cases Jz with
   |false=>
    refine .inl ?_
    simp only[f76,c1,Option.bind_some,nE,Bool.not_true,Bool.not_false,cond_true,d,cond_false,c2,p4]
   |true=>
    have hb:kc ⟨bE,vs,ns,t⟩:=⟨by show bE.length<=2097152;omega,by show vs.length<=2097152;omega,⟨by show ns.length<=2097152;omega,fun n hn=>by have:=bC n hn;exact⟨by show n.name.length<=2097152;omega,by show n.aV.length<=2097152;omega⟩⟩,Qj ia wW⟩
    have c3:=Ef (((bE,(vs,(ns,(t,())))),()),()) hb;have c3:f50 (((bE,(vs,(ns,(t,())))),()),())=some ((cB ⟨bE,vs,ns,t⟩,()),()):=c3;cases hk:cB ⟨bE,vs,ns,t⟩ with
    |false=>
     rw[hk] at c3;refine .inl ?_
     simp only[f76,c1,Option.bind_some,nE,Bool.not_true,Bool.not_false,cond_true,d,cond_false,c2,p4,c3]
    |true=>
     rw[hk] at c3;have c5:=Fh ⟨bE,vs,ns,t⟩ hb hk;have c5:f123 (((bE,(vs,(ns,(t,())))),()),())=_:=c5;cases he:bA ⟨bE,vs,ns,t⟩==s with
     |false=>
      refine .inl ?_
      simp only[f76,c1,Option.bind_some,nE,Bool.not_true,Bool.not_false,cond_true,d,cond_false,c2,p4,c3,c5,he]
     |true=>
      refine .inr ⟨⟨bE,vs,ns,t⟩,?_,hk,eq_of_beq he,hl⟩;simp only[f76,c1,Option.bind_some,nE,Bool.not_true,Bool.not_false,cond_true,d,cond_false,c2,p4,c3,c5,he]
  ·have d:decide ((s.length:Int)>4000)=true:=decide_eq_true (by omega)
   refine .inl ?_
   simp only[f76,c1,Option.bind_some,nE,Bool.not_true,Bool.not_false,cond_true,d]
def as2(B:Option aW):vW.J:=match B with|some p=>rj p|none=>Lt
theorem ab4(s:F)(hs:s.length<=2000000):∃B:Option aW,f76 ((s,()),())=some (as2 B)/\nG B (Xj s):=by
 rcases ZO s hs with h|⟨p,h,h1,h2,h3⟩
 ·refine⟨none,h,fun p=>⟨fun hp=>(by cases hp),fun⟨q1,q2,cU⟩=>?_⟩⟩
  subst q2;have:=CW q1 cU;rw[h] at this;simp only[Option.some.injEq,Prod.mk.injEq] at this;exact absurd this.1.2.1 (by decide)
 ·refine⟨some p,h,fun q=>⟨fun hp=>?_,fun⟨q1,q2,cU⟩=>?_⟩⟩
  ·cases hp;exact⟨h1,h2,h3⟩
  ·subst q2;have:=CW q1 cU;rw[h] at this;rw[aiP (Option.some.inj this)]
noncomputable abbrev arN:bi:=[(30,Cx),(70,Cu),(73,tF),(74,Ct),(75,oc),(76,X9)]
theorem CA:a_ U (bg aj arN):=bf ⟨Jr,z70,vR,Jo,z75,z76,⟨⟩⟩
abbrev OD:Shape:=⟨[ao 0,aM 2 2 0,aM 4 4 0,bc 6 3000384,ae 7],[bx 5000128 .pack 2 0,aL 2 [.own 5000128],bx 5000256 .pack 4 0,aL 4 [.own 5000256],bb 3000384 .str 6 0],73⟩
abbrev Om:List aO:=[(.norm,⟨[ao 0,aM 2 2 0,aM 4 4 0,bc 6 3000384,ae 7,au 37],[bx 5000128 .pack 2 0,aL 2 [.own 5000128],bx 5000256 .pack 4 0,aL 4 [.own 5000256],bb 3000384 .str 6 0],73⟩)]
noncomputable def pR(y:OD.J):Option (aD Om):=
 bif(!(decide ((y.2.2.2.2.2.1.length:Int)<(2:Int)))) then
(a8 y.2.2.2.2.2.1.length (1:Int)).bind fun a=>
(y.2.2.2.2.2.1[a]?).bind fun b=>
(f75 ((y.1.2.2.2.2.1,(1:Int),(b.length:Int),()),())).bind fun c=>
 some ((y.1.1,(),(),(),y.1.2.2.2.2.1,(!c.1.1),()),y.2.1,((),()),y.2.2.2.1,((),()),y.2.2.2.2.2.1,())
else
 some ((y.1.1,(),(),(),y.1.2.2.2.2.1,true,()),y.2.1,((),()),y.2.2.2.1,((),()),y.2.2.2.2.2.1,())
theorem aer:aY U (an (da (an (codeOf Tryz.f39) 1 60)) 120 7724) (a' OD Om pR):=cW CA (by kernel_rfl) ag fun y=>by kernel_rfl
abbrev uQ:Shape:=⟨[ao 0,aM 2 2 0,aM 4 4 0,ao 5],[bx 5000128 .pack 2 0,aL 2 [.own 5000128],bx 5000256 .pack 4 0,aL 4 [.own 5000256]],73⟩
abbrev zZ:List aO:=[(.ret,⟨[aM 2 2 0,au 3],[bx 5000128 .pack 2 0,aL 2 [.own 5000128]],73⟩),(.exit 0,⟨[ao 0,aM 2 2 0,aM 4 4 0],[bx 5000128 .pack 2 0,aL 2 [.own 5000128],bx 5000256 .pack 4 0,aL 4 [.own 5000256]],73⟩)]
noncomputable def nF(y:uQ.J):bR uQ zZ:=
 bif(!(y.1.2.2.2.1==([]:F))) then
 bif(decide ((y.2.2.2.1.length:Int)<=(5:Int))) then
(f73 ((y.1.2.2.2.1,(10:Int),(1:Int),()),())).bind fun a=>
(a8 a.2.1.length (0:Int)).bind fun b=>
(a.2.1[b]?).bind fun c=>
(f74 ((c,()),())).bind fun d=>
(pR ((y.1.1,(),(),(),d.1.1,()),y.2.1,((),()),y.2.2.2.1,((),()),a.2.1,())).bind fun e=>
 bif e.1.2.2.2.2.2.1 then
 some (.inr (.inl (((),false,()),([]:List aW),((),()),())))
else
(a8 e.2.2.2.2.2.1.length (1:Int)).bind fun f=>
(e.2.2.2.2.2.1[f]?).bind fun g=>
(br g (0:Int) e.1.2.2.2.2.1).bind fun h=>
(f76 ((h,()),())).bind fun i=>
 bif(!i.1.2.1) then
 some (.inr (.inl (((),false,()),([]:List aW),((),()),())))
else
(cy 80 e.2.2.2.1 ([(aW.mk i.2.2.2.1.1 i.2.2.2.1.2.1 i.2.1 i.2.2.1)]:List aW)).bind fun j=>
(a8 e.2.2.2.2.2.1.length (1:Int)).bind fun k=>
(e.2.2.2.2.2.1[k]?).bind fun l=>
(br l e.1.2.2.2.2.1 (l.length:Int)).bind fun m=>
 some (.inl ((e.1.1,(),(),m,()),e.2.1,((),()),j,((),()),()))
else
 some (.inr (.inr ((y.1.1,(),(),()),y.2.1,((),()),y.2.2.2.1,((),()),())))
else
 some (.inr (.inr ((y.1.1,(),(),()),y.2.1,((),()),y.2.2.2.1,((),()),())))
noncomputable def uU:uQ.J->Option (aD zZ):=bv nF
theorem aie:aY U (an (codeOf Tryz.f39) 1 60) (a' uQ zZ uU):=bT CA (by kernel_rfl) (ba aer ag) fun y=>by kernel_rfl
abbrev PC:Shape:=⟨[ao 0,aM 2 2 0,aM 4 4 0],[bx 5000128 .pack 2 0,aL 2 [.own 5000128],bx 5000256 .pack 4 0,aL 4 [.own 5000256]],73⟩
abbrev Pk:List aO:=[(.norm,⟨[aM 2 2 0,aM 4 4 0,au 70],[bx 5000128 .pack 2 0,aL 2 [.own 5000128],bx 5000256 .pack 4 0,aL 4 [.own 5000256]],73⟩)]
noncomputable def r6(y:PC.J):Option (aD Pk):=
(f30 (((y.2.2.2.1,()),()),())).bind fun a=>
 bif(!(!a.1.1)) then
(f70 (((y.2.2.2.1,()),()),())).bind fun b=>
 some (((),(),(!(b.1.1==y.1.1)),()),y.2.1,((),()),y.2.2.2.1,((),()),())
else
 some (((),(),true,()),y.2.1,((),()),y.2.2.2.1,((),()),())
theorem af2:aY U (an (codeOf Tryz.f39) 1 124) (a' PC Pk r6):=cW CA (by kernel_rfl) ag fun y=>by kernel_rfl
abbrev i39:Shape:=⟨[ao 0],[],73⟩
abbrev vY:Shape:=⟨[aM 2 2 0,au 3],[bx 5000128 .pack 2 0,aL 2 [.own 5000128]],73⟩
noncomputable def f39(a:i39.J):Option vY.J:=
(uU ((a.1.1,(),(),a.1.1,()),([]:List aW),((),()),([]:List aW),((),()),())).bind fun b=>
(match b with
|.inl c=>
 some (((),c.1.2.1,()),c.2.1,((),()),())
|.inr d=>
(r6 ((d.1.1,(),(),()),d.2.1,((),()),d.2.2.2.1,((),()),())).bind fun e=>
 bif e.1.2.2.1 then
 some (((),false,()),([]:List aW),((),()),())
else
 some (((),true,()),e.2.2.2.1,((),()),()))
noncomputable def Yk:aH:=aP aj Tryz.f39 i39 vY [] f39
theorem aou:aG U 39 Yk:=aS CA Tryz.func39 (by kernel_rfl) (ba aie (ba af2 ag)) (fun y=>by kernel_rfl) fun a=>by kernel_rfl
noncomputable abbrev arZ:bi:=[(39,Yk)]
theorem ash:a_ U (bg aj arZ):=bf ⟨aou,⟨⟩⟩
abbrev i12:Shape:=⟨[cC 0 [ai,ai]],[],17⟩
abbrev Xd:Shape:=⟨[au 2],[],17⟩
noncomputable def f12(a:i12.J):Option Xd.J:=
(f39 ((a.1.1.1,()),())).bind fun b=>
 bif b.1.2.1 then
 some (((a.1.1.2.1==([]:F)),()),())
else
 some ((false,()),())
noncomputable def wI:aH:=aP aj Tryz.f12 i12 Xd [] f12
theorem z12:aG U 12 wI:=aS ash Tryz.func12 (by kernel_rfl) ag (fun y=>by kernel_rfl) fun a=>by kernel_rfl
abbrev rm(s rest:F)(ps:List aW):uQ.J:=((s,((),((),(rest,())))),(([]:List aW),(((),()),(ps,(((),()),())))))
abbrev Zb(s:F)(ps:List aW):aD zZ:=.inr ((s,((),((),()))),(([]:List aW),(((),()),(ps,(((),()),())))))
abbrev Ls(ps:List aW):vY.J:=(((),(true,())),(ps,(((),()),())))
abbrev KN:vY.J:=(((),(false,())),(([]:List aW),(((),()),())))
def arl(B:Option (List aW)):vY.J:=match B with|some ps=>Ls ps|none=>KN
theorem ahO(s:F):∀(m:Nat) (r:F) (ps:List aW),r.length<=m->m<=2000000->ps.length<=6->oZ ps->
  uU (rm s r ps)=some (.inl KN)\/∃b0:List aW,uU (rm s r ps)=some (Zb s b0)/\oZ b0/\b0.length<=6:=by
 intro m;induction m with
 |zero=>
  intro r ps hs _ hl ha;have:r=[]:=List.length_eq_zero_iff.1 (by omega)
  subst this;exact .inr ⟨ps,ca rfl,ha,hl⟩
 |succ m ih=>
  intro r ps hs hm hl ha;cases r with
  |nil=>exact .inr ⟨ps,ca rfl,ha,hl⟩
  |cons b r0=>
   have hne:((b::r0)==([]:F))=false:=rfl;generalize eA:b::r0=r at hs hne;by_cases bk:ps.length<=5
   ·have d:decide (((ps.length:Nat):Int)<=5)=true:=decide_eq_true (by omega)
    have c1:=lC 10 r (by omega) 1
    have c1:f73 ((r,((10:Int),((1:Int),()))),())=_:=c1;cases ar:dk 10 r with
    |none=>
     have eR:splitN 10 1 r=[r]:=by unfold splitN;rw[ar]
     rw[eR] at c1;have n0:=pJ r (by unfold ap;omega)
     have i0:a8 ([r]:List F).length (0:Int)=some 0:=rfl;have e3:([r]:List F)[0]? =some r:=rfl;have d2:decide ((([r]:List F).length:Int)<2)=true:=rfl;refine .inl (ca ?_);simp only[nF,hne,Bool.not_false,cond_true,d,c1,Option.bind_some,i0,e3,n0,pR,d2,Bool.not_true,cond_false]
    |some q=>
     obtain⟨bO,rest⟩:=q;have hlen:=(iV ar).1;have hlen:r.length=bO.length+1+rest.length:=by rw[hlen];simp;omega
     have eR:splitN 10 1 r=[bO,rest]:=by unfold splitN;rw[ar];rfl
     rw[eR] at c1;have n0:=pJ bO (by unfold ap;omega)
     have i0:a8 ([bO,rest]:List F).length (0:Int)=some 0:=rfl;have i1:a8 ([bO,rest]:List F).length (1:Int)=some 1:=rfl;have e3:([bO,rest]:List F)[0]? =some bO:=rfl;have dX:([bO,rest]:List F)[1]? =some rest:=rfl;have d2:decide ((([bO,rest]:List F).length:Int)<2)=false:=rfl;have hin:=nB ((gy bO,((1:Int),((rest.length:Int),()))),());have hin:f75 ((gy bO,((1:Int),((rest.length:Int),()))),())=some ((within (gy bO) 1 (rest.length:Int),()),()):=hin;cases hw:within (gy bO) 1 (rest.length:Int) with
     |false=>
      rw[hw] at hin;refine .inl (ca ?_);simp only[nF,hne,Bool.not_false,cond_true,d,c1,Option.bind_some,i0,e3,n0,pR,d2,i1,dX,hin]
     |true=>
      rw[hw] at hin;have hb:=rN hw;obtain⟨n,hn⟩:∃n:Nat,gy bO=(n:Int):=⟨(gy bO).toNat,by omega⟩
      rw[hn] at hin n0 hb;have s1:br rest 0 ((n:Nat):Int)=some (rest.take n):=gI (by omega)
      have s2:br rest ((n:Nat):Int) ((rest.length:Nat):Int)=some (rest.drop n):=gu (by omega)
      have apM:(rest.take n).length<=2000000:=by simp;omega
      obtain⟨B,g1,g2⟩:=ab4 (rest.take n) apM;cases B with
      |none=>
       have g1:f76 ((rest.take n,()),())=some Lt:=g1;refine .inl (ca ?_);simp only[nF,hne,Bool.not_false,cond_true,d,c1,Option.bind_some,i0,e3,n0,pR,d2,i1,dX,hin,Bool.not_true,cond_false,s1,g1]
      |some p=>
       have g1:f76 ((rest.take n,()),())=some (rj p):=g1;obtain⟨iP,iu,p3⟩:=(g2 p).1 rfl;have fc:cy 80 ps ([(aW.mk p.name p.aV p.bl p.bQ)]:List aW)=some (ps++[p]):=d' (by decide) (by unfold ap;simp;omega)
       have st:nF (rm s r ps)=some (.inl (rm s (rest.drop n) (ps++[p]))):=by
        simp only[nF,hne,Bool.not_false,cond_true,d,c1,Option.bind_some,i0,e3,n0,pR,d2,i1,dX,hin,Bool.not_true,cond_false,s1,g1,fc,s2]
       rcases ih (rest.drop n) (ps++[p]) (by simp;omega) (by omega) (by simp;omega) (fun z hz=>by
        rcases List.mem_append.1 hz with hz|hz
        ·exact ha z hz
        ·rw[List.mem_singleton.1 hz];exact⟨iP,by rw[iu];exact p3⟩) with e|⟨b0,e1,e2⟩
       ·exact .inl ((dz st).trans e)
       ·exact .inr ⟨b0,(dz st).trans e1,e2⟩
   ·have d:decide (((ps.length:Nat):Int)<=5)=false:=decide_eq_false (by omega)
    refine .inr ⟨ps,ca ?_,ha,hl⟩;simp only[nF,hne,Bool.not_false,cond_true,d,cond_false]
theorem aeN{ps:List aW}(h:oZ ps)(bk:ps.length<=5):(cN ps).length<=30000:=by
 have h1:=pW (f:=fun p=>dv (bA p)) (xs:=ps) (n:=5000) fun q ar=>by
  have:=(h q ar).2;have:=k2 (bA q).length (by omega)
  show(dv (bA q)).length<=5000;unfold dv;simp;omega
 have e:(cN ps).length=(ps.flatMap fun p=>dv (bA p)).length:=rfl
 have cp:ps.length*5000<=6*5000:=Nat.mul_le_mul_right _ (by omega)
 omega
theorem ahN(s:F):∀(b0 ps:List aW),oZ b0->ps.length+b0.length<=5->uU (rm s (cN b0) ps)=some (Zb s (ps++b0)):=by
 intro b0;induction b0 with
 |nil=>intro ps _ _;rw[List.append_nil];exact ca rfl
 |cons p b0 ih=>
  intro ps h hl;obtain⟨h1,h2⟩:=h p List.mem_cons_self;simp only[List.length_cons] at hl;have hR:cN (p::b0)=dv (bA p)++cN b0:=DJ p b0;have fF:=Np (bA p) (cN b0);have hlen:=aeN (ps:=p::b0) h (by simp;omega)
  rw[hR] at hlen ⊢;generalize hr:dv (bA p)++cN b0=r at fF hlen;have eR:splitN 10 1 r=[Lib.itoa ((bA p).length:Int),bA p++cN b0]:=by unfold splitN;rw[fF];rfl
  have hne:(r==([]:F))=false:=by
   have:=(iV fF).1;cases hx:r with
   |nil=>rw[hx] at this;simp at this
   |cons b r=>rfl
  have d:decide (((ps.length:Nat):Int)<=5)=true:=decide_eq_true (by omega)
  have c1:=lC 10 r (by omega) 1
  rw[eR] at c1;have c1:f73 ((r,((10:Int),((1:Int),()))),())=_:=c1;have auo:=k2 (bA p).length (by omega)
  have n0:=pJ (Lib.itoa ((bA p).length:Int)) (by unfold ap;omega)
  rw[DL _ (by omega)] at n0
  generalize Lib.itoa ((bA p).length:Int)=bO at c1 n0;have i0:a8 ([bO,bA p++cN b0]:List F).length (0:Int)=some 0:=rfl;have i1:a8 ([bO,bA p++cN b0]:List F).length (1:Int)=some 1:=rfl;have e3:([bO,bA p++cN b0]:List F)[0]? =some bO:=rfl;have dX:([bO,bA p++cN b0]:List F)[1]? =some (bA p++cN b0):=rfl;have d2:decide ((([bO,bA p++cN b0]:List F).length:Int)<2)=false:=rfl;have mI:1<=(bA p).length:=by rw[uz];simp only[List.length_append,List.length_cons];omega
  have hin:=nB ((((bA p).length:Int),((1:Int),(((bA p++cN b0).length:Int),()))),());have hin:f75 ((((bA p).length:Int),((1:Int),(((bA p++cN b0).length:Int),()))),())=some ((true,()),()):=by
   rw[hin];have:within ((bA p).length:Int) 1 ((bA p++cN b0).length:Int)=true:=by
    unfold within;rw[decide_eq_true (by omega),decide_eq_true (by simp only[List.length_append];omega)]
    rfl
   show some ((within ((bA p).length:Int) 1 ((bA p++cN b0).length:Int),()),())=_;rw[this]
  have s1:br (bA p++cN b0) 0 (((bA p).length:Nat):Int)=some (bA p):=by rw[gI (by simp),List.take_left' rfl]
  have s2:br (bA p++cN b0) (((bA p).length:Nat):Int) (((bA p++cN b0).length:Nat):Int)=some (cN b0):=by rw[gu (by simp),List.drop_left' rfl]
  have g1:=CW h1 h2;have fc:cy 80 ps ([(aW.mk p.name p.aV p.bl p.bQ)]:List aW)=some (ps++[p]):=d' (by decide) (by unfold ap;simp;omega)
  have st:nF (rm s r ps)=some (.inl (rm s (cN b0) (ps++[p]))):=by
   simp only[nF,hne,Bool.not_false,cond_true,d,c1,Option.bind_some,i0,e3,n0,pR,d2,i1,dX,hin,Bool.not_true,cond_false,s1,g1,fc,s2]
  have:=ih (ps++[p]) (fun r hr=>h r (List.mem_cons_of_mem _ hr)) (by simp;omega)
  rw[List.append_assoc] at this;exact(dz st).trans this
theorem ab3(s:F)(hs:s.length<=2000000):∃B:Option (List aW),f39 ((s,()),())=some (arl B)/\nG B (pb s):=by
 have put:∀ps:List aW,pb s ps->f39 ((s,()),())=some (Ls ps):=by
  intro ps ⟨h1,h2,h3⟩;have hl:ps.length<=5:=(nf h1).2;obtain⟨hb,hv⟩:=zh h3 (by omega)
  have g:=ahN s ps [] h3 (by simpa using hl)
  rw[h2] at g;have e:=Ed (((ps,()),()),()) hb hv;have e:f30 (((ps,()),()),())=some ((fM ps,()),()):=e;rw[h1] at e;have e2:=Fg ps hb (nf h1).1;simp only[f39,g,List.nil_append,Option.bind_some,r6,e,Bool.not_true,Bool.not_false,cond_true,cond_false,e2,h2,beq_self_eq_true]
 have any:f39 ((s,()),())=some KN\/∃ps,f39 ((s,()),())=some (Ls ps)/\pb s ps:=by
  rcases ahO s s.length s [] (Nat.le_refl _) hs (by decide) (fun x hx=>by cases hx) with g|⟨b0,g,h2,h3⟩
  ·refine .inl ?_
   simp only[f39,g,Option.bind_some]
  ·obtain⟨hb,hv⟩:=zh h2 h3;have e:=Ed (((b0,()),()),()) hb hv;have e:f30 (((b0,()),()),())=some ((fM b0,()),()):=e;cases hr:fM b0 with
   |false=>
    rw[hr] at e;refine .inl ?_
    simp only[f39,g,Option.bind_some,r6,e,Bool.not_false,Bool.not_true,cond_true,cond_false]
   |true=>
    rw[hr] at e;have e2:=Fg b0 hb (nf hr).1;cases he:cN b0==s with
    |false=>
     refine .inl ?_
     simp only[f39,g,Option.bind_some,r6,e,Bool.not_false,Bool.not_true,cond_true,cond_false,e2,he]
    |true=>
     refine .inr ⟨b0,?_,hr,eq_of_beq he,h2⟩;simp only[f39,g,Option.bind_some,r6,e,Bool.not_false,Bool.not_true,cond_true,cond_false,e2,he]
 rcases any with h|⟨ps,h,hr⟩
 ·refine⟨none,h,fun p=>⟨fun hp=>(by cases hp),fun hp=>?_⟩⟩
  have:=put p hp;rw[h] at this;simp only[Option.some.injEq,Prod.mk.injEq] at this;exact absurd this.1.2.1 (by decide)
 ·refine⟨some ps,h,fun q=>⟨fun hp=>by cases hp;exact hr,fun hp=>?_⟩⟩
  have:=put q hp;rw[h] at this;simp only[Option.some.injEq,Prod.mk.injEq] at this;rw[this.2.1]
theorem ad0(s t:F)(hs:s.length<=2000000):∃B:Option (List aW),f12 (((s,(t,())),()),())=some ((B.isSome&&t==[],()),())/\nG B (pb s):=by
 obtain⟨B,h1,h2⟩:=ab3 s hs;refine⟨B,?_,h2⟩;simp only[f12,h1,Option.bind_some];cases B<;>rfl
theorem afm(s t:F)(hs:s.length<=2000000):∃b:Bool,f12 (((s,(t,())),()),())=some ((b,()),())/\f14 (((s,(t,())),()),())=some ((b,()),()):=by
 obtain⟨B,h1,h2⟩:=ad0 s t hs;obtain⟨cY,h3,aw⟩:=abW s t (by omega)
 cases h2.alk aw;exact⟨_,h1,h3⟩
noncomputable abbrev arR:bi:=[(36,KL),(43,Cw),(63,Bd),(64,BC)]
theorem YH:a_ U (bg aj arR):=bf ⟨Wq,Jq,HP,H5,⟨⟩⟩
abbrev yE:Shape:=⟨[aM 3 3 0,aK 11 .pack,ae 12,ae 13],[bx 5000193 .u8 3 1,aL 3 [.dn,.own 5000193]],28⟩
abbrev Fm:List aO:=[(.exit 0,⟨[aM 3 3 0],[bx 5000193 .u8 3 1,aL 3 [.dn,.own 5000193]],28⟩)]
noncomputable def uI(y:yE.J):bR yE Fm:=
 bif(decide (y.1.2.2.2.1<y.1.2.2.1)) then
(aU y.1.2.1 y.1.2.2.2.1).bind fun a=>
(f36 (((a.name,a.aV,a.bl,a.bQ,()),()),())).bind fun b=>
(if-9223372036854775808<=(b.1.1.length:Int)/\(b.1.1.length:Int)<=9223372036854775807 then some () else none).bind fun c=>
(bY (Lib.itoa (b.1.1.length:Int)) ([10]:F)).bind fun d=>
(bY d b.1.1).bind fun e=>
(lR (((),e,()),y.2.1,((),(),()),())).bind fun f=>
 some (.inl (((),y.1.2.1,y.1.2.2.1,(IntKind.i64.wrap (y.1.2.2.2.1+(1:Int))),()),f.2.1,((),(),()),()))
else
 some (.inr (((),()),y.2.1,((),(),()),()))
noncomputable def F5:yE.J->Option (aD Fm):=bv uI
theorem af3:aY U (an (codeOf Tryz.f34) 1 122) (a' yE Fm F5):=bT YH (by kernel_rfl) ag fun y=>by kernel_rfl
abbrev i34:Shape:=⟨[cC 0 [c4 .pack]],[],28⟩
abbrev W6:Shape:=⟨[ao 2],[],28⟩
noncomputable def f34(a:i34.J):Option W6.J:=
(f43 (((a.1.1.1,()),()),())).bind fun b=>
 bif(!b.1.1) then
 some ((([]:F),()),())
else
(F5 (((),a.1.1.1,(a.1.1.1.length:Int),(0:Int),()),([]:List Int),((),(),()),())).bind fun c=>
 some (((strOf c.2.1),()),())
noncomputable def Ym:aH:=aP aj Tryz.f34 i34 W6 [] f34
theorem aow:aG U 34 Ym:=aS YH Tryz.func34 (by kernel_rfl) (ba af3 ag) (fun y=>by kernel_rfl) fun a=>by kernel_rfl
theorem ka{ax mg:Type}{B:Option ax}{x:ax}{k:ax->Option mg}(h:B=some x):B.bind k=k x:=by rw[h];rfl
theorem ag1(ps:List aW)(hb:fS ps)(hk:∀p,p∈ps->cB p=true)(bk:ps.length<=5)(i:Nat)(hi:i<ps.length):
  uI (((),(ps,((ps.length:Int),((i:Int),())))),(bytesOf ((ps.take i).flatMap (fun p=>dv (bA p))),(((),((),())),())))=some (.inl (((),(ps,((ps.length:Int),(((i+1:Nat):Int),())))),(bytesOf ((ps.take (i+1)).flatMap (fun p=>dv (bA p))),(((),((),())),())))):=by
 obtain⟨p,he⟩:∃p,ps[i]? =some p:=⟨ps[i],List.getElem?_eq_getElem hi⟩;have ec:=List.mem_of_getElem? he;have im:((ps.take i).flatMap fun p=>dv (bA p)).length<=503317500:=by
  have h1:=pW (f:=fun p=>dv (bA p)) (xs:=ps.take i) (n:=100663500) fun p hp=>DG (hb.2 p (pL hp)) (hk p (pL hp))
  have h2:=(List.take_sublist i ps).length_le;have aw:(ps.take i).length*100663500<=5*100663500:=Nat.mul_le_mul_right _ (by omega)
  omega
 have gX:=EB (hb.2 p ec) (hk p ec);have h2:=k2 (bA p).length (by omega)
 have Xt:=hk p ec;have J1:=Db p (hb.2 p ec);simp only[Xt,cond_true] at J1;have XE:(ps.take (i+1)).flatMap (fun p=>dv (bA p))=(ps.take i).flatMap (fun p=>dv (bA p))++dv (bA p):=mo (fun p=>dv (bA p)) he
 rw[XE];clear XE Xt hk;generalize bA p=bh at gX h2 J1 ⊢;generalize List.flatMap (fun p=>dv (bA p)) (List.take i ps)=A at im ⊢
 have i2:=Hy (n:=(bh.length:Int)) ⟨by omega,by omega⟩
 have e1:=dA (s:=Lib.itoa (bh.length:Int)) (t:=[10]) (by simp;omega)
 have e2:=dA (s:=Lib.itoa (bh.length:Int)++[10]) (t:=bh) (by simp;omega)
 have c_:Lib.itoa (bh.length:Int)++[10]++bh=dv bh:=rfl;have fp:(dv bh).length<=100663500:=by unfold dv;simp;omega
 rw[c_] at e2;generalize dv bh=C at e2 fp ⊢;have bp:=oD (bytesOf A) C (by unfold ap;rw[iT];omega)
 simp only[uI,b8 hi,cond_true,bX,he,Option.bind_some];refine(ka J1).trans ((ka (if_pos ⟨?_,?_⟩)).trans ((ka e1).trans ((ka e2).trans ((ka bp).trans ?_))))
 ·rw[bS (i:=i) (by unfold ap;omega),oo]
 ·show-9223372036854775808<=(bh.length:Int);omega
 ·show(bh.length:Int)<=9223372036854775807;omega
theorem aaD(ps:List aW)(hb:fS ps)(hv:nc ps):f34 (((ps,()),()),())=some ((bif fM ps then cN ps else [],()),()):=by
 have h0:=xw (((ps,()),()),()) hb hv;have h0:f43 (((ps,()),()),())=some ((fM ps,()),()):=h0;simp only[f34,h0,Option.bind_some];cases hr:fM ps with
 |false=>rfl
 |true=>
  have hk:=(nf hr).1;have bk:=(nf hr).2;have aB:F5 (((),(ps,((ps.length:Int),((0:Int),())))),(([]:List Int),(((),((),())),())))=some (((),()),(bytesOf (cN ps),(((),((),())),()))):=by
   refine fx (g:=uI) (fun i=>(((),(ps,((ps.length:Int),((i:Int),())))),(bytesOf ((ps.take i).flatMap (fun p=>dv (bA p))),(((),((),())),())))) ps.length (fun i hi=>ag1 ps hb hk bk i hi) ?_ ps.length 0 (by omega)
   simp only[uI,dh,cond_false,List.take_length,cN]
  simp only[Bool.not_true,cond_false,cond_true,aB,Option.bind_some,tX]
abbrev i186:Shape:=⟨[cC 0 [ai,bq,ai],ae 1],[],20⟩
abbrev Tg:Shape:=⟨[ae 4],[],20⟩
noncomputable def f186(a:i186.J):Option Tg.J:=
 bif(decide ((IntKind.i64.wrap (a.1.2.1-(a.1.1.1.length:Int)))<(0:Int))) then
 some ((((-1):Int),()),())
else
 bif(decide ((IntKind.i64.wrap ((IntKind.i64.wrap (a.1.2.1-(a.1.1.1.length:Int)))-(a.1.1.2.2.1.length:Int)))<(0:Int))) then
 some ((((-1):Int),()),())
else
 some (((IntKind.i64.wrap ((IntKind.i64.wrap (a.1.2.1-(a.1.1.1.length:Int)))-(a.1.1.2.2.1.length:Int))),()),())
noncomputable def Vd:aH:=aP aj Tryz.f186 i186 Tg [] f186
theorem akH:aG U 186 Vd:=aS g0 Tryz.func186 (by kernel_rfl) ag (fun y=>by kernel_rfl) fun a=>by kernel_rfl
noncomputable abbrev anm:bi:=[(186,Vd)]
theorem We:a_ U (bg aj anm):=bf ⟨akH,⟨⟩⟩
abbrev yc:Shape:=⟨[aK 0 .need,ae 1,ae 5],[],27⟩
abbrev Es:List aO:=[(.ret,⟨[ae 4],[],27⟩),(.exit 0,⟨[ae 1],[],27⟩)]
noncomputable def yv(y:yc.J):bR yc Es:=
 bif(decide (y.1.2.2.1<(y.1.1.length:Int))) then
(aU y.1.1 y.1.2.2.1).bind fun a=>
(f186 (((a.name,a.kind,a.aV,()),y.1.2.1,()),())).bind fun b=>
 bif(decide (b.1.1<(0:Int))) then
 some (.inr (.inl ((((-1):Int),()),())))
else
 some (.inl ((y.1.1,b.1.1,(IntKind.i64.wrap (y.1.2.2.1+(1:Int))),()),()))
else
 some (.inr (.inr ((y.1.2.1,()),())))
noncomputable def yl:yc.J->Option (aD Es):=bv yv
theorem aeH:aY U (an (codeOf Tryz.f134) 1 122) (a' yc Es yl):=bT We (by kernel_rfl) ag fun y=>by kernel_rfl
abbrev i134:Shape:=⟨[aK 0 .need,ae 1],[],27⟩
abbrev TN:Shape:=⟨[ae 4],[],27⟩
noncomputable def f134(a:i134.J):Option TN.J:=
 bif(decide ((IntKind.i64.wrap (a.1.2.1-(a.1.1.length:Int)))<(0:Int))) then
 some ((((-1):Int),()),())
else
(yl ((a.1.1,(IntKind.i64.wrap (a.1.2.1-(a.1.1.length:Int))),(0:Int),()),())).bind fun b=>
(match b with
|.inl c=>
 some ((c.1.1,()),())
|.inr d=>
 some ((d.1.1,()),()))
noncomputable def VJ:aH:=aP aj Tryz.f134 i134 TN [] f134
theorem akZ:aG U 134 VJ:=aS We Tryz.func134 (by kernel_rfl) (ba aeH ag) (fun y=>by kernel_rfl) fun a=>by kernel_rfl
abbrev i187:Shape:=⟨[cC 0 [ai,bq,bq,ai],ae 1],[],20⟩
abbrev Tf:Shape:=⟨[ae 4],[],20⟩
noncomputable def f187(a:i187.J):Option Tf.J:=
 bif(decide ((IntKind.i64.wrap (a.1.2.1-(a.1.1.1.length:Int)))<(0:Int))) then
 some ((((-1):Int),()),())
else
 bif(decide ((IntKind.i64.wrap ((IntKind.i64.wrap (a.1.2.1-(a.1.1.1.length:Int)))-(a.1.1.2.2.2.1.length:Int)))<(0:Int))) then
 some ((((-1):Int),()),())
else
 some (((IntKind.i64.wrap ((IntKind.i64.wrap (a.1.2.1-(a.1.1.1.length:Int)))-(a.1.1.2.2.2.1.length:Int))),()),())
noncomputable def Vc:aH:=aP aj Tryz.f187 i187 Tf [] f187
theorem akG:aG U 187 Vc:=aS g0 Tryz.func187 (by kernel_rfl) ag (fun y=>by kernel_rfl) fun a=>by kernel_rfl
noncomputable abbrev anl:bi:=[(187,Vc)]
theorem Wd:a_ U (bg aj anl):=bf ⟨akG,⟨⟩⟩
abbrev yb:Shape:=⟨[aK 0 .entry,ae 1,ae 5],[],27⟩
abbrev Er:List aO:=[(.ret,⟨[ae 4],[],27⟩),(.exit 0,⟨[ae 1],[],27⟩)]
noncomputable def yu(y:yb.J):bR yb Er:=
 bif(decide (y.1.2.2.1<(y.1.1.length:Int))) then
(aU y.1.1 y.1.2.2.1).bind fun a=>
(f187 (((a.path,a.kind,a.mode,a.text,()),y.1.2.1,()),())).bind fun b=>
 bif(decide (b.1.1<(0:Int))) then
 some (.inr (.inl ((((-1):Int),()),())))
else
 some (.inl ((y.1.1,b.1.1,(IntKind.i64.wrap (y.1.2.2.1+(1:Int))),()),()))
else
 some (.inr (.inr ((y.1.2.1,()),())))
noncomputable def yk:yb.J->Option (aD Er):=bv yu
theorem aeG:aY U (an (codeOf Tryz.f135) 1 122) (a' yb Er yk):=bT Wd (by kernel_rfl) ag fun y=>by kernel_rfl
abbrev i135:Shape:=⟨[aK 0 .entry,ae 1],[],27⟩
abbrev TM:Shape:=⟨[ae 4],[],27⟩
noncomputable def f135(a:i135.J):Option TM.J:=
 bif(decide ((IntKind.i64.wrap (a.1.2.1-(a.1.1.length:Int)))<(0:Int))) then
 some ((((-1):Int),()),())
else
(yk ((a.1.1,(IntKind.i64.wrap (a.1.2.1-(a.1.1.length:Int))),(0:Int),()),())).bind fun b=>
(match b with
|.inl c=>
 some ((c.1.1,()),())
|.inr d=>
 some ((d.1.1,()),()))
noncomputable def VI:aH:=aP aj Tryz.f135 i135 TM [] f135
theorem akY:aG U 135 VI:=aS Wd Tryz.func135 (by kernel_rfl) (ba aeG ag) (fun y=>by kernel_rfl) fun a=>by kernel_rfl
abbrev i188:Shape:=⟨[cC 0 [ai,bq,ai]],[],14⟩
abbrev Te:Shape:=⟨[aM 2 2 0],[aL 2 [ai,bq,ai]],14⟩
noncomputable def f188(a:i188.J):Option Te.J:=
 some (((),()),(a.1.1.1,a.1.1.2.1,a.1.1.2.2.1,()),())
noncomputable def Vb:aH:=aP aj Tryz.f188 i188 Te [] f188
theorem akF:aG U 188 Vb:=aS g0 Tryz.func188 (by kernel_rfl) ag (fun y=>by kernel_rfl) fun a=>by kernel_rfl
noncomputable abbrev ank:bi:=[(188,Vb)]
theorem Wc:a_ U (bg aj ank):=bf ⟨akF,⟨⟩⟩
abbrev y2:Shape:=⟨[aK 0 .need,bc 3 3000192,ae 4],[bb 3000192 .need 3 0],23⟩
abbrev FK:List aO:=[(.exit 0,⟨[bc 3 3000192],[bb 3000192 .need 3 0],23⟩)]
noncomputable def zE(y:y2.J):bR y2 FK:=
 bif(decide (y.1.2.2.1<(y.1.1.length:Int))) then
(aU y.1.1 y.1.2.2.1).bind fun a=>
(f188 (((a.name,a.kind,a.aV,()),()),())).bind fun b=>
(a8 y.2.1.length y.1.2.2.1).bind fun c=>
((y.2.1[c]?).bind fun q=>some (bB.mk b.2.1.1 b.2.1.2.1 b.2.1.2.2.1)).bind fun d=>
 some (.inl ((y.1.1,(),(IntKind.i64.wrap (y.1.2.2.1+(1:Int))),()),(y.2.1.set c d),()))
else
 some (.inr (((),()),y.2.1,()))
noncomputable def Gl:y2.J->Option (aD FK):=bv zE
theorem agC:aY U (an (codeOf Tryz.f136) 1 58) (a' y2 FK Gl):=bT Wc (by kernel_rfl) ag fun y=>by kernel_rfl
abbrev i136:Shape:=⟨[aK 0 .need],[],23⟩
abbrev TL:Shape:=⟨[bc 2 3000128],[bb 3000128 .need 2 0],23⟩
noncomputable def f136(a:i136.J):Option TL.J:=
(jE 40 (a.1.1.length:Int) (a.1.1.length:Int) (bB.mk ([]:F) (0:Int) ([]:F))).bind fun b=>
(Gl ((a.1.1,(),(0:Int),()),b,())).bind fun c=>
 some (((),()),c.2.1,())
noncomputable def VH:aH:=aP aj Tryz.f136 i136 TL [] f136
theorem akX:aG U 136 VH:=aS Wc Tryz.func136 (by kernel_rfl) (ba agC ag) (fun y=>by kernel_rfl) fun a=>by kernel_rfl
abbrev i189:Shape:=⟨[cC 0 [ai,bq,bq,ai]],[],17⟩
abbrev Td:Shape:=⟨[aM 2 2 0],[aL 2 [ai,bq,bq,ai]],17⟩
noncomputable def f189(a:i189.J):Option Td.J:=
 some (((),()),(a.1.1.1,a.1.1.2.1,a.1.1.2.2.1,a.1.1.2.2.2.1,()),())
noncomputable def Va:aH:=aP aj Tryz.f189 i189 Td [] f189
theorem akE:aG U 189 Va:=aS g0 Tryz.func189 (by kernel_rfl) ag (fun y=>by kernel_rfl) fun a=>by kernel_rfl
noncomputable abbrev anj:bi:=[(189,Va)]
theorem Wb:a_ U (bg aj anj):=bf ⟨akE,⟨⟩⟩
abbrev y1:Shape:=⟨[aK 0 .entry,bc 3 3000192,ae 4],[bb 3000192 .entry 3 0],23⟩
abbrev FJ:List aO:=[(.exit 0,⟨[bc 3 3000192],[bb 3000192 .entry 3 0],23⟩)]
noncomputable def zD(y:y1.J):bR y1 FJ:=
 bif(decide (y.1.2.2.1<(y.1.1.length:Int))) then
(aU y.1.1 y.1.2.2.1).bind fun a=>
(f189 (((a.path,a.kind,a.mode,a.text,()),()),())).bind fun b=>
(a8 y.2.1.length y.1.2.2.1).bind fun c=>
((y.2.1[c]?).bind fun q=>some (az.mk b.2.1.1 b.2.1.2.1 b.2.1.2.2.1 b.2.1.2.2.2.1)).bind fun d=>
 some (.inl ((y.1.1,(),(IntKind.i64.wrap (y.1.2.2.1+(1:Int))),()),(y.2.1.set c d),()))
else
 some (.inr (((),()),y.2.1,()))
noncomputable def Gk:y1.J->Option (aD FJ):=bv zD
theorem agB:aY U (an (codeOf Tryz.f137) 1 58) (a' y1 FJ Gk):=bT Wb (by kernel_rfl) ag fun y=>by kernel_rfl
abbrev i137:Shape:=⟨[aK 0 .entry],[],23⟩
abbrev TK:Shape:=⟨[bc 2 3000128],[bb 3000128 .entry 2 0],23⟩
noncomputable def f137(a:i137.J):Option TK.J:=
(jE 48 (a.1.1.length:Int) (a.1.1.length:Int) (az.mk ([]:F) (0:Int) (0:Int) ([]:F))).bind fun b=>
(Gk ((a.1.1,(),(0:Int),()),b,())).bind fun c=>
 some (((),()),c.2.1,())
noncomputable def VG:aH:=aP aj Tryz.f137 i137 TK [] f137
theorem akW:aG U 137 VG:=aS Wb Tryz.func137 (by kernel_rfl) (ba agB ag) (fun y=>by kernel_rfl) fun a=>by kernel_rfl
abbrev i190:Shape:=⟨[cC 0 [ai,bq,ai],cC 1 [ai,bq,ai]],[],20⟩
abbrev Tc:Shape:=⟨[au 4],[],20⟩
noncomputable def f190(a:i190.J):Option Tc.J:=
 bif(!(a.1.1.1==a.1.2.1.1)) then
 some ((false,()),())
else
 bif(a.1.1.2.1 !=a.1.2.1.2.1) then
 some ((false,()),())
else
 bif(!(a.1.1.2.2.1==a.1.2.1.2.2.1)) then
 some ((false,()),())
else
 some ((true,()),())
noncomputable def U':aH:=aP aj Tryz.f190 i190 Tc [] f190
theorem akD:aG U 190 U':=aS g0 Tryz.func190 (by kernel_rfl) ag (fun y=>by kernel_rfl) fun a=>by kernel_rfl
noncomputable abbrev ani:bi:=[(190,U')]
theorem Wa:a_ U (bg aj ani):=bf ⟨akD,⟨⟩⟩
abbrev y0:Shape:=⟨[aK 0 .need,aK 1 .need,ae 5],[],27⟩
abbrev FI:List aO:=[(.ret,⟨[au 4],[],27⟩),(.exit 0,⟨[],[],27⟩)]
noncomputable def zC(y:y0.J):bR y0 FI:=
 bif(decide (y.1.2.2.1<(y.1.1.length:Int))) then
(aU y.1.1 y.1.2.2.1).bind fun a=>
(aU y.1.2.1 y.1.2.2.1).bind fun b=>
(f190 (((a.name,a.kind,a.aV,()),(b.name,b.kind,b.aV,()),()),())).bind fun c=>
 bif(!c.1.1) then
 some (.inr (.inl ((false,()),())))
else
 some (.inl ((y.1.1,y.1.2.1,(IntKind.i64.wrap (y.1.2.2.1+(1:Int))),()),()))
else
 some (.inr (.inr ((),())))
noncomputable def Gj:y0.J->Option (aD FI):=bv zC
theorem agA:aY U (an (codeOf Tryz.f138) 1 58) (a' y0 FI Gj):=bT Wa (by kernel_rfl) ag fun y=>by kernel_rfl
abbrev i138:Shape:=⟨[aK 0 .need,aK 1 .need],[],27⟩
abbrev TJ:Shape:=⟨[au 4],[],27⟩
noncomputable def f138(a:i138.J):Option TJ.J:=
 bif((a.1.1.length:Int) !=(a.1.2.1.length:Int)) then
 some ((false,()),())
else
(Gj ((a.1.1,a.1.2.1,(0:Int),()),())).bind fun b=>
(match b with
|.inl c=>
 some ((c.1.1,()),())
|.inr d=>
 some ((true,()),()))
noncomputable def VF:aH:=aP aj Tryz.f138 i138 TJ [] f138
theorem z138:aG U 138 VF:=aS Wa Tryz.func138 (by kernel_rfl) (ba agA ag) (fun y=>by kernel_rfl) fun a=>by kernel_rfl
abbrev i191:Shape:=⟨[cC 0 [ai,bq,bq,ai],cC 1 [ai,bq,bq,ai]],[],25⟩
abbrev Tb:Shape:=⟨[au 4],[],25⟩
noncomputable def f191(a:i191.J):Option Tb.J:=
 bif(!(a.1.1.1==a.1.2.1.1)) then
 some ((false,()),())
else
 bif(a.1.1.2.1 !=a.1.2.1.2.1) then
 some ((false,()),())
else
 bif(a.1.1.2.2.1 !=a.1.2.1.2.2.1) then
 some ((false,()),())
else
 bif(!(a.1.1.2.2.2.1==a.1.2.1.2.2.2.1)) then
 some ((false,()),())
else
 some ((true,()),())
noncomputable def U_:aH:=aP aj Tryz.f191 i191 Tb [] f191
theorem akC:aG U 191 U_:=aS g0 Tryz.func191 (by kernel_rfl) ag (fun y=>by kernel_rfl) fun a=>by kernel_rfl
noncomputable abbrev anh:bi:=[(191,U_)]
theorem V':a_ U (bg aj anh):=bf ⟨akC,⟨⟩⟩
abbrev yZ:Shape:=⟨[aK 0 .entry,aK 1 .entry,ae 5],[],27⟩
abbrev FH:List aO:=[(.ret,⟨[au 4],[],27⟩),(.exit 0,⟨[],[],27⟩)]
noncomputable def zB(y:yZ.J):bR yZ FH:=
 bif(decide (y.1.2.2.1<(y.1.1.length:Int))) then
(aU y.1.1 y.1.2.2.1).bind fun a=>
(aU y.1.2.1 y.1.2.2.1).bind fun b=>
(f191 (((a.path,a.kind,a.mode,a.text,()),(b.path,b.kind,b.mode,b.text,()),()),())).bind fun c=>
 bif(!c.1.1) then
 some (.inr (.inl ((false,()),())))
else
 some (.inl ((y.1.1,y.1.2.1,(IntKind.i64.wrap (y.1.2.2.1+(1:Int))),()),()))
else
 some (.inr (.inr ((),())))
noncomputable def Gi:yZ.J->Option (aD FH):=bv zB
theorem agz:aY U (an (codeOf Tryz.f139) 1 58) (a' yZ FH Gi):=bT V' (by kernel_rfl) ag fun y=>by kernel_rfl
abbrev i139:Shape:=⟨[aK 0 .entry,aK 1 .entry],[],27⟩
abbrev TI:Shape:=⟨[au 4],[],27⟩
noncomputable def f139(a:i139.J):Option TI.J:=
 bif((a.1.1.length:Int) !=(a.1.2.1.length:Int)) then
 some ((false,()),())
else
(Gi ((a.1.1,a.1.2.1,(0:Int),()),())).bind fun b=>
(match b with
|.inl c=>
 some ((c.1.1,()),())
|.inr d=>
 some ((true,()),()))
noncomputable def VE:aH:=aP aj Tryz.f139 i139 TI [] f139
theorem z139:aG U 139 VE:=aS V' Tryz.func139 (by kernel_rfl) (ba agz ag) (fun y=>by kernel_rfl) fun a=>by kernel_rfl
noncomputable abbrev arx:bi:=[(134,VJ),(135,VI)]
theorem ar5:a_ U (bg aj arx):=bf ⟨akZ,akY,⟨⟩⟩
abbrev i82:Shape:=⟨[cC 0 [ai,ai,c4 .need,c4 .entry],ae 1],[],32⟩
abbrev WK:Shape:=⟨[ae 4],[],32⟩
noncomputable def f82(a:i82.J):Option WK.J:=
 bif(decide ((IntKind.i64.wrap (a.1.2.1-(a.1.1.1.length:Int)))<(0:Int))) then
 some ((((-1):Int),()),())
else
 bif(decide ((IntKind.i64.wrap ((IntKind.i64.wrap (a.1.2.1-(a.1.1.1.length:Int)))-(a.1.1.2.1.length:Int)))<(0:Int))) then
 some ((((-1):Int),()),())
else
(f134 ((a.1.1.2.2.1,(IntKind.i64.wrap ((IntKind.i64.wrap (a.1.2.1-(a.1.1.1.length:Int)))-(a.1.1.2.1.length:Int))),()),())).bind fun b=>
 bif(decide (b.1.1<(0:Int))) then
 some ((((-1):Int),()),())
else
(f135 ((a.1.1.2.2.2.1,b.1.1,()),())).bind fun c=>
 bif(decide (c.1.1<(0:Int))) then
 some ((((-1):Int),()),())
else
 some ((c.1.1,()),())
noncomputable def X7:aH:=aP aj Tryz.f82 i82 WK [] f82
theorem aoi:aG U 82 X7:=aS ar5 Tryz.func82 (by kernel_rfl) ag (fun y=>by kernel_rfl) fun a=>by kernel_rfl
noncomputable abbrev arL:bi:=[(82,X7)]
theorem YG:a_ U (bg aj arL):=bf ⟨aoi,⟨⟩⟩
abbrev yD:Shape:=⟨[aK 0 .pack,ae 1,ae 5],[],27⟩
abbrev Fl:List aO:=[(.ret,⟨[ae 4],[],27⟩),(.exit 0,⟨[ae 1],[],27⟩)]
noncomputable def zl(y:yD.J):bR yD Fl:=
 bif(decide (y.1.2.2.1<(y.1.1.length:Int))) then
(aU y.1.1 y.1.2.2.1).bind fun a=>
(f82 (((a.name,a.aV,a.bl,a.bQ,()),y.1.2.1,()),())).bind fun b=>
 bif(decide (b.1.1<(0:Int))) then
 some (.inr (.inl ((((-1):Int),()),())))
else
 some (.inl ((y.1.1,b.1.1,(IntKind.i64.wrap (y.1.2.2.1+(1:Int))),()),()))
else
 some (.inr (.inr ((y.1.2.1,()),())))
noncomputable def ze:yD.J->Option (aD Fl):=bv zl
theorem af1:aY U (an (codeOf Tryz.f44) 1 122) (a' yD Fl ze):=bT YG (by kernel_rfl) ag fun y=>by kernel_rfl
abbrev i44:Shape:=⟨[aK 0 .pack,ae 1],[],27⟩
abbrev W2:Shape:=⟨[ae 4],[],27⟩
noncomputable def f44(a:i44.J):Option W2.J:=
 bif(decide ((IntKind.i64.wrap (a.1.2.1-(a.1.1.length:Int)))<(0:Int))) then
 some ((((-1):Int),()),())
else
(ze ((a.1.1,(IntKind.i64.wrap (a.1.2.1-(a.1.1.length:Int))),(0:Int),()),())).bind fun b=>
(match b with
|.inl c=>
 some ((c.1.1,()),())
|.inr d=>
 some ((d.1.1,()),()))
noncomputable def Yj:aH:=aP aj Tryz.f44 i44 W2 [] f44
theorem aot:aG U 44 Yj:=aS YG Tryz.func44 (by kernel_rfl) (ba af1 ag) (fun y=>by kernel_rfl) fun a=>by kernel_rfl
noncomputable abbrev arX:bi:=[(44,Yj)]
theorem asf:a_ U (bg aj arX):=bf ⟨aot,⟨⟩⟩
abbrev i15:Shape:=⟨[cC 0 [c4 .pack],ae 1],[],12⟩
abbrev Xb:Shape:=⟨[ae 4],[],12⟩
noncomputable def f15(a:i15.J):Option Xb.J:=
(f44 ((a.1.1.1,a.1.2.1,()),())).bind fun b=>
 bif(decide (b.1.1<(0:Int))) then
 some ((((-1):Int),()),())
else
 some ((b.1.1,()),())
noncomputable def wF:aH:=aP aj Tryz.f15 i15 Xb [] f15
theorem aoB:aG U 15 wF:=aS asf Tryz.func15 (by kernel_rfl) ag (fun y=>by kernel_rfl) fun a=>by kernel_rfl
noncomputable abbrev arv:bi:=[(136,VH),(137,VG)]
theorem ar3:a_ U (bg aj arv):=bf ⟨akX,akW,⟨⟩⟩
abbrev i84:Shape:=⟨[cC 0 [ai,ai,c4 .need,c4 .entry]],[],19⟩
abbrev WJ:Shape:=⟨[aM 2 2 0],[bx 5000130 .need 2 2,bx 5000131 .entry 2 3,aL 2 [ai,ai,.own 5000130,.own 5000131]],19⟩
noncomputable def f84(a:i84.J):Option WJ.J:=
(f136 ((a.1.1.2.2.1,()),())).bind fun b=>
(f137 ((a.1.1.2.2.2.1,()),())).bind fun c=>
 some (((),()),b.2.1,c.2.1,(a.1.1.1,a.1.1.2.1,(),(),()),())
noncomputable def X6:aH:=aP aj Tryz.f84 i84 WJ [] f84
theorem aoh:aG U 84 X6:=aS ar3 Tryz.func84 (by kernel_rfl) ag (fun y=>by kernel_rfl) fun a=>by kernel_rfl
noncomputable abbrev arJ:bi:=[(84,X6)]
theorem YF:a_ U (bg aj arJ):=bf ⟨aoh,⟨⟩⟩
abbrev Ah:Shape:=⟨[aK 0 .pack,bc 3 3000192,ae 4],[bb 3000192 .pack 3 0],23⟩
abbrev G9:List aO:=[(.exit 0,⟨[bc 3 3000192],[bb 3000192 .pack 3 0],23⟩)]
noncomputable def AF(y:Ah.J):bR Ah G9:=
 bif(decide (y.1.2.2.1<(y.1.1.length:Int))) then
(aU y.1.1 y.1.2.2.1).bind fun a=>
(f84 (((a.name,a.aV,a.bl,a.bQ,()),()),())).bind fun b=>
(a8 y.2.1.length y.1.2.2.1).bind fun c=>
((y.2.1[c]?).bind fun q=>some (aW.mk b.2.2.2.1.1 b.2.2.2.1.2.1 b.2.1 b.2.2.1)).bind fun d=>
 some (.inl ((y.1.1,(),(IntKind.i64.wrap (y.1.2.2.1+(1:Int))),()),(y.2.1.set c d),()))
else
 some (.inr (((),()),y.2.1,()))
noncomputable def Ht:Ah.J->Option (aD G9):=bv AF
theorem aid:aY U (an (codeOf Tryz.f46) 1 58) (a' Ah G9 Ht):=bT YF (by kernel_rfl) ag fun y=>by kernel_rfl
abbrev i46:Shape:=⟨[aK 0 .pack],[],23⟩
abbrev WZ:Shape:=⟨[bc 2 3000128],[bb 3000128 .pack 2 0],23⟩
noncomputable def f46(a:i46.J):Option WZ.J:=
(jE 80 (a.1.1.length:Int) (a.1.1.length:Int) (aW.mk ([]:F) ([]:F) ([]:List bB) ([]:List az))).bind fun b=>
(Ht ((a.1.1,(),(0:Int),()),b,())).bind fun c=>
 some (((),()),c.2.1,())
noncomputable def Yh:aH:=aP aj Tryz.f46 i46 WZ [] f46
theorem z46:aG U 46 Yh:=aS YF Tryz.func46 (by kernel_rfl) (ba aid ag) (fun y=>by kernel_rfl) fun a=>by kernel_rfl
noncomputable abbrev arV:bi:=[(46,Yh)]
theorem ase:a_ U (bg aj arV):=bf ⟨z46,⟨⟩⟩
abbrev i17:Shape:=⟨[cC 0 [c4 .pack]],[],9⟩
abbrev W':Shape:=⟨[aM 2 2 0],[bx 5000128 .pack 2 0,aL 2 [.own 5000128]],9⟩
noncomputable def f17(a:i17.J):Option W'.J:=
(f46 ((a.1.1.1,()),())).bind fun b=>
 some (((),()),b.2.1,((),()),())
noncomputable def Yq:aH:=aP aj Tryz.f17 i17 W' [] f17
theorem aoz:aG U 17 Yq:=aS ase Tryz.func17 (by kernel_rfl) ag (fun y=>by kernel_rfl) fun a=>by kernel_rfl
noncomputable abbrev aru:bi:=[(138,VF),(139,VE)]
theorem ar2:a_ U (bg aj aru):=bf ⟨z138,z139,⟨⟩⟩
abbrev i85:Shape:=⟨[cC 0 [ai,ai,c4 .need,c4 .entry],cC 1 [ai,ai,c4 .need,c4 .entry]],[],27⟩
abbrev WI:Shape:=⟨[au 4],[],27⟩
noncomputable def f85(a:i85.J):Option WI.J:=
 bif(!(a.1.1.1==a.1.2.1.1)) then
 some ((false,()),())
else
 bif(!(a.1.1.2.1==a.1.2.1.2.1)) then
 some ((false,()),())
else
(f138 ((a.1.1.2.2.1,a.1.2.1.2.2.1,()),())).bind fun b=>
 bif(!b.1.1) then
 some ((false,()),())
else
(f139 ((a.1.1.2.2.2.1,a.1.2.1.2.2.2.1,()),())).bind fun c=>
 bif(!c.1.1) then
 some ((false,()),())
else
 some ((true,()),())
noncomputable def X5:aH:=aP aj Tryz.f85 i85 WI [] f85
theorem z85:aG U 85 X5:=aS ar2 Tryz.func85 (by kernel_rfl) ag (fun y=>by kernel_rfl) fun a=>by kernel_rfl
noncomputable abbrev arH:bi:=[(85,X5)]
theorem YE:a_ U (bg aj arH):=bf ⟨z85,⟨⟩⟩
abbrev Ag:Shape:=⟨[aK 0 .pack,aK 1 .pack,ae 5],[],27⟩
abbrev G8:List aO:=[(.ret,⟨[au 4],[],27⟩),(.exit 0,⟨[],[],27⟩)]
noncomputable def AE(y:Ag.J):bR Ag G8:=
 bif(decide (y.1.2.2.1<(y.1.1.length:Int))) then
(aU y.1.1 y.1.2.2.1).bind fun a=>
(aU y.1.2.1 y.1.2.2.1).bind fun b=>
(f85 (((a.name,a.aV,a.bl,a.bQ,()),(b.name,b.aV,b.bl,b.bQ,()),()),())).bind fun c=>
 bif(!c.1.1) then
 some (.inr (.inl ((false,()),())))
else
 some (.inl ((y.1.1,y.1.2.1,(IntKind.i64.wrap (y.1.2.2.1+(1:Int))),()),()))
else
 some (.inr (.inr ((),())))
noncomputable def Hs:Ag.J->Option (aD G8):=bv AE
theorem aic:aY U (an (codeOf Tryz.f48) 1 58) (a' Ag G8 Hs):=bT YE (by kernel_rfl) ag fun y=>by kernel_rfl
abbrev i48:Shape:=⟨[aK 0 .pack,aK 1 .pack],[],27⟩
abbrev WX:Shape:=⟨[au 4],[],27⟩
noncomputable def f48(a:i48.J):Option WX.J:=
 bif((a.1.1.length:Int) !=(a.1.2.1.length:Int)) then
 some ((false,()),())
else
(Hs ((a.1.1,a.1.2.1,(0:Int),()),())).bind fun b=>
(match b with
|.inl c=>
 some ((c.1.1,()),())
|.inr d=>
 some ((true,()),()))
noncomputable def Yf:aH:=aP aj Tryz.f48 i48 WX [] f48
theorem aoq:aG U 48 Yf:=aS YE Tryz.func48 (by kernel_rfl) (ba aic ag) (fun y=>by kernel_rfl) fun a=>by kernel_rfl
noncomputable abbrev arT:bi:=[(48,Yf)]
theorem asd:a_ U (bg aj arT):=bf ⟨aoq,⟨⟩⟩
abbrev i20:Shape:=⟨[cC 0 [c4 .pack],cC 1 [c4 .pack]],[],11⟩
abbrev W8:Shape:=⟨[au 4],[],11⟩
noncomputable def f20(a:i20.J):Option W8.J:=
(f48 ((a.1.1.1,a.1.2.1.1,()),())).bind fun b=>
 bif(!b.1.1) then
 some ((false,()),())
else
 some ((true,()),())
noncomputable def Yn:aH:=aP aj Tryz.f20 i20 W8 [] f20
theorem z20:aG U 20 Yn:=aS asd Tryz.func20 (by kernel_rfl) ag (fun y=>by kernel_rfl) fun a=>by kernel_rfl
abbrev fw(n:Nat):Prop:=n<=maxLen
abbrev hS(n:Nat):Prop:=n<=1048576
abbrev Yt(n:bB):Prop:=fw n.name.length/\fw n.aV.length
abbrev KE(n:bB):Prop:=hS n.name.length/\hS n.aV.length
abbrev Yu(e:az):Prop:=fw e.path.length/\fw e.text.length
abbrev KF(e:az):Prop:=hS e.path.length/\hS e.text.length
abbrev I_(l:List bB):Prop:=fw l.length/\∀n,n∈l->Yt n
abbrev UB(l:List bB):Prop:=hS l.length/\∀n,n∈l->KE n
abbrev I'(l:List az):Prop:=fw l.length/\∀n,n∈l->Yu n
abbrev UC(l:List az):Prop:=hS l.length/\∀n,n∈l->KF n
abbrev Ys(p:aW):Prop:=fw p.name.length/\fw p.aV.length/\I_ p.bl/\I' p.bQ
abbrev KD(p:aW):Prop:=hS p.name.length/\hS p.aV.length/\UB p.bl/\UC p.bQ
abbrev BG(l:List aW):Prop:=fw l.length/\∀n,n∈l->Ys n
abbrev BA(l:List aW):Prop:=hS l.length/\∀n,n∈l->KD n
theorem lH{l:Int}{n:Nat}(h0:0<=l)(h1:l<=1048576)(hn:fw n):IntKind.i64.wrap (l-(n:Int))=l-n:=by
 unfold fw maxLen at hn;exact eg (by omega) (by omega)
def oM(l r:Int)(p:Prop):Prop:=r<0\/(0<=r/\r<=l/\p)
theorem FR{ax J bh:Type}(g:J->Option (Sum J bh))(xs:List ax)(st:Nat->Int->J)(no:bh)(nU:Int->bh)(W:ax->Prop)
  (h1:∀i x s,xs[i]? =some x->0<=s->s<=1048576->g (st i s)=some (.inr no)\/∃aC,0<=aC/\aC<=s/\W x/\g (st i s)=some (.inl (st (i+1) aC)))
  (h2:∀s,g (st xs.length s)=some (.inr (nU s))) (s:Int) (h3:0<=s) (aw:s<=1048576):
  bv g (st 0 s)=some no\/∃aC,0<=aC/\aC<=s/\(∀x,x∈xs->W x)/\bv g (st 0 s)=some (nU aC):=by
 suffices h:∀(r:List ax) (k:Nat) (s:Int),xs.drop k=r->k<=xs.length->0<=s->s<=1048576->bv g (st k s)=some no\/∃aC,0<=aC/\aC<=s/\(∀x,x∈r->W x)/\bv g (st k s)=some (nU aC) from
  h xs 0 s rfl (Nat.zero_le _) h3 aw
 intro r;induction r with
 |nil=>
  intro k s hr hk h3 aw;have:=drop_nil hr;obtain rfl:k=xs.length:=by omega
  exact .inr ⟨s,h3,Int.le_refl _,fun x h=>(by cases h),ca (h2 s)⟩
 |cons x r ih=>
  intro k s hr hk h3 aw;obtain⟨c1,c2,c3⟩:=drop_cons hr;rcases h1 k x s c1 h3 aw with h|⟨aC,aB,aA,bC,cL⟩
  ·exact .inl (ca h)
  ·rw[dz cL];rcases ih (k+1) aC c2 (by omega) aB (by omega) with h|⟨s2,q1,q2,cU,jm⟩
   ·exact .inl h
   ·exact .inr ⟨s2,q1,by omega,fun y hy=>by
     rcases List.mem_cons.1 hy with rfl|hy
     ·exact bC
     ·exact cU y hy,jm⟩
theorem adG(a)(h0:0<=a.1.2.1)(h1:a.1.2.1<=1048576)(hm:Yt ⟨a.1.1.1,a.1.1.2.1,a.1.1.2.2.1⟩):∃r:Int,f186 a=some ((r,()),())/\oM a.1.2.1 r (KE ⟨a.1.1.1,a.1.1.2.1,a.1.1.2.2.1⟩):=by
 obtain⟨⟨⟨(n:F),k,(v:F),u⟩,(l:Int),b5⟩,j8⟩:=a;have h0:0<=l:=h0;have h1:l<=1048576:=h1;obtain⟨m1,m2⟩:=hm;have m1:fw n.length:=m1;have m2:fw v.length:=m2;simp only[f186,lH h0 h1 m1];by_cases c:l-(n.length:Int)<0
 ·simp only[c,decide_true,cond_true];exact⟨_,rfl,.inl (by omega)⟩
 ·simp only[c,decide_false,cond_false,lH (l:=l-n.length) (by omega) (by omega) m2]
  by_cases c2:l-(n.length:Int)-(v.length:Int)<0
  ·simp only[c2,decide_true,cond_true];exact⟨_,rfl,.inl (by omega)⟩
  ·simp only[c2,decide_false,cond_false];exact⟨_,rfl,.inr ⟨by omega,(by show l-n.length-v.length<=l;omega),(by show n.length<=1048576;omega),(by show v.length<=1048576;omega)⟩⟩
theorem abK(a)(h0:0<=a.1.2.1)(h1:a.1.2.1<=1048576)(hm:Yu ⟨a.1.1.1,a.1.1.2.1,a.1.1.2.2.1,a.1.1.2.2.2.1⟩):∃r:Int,f187 a=some ((r,()),())/\oM a.1.2.1 r (KF ⟨a.1.1.1,a.1.1.2.1,a.1.1.2.2.1,a.1.1.2.2.2.1⟩):=by
 obtain⟨⟨⟨(n:F),k,aA,(v:F),u⟩,(l:Int),b5⟩,j8⟩:=a;have h0:0<=l:=h0;have h1:l<=1048576:=h1;obtain⟨m1,m2⟩:=hm;have m1:fw n.length:=m1;have m2:fw v.length:=m2;simp only[f187,lH h0 h1 m1];by_cases c:l-(n.length:Int)<0
 ·simp only[c,decide_true,cond_true];exact⟨_,rfl,.inl (by omega)⟩
 ·simp only[c,decide_false,cond_false,lH (l:=l-n.length) (by omega) (by omega) m2]
  by_cases c2:l-(n.length:Int)-(v.length:Int)<0
  ·simp only[c2,decide_true,cond_true];exact⟨_,rfl,.inl (by omega)⟩
  ·simp only[c2,decide_false,cond_false];exact⟨_,rfl,.inr ⟨by omega,(by show l-n.length-v.length<=l;omega),(by show n.length<=1048576;omega),(by show v.length<=1048576;omega)⟩⟩
theorem abJ(a)(h0:0<=a.1.2.1)(h1:a.1.2.1<=1048576)(hm:I_ a.1.1):∃r:Int,f134 a=some ((r,()),())/\oM a.1.2.1 r (UB a.1.1):=by
 obtain⟨⟨xs,(l:Int),u⟩,b5⟩:=a;have h0:0<=l:=h0;have h1:l<=1048576:=h1;obtain⟨m1,m2⟩:=hm;have m1:fw xs.length:=m1;simp only[f134,lH h0 h1 m1];by_cases c:l-(xs.length:Int)<0
 ·simp only[c,decide_true,cond_true];exact⟨_,rfl,.inl (by omega)⟩
 ·simp only[c,decide_false,cond_false];have hl:xs.length<=1048576:=by omega
  have key:=FR yv xs (fun i s=>((xs,(s,((i:Int),()))),())) (.inl (((-1:Int),()),())) (fun s=>.inr ((s,()),())) KE (fun i x s hx fJ s1=>?_) (fun s=>?_) (l-xs.length) (by omega) (by omega)
  ·rcases key with h|⟨aC,aB,aA,bC,h⟩
   ·have h:yl ((xs,(l-xs.length,((0:Int),()))),())=_:=h;exact⟨-1,by rw[h];rfl,.inl (by omega)⟩
   ·have h:yl ((xs,(l-xs.length,((0:Int),()))),())=_:=h;exact⟨aC,by rw[h];rfl,.inr ⟨aB,(by show aC<=l;omega),hl,bC⟩⟩
  ·have hi:=cS hx;have hw:ap i:=by unfold ap;omega
   obtain⟨r,e1,e2⟩:=adG (((x.name,(x.kind,(x.aV,()))),(s,())),()) fJ s1 (m2 x (List.mem_of_getElem? hx));simp only[yv,b8 hi,cond_true,bX,hx,Option.bind_some,e1,bS hw];rcases e2 with e2|⟨q1,q2,cU⟩
   ·left;simp only[e2,decide_true,cond_true]
   ·have:¬r<0:=by omega
    right;refine⟨r,q1,q2,cU,?_⟩;simp only[this,decide_false,cond_false]
  ·simp only[yv,dh,cond_false]
theorem aax(a)(h0:0<=a.1.2.1)(h1:a.1.2.1<=1048576)(hm:I' a.1.1):∃r:Int,f135 a=some ((r,()),())/\oM a.1.2.1 r (UC a.1.1):=by
 obtain⟨⟨xs,(l:Int),u⟩,b5⟩:=a;have h0:0<=l:=h0;have h1:l<=1048576:=h1;obtain⟨m1,m2⟩:=hm;have m1:fw xs.length:=m1;simp only[f135,lH h0 h1 m1];by_cases c:l-(xs.length:Int)<0
 ·simp only[c,decide_true,cond_true];exact⟨_,rfl,.inl (by omega)⟩
 ·simp only[c,decide_false,cond_false];have hl:xs.length<=1048576:=by omega
  have key:=FR yu xs (fun i s=>((xs,(s,((i:Int),()))),())) (.inl (((-1:Int),()),())) (fun s=>.inr ((s,()),())) KF (fun i x s hx fJ s1=>?_) (fun s=>?_) (l-xs.length) (by omega) (by omega)
  ·rcases key with h|⟨aC,aB,aA,bC,h⟩
   ·have h:yk ((xs,(l-xs.length,((0:Int),()))),())=_:=h;exact⟨-1,by rw[h];rfl,.inl (by omega)⟩
   ·have h:yk ((xs,(l-xs.length,((0:Int),()))),())=_:=h;exact⟨aC,by rw[h];rfl,.inr ⟨aB,(by show aC<=l;omega),hl,bC⟩⟩
  ·have hi:=cS hx;have hw:ap i:=by unfold ap;omega
   obtain⟨r,e1,e2⟩:=abK (((x.path,(x.kind,(x.mode,(x.text,())))),(s,())),()) fJ s1 (m2 x (List.mem_of_getElem? hx));simp only[yu,b8 hi,cond_true,bX,hx,Option.bind_some,e1,bS hw];rcases e2 with e2|⟨q1,q2,cU⟩
   ·left;simp only[e2,decide_true,cond_true]
   ·have:¬r<0:=by omega
    right;refine⟨r,q1,q2,cU,?_⟩;simp only[this,decide_false,cond_false]
  ·simp only[yu,dh,cond_false]
theorem adF(a)(h0:0<=a.1.2.1)(h1:a.1.2.1<=1048576)(hm:Ys ⟨a.1.1.1,a.1.1.2.1,a.1.1.2.2.1,a.1.1.2.2.2.1⟩):∃r:Int,f82 a=some ((r,()),())/\oM a.1.2.1 r (KD ⟨a.1.1.1,a.1.1.2.1,a.1.1.2.2.1,a.1.1.2.2.2.1⟩):=by
 obtain⟨⟨⟨(n:F),(v:F),ns,es,u⟩,(l:Int),b5⟩,j8⟩:=a;have h0:0<=l:=h0;have h1:l<=1048576:=h1;obtain⟨m1,m2,m3,m4⟩:=hm;have m1:fw n.length:=m1;have m2:fw v.length:=m2;simp only[f82,lH h0 h1 m1];by_cases c:l-(n.length:Int)<0
 ·simp only[c,decide_true,cond_true];exact⟨_,rfl,.inl (by omega)⟩
 ·simp only[c,decide_false,cond_false,lH (l:=l-n.length) (by omega) (by omega) m2]
  by_cases c2:l-(n.length:Int)-(v.length:Int)<0
  ·simp only[c2,decide_true,cond_true];exact⟨_,rfl,.inl (by omega)⟩
  ·simp only[c2,decide_false,cond_false];obtain⟨r,e1,e2⟩:=abJ ((ns,(l-(n.length:Int)-(v.length:Int),())),()) (by show 0<=l-(n.length:Int)-(v.length:Int);omega) (by show l-(n.length:Int)-(v.length:Int)<=_;omega) m3
   simp only[e1,Option.bind_some];rcases e2 with e2|⟨q1,q2,cU⟩
   ·simp only[e2,decide_true,cond_true];exact⟨_,rfl,.inl (by omega)⟩
   ·have q2:r<=l-(n.length:Int)-(v.length:Int):=q2;have c3:¬r<0:=by omega
    simp only[c3,decide_false,cond_false];obtain⟨r2,bp,c_⟩:=aax ((es,(r,())),()) q1 (by show r<=_;omega) m4
    simp only[bp,Option.bind_some];rcases c_ with c_|⟨jm,ra,asE⟩
    ·simp only[c_,decide_true,cond_true];exact⟨_,rfl,.inl (by omega)⟩
    ·have ra:r2<=r:=ra;have c5:¬r2<0:=by omega
     simp only[c5,decide_false,cond_false];exact⟨_,rfl,.inr ⟨jm,(by show r2<=l;omega),(by show n.length<=1048576;omega),(by show v.length<=1048576;omega),cU,asE⟩⟩
theorem abI(a)(h0:0<=a.1.2.1)(h1:a.1.2.1<=1048576)(hm:BG a.1.1):∃r:Int,f44 a=some ((r,()),())/\oM a.1.2.1 r (BA a.1.1):=by
 obtain⟨⟨xs,(l:Int),u⟩,b5⟩:=a;have h0:0<=l:=h0;have h1:l<=1048576:=h1;obtain⟨m1,m2⟩:=hm;have m1:fw xs.length:=m1;simp only[f44,lH h0 h1 m1];by_cases c:l-(xs.length:Int)<0
 ·simp only[c,decide_true,cond_true];exact⟨_,rfl,.inl (by omega)⟩
 ·simp only[c,decide_false,cond_false];have hl:xs.length<=1048576:=by omega
  have key:=FR zl xs (fun i s=>((xs,(s,((i:Int),()))),())) (.inl (((-1:Int),()),())) (fun s=>.inr ((s,()),())) KD (fun i x s hx fJ s1=>?_) (fun s=>?_) (l-xs.length) (by omega) (by omega)
  ·rcases key with h|⟨aC,aB,aA,bC,h⟩
   ·have h:ze ((xs,(l-xs.length,((0:Int),()))),())=_:=h;exact⟨-1,by rw[h];rfl,.inl (by omega)⟩
   ·have h:ze ((xs,(l-xs.length,((0:Int),()))),())=_:=h;exact⟨aC,by rw[h];rfl,.inr ⟨aB,(by show aC<=l;omega),hl,bC⟩⟩
  ·have hi:=cS hx;have hw:ap i:=by unfold ap;omega
   obtain⟨r,e1,e2⟩:=adF (((x.name,(x.aV,(x.bl,(x.bQ,())))),(s,())),()) fJ s1 (m2 x (List.mem_of_getElem? hx));simp only[zl,b8 hi,cond_true,bX,hx,Option.bind_some,e1,bS hw];rcases e2 with e2|⟨q1,q2,cU⟩
   ·left;simp only[e2,decide_true,cond_true]
   ·have:¬r<0:=by omega
    right;refine⟨r,q1,q2,cU,?_⟩;simp only[this,decide_false,cond_false]
  ·simp only[zl,dh,cond_false]
theorem adE(a)(h0:0<=a.1.2.1)(h1:a.1.2.1<=1048576)(hm:BG a.1.1.1):∃r:Int,f15 a=some ((r,()),())/\oM a.1.2.1 r (BA a.1.1.1):=by
 obtain⟨⟨⟨xs,u⟩,l,b5⟩,j8⟩:=a;obtain⟨r,e1,e2⟩:=abI ((xs,(l,())),()) h0 h1 hm;simp only[f15,e1,Option.bind_some];rcases e2 with e2|⟨q1,q2,cU⟩
 ·simp only[e2,decide_true,cond_true];exact⟨_,rfl,.inl (by omega)⟩
 ·have:¬r<0:=by omega
  simp only[this,decide_false,cond_false];exact⟨_,rfl,.inr ⟨q1,q2,cU⟩⟩
theorem D_{ax J bh:Type}(g:J->Option (Sum J bh))(xs:List ax)(z:ax)(st:Nat->List ax->J)(fin:List ax->bh)
  (h1:∀i x acc,xs[i]? =some x->acc.length=xs.length->g (st i acc)=some (.inl (st (i+1) (acc.set i x))))
  (h2:g (st xs.length xs)=some (.inr (fin xs))):bv g (st 0 (List.replicate xs.length z))=some (fin xs):=by
 suffices h:∀(r:List ax) (k:Nat),xs.drop k=r->k<=xs.length->bv g (st k (xs.take k++List.replicate (xs.length-k) z))=some (fin xs) from by
  have:=h xs 0 rfl (Nat.zero_le _);simpa using this
 intro r;induction r with
 |nil=>
  intro k hr hk;have:=drop_nil hr;obtain rfl:k=xs.length:=by omega
  simp only[Nat.sub_self,List.replicate_zero,List.append_nil,List.take_length];exact ca h2
 |cons x r ih=>
  intro k hr hk;obtain⟨c1,c2,c3⟩:=drop_cons hr;have hl:(xs.take k++List.replicate (xs.length-k) z).length=xs.length:=by simp;omega
  rw[dz (h1 k x _ c1 hl)];have e:(xs.take k++List.replicate (xs.length-k) z).set k x=xs.take (k+1)++List.replicate (xs.length-(k+1)) z:=by
   have wm:(xs.take k).length=k:=by simp;omega
   obtain⟨m,hm⟩:∃m,xs.length-k=m+1:=⟨xs.length-k-1,by omega⟩
   rw[List.set_append_right _ _ (by omega),wm,Nat.sub_self,hm,show xs.length-(k+1)=m by omega,List.replicate_succ,List.set_cons_zero,List.take_add_one,c1]
   simp
  rw[e];exact ih (k+1) c2 c3
theorem abH(a)(hs:cR a.1.1.length):f136 a=some (((),()),(a.1.1,())):=by
 obtain⟨⟨xs,u⟩,b5⟩:=a;have hs:xs.length<=2097152:=hs;have key:=D_ zE xs (bB.mk [] 0 []) (fun i acc=>((xs,((),((i:Int),()))),(acc,()))) (fun acc=>(((),()),(acc,()))) (fun i x acc hx hl=>?_) ?_
 ·have key:Gl ((xs,((),((0:Int),()))),(List.replicate xs.length (bB.mk [] 0 []),()))=_:=key;simp only[f136,uS (show(40:Nat)<=100 by decide) (show ap xs.length by unfold ap;omega),Option.bind_some,key]
 ·have hi:=cS hx;have hw:ap i:=by unfold ap;omega
  have ar:acc[i]? =some acc[i]:=List.getElem?_eq_getElem (by omega)
  simp only[zE,b8 hi,cond_true,bX,hx,Option.bind_some,f188,fq (show i<acc.length by omega),ar,bS hw]
 ·simp only[zE,dh,cond_false]
theorem aaw(a)(hs:cR a.1.1.length):f137 a=some (((),()),(a.1.1,())):=by
 obtain⟨⟨xs,u⟩,b5⟩:=a;have hs:xs.length<=2097152:=hs;have key:=D_ zD xs (az.mk [] 0 0 []) (fun i acc=>((xs,((),((i:Int),()))),(acc,()))) (fun acc=>(((),()),(acc,()))) (fun i x acc hx hl=>?_) ?_
 ·have key:Gk ((xs,((),((0:Int),()))),(List.replicate xs.length (az.mk [] 0 0 []),()))=_:=key;simp only[f137,uS (show(48:Nat)<=100 by decide) (show ap xs.length by unfold ap;omega),Option.bind_some,key]
 ·have hi:=cS hx;have hw:ap i:=by unfold ap;omega
  have ar:acc[i]? =some acc[i]:=List.getElem?_eq_getElem (by omega)
  simp only[zD,b8 hi,cond_true,bX,hx,Option.bind_some,f189,fq (show i<acc.length by omega),ar,bS hw]
 ·simp only[zD,dh,cond_false]
theorem abG(a)(hs:fS a.1.1):f46 a=some (((),()),(a.1.1,())):=by
 obtain⟨⟨xs,u⟩,b5⟩:=a;obtain⟨hs,hm⟩:=hs;have hs:xs.length<=2097152:=hs;have key:=D_ AF xs (aW.mk [] [] [] []) (fun i acc=>((xs,((),((i:Int),()))),(acc,()))) (fun acc=>(((),()),(acc,()))) (fun i x acc hx hl=>?_) ?_
 ·have key:Ht ((xs,((),((0:Int),()))),(List.replicate xs.length (aW.mk [] [] [] []),()))=_:=key;simp only[f46,uS (show(80:Nat)<=100 by decide) (show ap xs.length by unfold ap;omega),Option.bind_some,key]
 ·have hi:=cS hx;have hw:ap i:=by unfold ap;omega
  have ar:acc[i]? =some acc[i]:=List.getElem?_eq_getElem (by omega)
  obtain⟨_,_,b3,rf⟩:=hm x (List.mem_of_getElem? hx);simp only[AF,b8 hi,cond_true,bX,hx,Option.bind_some,f84,abH ((x.bl,()),()) b3.1,aaw ((x.bQ,()),()) rf.1,fq (show i<acc.length by omega),ar,bS hw]
 ·simp only[AF,dh,cond_false]
theorem adD(a)(hs:fS a.1.1.1):f17 a=some (((),()),(a.1.1.1,(((),()),()))):=by
 obtain⟨⟨⟨xs,u⟩,b5⟩,j8⟩:=a;simp only[f17,abG ((xs,()),()) hs,Option.bind_some]
theorem Eb{ax:Type}:∀(xs:List ax) (i:Nat),allI (fun _ _=>true) i xs=true:=by
 intro xs;induction xs with
 |nil=>intro i;rfl
 |cons x r ih=>intro i;simp only[allI,ih,Bool.and_self]
theorem uk(a:Int):(a !=a)=false:=by simp
theorem adW(a)(h:a.1.1=a.1.2.1):f190 a=some ((true,()),()):=by
 obtain⟨⟨x,y,u⟩,b5⟩:=a;have h:x=y:=h;subst h;simp only[f190,beq_self_eq_true,Bool.not_true,cond_false,uk]
theorem abZ(a)(h:a.1.1=a.1.2.1):f191 a=some ((true,()),()):=by
 obtain⟨⟨x,y,u⟩,b5⟩:=a;have h:x=y:=h;subst h;simp only[f191,beq_self_eq_true,Bool.not_true,cond_false,uk]
theorem abY(xs:List bB)(hs:cR xs.length):f138 ((xs,(xs,())),())=some ((true,()),()):=by
 have key:Gj ((xs,(xs,((0:Int),()))),())=some (bif allI (fun _ _=>true) 0 xs then .inr ((),()) else .inl ((false,()),())):=by
  refine fZ zC xs (fun i=>((xs,(xs,((i:Int),()))),())) _ _ _ (fun i x hx=>?_) ?_
  ·have hi:=cS hx;have hw:ap i:=by unfold ap;omega
   simp only[zC,b8 hi,cond_true,bX,hx,Option.bind_some,adW (((x.name,(x.kind,(x.aV,()))),((x.name,(x.kind,(x.aV,()))),())),()) rfl,Bool.not_true,cond_false,bS hw]
  ·simp only[zC,dh,cond_false]
 rw[Eb] at key;simp only[f138,uk,cond_false,key,cond_true,Option.bind_some]
theorem aaI(xs:List az)(hs:cR xs.length):f139 ((xs,(xs,())),())=some ((true,()),()):=by
 have key:Gi ((xs,(xs,((0:Int),()))),())=some (bif allI (fun _ _=>true) 0 xs then .inr ((),()) else .inl ((false,()),())):=by
  refine fZ zB xs (fun i=>((xs,(xs,((i:Int),()))),())) _ _ _ (fun i x hx=>?_) ?_
  ·have hi:=cS hx;have hw:ap i:=by unfold ap;omega
   simp only[zB,b8 hi,cond_true,bX,hx,Option.bind_some,abZ (((x.path,(x.kind,(x.mode,(x.text,())))),((x.path,(x.kind,(x.mode,(x.text,())))),())),()) rfl,Bool.not_true,cond_false,bS hw]
  ·simp only[zB,dh,cond_false]
 rw[Eb] at key;simp only[f139,uk,cond_false,key,cond_true,Option.bind_some]
theorem adV(x:aW)(h:kc x):f85 (((x.name,(x.aV,(x.bl,(x.bQ,())))),((x.name,(x.aV,(x.bl,(x.bQ,())))),())),())=some ((true,()),()):=by
 simp only[f85,beq_self_eq_true,Bool.not_true,cond_false,abY _ h.2.2.1.1,aaI _ h.2.2.2.1,Option.bind_some]
theorem abX(xs:List aW)(hs:fS xs):f48 ((xs,(xs,())),())=some ((true,()),()):=by
 have hl:xs.length<=2097152:=hs.1;have key:Hs ((xs,(xs,((0:Int),()))),())=some (bif allI (fun _ _=>true) 0 xs then .inr ((),()) else .inl ((false,()),())):=by
  refine fZ AE xs (fun i=>((xs,(xs,((i:Int),()))),())) _ _ _ (fun i x hx=>?_) ?_
  ·have hi:=cS hx;have hw:ap i:=by unfold ap;omega
   simp only[AE,b8 hi,cond_true,bX,hx,Option.bind_some,adV x (hs.2 x (List.mem_of_getElem? hx)),Bool.not_true,cond_false,bS hw]
  ·simp only[AE,dh,cond_false]
 rw[Eb] at key;simp only[f48,uk,cond_false,key,cond_true,Option.bind_some]
theorem adU(xs:List aW)(hs:fS xs):f20 (((xs,()),((xs,()),())),())=some ((true,()),()):=by
 simp only[f20,abX xs hs,Option.bind_some,Bool.not_true,cond_false]
theorem BA.asX{ps:List aW}(h:BA ps):fS ps/\nc ps:=by
 obtain⟨h1,h2⟩:=h;have up:∀{n:Nat},hS n->cR n:=fun h=>Nat.le_trans h (by decide)
 have Ww:∀{n:Nat},hS n->n<=2097151:=fun h=>Nat.le_trans h (by decide)
 refine⟨⟨up h1,fun p hp=>?_⟩,fun p hp=>?_⟩
 ·obtain⟨a,b,c,d⟩:=h2 p hp;exact⟨up a,up b,⟨up c.1,fun n hn=>⟨up (c.2 n hn).1,up (c.2 n hn).2⟩⟩,up d.1,fun n hn=>⟨up (d.2 n hn).1,up (d.2 n hn).2⟩⟩
 ·obtain⟨a,b,c,d⟩:=h2 p hp;exact⟨Ww b,fun n hn=>Ww (c.2 n hn).2⟩
theorem ow{s:F}(h:jj (.str s)):fw s.length:=by cases h;assumption
theorem GW{t:a6}{xs:List (den t)}(h:jj (.sl t xs)):fw xs.length/\∀x,x∈xs->∀d,d∈enc t x->jj d:=by cases h;exact⟨by assumption,by assumption⟩
theorem adC{xs:List bB}(h:jj (.sl .need xs)):I_ xs:=by
 obtain⟨h1,h2⟩:=GW h;exact⟨h1,fun x hx=>⟨ow (h2 x hx (.str x.name) (by simp[enc])),ow (h2 x hx (.str x.aV) (by simp[enc]))⟩⟩
theorem aau{xs:List az}(h:jj (.sl .entry xs)):I' xs:=by
 obtain⟨h1,h2⟩:=GW h;exact⟨h1,fun x hx=>⟨ow (h2 x hx (.str x.path) (by simp[enc])),ow (h2 x hx (.str x.text) (by simp[enc]))⟩⟩
theorem adB{xs:List aW}(h:jj (.sl .pack xs)):BG xs:=by
 obtain⟨h1,h2⟩:=GW h;exact⟨h1,fun x hx=>⟨ow (h2 x hx (.str x.name) (by simp[enc])),ow (h2 x hx (.str x.aV) (by simp[enc])),adC (h2 x hx (.sl .need x.bl) (by simp[enc])),aau (h2 x hx (.sl .entry x.bQ) (by simp[enc]))⟩⟩
abbrev i19:Shape:=⟨[cC 0 [ai,ai],cC 1 [ai,ai]],[],15⟩
abbrev W9:Shape:=⟨[au 4],[],15⟩
noncomputable def f19(a:i19.J):Option W9.J:=
 bif(!(a.1.1.1==a.1.2.1.1)) then
 some ((false,()),())
else
 bif(!(a.1.1.2.1==a.1.2.1.2.1)) then
 some ((false,()),())
else
 some ((true,()),())
noncomputable def Yo:aH:=aP aj Tryz.f19 i19 W9 [] f19
theorem aox:aG U 19 Yo:=aS g0 Tryz.func19 (by kernel_rfl) ag (fun y=>by kernel_rfl) fun a=>by kernel_rfl
theorem adX(s t:F):f19 (((s,(t,())),((s,(t,())),())),())=some ((true,()),()):=by
 simp only[f19,beq_self_eq_true,Bool.not_true,cond_false]
abbrev i11:Shape:=⟨[cC 0 [ai,ai],ae 1],[],20⟩
abbrev B1:Shape:=⟨[ae 4],[],20⟩
noncomputable def f11(a:i11.J):Option B1.J:=
 bif(decide ((IntKind.i64.wrap (a.1.2.1-(a.1.1.1.length:Int)))<(0:Int))) then
 some ((((-1):Int),()),())
else
 bif(decide ((IntKind.i64.wrap ((IntKind.i64.wrap (a.1.2.1-(a.1.1.1.length:Int)))-(a.1.1.2.1.length:Int)))<(0:Int))) then
 some ((((-1):Int),()),())
else
 some (((IntKind.i64.wrap ((IntKind.i64.wrap (a.1.2.1-(a.1.1.1.length:Int)))-(a.1.1.2.1.length:Int))),()),())
noncomputable def tG:aH:=aP aj Tryz.f11 i11 B1 [] f11
theorem Wt:aG U 11 tG:=aS g0 Tryz.func11 (by kernel_rfl) ag (fun y=>by kernel_rfl) fun a=>by kernel_rfl
abbrev i13:Shape:=⟨[cC 0 [ai,ai]],[],11⟩
abbrev Xc:Shape:=⟨[aM 2 2 0],[aL 2 [ai,ai]],11⟩
noncomputable def f13(a:i13.J):Option Xc.J:=
 some (((),()),(a.1.1.1,a.1.1.2.1,()),())
noncomputable def wH:aH:=aP aj Tryz.f13 i13 Xc [] f13
theorem Ws:aG U 13 wH:=aS g0 Tryz.func13 (by kernel_rfl) ag (fun y=>by kernel_rfl) fun a=>by kernel_rfl
noncomputable abbrev arK:bi:=[(70,Cu),(83,Cs)]
theorem ar8:a_ U (bg aj arK):=bf ⟨z70,Jn,⟨⟩⟩
abbrev i45:Shape:=⟨[cC 0 [c4 .pack]],[],13⟩
abbrev W0:Shape:=⟨[ao 2],[],13⟩
noncomputable def f45(a:i45.J):Option W0.J:=
(f70 (((a.1.1.1,()),()),())).bind fun b=>
(f83 (((b.1.1.length:Int),()),())).bind fun c=>
(bY c.1.1 ([10]:F)).bind fun d=>
(bY d b.1.1).bind fun e=>
(bY e ([101,110,100,10]:F)).bind fun f=>
 some ((f,()),())
noncomputable def Yi:aH:=aP aj Tryz.f45 i45 W0 [] f45
theorem aos:aG U 45 Yi:=aS ar8 Tryz.func45 (by kernel_rfl) ag (fun y=>by kernel_rfl) fun a=>by kernel_rfl
noncomputable abbrev arW:bi:=[(12,wI),(30,Cx),(45,Yi)]
theorem CB:a_ U (bg aj arW):=bf ⟨z12,Jr,aos,⟨⟩⟩
abbrev QI:Shape:=⟨[ae 2,aM 3 3 0,aM 4 4 0,aM 6 6 0],[aL 3 [ai,ai],aL 4 [c4 .pack],aL 6 [ai,ai]],33⟩
abbrev Qz:List aO:=[(.norm,⟨[ae 2,aM 3 3 0,aM 4 4 0,aM 6 6 0,au 15],[aL 3 [ai,ai],aL 4 [c4 .pack],aL 6 [ai,ai]],33⟩)]
noncomputable def HG(y:QI.J):Option (aD Qz):=
(f12 (((y.2.1.1,y.2.1.2.1,()),()),())).bind fun a=>
 bif(!(!a.1.1)) then
(f30 (((y.2.2.1.1,()),()),())).bind fun b=>
 some ((y.1.1,(),(),(),(!b.1.1),()),(y.2.1.1,y.2.1.2.1,()),(y.2.2.1.1,()),(y.2.2.2.1.1,y.2.2.2.1.2.1,()),())
else
 some ((y.1.1,(),(),(),true,()),(y.2.1.1,y.2.1.2.1,()),(y.2.2.1.1,()),(y.2.2.2.1.1,y.2.2.2.1.2.1,()),())
theorem aij:aY U (an (codeOf Tryz.f16) 1 12) (a' QI Qz HG):=cW CB (by kernel_rfl) ag fun y=>by kernel_rfl
abbrev QH:Shape:=⟨[ae 2,aM 3 3 0,aM 6 6 0,ao 7],[aL 3 [ai,ai],aL 6 [ai,ai]],33⟩
abbrev Qy:List aO:=[(.norm,⟨[ae 2,aM 3 3 0,aM 6 6 0,ao 7],[aL 3 [ai,ai],aL 6 [ai,ai]],33⟩)]
noncomputable def HF(y:QH.J):Option (aD Qy):=
 bif(decide (y.1.1<(0:Int))) then
 some (((0:Int),(),(),y.1.2.2.2.1,()),(y.2.1.1,y.2.1.2.1,()),(y.2.2.1.1,y.2.2.1.2.1,()),())
else
 some ((y.1.1,(),(),y.1.2.2.2.1,()),(y.2.1.1,y.2.1.2.1,()),(y.2.2.1.1,y.2.2.1.2.1,()),())
theorem aii:aY U (an (codeOf Tryz.f16) 1 30) (a' QH Qy HF):=cW CB (by kernel_rfl) ag fun y=>by kernel_rfl
abbrev QG:Shape:=⟨[ae 2,aM 3 3 0,aM 6 6 0,ao 7],[aL 3 [ai,ai],aL 6 [ai,ai]],33⟩
abbrev Qx:List aO:=[(.norm,⟨[ae 2,aM 3 3 0,aM 6 6 0,ao 7],[aL 3 [ai,ai],aL 6 [ai,ai]],33⟩)]
noncomputable def HE(y:QG.J):Option (aD Qx):=
 bif(decide (y.1.1>(y.1.2.2.2.1.length:Int))) then
 some (((y.1.2.2.2.1.length:Int),(),(),y.1.2.2.2.1,()),(y.2.1.1,y.2.1.2.1,()),(y.2.2.1.1,y.2.2.1.2.1,()),())
else
 some ((y.1.1,(),(),y.1.2.2.2.1,()),(y.2.1.1,y.2.1.2.1,()),(y.2.2.1.1,y.2.2.1.2.1,()),())
theorem aih:aY U (an (codeOf Tryz.f16) 1 62) (a' QG Qx HE):=cW CB (by kernel_rfl) ag fun y=>by kernel_rfl
abbrev i16:Shape:=⟨[cC 0 [ai,ai],cC 1 [c4 .pack],ae 2],[],33⟩
abbrev Xa:Shape:=⟨[aM 6 6 0],[aL 6 [ai,ai]],33⟩
noncomputable def f16(a:i16.J):Option Xa.J:=
(HG ((a.1.2.2.1,(),(),(),()),(a.1.1.1,a.1.1.2.1,()),(a.1.2.1.1,()),(([]:F),([]:F),()),())).bind fun b=>
 bif b.1.2.2.2.2.1 then
 some (((),()),(([]:F),([]:F),()),())
else
(f45 (((b.2.2.1.1,()),()),())).bind fun c=>
(HF ((b.1.1,(),(),c.1.1,()),(b.2.1.1,b.2.1.2.1,()),(b.2.2.2.1.1,b.2.2.2.1.2.1,()),())).bind fun d=>
(HE ((d.1.1,(),(),d.1.2.2.2.1,()),(d.2.1.1,d.2.1.2.1,()),(d.2.2.1.1,d.2.2.1.2.1,()),())).bind fun e=>
(br e.1.2.2.2.1 (0:Int) e.1.1).bind fun f=>
 some (((),()),(e.2.1.1,f,()),())
noncomputable def Yr:aH:=aP aj Tryz.f16 i16 Xa [] f16
theorem aoA:aG U 16 Yr:=aS CB Tryz.func16 (by kernel_rfl) (ba aij (ba aii (ba aih ag))) (fun y=>by kernel_rfl) fun a=>by kernel_rfl
noncomputable abbrev arI:bi:=[(64,BC)]
theorem ar7:a_ U (bg aj arI):=bf ⟨H5,⟨⟩⟩
abbrev i47:Shape:=⟨[ao 0],[],10⟩
abbrev WY:Shape:=⟨[ao 2],[],10⟩
noncomputable def f47(a:i47.J):Option WY.J:=
(if-9223372036854775808<=(a.1.1.length:Int)/\(a.1.1.length:Int)<=9223372036854775807 then some () else none).bind fun b=>
(bY (Lib.itoa (a.1.1.length:Int)) ([10]:F)).bind fun c=>
(bY c a.1.1).bind fun d=>
(bY d ([101,110,100,10]:F)).bind fun e=>
 some ((e,()),())
noncomputable def Yg:aH:=aP aj Tryz.f47 i47 WY [] f47
theorem aor:aG U 47 Yg:=aS ar7 Tryz.func47 (by kernel_rfl) ag (fun y=>by kernel_rfl) fun a=>by kernel_rfl
noncomputable abbrev arU:bi:=[(14,wG),(34,Ym),(43,Cw),(47,Yg)]
theorem YI:a_ U (bg aj arU):=bf ⟨Wr,aow,Jq,aor,⟨⟩⟩
abbrev QF:Shape:=⟨[ae 2,aM 3 3 0,aM 4 4 0,aM 6 6 0],[aL 3 [ai,ai],aL 4 [c4 .pack],aL 6 [ai,ai]],30⟩
abbrev Qw:List aO:=[(.norm,⟨[ae 2,aM 3 3 0,aM 4 4 0,aM 6 6 0,au 15],[aL 3 [ai,ai],aL 4 [c4 .pack],aL 6 [ai,ai]],30⟩)]
noncomputable def HD(y:QF.J):Option (aD Qw):=
(f14 (((y.2.1.1,y.2.1.2.1,()),()),())).bind fun a=>
 bif(!(!a.1.1)) then
(f43 (((y.2.2.1.1,()),()),())).bind fun b=>
 some ((y.1.1,(),(),(),(!b.1.1),()),(y.2.1.1,y.2.1.2.1,()),(y.2.2.1.1,()),(y.2.2.2.1.1,y.2.2.2.1.2.1,()),())
else
 some ((y.1.1,(),(),(),true,()),(y.2.1.1,y.2.1.2.1,()),(y.2.2.1.1,()),(y.2.2.2.1.1,y.2.2.2.1.2.1,()),())
theorem aig:aY U (an (codeOf Tryz.f18) 1 12) (a' QF Qw HD):=cW YI (by kernel_rfl) ag fun y=>by kernel_rfl
abbrev i18:Shape:=⟨[cC 0 [ai,ai],cC 1 [c4 .pack],ae 2],[],30⟩
abbrev W_:Shape:=⟨[aM 6 6 0],[aL 6 [ai,ai]],30⟩
noncomputable def f18(a:i18.J):Option W_.J:=
(HD ((a.1.2.2.1,(),(),(),()),(a.1.1.1,a.1.1.2.1,()),(a.1.2.1.1,()),(([]:F),([]:F),()),())).bind fun b=>
 bif b.1.2.2.2.2.1 then
 some (((),()),(([]:F),([]:F),()),())
else
(f34 (((b.2.2.1.1,()),()),())).bind fun c=>
(f47 ((c.1.1,()),())).bind fun d=>
(br d.1.1 (0:Int) (jZ (fQ b.1.1 (0:Int)) (d.1.1.length:Int))).bind fun e=>
 some (((),()),(b.2.1.1,e,()),())
noncomputable def Yp:aH:=aP aj Tryz.f18 i18 W_ [] f18
theorem aoy:aG U 18 Yp:=aS YI Tryz.func18 (by kernel_rfl) (ba aig ag) (fun y=>by kernel_rfl) fun a=>by kernel_rfl
noncomputable abbrev Lv:bi:=[(11,tG),(12,wI),(13,wH),(14,wG)]
theorem LA:a_ U (bg aj Lv):=bf ⟨Wt,z12,Ws,Wr,⟨⟩⟩
abbrev i3:Shape:=⟨[cC 0 [ai,ai]],[],20⟩
abbrev o3:Shape:=⟨[au 2],[],20⟩
noncomputable def f3(a:i3.J):Option o3.J:=
(f11 (((a.1.1.1,a.1.1.2.1,()),(1048576:Int),()),())).bind fun b=>
 bif(decide (b.1.1<(0:Int))) then
 some ((true,()),())
else
(f13 (((a.1.1.1,a.1.1.2.1,()),()),())).bind fun c=>
(f12 (((c.2.1.1,c.2.1.2.1,()),()),())).bind fun d=>
(f13 (((a.1.1.1,a.1.1.2.1,()),()),())).bind fun e=>
(f14 (((e.2.1.1,e.2.1.2.1,()),()),())).bind fun f=>
 bif(!(f.1.1==d.1.1)) then
 some ((false,()),())
else
 some ((true,()),())
noncomputable def iS:aH:=aP aj Tryz.f3 i3 o3 [] f3
theorem z3:aG U 3 iS:=aS LA Tryz.func3 (by kernel_rfl) ag (fun y=>by kernel_rfl) fun a=>by kernel_rfl
noncomputable abbrev Lu:bi:=[(11,tG),(13,wH),(15,wF),(16,Yr),(17,Yq),(18,Yp),(19,Yo),(20,Yn)]
theorem Lz:a_ U (bg aj Lu):=bf ⟨Wt,Ws,aoB,aoA,aoz,aoy,aox,z20,⟨⟩⟩
abbrev i4:Shape:=⟨[cC 0 [ai,ai],cC 1 [c4 .pack],ae 2],[],43⟩
abbrev YX:Shape:=⟨[au 6],[],43⟩
noncomputable def f4(a:i4.J):Option YX.J:=
(f11 (((a.1.1.1,a.1.1.2.1,()),(1048576:Int),()),())).bind fun b=>
 bif(decide (b.1.1<(0:Int))) then
 some ((true,()),())
else
(f15 (((a.1.2.1.1,()),b.1.1,()),())).bind fun c=>
 bif(decide (c.1.1<(0:Int))) then
 some ((true,()),())
else
(f13 (((a.1.1.1,a.1.1.2.1,()),()),())).bind fun d=>
(f17 (((a.1.2.1.1,()),()),())).bind fun e=>
(f16 (((d.2.1.1,d.2.1.2.1,()),(e.2.1,()),a.1.2.2.1,()),())).bind fun f=>
(f17 (((a.1.2.1.1,()),()),())).bind fun g=>
(f13 (((a.1.1.1,a.1.1.2.1,()),()),())).bind fun h=>
(f18 (((h.2.1.1,h.2.1.2.1,()),(g.2.1,()),a.1.2.2.1,()),())).bind fun i=>
(f19 (((i.2.1.1,i.2.1.2.1,()),(f.2.1.1,f.2.1.2.1,()),()),())).bind fun j=>
 bif(!j.1.1) then
 some ((false,()),())
else
(f17 (((a.1.2.1.1,()),()),())).bind fun k=>
(f20 (((g.2.1,()),(k.2.1,()),()),())).bind fun l=>
 bif(!l.1.1) then
 some ((false,()),())
else
 some ((true,()),())
noncomputable def jK:aH:=aP aj Tryz.f4 i4 YX [] f4
theorem z4:aG U 4 jK:=aS Lz Tryz.func4 (by kernel_rfl) ag (fun y=>by kernel_rfl) fun a=>by kernel_rfl
def Uy:F:=[101,110,100,10]
def jy(ps:List aW):F:=dv (cN ps)++Uy
theorem ON{ps:List aW}(hb:fS ps)(hr:fM ps=true):(cN ps).length<=503317500:=by
 have hk:=(nf hr).1;have bk:=(nf hr).2;have h1:=pW (f:=fun p=>dv (bA p)) (xs:=ps) (n:=100663500) fun p hp=>DG (hb.2 p hp) (hk p hp)
 have aw:ps.length*100663500<=5*100663500:=Nat.mul_le_mul_right _ bk;have e:(cN ps).length=(ps.flatMap fun p=>dv (bA p)).length:=rfl
 omega
theorem abL(s:F)(hs:s.length<=1000000000):f47 ((s,()),())=some ((dv s++Uy,()),()):=by
 have h2:=k2 s.length (by omega)
 have e1:=dA (s:=Lib.itoa (s.length:Int)) (t:=[10]) (by simp;omega)
 have e2:=dA (s:=Lib.itoa (s.length:Int)++[10]) (t:=s) (by simp;omega)
 have bp:=dA (s:=Lib.itoa (s.length:Int)++[10]++s) (t:=[101,110,100,10]) (by simp;omega)
 simp only[f47];refine(ka (if_pos ⟨?_,?_⟩)).trans ((ka e1).trans ((ka e2).trans ((ka bp).trans rfl)))
 ·omega
 ·omega
theorem adT(ps:List aW)(hb:fS ps)(hr:fM ps=true):f45 (((ps,()),()),())=some ((jy ps,()),()):=by
 have hl:=ON hb hr;have eI:=Fg ps hb (nf hr).1;have Z:f83 ((((cN ps).length:Int),()),())=_:=yz (cN ps).length (by omega)
 have h2:=k2 (cN ps).length (by omega)
 have e1:=dA (s:=Lib.itoa ((cN ps).length:Int)) (t:=[10]) (by simp;omega)
 have e2:=dA (s:=Lib.itoa ((cN ps).length:Int)++[10]) (t:=cN ps) (by simp;omega)
 have bp:=dA (s:=Lib.itoa ((cN ps).length:Int)++[10]++cN ps) (t:=[101,110,100,10]) (by simp;omega)
 simp only[f45];exact(ka eI).trans ((ka Z).trans ((ka e1).trans ((ka e2).trans ((ka bp).trans rfl))))
def mB(b:Int)(n:Nat):Nat:=min b.toNat n
theorem Oh(b:Int)(n:Nat):mB b n<=n:=Nat.min_le_right _ _
abbrev nH(k:Bool)(s:F)(ps:List aW)(b:Int):F×F:=bif k&&fM ps then(s,(jy ps).take (mB b (jy ps).length)) else([],[])
theorem _K(s t:F)(ps:List aW)(b:Int)(hb:fS ps)(hv:nc ps)(k:Bool)(hk:f14 (((s,(t,())),()),())=some ((k,()),())):
  f18 (((s,(t,())),((ps,()),(b,()))),())=some (((),()),(((nH k s ps b).1,((nH k s ps b).2,())),())):=by
 have e1:=xw (((ps,()),()),()) hb hv;have e1:f43 (((ps,()),()),())=some ((fM ps,()),()):=e1;simp only[f18,HD,hk,Option.bind_some];cases k with
 |false=>rfl
 |true=>
  cases hr:fM ps with
  |false=>
   rw[hr] at e1;simp only[nH,hr,Bool.not_true,Bool.not_false,cond_true,e1,Option.bind_some,Bool.true_and,cond_false]
  |true=>
   rw[hr] at e1;have e2:=aaD ps hb hv;rw[hr] at e2;have hl:=ON hb hr;have bp:=abL (cN ps) (by omega)
   have bp:f47 ((cN ps,()),())=some ((jy ps,()),()):=bp;have hm:jZ (fQ b 0) ((jy ps).length:Int)=((mB b (jy ps).length:Nat):Int):=by
    unfold jZ fQ mB;split<;>split<;>omega
   have c_:br (jy ps) 0 ((mB b (jy ps).length:Nat):Int)=some _:=gI (Oh b _);simp only[nH,hr,Bool.not_true,Bool.not_false,cond_true,e1,Option.bind_some,Bool.true_and,cond_false,e2,bp,hm,c_]
theorem aaL(s t:F)(ps:List aW)(b:Int)(hb:fS ps)(hv:nc ps)(k:Bool)(hk:f12 (((s,(t,())),()),())=some ((k,()),())):
  f16 (((s,(t,())),((ps,()),(b,()))),())=some (((),()),(((nH k s ps b).1,((nH k s ps b).2,())),())):=by
 have e1:=Ed (((ps,()),()),()) hb hv;have e1:f30 (((ps,()),()),())=some ((fM ps,()),()):=e1;simp only[f16,HG,hk,Option.bind_some];cases k with
 |false=>rfl
 |true=>
  cases hr:fM ps with
  |false=>
   rw[hr] at e1;simp only[nH,hr,Bool.not_true,Bool.not_false,cond_true,e1,Option.bind_some,Bool.true_and,cond_false]
  |true=>
   rw[hr] at e1;have bp:=adT ps hb hr;have fin:∀x:Int,x=((mB b (jy ps).length:Nat):Int)->br (jy ps) 0 x=some ((jy ps).take (mB b (jy ps).length)):=fun x hx=>by rw[hx];exact gI (Oh b _)
   simp only[nH,hr,Bool.not_true,Bool.not_false,cond_true,e1,Option.bind_some,Bool.true_and,cond_false,bp,HF,HE];by_cases h0:b<0
   ·have d0:decide ((0:Int)>((jy ps).length:Int))=false:=decide_eq_false (by omega)
    simp only[h0,decide_true,cond_true,Option.bind_some,d0,cond_false,fin 0 (by unfold mB;omega)]
   ·simp only[h0,decide_false,cond_false,Option.bind_some];by_cases h1:b>((jy ps).length:Int)
    ·simp only[h1,decide_true,cond_true,Option.bind_some,fin _ (show((jy ps).length:Int)=_ by unfold mB;omega)]
    ·simp only[h1,decide_false,cond_false,Option.bind_some,fin b (by unfold mB;omega)]
theorem adH(s t:F)(l:Int)(h0:0<=l)(h1:l<=1048576)(hs:fw s.length)(aq:fw t.length):∃r:Int,f11 (((s,(t,())),(l,())),())=some ((r,()),())/\oM l r (hS s.length/\hS t.length):=by
 have aN:=lH h0 h1 hs;simp only[f11,aN];by_cases aB:l-(s.length:Int)<0
 ·simp only[aB,decide_true,cond_true];exact⟨-1,rfl,.inl (by omega)⟩
 ·have w2:=lH (l:=l-(s.length:Int)) (by omega) (by omega) aq
  simp only[aB,decide_false,cond_false,w2];by_cases aA:l-(s.length:Int)-(t.length:Int)<0
  ·simp only[aA,decide_true,cond_true];exact⟨-1,rfl,.inl (by omega)⟩
  ·simp only[aA,decide_false,cond_false];exact⟨_,rfl,.inr ⟨by omega,by omega,by unfold hS;omega,by unfold hS;omega⟩⟩
theorem Zp(s t:F)(ps:List aW)(b:Int)(hs:fw s.length)(aq:fw t.length)(hm:BG ps):f4 (((s,(t,())),((ps,()),(b,()))),())=some ((true,()),()):=by
 obtain⟨r,e1,e2⟩:=adH s t 1048576 (by decide) (by decide) hs aq
 simp only[f4,e1,Option.bind_some];rcases e2 with e2|⟨q1,q2,cU,jm⟩
 ·simp only[e2,decide_true,cond_true]
 ·have h0:¬r<0:=by omega
  unfold hS at cU;obtain⟨r2,fp,na⟩:=adE (((ps,()),(r,())),()) q1 q2 hm;simp only[h0,decide_false,cond_false,fp,Option.bind_some];rcases na with na|⟨iP,iu,p3⟩
  ·simp only[na,decide_true,cond_true]
  ·have h1:¬r2<0:=by omega
   obtain⟨hb,hv⟩:=p3.asX;obtain⟨k,bp,c_⟩:=afm s t (by omega)
   have w:=aaL s t ps b hb hv k bp;have w':=_K s t ps b hb hv k c_;generalize nH k s ps b=aZ at w w';simp only[h1,decide_false,cond_false,f13,Option.bind_some,adD (((ps,()),()),()) hb,w,w',adX aZ.1 aZ.2,Bool.not_true,adU ps hb]
theorem pure_FnExactDiskTear:LawOk jK [(true,[.str,.str]),(true,[.sl .pack]),(false,[.int .i64])]:=by
 rintro⟨⟨s,t,u⟩,⟨ps,u2⟩,⟨b,YT⟩,b5⟩ ⟨h,h2,_⟩;exact⟨((true,()),()),Zp s t ps b (ow (h (.str s) (by simp[e9,dy.mk]))) (ow (h (.str t) (by simp[e9,dy.mk]))) (adB (h2 (.sl .pack ps) (by simp[e9,dy.mk]))),rfl⟩
end Go.Proofs
