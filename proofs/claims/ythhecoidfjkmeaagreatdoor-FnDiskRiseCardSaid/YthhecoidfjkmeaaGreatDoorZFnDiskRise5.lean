/- FnDiskRise: recovery is idempotent. (part 6 of 7: JkKF76, JkKPuGr, JkKF39, JkKF12, JkKPuGs, JkKF34, JkKPuPc, JkKF186, JkKF134, JkKF187, JkKF135, JkKF188, JkKF136, JkKF189, JkKF137, JkKF190, JkKF138, JkKF191, JkKF139, JkKF82, JkKF44, JkKF15, JkKF84, J) Conditions: none beyond the statement. -/
import Derived.Test.YthhecoidfjkmeaaGreatDoorZFnDiskRise4
import Derived.Tactics
import Derived.Deep.RegionLaw
import Derived.Shelf.Abstract
import Derived.Test.YthhecoidfjkmeaaGreatDoorProg
import Derived.KernelRfl
set_option linter.unusedSimpArgs false
set_option maxRecDepth 100000
set_option linter.unusedVariables false
namespace Go.Proofs
open Go.Jk
noncomputable abbrev aAb:a8:=[(50,EJ),(123,L_),(126,aaz),(127,aay)]
theorem NX:aT O (aZ af aAb):=aY ⟨Mq,XM,atf,z127,⟨⟩⟩
abbrev U4:Shape:=⟨[am 0,ax 2 2 0,ax 4 4 0,am 5,ar 6],[bv 5000130 .need 2 2,bv 5000131 .entry 2 3,aw 2 [ah,ah,.own 5000130,.own 5000131],bv 5000258 .need 4 2,bv 5000259 .entry 4 3,aw 4 [ah,ah,.own 5000258,.own 5000259]],45⟩
abbrev UO:List aR:=[(.norm,⟨[am 0,ax 2 2 0,ax 4 4 0,am 5,ar 21],[bv 5000130 .need 2 2,bv 5000131 .entry 2 3,aw 2 [ah,ah,.own 5000130,.own 5000131],bv 5000258 .need 4 2,bv 5000259 .entry 4 3,aw 4 [ah,ah,.own 5000258,.own 5000259]],45⟩)]
noncomputable def oJ(y:U4.J):Option (aH UO):=
 bif(!(!y.1.2.2.2.2.1)) then
 some ((y.1.1,(),(),y.1.2.2.2.1,(decide ((y.1.1.length:Int)>(4000:Int))),()),y.2.1,y.2.2.1,(y.2.2.2.1.1,y.2.2.2.1.2.1,(),(),()),y.2.2.2.2.1,y.2.2.2.2.2.1,(y.2.2.2.2.2.2.1.1,y.2.2.2.2.2.2.1.2.1,(),(),()),())
else
 some ((y.1.1,(),(),y.1.2.2.2.1,true,()),y.2.1,y.2.2.1,(y.2.2.2.1.1,y.2.2.2.1.2.1,(),(),()),y.2.2.2.2.1,y.2.2.2.2.2.1,(y.2.2.2.2.2.2.1.1,y.2.2.2.2.2.2.1.2.1,(),(),()),())
theorem apm:aV O (ap (codeOf Tryz.f76) 1 28) (aX U4 UO oJ):=cn NX (by kernel_rfl) ag fun y=>by kernel_rfl
abbrev Tr:Shape:=⟨[am 0,ax 2 2 0,ax 4 4 0,ar 8],[bv 5000130 .need 2 2,bv 5000131 .entry 2 3,aw 2 [ah,ah,.own 5000130,.own 5000131],bv 5000258 .need 4 2,bv 5000259 .entry 4 3,aw 4 [ah,ah,.own 5000258,.own 5000259]],45⟩
abbrev S7:List aR:=[(.norm,⟨[ax 2 2 0,ax 4 4 0,ar 42],[bv 5000130 .need 2 2,bv 5000131 .entry 2 3,aw 2 [ah,ah,.own 5000130,.own 5000131],bv 5000258 .need 4 2,bv 5000259 .entry 4 3,aw 4 [ah,ah,.own 5000258,.own 5000259]],45⟩)]
noncomputable def rb(y:Tr.J):Option (aH S7):=
 bif(!(!y.1.2.2.2.1)) then
(f50 (((y.2.2.2.2.2.2.1.1,y.2.2.2.2.2.2.1.2.1,y.2.2.2.2.1,y.2.2.2.2.2.1,()),()),())).bind fun a=>
 bif(!(!a.1.1)) then
(f123 (((y.2.2.2.2.2.2.1.1,y.2.2.2.2.2.2.1.2.1,y.2.2.2.2.1,y.2.2.2.2.2.1,()),()),())).bind fun b=>
 some (((),(),(!(b.1.1==y.1.1)),()),y.2.1,y.2.2.1,(y.2.2.2.1.1,y.2.2.2.1.2.1,(),(),()),y.2.2.2.2.1,y.2.2.2.2.2.1,(y.2.2.2.2.2.2.1.1,y.2.2.2.2.2.2.1.2.1,(),(),()),())
else
 some (((),(),true,()),y.2.1,y.2.2.1,(y.2.2.2.1.1,y.2.2.2.1.2.1,(),(),()),y.2.2.2.2.1,y.2.2.2.2.2.1,(y.2.2.2.2.2.2.1.1,y.2.2.2.2.2.2.1.2.1,(),(),()),())
else
 some (((),(),true,()),y.2.1,y.2.2.1,(y.2.2.2.1.1,y.2.2.2.1.2.1,(),(),()),y.2.2.2.2.1,y.2.2.2.2.2.1,(y.2.2.2.2.2.2.1.1,y.2.2.2.2.2.2.1.2.1,(),(),()),())
theorem amH:aV O (ap (codeOf Tryz.f76) 1 252) (aX Tr S7 rb):=cn NX (by kernel_rfl) ag fun y=>by kernel_rfl
abbrev i76:Shape:=⟨[am 0],[],45⟩
abbrev xE:Shape:=⟨[ax 2 2 0,ar 3],[bv 5000130 .need 2 2,bv 5000131 .entry 2 3,aw 2 [ah,ah,.own 5000130,.own 5000131]],45⟩
noncomputable def f76(a:i76.J):Option xE.J:=
(f126 ((a.1.1,()),())).bind fun b=>
(oJ ((a.1.1,(),(),b.1.2.1,b.1.2.2.1,()),([]:List bD),([]:List aB),(([]:B),([]:B),(),(),()),b.2.1,b.2.2.1,(b.2.2.2.1.1,b.2.2.2.1.2.1,(),(),()),())).bind fun c=>
 bif c.1.2.2.2.2.1 then
 some (((),false,()),([]:List bD),([]:List aB),(([]:B),([]:B),(),(),()),())
else
(f127 ((c.1.2.2.2.1,()),())).bind fun d=>
(rb ((c.1.1,(),(),d.1.2.1,()),c.2.1,c.2.2.1,(c.2.2.2.1.1,c.2.2.2.1.2.1,(),(),()),c.2.2.2.2.1,d.2.1,(c.2.2.2.2.2.2.1.1,c.2.2.2.2.2.2.1.2.1,(),(),()),())).bind fun e=>
 bif e.1.2.2.1 then
 some (((),false,()),([]:List bD),([]:List aB),(([]:B),([]:B),(),(),()),())
else
 some (((),true,()),e.2.2.2.2.1,e.2.2.2.2.2.1,(e.2.2.2.2.2.2.1.1,e.2.2.2.2.2.2.1.2.1,(),(),()),())
noncomputable def adp:aI:=aL af Tryz.f76 i76 xE [] f76
theorem z76:aF O 76 adp:=aM NX Tryz.func76 (by kernel_rfl) (a7 apm (a7 amH ag)) (fun y=>by kernel_rfl) fun a=>by kernel_rfl
def eH(n:bD):B:=gj++32::cZ n
theorem ap0{n:bD}(h:dR n=true):cp 10 (eH n):=(cp.lit (by decide)).dh fun z hz=>by
 rcases bR.1 hz with rfl|hz
 ·decide
 ·exact TK h z hz
theorem Su(n:bD)(r:B):cM n++r=eH n++10::r:=by unfold cM eH gj;simp
theorem apO:∀(ns acc:List bD) (pre more:List B) (L bX vs:B),(∀n,n∈ns->dR n=true)->2<=pre.length->acc.length<=pre.length->pre.length+ns.length<=8->(ns.flatMap cM++10::L).length<=2000000->
  lO (iD (ns.flatMap cM++10::L) (pre.length:Int) acc bX vs (pre++(ns.map eH++[]::more)))=some (.inl (qH L true (acc++ns) bX vs)):=by
 intro ns;induction ns with
 |nil=>
  intro acc pre more L bX vs _ hp _ hi hs;have hlt:pre.length<(pre++(([]:List bD).map eH++[]::more)).length:=by simp
  have hx:(pre++(([]:List bD).map eH++[]::more))[pre.length]? =some []:=by rw[List.getElem?_append_right (Nat.le_refl _)];simp
  have hin:=fP hlt;have d:decide ((pre.length:Int)<=8)=true:=decide_eq_true (by simp at hi;omega)
  have c2:=lN 32 [] (by simp) 2
  have c2:f73 ((([]:B),((32:Int),((2:Int),()))),())=some (((),()),([[]],())):=c2;have hw1:IntKind.i64.wrap (((([]:B).length:Nat):Int)+1)=((1:Nat):Int):=by decide
  have j0:decide (((((10:UInt8)::L).length:Nat):Int)<((1:Nat):Int))=false:=decide_eq_false (by simp only[cY];omega)
  have jT:bq ((10:UInt8)::L) ((1:Nat):Int) ((((10:UInt8)::L).length:Nat):Int)=some L:=fC (xs:=(10:UInt8)::L) (by simp)
  have t1:((pre.length:Int)==1)=false:=by rw[beq_eq_false_iff_ne];omega
  have t2:decide ((pre.length:Int)>1)=true:=decide_eq_true (by omega)
  have hxe:(([]:B)==([]:B))=true:=rfl;rw[List.append_nil];refine cC ?_
  show ic (iD (10::L) (pre.length:Int) acc bX vs _)=_;simp only[ic,ct hlt,d,ad,hin,Y,hx,c2,hw1,j0,ak,jT,lI,t1,ms,t2,hxe]
 |cons n ns ih=>
  intro acc pre more L bX vs h hp ha hi hs;have hk:=h n cj;have hE:(n::ns).flatMap cM++10::L=eH n++10::(ns.flatMap cM++10::L):=by rw[List.flatMap_cons,List.append_assoc,Su]
  rw[hE] at hs ⊢;have hR:pre++((n::ns).map eH++[]::more)=(pre++[eH n])++(ns.map eH++[]::more):=by simp
  have hlt:pre.length<(pre++((n::ns).map eH++[]::more)).length:=by simp
  have hx:(pre++((n::ns).map eH++[]::more))[pre.length]? =some (eH n):=by rw[List.getElem?_append_right (Nat.le_refl _)];simp
  have hin:=fP hlt;have aDa:(eH n).length=gj.length+1+(cZ n).length:=by unfold eH;simp;omega
  simp only[dx,cY] at hs hi;have d:decide ((pre.length:Int)<=8)=true:=decide_eq_true (by omega)
  have rT:splitN 32 2 (eH n)=[gj,cZ n]:=by
   have hn:cp 32 gj:=cp.lit (by decide)
   unfold eH;rw[PU hn,QO (ajr hk)]
  have c2:=lN 32 (eH n) (by omega) 2
  rw[rT] at c2;have c2:f73 ((eH n,((32:Int),((2:Int),()))),())=some (((),()),([gj,cZ n],())):=c2;have hw1:IntKind.i64.wrap ((((eH n).length:Nat):Int)+1)=(((eH n).length+1:Nat):Int):=b9 (by unfold aA;omega)
  have li:IntKind.i64.wrap (((pre.length:Nat):Int)+1)=((pre.length+1:Nat):Int):=b9 (by unfold aA;omega)
  have j0:decide ((((eH n++10::(ns.flatMap cM++10::L)).length:Nat):Int)<(((eH n).length+1:Nat):Int))=false:=decide_eq_false (by simp;omega)
  have jT:bq (eH n++10::(ns.flatMap cM++10::L)) (((eH n).length+1:Nat):Int) (((eH n++10::(ns.flatMap cM++10::L)).length:Nat):Int)=some (ns.flatMap cM++10::L):=by
   rw[fC (by simp only[dx,cY];omega)]
   refine congrArg some ?_
   rw[show eH n++10::(ns.flatMap cM++10::L)=(eH n++[10])++(ns.flatMap cM++10::L) by simp,List.drop_left' (by simp)]
  have t1:((pre.length:Int)==1)=false:=by rw[beq_eq_false_iff_ne];omega
  have t2:decide ((pre.length:Int)>1)=true:=decide_eq_true (by omega)
  have hxe:(eH n==([]:B))=false:=rfl;have h_:bf ([gj,cZ n]:List B).length (0:Int)=some 0:=rfl;have mm:bf ([gj,cZ n]:List B).length (1:Int)=some 1:=rfl;have dT:([gj,cZ n]:List B)[0]? =some gj:=rfl;have cV:([gj,cZ n]:List B)[1]? =some (cZ n):=rfl;have q0:(gj==([110,101,101,100]:B))=true:=rfl;have q2:((([gj,cZ n]:List B).length:Int)==2)=true:=rfl;obtain⟨ok,e1⟩:=agc hk (by omega)
  have fJ:cm 40 acc ([(bD.mk n.name n.kind n.a6)]:List bD)=some (acc++[n]):=dw (by decide) (by unfold aA;simp;omega)
  have st:ic (iD (eH n++10::(ns.flatMap cM++10::L)) (pre.length:Int) acc bX vs (pre++((n::ns).map eH++[]::more)))=some (.inl (iD (ns.flatMap cM++10::L) ((pre.length+1:Nat):Int) (acc++[n]) bX vs (pre++((n::ns).map eH++[]::more)))):=by
   simp only[ic,ct hlt,d,ad,hin,Y,hx,c2,hw1,j0,ak,jT,lI,t1,ms,t2,hxe,oj,h_,dT,q0,q2,mm,cV,e1,fJ,li]
  have:=ih (acc++[n]) (pre++[eH n]) more L bX vs (fun x hx=>h x (ci _ hx)) (by simp;omega) (by simp;omega) (by simp;omega) (by simp only[dx,cY];omega)
  rw[<-hR,List.append_assoc] at this;have qq:(pre++[eH n]).length=pre.length+1:=by simp
  rw[qq] at this;exact(ea st).trans this
theorem agM(ns:List bD)(r:B)(h:∀n,n∈ns->dR n=true):bO 10 (ns.flatMap cM++10::r)=ns.map eH++[]::bO 10 r:=by
 induction ns with
 |nil=>exact sN (a:=[]) (cp.nil 10)
 |cons n ns ih=>
  rw[List.flatMap_cons,List.append_assoc,Su,sN (ap0 (h n cj)),ih fun x hx=>h x (ci _ hx)]
  rfl
theorem amz(p:aJ):cp 10 (e_ p):=(cp.lit (by decide)).dh (Tl _)
theorem afx(p:aJ)(hk:cx p=true)(hs:(bJ p).length<=2000000):f126 ((bJ p,()),())=some (qH (dt p.bI) true p.bl p.name p.a6):=by
 have hw:IntKind.i64.wrap ((((bJ p).length:Nat):Int)+1)=(((bJ p).length+1:Nat):Int):=b9 (by unfold aA;omega)
 have c1:=lN 10 (bJ p) (by omega) ((bJ p).length+1)
 obtain⟨h1,h2,h3,aD,_,cl⟩:=nn hk;have kj:splitN 10 ((bJ p).length+1) (bJ p)=e_ p::ew p::(p.bl.map eH++[]::bO 10 (dt p.bI)):=by
  rw[yX 10 _ _ (by omega),vU,sN (amz p),vL,sN (SE hk),jh,agM _ _ h3]
 rw[kj] at c1;have c1:f73 ((bJ p,((10:Int),((((bJ p).length+1:Nat):Int),()))),())=_:=c1;generalize aBF:p.bl.map eH++[]::bO 10 (dt p.bI)=fB at c1;have E0:bJ p=e_ p++10::dJ p:=vU p;have hB:dJ p=ew p++10::jh p:=vL p;have ed:(bJ p).length=(e_ p).length+1+(dJ p).length:=by rw[E0];simp;omega
 have fU:(dJ p).length=(ew p).length+1+(jh p).length:=by rw[hB];simp;omega
 have hlt:∀i,i<2->decide (((i:Nat):Int)<(((e_ p::ew p::fB).length:Nat):Int))=true:=fun i hi=>decide_eq_true (by simp;omega)
 have i0:bf (e_ p::ew p::fB).length (0:Int)=some 0:=ML (by simp)
 have i1:bf (e_ p::ew p::fB).length ((0+1:Nat):Int)=some 1:=MK (by simp)
 have eU:(e_ p::ew p::fB)[0]? =some (e_ p):=rfl;have ep:(e_ p::ew p::fB)[1]? =some (ew p):=rfl;have iR:ic (iD (bJ p) (0:Int) [] [] [] (e_ p::ew p::fB))=some (.inl (iD (dJ p) ((0+1:Nat):Int) [] [] [] (e_ p::ew p::fB))):=by
  have d:decide ((0:Int)<=8)=true:=rfl;have d0:decide ((0:Int)<(((e_ p::ew p::fB).length:Nat):Int))=true:=hlt 0 (by decide)
  have c2:=lN 32 (e_ p) (by omega) 2
  have c2:f73 ((e_ p,((32:Int),((2:Int),()))),())=_:=c2;have hw1:IntKind.i64.wrap ((((e_ p).length:Nat):Int)+1)=(((e_ p).length+1:Nat):Int):=b9 (by unfold aA;omega)
  have j0:decide ((((bJ p).length:Nat):Int)<(((e_ p).length+1:Nat):Int))=false:=decide_eq_false (by omega)
  have jT:bq (bJ p) (((e_ p).length+1:Nat):Int) (((bJ p).length:Nat):Int)=some (dJ p):=by
   rw[fC (by omega)]
   refine congrArg some ?_
   rw[E0,show e_ p++10::dJ p=(e_ p++[10])++dJ p by simp,List.drop_left' (by simp)]
  have t1:((0:Int)==1)=false:=rfl;have t2:decide ((0:Int)>1)=false:=rfl;have t3:decide ((0:Int)>0)=false:=rfl;have li:IntKind.i64.wrap ((0:Int)+1)=((0+1:Nat):Int):=by decide
  simp only[ic,d0,d,ad,i0,Y,eU,c2,hw1,j0,ak,jT,lI,t1,ms,t2,oj,t3,li]
 have s1:ic (iD (dJ p) ((0+1:Nat):Int) [] [] [] (e_ p::ew p::fB))=some (.inl (iD (jh p) ((([e_ p,ew p]:List B).length:Nat):Int) [] p.name p.a6 (e_ p::ew p::fB))):=by
  have d:decide (((0+1:Nat):Int)<=8)=true:=rfl;have d0:=hlt 1 (by decide)
  have d0:decide (((0+1:Nat):Int)<(((e_ p::ew p::fB).length:Nat):Int))=true:=d0;have rT:splitN 32 2 (ew p)=[iX,p.name,p.a6]:=by
   rw[yY 32 2 _ (by rw[Fx hk];exact Nat.le_refl 3),Fx hk]
  have c2:=lN 32 (ew p) (by omega) 2
  rw[rT] at c2;have c2:f73 ((ew p,((32:Int),((2:Int),()))),())=some (((),()),([iX,p.name,p.a6],())):=c2;have hw1:IntKind.i64.wrap ((((ew p).length:Nat):Int)+1)=(((ew p).length+1:Nat):Int):=b9 (by unfold aA;omega)
  have j0:decide ((((dJ p).length:Nat):Int)<(((ew p).length+1:Nat):Int))=false:=decide_eq_false (by omega)
  have jT:bq (dJ p) (((ew p).length+1:Nat):Int) (((dJ p).length:Nat):Int)=some (jh p):=by
   rw[fC (by omega)]
   refine congrArg some ?_
   rw[hB,show ew p++10::jh p=(ew p++[10])++jh p by simp,List.drop_left' (by simp)]
  have t1:(((0+1:Nat):Int)==1)=true:=rfl;have h_:bf ([iX,p.name,p.a6]:List B).length (0:Int)=some 0:=rfl;have mm:bf ([iX,p.name,p.a6]:List B).length (1:Int)=some 1:=rfl;have qE:bf ([iX,p.name,p.a6]:List B).length (2:Int)=some 2:=rfl;have dT:([iX,p.name,p.a6]:List B)[0]? =some iX:=rfl;have cV:([iX,p.name,p.a6]:List B)[1]? =some p.name:=rfl;have dD:([iX,p.name,p.a6]:List B)[2]? =some p.a6:=rfl;have q0:(iX==([112,97,99,107]:B))=true:=rfl;have dU:((([iX,p.name,p.a6]:List B).length:Int)==3)=true:=rfl;have li:IntKind.i64.wrap (((0+1:Nat):Int)+1)=((([e_ p,ew p]:List B).length:Nat):Int):=by show IntKind.i64.wrap (((0+1:Nat):Int)+1)=((2:Nat):Int);decide
  simp only[ic,d0,d,ad,i1,Y,ep,c2,hw1,j0,ak,jT,lI,t1,h_,dT,q0,dU,mm,qE,cV,dD,li]
 have s2:=apO p.bl [] [e_ p,ew p] (bO 10 (dt p.bI)) (dt p.bI) p.name p.a6 h3 (Nat.le_refl 2) (Nat.zero_le _) (by simp;omega) (by show(jh p).length<=_;omega)
 rw[aBF] at s2;have e:lO (iD (bJ p) (0:Int) [] [] [] (e_ p::ew p::fB))=some (.inl (qH (dt p.bI) true p.bl p.name p.a6)):=(ea iR).trans ((ea s1).trans s2);simp only[f126,hw,c1,Y,e]
abbrev sF(p:aJ):xE.J:=(((),(true,())),(p.bl,(p.bI,((p.name,(p.a6,((),((),())))),()))))
abbrev OB:xE.J:=(((),(false,())),(([]:List bD),(([]:List aB),((([]:B),(([]:B),((),((),())))),()))))
theorem aqj{p q:aJ}(h:sF p=sF q):p=q:=by
 obtain⟨a,b,c,d⟩:=p;obtain⟨c',bS,fM,aeu⟩:=q;simp only[sF,Prod.mk.injEq] at h;obtain⟨_,rfl,rfl,⟨rfl,rfl,_⟩,_⟩:=h;rfl
theorem Fg{p:aJ}(hk:cx p=true)(hl:(bJ p).length<=4000):f76 ((bJ p,()),())=some (sF p):=by
 have hb:=JX hk hl;obtain⟨h1,h2,h3,aD,_,cl⟩:=nn hk;obtain⟨q1,q2,dU,ni⟩:=y4 p;have c1:=afx p hk (by omega)
 have d:decide (((bJ p).length:Int)>4000)=false:=decide_eq_false (by omega)
 have c2:=aeV p.bI cl (by omega) hb.2.2.2
 have c3:=vG (((p.name,(p.a6,(p.bl,(p.bI,())))),()),()) hb;have c3:f50 (((p.name,(p.a6,(p.bl,(p.bI,())))),()),())=some ((cx p,()),()):=c3;rw[hk] at c3;have du:=HT p hb hk;simp only[f76,c1,Y,oJ,bu,bK,ad,d,ak,c2,rb,c3,du,beq_self_eq_true]
theorem afd(s:B)(hs:s.length<=2000000):f76 ((s,()),())=some OB\/∃p:aJ,f76 ((s,()),())=some (sF p)/\cx p=true/\bJ p=s/\s.length<=4000:=by
 obtain⟨r,ok,ns,bX,vs,c1,aG,aK,bP,cU,fA⟩:=afy s hs;cases ok with
 |false=>
  refine .inl ?_
  simp only[f76,c1,Y,oJ,bu,bK,ad,ak]
 |true=>
  by_cases hl:s.length<=4000
  ·have d:decide ((s.length:Int)>4000)=false:=decide_eq_false (by omega)
   obtain⟨MC,t,c2,h9,yz⟩:=aeW r (by omega)
   cases MC with
   |false=>
    refine .inl ?_
    simp only[f76,c1,Y,oJ,bu,bK,ad,d,ak,c2,rb]
   |true=>
    have hb:jW ⟨bX,vs,ns,t⟩:=⟨by show bX.length<=2097152;omega,by show vs.length<=2097152;omega,⟨by show ns.length<=2097152;omega,fun n hn=>by have:=bP n hn;exact⟨by show n.name.length<=2097152;omega,by show n.a6.length<=2097152;omega⟩⟩,Ux h9 yz⟩
    have c3:=vG (((bX,(vs,(ns,(t,())))),()),()) hb;have c3:f50 (((bX,(vs,(ns,(t,())))),()),())=some ((cx ⟨bX,vs,ns,t⟩,()),()):=c3;cases hk:cx ⟨bX,vs,ns,t⟩ with
    |false=>
     rw[hk] at c3;refine .inl ?_
     simp only[f76,c1,Y,oJ,bu,bK,ad,d,ak,c2,rb,c3]
    |true=>
     rw[hk] at c3;have du:=HT ⟨bX,vs,ns,t⟩ hb hk;have du:f123 (((bX,(vs,(ns,(t,())))),()),())=_:=du;cases he:bJ ⟨bX,vs,ns,t⟩==s with
     |false=>
      refine .inl ?_
      simp only[f76,c1,Y,oJ,bu,bK,ad,d,ak,c2,rb,c3,du,he]
     |true=>
      refine .inr ⟨⟨bX,vs,ns,t⟩,?_,hk,eq_of_beq he,hl⟩;simp only[f76,c1,Y,oJ,bu,bK,ad,d,ak,c2,rb,c3,du,he]
  ·have d:decide ((s.length:Int)>4000)=true:=decide_eq_true (by omega)
   refine .inl ?_
   simp only[f76,c1,Y,oJ,bu,bK,ad,d]
def aBR(D:Option aJ):xE.J:=match D with|some p=>sF p|none=>OB
theorem aiy(s:B)(hs:s.length<=2000000):∃D:Option aJ,f76 ((s,()),())=some (aBR D)/\lS D (acv s):=by
 rcases afd s hs with h|⟨p,h,h1,h2,h3⟩
 ·refine⟨none,h,fun p=>⟨fun hp=>(by cases hp),fun⟨q1,q2,dU⟩=>?_⟩⟩
  subst q2;have:=Fg q1 dU;rw[h] at this;simp only[bH,Prod.mk.injEq] at this;exact absurd this.1.2.1 (by decide)
 ·refine⟨some p,h,fun q=>⟨fun hp=>?_,fun⟨q1,q2,dU⟩=>?_⟩⟩
  ·cases hp;exact⟨h1,h2,h3⟩
  ·subst q2;have:=Fg q1 dU;rw[h] at this;rw[aqj (Option.some.inj this)]
noncomputable abbrev aAv:a8:=[(30,so),(70,EH),(73,pf),(74,yd),(75,pe),(76,adp)]
theorem EP:aT O (aZ af aAv):=aY ⟨uA,z70,ql,D0,z75,z76,⟨⟩⟩
abbrev Se:Shape:=⟨[am 0,ax 2 2 0,ax 4 4 0,bd 6 3000384,aj 7],[bv 5000128 .pack 2 0,aw 2 [.own 5000128],bv 5000256 .pack 4 0,aw 4 [.own 5000256],bc 3000384 .str 6 0],73⟩
abbrev RW:List aR:=[(.norm,⟨[am 0,ax 2 2 0,ax 4 4 0,bd 6 3000384,aj 7,ar 37],[bv 5000128 .pack 2 0,aw 2 [.own 5000128],bv 5000256 .pack 4 0,aw 4 [.own 5000256],bc 3000384 .str 6 0],73⟩)]
noncomputable def qY(y:Se.J):Option (aH RW):=
 bif(!(decide ((y.2.2.2.2.2.1.length:Int)<(2:Int)))) then
(bf y.2.2.2.2.2.1.length (1:Int)).bind fun a=>
(y.2.2.2.2.2.1[a]?).bind fun b=>
(f75 ((y.1.2.2.2.2.1,(1:Int),(b.length:Int),()),())).bind fun c=>
 some ((y.1.1,(),(),(),y.1.2.2.2.2.1,(!c.1.1),()),y.2.1,((),()),y.2.2.2.1,((),()),y.2.2.2.2.2.1,())
else
 some ((y.1.1,(),(),(),y.1.2.2.2.2.1,true,()),y.2.1,((),()),y.2.2.2.1,((),()),y.2.2.2.2.2.1,())
theorem akW:aV O (ap (dk (ap (codeOf Tryz.f39) 1 60)) 120 7724) (aX Se RW qY):=cn EP (by kernel_rfl) ag fun y=>by kernel_rfl
abbrev wl:Shape:=⟨[am 0,ax 2 2 0,ax 4 4 0,am 5],[bv 5000128 .pack 2 0,aw 2 [.own 5000128],bv 5000256 .pack 4 0,aw 4 [.own 5000256]],73⟩
abbrev B1:List aR:=[(.ret,⟨[ax 2 2 0,ar 3],[bv 5000128 .pack 2 0,aw 2 [.own 5000128]],73⟩),(.exit 0,⟨[am 0,ax 2 2 0,ax 4 4 0],[bv 5000128 .pack 2 0,aw 2 [.own 5000128],bv 5000256 .pack 4 0,aw 4 [.own 5000256]],73⟩)]
noncomputable def oK(y:wl.J):bQ wl B1:=
 bif(!(y.1.2.2.2.1==([]:B))) then
 bif(decide ((y.2.2.2.1.length:Int)<=(5:Int))) then
(f73 ((y.1.2.2.2.1,(10:Int),(1:Int),()),())).bind fun a=>
(bf a.2.1.length (0:Int)).bind fun b=>
(a.2.1[b]?).bind fun c=>
(f74 ((c,()),())).bind fun d=>
(qY ((y.1.1,(),(),(),d.1.1,()),y.2.1,((),()),y.2.2.2.1,((),()),a.2.1,())).bind fun e=>
 bif e.1.2.2.2.2.2.1 then
 some (.inr (.inl (((),false,()),([]:List aJ),((),()),())))
else
(bf e.2.2.2.2.2.1.length (1:Int)).bind fun f=>
(e.2.2.2.2.2.1[f]?).bind fun g=>
(bq g (0:Int) e.1.2.2.2.2.1).bind fun h=>
(f76 ((h,()),())).bind fun i=>
 bif(!i.1.2.1) then
 some (.inr (.inl (((),false,()),([]:List aJ),((),()),())))
else
(cm 80 e.2.2.2.1 ([(aJ.mk i.2.2.2.1.1 i.2.2.2.1.2.1 i.2.1 i.2.2.1)]:List aJ)).bind fun j=>
(bf e.2.2.2.2.2.1.length (1:Int)).bind fun k=>
(e.2.2.2.2.2.1[k]?).bind fun l=>
(bq l e.1.2.2.2.2.1 (l.length:Int)).bind fun m=>
 some (.inl ((e.1.1,(),(),m,()),e.2.1,((),()),j,((),()),()))
else
 some (.inr (.inr ((y.1.1,(),(),()),y.2.1,((),()),y.2.2.2.1,((),()),())))
else
 some (.inr (.inr ((y.1.1,(),(),()),y.2.1,((),()),y.2.2.2.1,((),()),())))
noncomputable def wu:wl.J->Option (aH B1):=bA oK
theorem apB:aV O (ap (codeOf Tryz.f39) 1 60) (aX wl B1 wu):=bT EP (by kernel_rfl) (a7 akW ag) fun y=>by kernel_rfl
abbrev Tt:Shape:=⟨[am 0,ax 2 2 0,ax 4 4 0],[bv 5000128 .pack 2 0,aw 2 [.own 5000128],bv 5000256 .pack 4 0,aw 4 [.own 5000256]],73⟩
abbrev S9:List aR:=[(.norm,⟨[ax 2 2 0,ax 4 4 0,ar 70],[bv 5000128 .pack 2 0,aw 2 [.own 5000128],bv 5000256 .pack 4 0,aw 4 [.own 5000256]],73⟩)]
noncomputable def tg(y:Tt.J):Option (aH S9):=
(f30 (((y.2.2.2.1,()),()),())).bind fun a=>
 bif(!(!a.1.1)) then
(f70 (((y.2.2.2.1,()),()),())).bind fun b=>
 some (((),(),(!(b.1.1==y.1.1)),()),y.2.1,((),()),y.2.2.2.1,((),()),())
else
 some (((),(),true,()),y.2.1,((),()),y.2.2.2.1,((),()),())
theorem amN:aV O (ap (codeOf Tryz.f39) 1 124) (aX Tt S9 tg):=cn EP (by kernel_rfl) ag fun y=>by kernel_rfl
abbrev i39:Shape:=⟨[am 0],[],73⟩
abbrev xH:Shape:=⟨[ax 2 2 0,ar 3],[bv 5000128 .pack 2 0,aw 2 [.own 5000128]],73⟩
noncomputable def f39(a:i39.J):Option xH.J:=
(wu ((a.1.1,(),(),a.1.1,()),([]:List aJ),((),()),([]:List aJ),((),()),())).bind fun b=>
(match b with
|.inl c=>
 some (((),c.1.2.1,()),c.2.1,((),()),())
|.inr d=>
(tg ((d.1.1,(),(),()),d.2.1,((),()),d.2.2.2.1,((),()),())).bind fun e=>
 bif e.1.2.2.1 then
 some (((),false,()),([]:List aJ),((),()),())
else
 some (((),true,()),e.2.2.2.1,((),()),()))
noncomputable def NN:aI:=aL af Tryz.f39 i39 xH [] f39
theorem abl:aF O 39 NN:=aM EP Tryz.func39 (by kernel_rfl) (a7 apB (a7 amN ag)) (fun y=>by kernel_rfl) fun a=>by kernel_rfl
noncomputable abbrev aAM:a8:=[(39,NN)]
theorem aBb:aT O (aZ af aAM):=aY ⟨abl,⟨⟩⟩
abbrev i12:Shape:=⟨[ck 0 [ah,ah]],[],17⟩
abbrev acn:Shape:=⟨[ar 2],[],17⟩
noncomputable def f12(a:i12.J):Option acn.J:=
(f39 ((a.1.1.1,()),())).bind fun b=>
 bif b.1.2.1 then
 some (((a.1.1.2.1==([]:B)),()),())
else
 some ((false,()),())
noncomputable def sp:aI:=aL af Tryz.f12 i12 acn [] f12
theorem z12:aF O 12 sp:=aM aBb Tryz.func12 (by kernel_rfl) ag (fun y=>by kernel_rfl) fun a=>by kernel_rfl
abbrev sH(s rest:B)(ps:List aJ):wl.J:=((s,((),((),(rest,())))),(([]:List aJ),(((),()),(ps,(((),()),())))))
abbrev aez(s:B)(ps:List aJ):aH B1:=.inr ((s,((),((),()))),(([]:List aJ),(((),()),(ps,(((),()),())))))
abbrev OA(ps:List aJ):xH.J:=(((),(true,())),(ps,(((),()),())))
abbrev NU:xH.J:=(((),(false,())),(([]:List aJ),(((),()),())))
def NT(D:Option (List aJ)):xH.J:=match D with|some ps=>OA ps|none=>NU
theorem ao5(s:B):∀(m:Nat) (r:B) (ps:List aJ),r.length<=m->m<=2000000->ps.length<=6->qd ps->
  wu (sH s r ps)=some (.inl NU)\/∃cg:List aJ,wu (sH s r ps)=some (aez s cg)/\qd cg/\cg.length<=6:=by
 intro m;induction m with
 |zero=>
  intro r ps hs _ hl ha;have:r=[]:=List.length_eq_zero_iff.1 (by omega)
  subst this;exact .inr ⟨ps,cC rfl,ha,hl⟩
 |succ m ih=>
  intro r ps hs hm hl ha;cases r with
  |nil=>exact .inr ⟨ps,cC rfl,ha,hl⟩
  |cons b r0=>
   have hne:((b::r0)==([]:B))=false:=rfl;generalize e5:b::r0=r at hs hne;by_cases bn:ps.length<=5
   ·have d:decide (((ps.length:Nat):Int)<=5)=true:=decide_eq_true (by omega)
    have c1:=lN 10 r (by omega) 1
    have c1:f73 ((r,((10:Int),((1:Int),()))),())=_:=c1;cases aC:dC 10 r with
    |none=>
     have eJ:splitN 10 1 r=[r]:=by unfold splitN;rw[aC]
     rw[eJ] at c1;have n0:=ot r (by unfold aA;omega)
     have i0:bf ([r]:List B).length (0:Int)=some 0:=rfl;have eU:([r]:List B)[0]? =some r:=rfl;have d2:decide ((([r]:List B).length:Int)<2)=true:=rfl;refine .inl (cC ?_);simp only[oK,hne,bK,ad,d,c1,Y,i0,eU,n0,qY,d2,bu,ak]
    |some q=>
     obtain⟨bC,rest⟩:=q;have hlen:=(iT aC).1;have hlen:r.length=bC.length+1+rest.length:=by rw[hlen];simp;omega
     have eJ:splitN 10 1 r=[bC,rest]:=by unfold splitN;rw[aC];rfl
     rw[eJ] at c1;have n0:=ot bC (by unfold aA;omega)
     have i0:bf ([bC,rest]:List B).length (0:Int)=some 0:=rfl;have i1:bf ([bC,rest]:List B).length (1:Int)=some 1:=rfl;have eU:([bC,rest]:List B)[0]? =some bC:=rfl;have ep:([bC,rest]:List B)[1]? =some rest:=rfl;have d2:decide ((([bC,rest]:List B).length:Int)<2)=false:=rfl;have hin:=oF ((eQ bC,((1:Int),((rest.length:Int),()))),());have hin:f75 ((eQ bC,((1:Int),((rest.length:Int),()))),())=some ((within (eQ bC) 1 (rest.length:Int),()),()):=hin;cases hw:within (eQ bC) 1 (rest.length:Int) with
     |false=>
      rw[hw] at hin;refine .inl (cC ?_);simp only[oK,hne,bK,ad,d,c1,Y,i0,eU,n0,qY,d2,i1,ep,hin]
     |true=>
      rw[hw] at hin;have hb:=s0 hw;obtain⟨n,hn⟩:∃n:Nat,eQ bC=(n:Int):=⟨(eQ bC).toNat,by omega⟩
      rw[hn] at hin n0 hb;have s1:bq rest 0 ((n:Nat):Int)=some (rest.take n):=gx (by omega)
      have s2:bq rest ((n:Nat):Int) ((rest.length:Nat):Int)=some (rest.drop n):=fC (by omega)
      have acE:(rest.take n).length<=2000000:=by simp;omega
      obtain⟨D,g1,g2⟩:=aiy (rest.take n) acE;cases D with
      |none=>
       have g1:f76 ((rest.take n,()),())=some OB:=g1;refine .inl (cC ?_);simp only[oK,hne,bK,ad,d,c1,Y,i0,eU,n0,qY,d2,i1,ep,hin,bu,ak,s1,g1]
      |some p=>
       have g1:f76 ((rest.take n,()),())=some (sF p):=g1;obtain⟨iS,jx,p3⟩:=(g2 p).1 rfl;have fJ:cm 80 ps ([(aJ.mk p.name p.a6 p.bl p.bI)]:List aJ)=some (ps++[p]):=dw (by decide) (by unfold aA;simp;omega)
       have st:oK (sH s r ps)=some (.inl (sH s (rest.drop n) (ps++[p]))):=by
        simp only[oK,hne,bK,ad,d,c1,Y,i0,eU,n0,qY,d2,i1,ep,hin,bu,ak,s1,g1,fJ,s2]
       rcases ih (rest.drop n) (ps++[p]) (by simp;omega) (by omega) (by simp;omega) (fun z hz=>by
        rcases bo.1 hz with hz|hz
        ·exact ha z hz
        ·rw[List.mem_singleton.1 hz];exact⟨iS,by rw[jx];exact p3⟩) with e|⟨cg,e1,e2⟩
       ·exact .inl ((ea st).trans e)
       ·exact .inr ⟨cg,(ea st).trans e1,e2⟩
   ·have d:decide (((ps.length:Nat):Int)<=5)=false:=decide_eq_false (by omega)
    refine .inr ⟨ps,cC ?_,ha,hl⟩;simp only[oK,hne,bK,ad,d,ak]
theorem alp{ps:List aJ}(h:qd ps)(bn:ps.length<=5):(cK ps).length<=30000:=by
 have h1:=nw (f:=fun p=>dz (bJ p)) (xs:=ps) (n:=5000) fun q aC=>by
  have:=(h q aC).2;have:=ku (bJ q).length (by omega)
  show(dz (bJ q)).length<=5000;unfold dz;simp;omega
 have e:(cK ps).length=(ps.flatMap fun p=>dz (bJ p)).length:=rfl
 have cl:ps.length*5000<=6*5000:=Nat.mul_le_mul_right _ (by omega)
 omega
theorem ao4(s:B):∀(cg ps:List aJ),qd cg->ps.length+cg.length<=5->wu (sH s (cK cg) ps)=some (aez s (ps++cg)):=by
 intro cg;induction cg with
 |nil=>intro ps _ _;rw[List.append_nil];exact cC rfl
 |cons p cg ih=>
  intro ps h hl;obtain⟨h1,h2⟩:=h p cj;simp only[cY] at hl;have hR:cK (p::cg)=dz (bJ p)++cK cg:=Gg p cg;have gn:=QQ (bJ p) (cK cg);have hlen:=alp (ps:=p::cg) h (by simp;omega)
  rw[hR] at hlen ⊢;generalize hr:dz (bJ p)++cK cg=r at gn hlen;have eJ:splitN 10 1 r=[Lib.itoa ((bJ p).length:Int),bJ p++cK cg]:=by unfold splitN;rw[gn];rfl
  have hne:(r==([]:B))=false:=by
   have:=(iT gn).1;cases hx:r with
   |nil=>rw[hx] at this;simp at this
   |cons b r=>rfl
  have d:decide (((ps.length:Nat):Int)<=5)=true:=decide_eq_true (by omega)
  have c1:=lN 10 r (by omega) 1
  rw[eJ] at c1;have c1:f73 ((r,((10:Int),((1:Int),()))),())=_:=c1;have aDb:=ku (bJ p).length (by omega)
  have n0:=ot (Lib.itoa ((bJ p).length:Int)) (by unfold aA;omega)
  rw[zt _ (by omega)] at n0
  generalize Lib.itoa ((bJ p).length:Int)=bC at c1 n0;have i0:bf ([bC,bJ p++cK cg]:List B).length (0:Int)=some 0:=rfl;have i1:bf ([bC,bJ p++cK cg]:List B).length (1:Int)=some 1:=rfl;have eU:([bC,bJ p++cK cg]:List B)[0]? =some bC:=rfl;have ep:([bC,bJ p++cK cg]:List B)[1]? =some (bJ p++cK cg):=rfl;have d2:decide ((([bC,bJ p++cK cg]:List B).length:Int)<2)=false:=rfl;have nO:1<=(bJ p).length:=by rw[vU];simp only[dx,cY];omega
  have hin:=oF ((((bJ p).length:Int),((1:Int),(((bJ p++cK cg).length:Int),()))),());have hin:f75 ((((bJ p).length:Int),((1:Int),(((bJ p++cK cg).length:Int),()))),())=some ((true,()),()):=by
   rw[hin];have:within ((bJ p).length:Int) 1 ((bJ p++cK cg).length:Int)=true:=by
    unfold within;rw[decide_eq_true (by omega),decide_eq_true (by simp only[dx];omega)]
    rfl
   show some ((within ((bJ p).length:Int) 1 ((bJ p++cK cg).length:Int),()),())=_;rw[this]
  have s1:bq (bJ p++cK cg) 0 (((bJ p).length:Nat):Int)=some (bJ p):=by rw[gx (by simp),List.take_left' rfl]
  have s2:bq (bJ p++cK cg) (((bJ p).length:Nat):Int) (((bJ p++cK cg).length:Nat):Int)=some (cK cg):=by rw[fC (by simp),List.drop_left' rfl]
  have g1:=Fg h1 h2;have fJ:cm 80 ps ([(aJ.mk p.name p.a6 p.bl p.bI)]:List aJ)=some (ps++[p]):=dw (by decide) (by unfold aA;simp;omega)
  have st:oK (sH s r ps)=some (.inl (sH s (cK cg) (ps++[p]))):=by
   simp only[oK,hne,bK,ad,d,c1,Y,i0,eU,n0,qY,d2,i1,ep,hin,bu,ak,s1,g1,fJ,s2]
  have:=ih (ps++[p]) (fun r hr=>h r (ci _ hr)) (by simp;omega)
  rw[List.append_assoc] at this;exact(ea st).trans this
theorem Qu(s:B)(hs:s.length<=2000000):∃D:Option (List aJ),f39 ((s,()),())=some (NT D)/\lS D (mU s):=by
 have put:∀ps:List aJ,mU s ps->f39 ((s,()),())=some (OA ps):=by
  intro ps ⟨h1,h2,h3⟩;have hl:ps.length<=5:=(kT h1).2;obtain⟨hb,hv⟩:=tc h3 (by omega)
  have g:=ao4 s ps [] h3 (by simpa using hl)
  rw[h2] at g;have e:=zH (((ps,()),()),()) hb hv;have e:f30 (((ps,()),()),())=some ((eY ps,()),()):=e;rw[h1] at e;have e2:=As ps hb (kT h1).1;simp only[f39,g,List.nil_append,Y,tg,e,bu,bK,ad,ak,e2,h2,beq_self_eq_true]
 have any:f39 ((s,()),())=some NU\/∃ps,f39 ((s,()),())=some (OA ps)/\mU s ps:=by
  rcases ao5 s s.length s [] (Nat.le_refl _) hs (by decide) (fun x hx=>by cases hx) with g|⟨cg,g,h2,h3⟩
  ·refine .inl ?_
   simp only[f39,g,Y]
  ·obtain⟨hb,hv⟩:=tc h2 h3;have e:=zH (((cg,()),()),()) hb hv;have e:f30 (((cg,()),()),())=some ((eY cg,()),()):=e;cases hr:eY cg with
   |false=>
    rw[hr] at e;refine .inl ?_
    simp only[f39,g,Y,tg,e,bK,bu,ad,ak]
   |true=>
    rw[hr] at e;have e2:=As cg hb (kT hr).1;cases he:cK cg==s with
    |false=>
     refine .inl ?_
     simp only[f39,g,Y,tg,e,bK,bu,ad,ak,e2,he]
    |true=>
     refine .inr ⟨cg,?_,hr,eq_of_beq he,h2⟩;simp only[f39,g,Y,tg,e,bK,bu,ad,ak,e2,he]
 rcases any with h|⟨ps,h,hr⟩
 ·refine⟨none,h,fun p=>⟨fun hp=>(by cases hp),fun hp=>?_⟩⟩
  have:=put p hp;rw[h] at this;simp only[bH,Prod.mk.injEq] at this;exact absurd this.1.2.1 (by decide)
 ·refine⟨some ps,h,fun q=>⟨fun hp=>by cases hp;exact hr,fun hp=>?_⟩⟩
  have:=put q hp;rw[h] at this;simp only[bH,Prod.mk.injEq] at this;rw[this.2.1]
theorem akr(s t:B)(hs:s.length<=2000000):∃D:Option (List aJ),f12 (((s,(t,())),()),())=some ((D.isSome&&t==[],()),())/\lS D (mU s):=by
 obtain⟨D,h1,h2⟩:=Qu s hs;refine⟨D,?_,h2⟩;simp only[f12,h1,Y];cases D<;>rfl
noncomputable abbrev aAz:a8:=[(36,NO),(43,ye),(63,Di),(64,DJ)]
theorem adZ:aT O (aZ af aAz):=aY ⟨abm,D1,KC,KY,⟨⟩⟩
abbrev Ay:Shape:=⟨[ax 3 3 0,aO 11 .pack,aj 12,aj 13],[bv 5000193 .u8 3 1,aw 3 [.dM,.own 5000193]],28⟩
abbrev HZ:List aR:=[(.exit 0,⟨[ax 3 3 0],[bv 5000193 .u8 3 1,aw 3 [.dM,.own 5000193]],28⟩)]
noncomputable def v_(y:Ay.J):bQ Ay HZ:=
 bif(decide (y.1.2.2.2.1<y.1.2.2.1)) then
(aS y.1.2.1 y.1.2.2.2.1).bind fun a=>
(f36 (((a.name,a.a6,a.bl,a.bI,()),()),())).bind fun b=>
(if-9223372036854775808<=(b.1.1.length:Int)/\(b.1.1.length:Int)<=9223372036854775807 then some () else none).bind fun c=>
(cc (Lib.itoa (b.1.1.length:Int)) ([10]:B)).bind fun d=>
(cc d b.1.1).bind fun e=>
(mG (((),e,()),y.2.1,((),(),()),())).bind fun f=>
 some (.inl (((),y.1.2.1,y.1.2.2.1,(IntKind.i64.wrap (y.1.2.2.2.1+(1:Int))),()),f.2.1,((),(),()),()))
else
 some (.inr (((),()),y.2.1,((),(),()),()))
noncomputable def IQ:Ay.J->Option (aH HZ):=bA v_
theorem amO:aV O (ap (codeOf Tryz.f34) 1 122) (aX Ay HZ IQ):=bT adZ (by kernel_rfl) ag fun y=>by kernel_rfl
abbrev i34:Shape:=⟨[ck 0 [br .pack]],[],28⟩
abbrev ab8:Shape:=⟨[am 2],[],28⟩
noncomputable def f34(a:i34.J):Option ab8.J:=
(f43 (((a.1.1.1,()),()),())).bind fun b=>
 bif(!b.1.1) then
 some ((([]:B),()),())
else
(IQ (((),a.1.1.1,(a.1.1.1.length:Int),(0:Int),()),([]:List Int),((),(),()),())).bind fun c=>
 some (((strOf c.2.1),()),())
noncomputable def NQ:aI:=aL af Tryz.f34 i34 ab8 [] f34
theorem abo:aF O 34 NQ:=aM adZ Tryz.func34 (by kernel_rfl) (a7 amO ag) (fun y=>by kernel_rfl) fun a=>by kernel_rfl
theorem n9{aE ls:Type}{D:Option aE}{x:aE}{k:aE->Option ls}(h:D=some x):D.bind k=k x:=by rw[h];rfl
theorem an1(ps:List aJ)(hb:fS ps)(hk:∀p,p∈ps->cx p=true)(bn:ps.length<=5)(i:Nat)(hi:i<ps.length):
  v_ (((),(ps,((ps.length:Int),((i:Int),())))),(bytesOf ((ps.take i).flatMap (fun p=>dz (bJ p))),(((),((),())),())))=some (.inl (((),(ps,((ps.length:Int),(((i+1:Nat):Int),())))),(bytesOf ((ps.take (i+1)).flatMap (fun p=>dz (bJ p))),(((),((),())),())))):=by
 obtain⟨p,he⟩:∃p,ps[i]? =some p:=⟨ps[i],d_ hi⟩;have eG:=eK he;have jb:((ps.take i).flatMap fun p=>dz (bJ p)).length<=503317500:=by
  have h1:=nw (f:=fun p=>dz (bJ p)) (xs:=ps.take i) (n:=100663500) fun p hp=>Gb (hb.2 p (qS hp)) (hk p (qS hp))
  have h2:=(List.take_sublist i ps).length_le;have aD:(ps.take i).length*100663500<=5*100663500:=Nat.mul_le_mul_right _ (by omega)
  omega
 have hY:=Ha (hb.2 p eG) (hk p eG);have h2:=ku (bJ p).length (by omega)
 have acG:=hk p eG;have M1:=FB p (hb.2 p eG);simp only[acG,ad] at M1;have acR:(ps.take (i+1)).flatMap (fun p=>dz (bJ p))=(ps.take i).flatMap (fun p=>dz (bJ p))++dz (bJ p):=np (fun p=>dz (bJ p)) he
 rw[acR];clear acR acG hk;generalize bJ p=bx at hY h2 M1 ⊢;generalize List.flatMap (fun p=>dz (bJ p)) (List.take i ps)=A at jb ⊢
 have i2:=Kg (n:=(bx.length:Int)) ⟨by omega,by omega⟩
 have e1:=dS (s:=Lib.itoa (bx.length:Int)) (t:=[10]) (by simp;omega)
 have e2:=dS (s:=Lib.itoa (bx.length:Int)++[10]) (t:=bx) (by simp;omega)
 have dN:Lib.itoa (bx.length:Int)++[10]++bx=dz bx:=rfl;have fp:(dz bx).length<=100663500:=by unfold dz;simp;omega
 rw[dN] at e2;generalize dz bx=C at e2 fp ⊢;have bE:=pL (bytesOf A) C (by unfold aA;rw[jB];omega)
 simp only[v_,ct hi,ad,cd,he,Y];refine(n9 M1).trans ((n9 (if_pos ⟨?_,?_⟩)).trans ((n9 e1).trans ((n9 e2).trans ((n9 bE).trans ?_))))
 ·rw[b9 (i:=i) (by unfold aA;omega),pw]
 ·show-9223372036854775808<=(bx.length:Int);omega
 ·show(bx.length:Int)<=9223372036854775807;omega
theorem ahd(ps:List aJ)(hb:fS ps)(hv:ko ps):f34 (((ps,()),()),())=some ((bif eY ps then cK ps else [],()),()):=by
 have h0:=za (((ps,()),()),()) hb hv;have h0:f43 (((ps,()),()),())=some ((eY ps,()),()):=h0;simp only[f34,h0,Y];cases hr:eY ps with
 |false=>rfl
 |true=>
  have hk:=(kT hr).1;have bn:=(kT hr).2;have aG:IQ (((),(ps,((ps.length:Int),((0:Int),())))),(([]:List Int),(((),((),())),())))=some (((),()),(bytesOf (cK ps),(((),((),())),()))):=by
   refine gd (g:=v_) (fun i=>(((),(ps,((ps.length:Int),((i:Int),())))),(bytesOf ((ps.take i).flatMap (fun p=>dz (bJ p))),(((),((),())),())))) ps.length (fun i hi=>an1 ps hb hk bn i hi) ?_ ps.length 0 (by omega)
   simp only[v_,dK,ak,List.take_length,cK]
  simp only[bu,ak,ad,aG,Y,vm]
abbrev i186:Shape:=⟨[ck 0 [ah,ba,ah],aj 1],[],20⟩
abbrev YP:Shape:=⟨[aj 4],[],20⟩
noncomputable def f186(a:i186.J):Option YP.J:=
 bif(decide ((IntKind.i64.wrap (a.1.2.1-(a.1.1.1.length:Int)))<(0:Int))) then
 some ((((-1):Int),()),())
else
 bif(decide ((IntKind.i64.wrap ((IntKind.i64.wrap (a.1.2.1-(a.1.1.1.length:Int)))-(a.1.1.2.2.1.length:Int)))<(0:Int))) then
 some ((((-1):Int),()),())
else
 some (((IntKind.i64.wrap ((IntKind.i64.wrap (a.1.2.1-(a.1.1.1.length:Int)))-(a.1.1.2.2.1.length:Int))),()),())
noncomputable def _0:aI:=aL af Tryz.f186 i186 YP [] f186
theorem asT:aF O 186 _0:=aM g0 Tryz.func186 (by kernel_rfl) ag (fun y=>by kernel_rfl) fun a=>by kernel_rfl
noncomputable abbrev avX:a8:=[(186,_0)]
theorem aa7:aT O (aZ af avX):=aY ⟨asT,⟨⟩⟩
abbrev z1:Shape:=⟨[aO 0 .need,aj 1,aj 5],[],27⟩
abbrev G4:List aR:=[(.ret,⟨[aj 4],[],27⟩),(.exit 0,⟨[aj 1],[],27⟩)]
noncomputable def alX(y:z1.J):bQ z1 G4:=
 bif(decide (y.1.2.2.1<(y.1.1.length:Int))) then
(aS y.1.1 y.1.2.2.1).bind fun a=>
(f186 (((a.name,a.kind,a.a6,()),y.1.2.1,()),())).bind fun b=>
 bif(decide (b.1.1<(0:Int))) then
 some (.inr (.inl ((((-1):Int),()),())))
else
 some (.inl ((y.1.1,b.1.1,(IntKind.i64.wrap (y.1.2.2.1+(1:Int))),()),()))
else
 some (.inr (.inr ((y.1.2.1,()),())))
noncomputable def SA:z1.J->Option (aH G4):=bA alX
theorem ali:aV O (ap (codeOf Tryz.f134) 1 122) (aX z1 G4 SA):=bT aa7 (by kernel_rfl) ag fun y=>by kernel_rfl
abbrev i134:Shape:=⟨[aO 0 .need,aj 1],[],27⟩
abbrev Zq:Shape:=⟨[aj 4],[],27⟩
noncomputable def f134(a:i134.J):Option Zq.J:=
 bif(decide ((IntKind.i64.wrap (a.1.2.1-(a.1.1.length:Int)))<(0:Int))) then
 some ((((-1):Int),()),())
else
(SA ((a.1.1,(IntKind.i64.wrap (a.1.2.1-(a.1.1.length:Int))),(0:Int),()),())).bind fun b=>
(match b with
|.inl c=>
 some ((c.1.1,()),())
|.inr d=>
 some ((d.1.1,()),()))
noncomputable def aav:aI:=aL af Tryz.f134 i134 Zq [] f134
theorem atd:aF O 134 aav:=aM aa7 Tryz.func134 (by kernel_rfl) (a7 ali ag) (fun y=>by kernel_rfl) fun a=>by kernel_rfl
abbrev i187:Shape:=⟨[ck 0 [ah,ba,ba,ah],aj 1],[],20⟩
abbrev YO:Shape:=⟨[aj 4],[],20⟩
noncomputable def f187(a:i187.J):Option YO.J:=
 bif(decide ((IntKind.i64.wrap (a.1.2.1-(a.1.1.1.length:Int)))<(0:Int))) then
 some ((((-1):Int),()),())
else
 bif(decide ((IntKind.i64.wrap ((IntKind.i64.wrap (a.1.2.1-(a.1.1.1.length:Int)))-(a.1.1.2.2.2.1.length:Int)))<(0:Int))) then
 some ((((-1):Int),()),())
else
 some (((IntKind.i64.wrap ((IntKind.i64.wrap (a.1.2.1-(a.1.1.1.length:Int)))-(a.1.1.2.2.2.1.length:Int))),()),())
noncomputable def _Z:aI:=aL af Tryz.f187 i187 YO [] f187
theorem asS:aF O 187 _Z:=aM g0 Tryz.func187 (by kernel_rfl) ag (fun y=>by kernel_rfl) fun a=>by kernel_rfl
noncomputable abbrev avW:a8:=[(187,_Z)]
theorem aa6:aT O (aZ af avW):=aY ⟨asS,⟨⟩⟩
abbrev zZ:Shape:=⟨[aO 0 .entry,aj 1,aj 5],[],27⟩
abbrev G3:List aR:=[(.ret,⟨[aj 4],[],27⟩),(.exit 0,⟨[aj 1],[],27⟩)]
noncomputable def alW(y:zZ.J):bQ zZ G3:=
 bif(decide (y.1.2.2.1<(y.1.1.length:Int))) then
(aS y.1.1 y.1.2.2.1).bind fun a=>
(f187 (((a.path,a.kind,a.mode,a.text,()),y.1.2.1,()),())).bind fun b=>
 bif(decide (b.1.1<(0:Int))) then
 some (.inr (.inl ((((-1):Int),()),())))
else
 some (.inl ((y.1.1,b.1.1,(IntKind.i64.wrap (y.1.2.2.1+(1:Int))),()),()))
else
 some (.inr (.inr ((y.1.2.1,()),())))
noncomputable def Sz:zZ.J->Option (aH G3):=bA alW
theorem alh:aV O (ap (codeOf Tryz.f135) 1 122) (aX zZ G3 Sz):=bT aa6 (by kernel_rfl) ag fun y=>by kernel_rfl
abbrev i135:Shape:=⟨[aO 0 .entry,aj 1],[],27⟩
abbrev Zp:Shape:=⟨[aj 4],[],27⟩
noncomputable def f135(a:i135.J):Option Zp.J:=
 bif(decide ((IntKind.i64.wrap (a.1.2.1-(a.1.1.length:Int)))<(0:Int))) then
 some ((((-1):Int),()),())
else
(Sz ((a.1.1,(IntKind.i64.wrap (a.1.2.1-(a.1.1.length:Int))),(0:Int),()),())).bind fun b=>
(match b with
|.inl c=>
 some ((c.1.1,()),())
|.inr d=>
 some ((d.1.1,()),()))
noncomputable def aau:aI:=aL af Tryz.f135 i135 Zp [] f135
theorem atc:aF O 135 aau:=aM aa6 Tryz.func135 (by kernel_rfl) (a7 alh ag) (fun y=>by kernel_rfl) fun a=>by kernel_rfl
abbrev i188:Shape:=⟨[ck 0 [ah,ba,ah]],[],14⟩
abbrev YN:Shape:=⟨[ax 2 2 0],[aw 2 [ah,ba,ah]],14⟩
noncomputable def f188(a:i188.J):Option YN.J:=
 some (((),()),(a.1.1.1,a.1.1.2.1,a.1.1.2.2.1,()),())
noncomputable def _Y:aI:=aL af Tryz.f188 i188 YN [] f188
theorem asR:aF O 188 _Y:=aM g0 Tryz.func188 (by kernel_rfl) ag (fun y=>by kernel_rfl) fun a=>by kernel_rfl
noncomputable abbrev avV:a8:=[(188,_Y)]
theorem aa5:aT O (aZ af avV):=aY ⟨asR,⟨⟩⟩
abbrev A5:Shape:=⟨[aO 0 .need,bd 3 3000192,aj 4],[bc 3000192 .need 3 0],23⟩
abbrev Iu:List aR:=[(.exit 0,⟨[bd 3 3000192],[bc 3000192 .need 3 0],23⟩)]
noncomputable def aod(y:A5.J):bQ A5 Iu:=
 bif(decide (y.1.2.2.1<(y.1.1.length:Int))) then
(aS y.1.1 y.1.2.2.1).bind fun a=>
(f188 (((a.name,a.kind,a.a6,()),()),())).bind fun b=>
(bf y.2.1.length y.1.2.2.1).bind fun c=>
((y.2.1[c]?).bind fun q=>some (bD.mk b.2.1.1 b.2.1.2.1 b.2.1.2.2.1)).bind fun d=>
 some (.inl ((y.1.1,(),(IntKind.i64.wrap (y.1.2.2.1+(1:Int))),()),(y.2.1.set c d),()))
else
 some (.inr (((),()),y.2.1,()))
noncomputable def T_:A5.J->Option (aH Iu):=bA aod
theorem anz:aV O (ap (codeOf Tryz.f136) 1 58) (aX A5 Iu T_):=bT aa5 (by kernel_rfl) ag fun y=>by kernel_rfl
abbrev i136:Shape:=⟨[aO 0 .need],[],23⟩
abbrev Zo:Shape:=⟨[bd 2 3000128],[bc 3000128 .need 2 0],23⟩
noncomputable def f136(a:i136.J):Option Zo.J:=
(kh 40 (a.1.1.length:Int) (a.1.1.length:Int) (bD.mk ([]:B) (0:Int) ([]:B))).bind fun b=>
(T_ ((a.1.1,(),(0:Int),()),b,())).bind fun c=>
 some (((),()),c.2.1,())
noncomputable def aat:aI:=aL af Tryz.f136 i136 Zo [] f136
theorem atb:aF O 136 aat:=aM aa5 Tryz.func136 (by kernel_rfl) (a7 anz ag) (fun y=>by kernel_rfl) fun a=>by kernel_rfl
abbrev i189:Shape:=⟨[ck 0 [ah,ba,ba,ah]],[],17⟩
abbrev YM:Shape:=⟨[ax 2 2 0],[aw 2 [ah,ba,ba,ah]],17⟩
noncomputable def f189(a:i189.J):Option YM.J:=
 some (((),()),(a.1.1.1,a.1.1.2.1,a.1.1.2.2.1,a.1.1.2.2.2.1,()),())
noncomputable def _X:aI:=aL af Tryz.f189 i189 YM [] f189
theorem asQ:aF O 189 _X:=aM g0 Tryz.func189 (by kernel_rfl) ag (fun y=>by kernel_rfl) fun a=>by kernel_rfl
noncomputable abbrev avU:a8:=[(189,_X)]
theorem aa4:aT O (aZ af avU):=aY ⟨asQ,⟨⟩⟩
abbrev A4:Shape:=⟨[aO 0 .entry,bd 3 3000192,aj 4],[bc 3000192 .entry 3 0],23⟩
abbrev It:List aR:=[(.exit 0,⟨[bd 3 3000192],[bc 3000192 .entry 3 0],23⟩)]
noncomputable def aoc(y:A4.J):bQ A4 It:=
 bif(decide (y.1.2.2.1<(y.1.1.length:Int))) then
(aS y.1.1 y.1.2.2.1).bind fun a=>
(f189 (((a.path,a.kind,a.mode,a.text,()),()),())).bind fun b=>
(bf y.2.1.length y.1.2.2.1).bind fun c=>
((y.2.1[c]?).bind fun q=>some (aB.mk b.2.1.1 b.2.1.2.1 b.2.1.2.2.1 b.2.1.2.2.2.1)).bind fun d=>
 some (.inl ((y.1.1,(),(IntKind.i64.wrap (y.1.2.2.1+(1:Int))),()),(y.2.1.set c d),()))
else
 some (.inr (((),()),y.2.1,()))
noncomputable def T9:A4.J->Option (aH It):=bA aoc
theorem anx:aV O (ap (codeOf Tryz.f137) 1 58) (aX A4 It T9):=bT aa4 (by kernel_rfl) ag fun y=>by kernel_rfl
abbrev i137:Shape:=⟨[aO 0 .entry],[],23⟩
abbrev Zn:Shape:=⟨[bd 2 3000128],[bc 3000128 .entry 2 0],23⟩
noncomputable def f137(a:i137.J):Option Zn.J:=
(kh 48 (a.1.1.length:Int) (a.1.1.length:Int) (aB.mk ([]:B) (0:Int) (0:Int) ([]:B))).bind fun b=>
(T9 ((a.1.1,(),(0:Int),()),b,())).bind fun c=>
 some (((),()),c.2.1,())
noncomputable def aas:aI:=aL af Tryz.f137 i137 Zn [] f137
theorem ata:aF O 137 aas:=aM aa4 Tryz.func137 (by kernel_rfl) (a7 anx ag) (fun y=>by kernel_rfl) fun a=>by kernel_rfl
abbrev i190:Shape:=⟨[ck 0 [ah,ba,ah],ck 1 [ah,ba,ah]],[],20⟩
abbrev YL:Shape:=⟨[ar 4],[],20⟩
noncomputable def f190(a:i190.J):Option YL.J:=
 bif(!(a.1.1.1==a.1.2.1.1)) then
 some ((false,()),())
else
 bif(a.1.1.2.1 !=a.1.2.1.2.1) then
 some ((false,()),())
else
 bif(!(a.1.1.2.2.1==a.1.2.1.2.2.1)) then
 some ((false,()),())
else
 some ((true,()),())
noncomputable def _W:aI:=aL af Tryz.f190 i190 YL [] f190
theorem asP:aF O 190 _W:=aM g0 Tryz.func190 (by kernel_rfl) ag (fun y=>by kernel_rfl) fun a=>by kernel_rfl
noncomputable abbrev avT:a8:=[(190,_W)]
theorem aa3:aT O (aZ af avT):=aY ⟨asP,⟨⟩⟩
abbrev A3:Shape:=⟨[aO 0 .need,aO 1 .need,aj 5],[],27⟩
abbrev Is:List aR:=[(.ret,⟨[ar 4],[],27⟩),(.exit 0,⟨[],[],27⟩)]
noncomputable def aob(y:A3.J):bQ A3 Is:=
 bif(decide (y.1.2.2.1<(y.1.1.length:Int))) then
(aS y.1.1 y.1.2.2.1).bind fun a=>
(aS y.1.2.1 y.1.2.2.1).bind fun b=>
(f190 (((a.name,a.kind,a.a6,()),(b.name,b.kind,b.a6,()),()),())).bind fun c=>
 bif(!c.1.1) then
 some (.inr (.inl ((false,()),())))
else
 some (.inl ((y.1.1,y.1.2.1,(IntKind.i64.wrap (y.1.2.2.1+(1:Int))),()),()))
else
 some (.inr (.inr ((),())))
noncomputable def T8:A3.J->Option (aH Is):=bA aob
theorem anw:aV O (ap (codeOf Tryz.f138) 1 58) (aX A3 Is T8):=bT aa3 (by kernel_rfl) ag fun y=>by kernel_rfl
abbrev i138:Shape:=⟨[aO 0 .need,aO 1 .need],[],27⟩
abbrev Zm:Shape:=⟨[ar 4],[],27⟩
noncomputable def f138(a:i138.J):Option Zm.J:=
 bif((a.1.1.length:Int) !=(a.1.2.1.length:Int)) then
 some ((false,()),())
else
(T8 ((a.1.1,a.1.2.1,(0:Int),()),())).bind fun b=>
(match b with
|.inl c=>
 some ((c.1.1,()),())
|.inr d=>
 some ((true,()),()))
noncomputable def aar:aI:=aL af Tryz.f138 i138 Zm [] f138
theorem z138:aF O 138 aar:=aM aa3 Tryz.func138 (by kernel_rfl) (a7 anw ag) (fun y=>by kernel_rfl) fun a=>by kernel_rfl
abbrev i191:Shape:=⟨[ck 0 [ah,ba,ba,ah],ck 1 [ah,ba,ba,ah]],[],25⟩
abbrev YK:Shape:=⟨[ar 4],[],25⟩
noncomputable def f191(a:i191.J):Option YK.J:=
 bif(!(a.1.1.1==a.1.2.1.1)) then
 some ((false,()),())
else
 bif(a.1.1.2.1 !=a.1.2.1.2.1) then
 some ((false,()),())
else
 bif(a.1.1.2.2.1 !=a.1.2.1.2.2.1) then
 some ((false,()),())
else
 bif(!(a.1.1.2.2.2.1==a.1.2.1.2.2.2.1)) then
 some ((false,()),())
else
 some ((true,()),())
noncomputable def _V:aI:=aL af Tryz.f191 i191 YK [] f191
theorem asO:aF O 191 _V:=aM g0 Tryz.func191 (by kernel_rfl) ag (fun y=>by kernel_rfl) fun a=>by kernel_rfl
noncomputable abbrev avS:a8:=[(191,_V)]
theorem aa2:aT O (aZ af avS):=aY ⟨asO,⟨⟩⟩
abbrev A2:Shape:=⟨[aO 0 .entry,aO 1 .entry,aj 5],[],27⟩
abbrev Ir:List aR:=[(.ret,⟨[ar 4],[],27⟩),(.exit 0,⟨[],[],27⟩)]
noncomputable def aoa(y:A2.J):bQ A2 Ir:=
 bif(decide (y.1.2.2.1<(y.1.1.length:Int))) then
(aS y.1.1 y.1.2.2.1).bind fun a=>
(aS y.1.2.1 y.1.2.2.1).bind fun b=>
(f191 (((a.path,a.kind,a.mode,a.text,()),(b.path,b.kind,b.mode,b.text,()),()),())).bind fun c=>
 bif(!c.1.1) then
 some (.inr (.inl ((false,()),())))
else
 some (.inl ((y.1.1,y.1.2.1,(IntKind.i64.wrap (y.1.2.2.1+(1:Int))),()),()))
else
 some (.inr (.inr ((),())))
noncomputable def T7:A2.J->Option (aH Ir):=bA aoa
theorem anv:aV O (ap (codeOf Tryz.f139) 1 58) (aX A2 Ir T7):=bT aa2 (by kernel_rfl) ag fun y=>by kernel_rfl
abbrev i139:Shape:=⟨[aO 0 .entry,aO 1 .entry],[],27⟩
abbrev Zl:Shape:=⟨[ar 4],[],27⟩
noncomputable def f139(a:i139.J):Option Zl.J:=
 bif((a.1.1.length:Int) !=(a.1.2.1.length:Int)) then
 some ((false,()),())
else
(T7 ((a.1.1,a.1.2.1,(0:Int),()),())).bind fun b=>
(match b with
|.inl c=>
 some ((c.1.1,()),())
|.inr d=>
 some ((true,()),()))
noncomputable def aaq:aI:=aL af Tryz.f139 i139 Zl [] f139
theorem z139:aF O 139 aaq:=aM aa2 Tryz.func139 (by kernel_rfl) (a7 anv ag) (fun y=>by kernel_rfl) fun a=>by kernel_rfl
noncomputable abbrev az9:a8:=[(134,aav),(135,aau)]
theorem aAT:aT O (aZ af az9):=aY ⟨atd,atc,⟨⟩⟩
abbrev i82:Shape:=⟨[ck 0 [ah,ah,br .need,br .entry],aj 1],[],32⟩
abbrev abI:Shape:=⟨[aj 4],[],32⟩
noncomputable def f82(a:i82.J):Option abI.J:=
 bif(decide ((IntKind.i64.wrap (a.1.2.1-(a.1.1.1.length:Int)))<(0:Int))) then
 some ((((-1):Int),()),())
else
 bif(decide ((IntKind.i64.wrap ((IntKind.i64.wrap (a.1.2.1-(a.1.1.1.length:Int)))-(a.1.1.2.1.length:Int)))<(0:Int))) then
 some ((((-1):Int),()),())
else
(f134 ((a.1.1.2.2.1,(IntKind.i64.wrap ((IntKind.i64.wrap (a.1.2.1-(a.1.1.1.length:Int)))-(a.1.1.2.1.length:Int))),()),())).bind fun b=>
 bif(decide (b.1.1<(0:Int))) then
 some ((((-1):Int),()),())
else
(f135 ((a.1.1.2.2.2.1,b.1.1,()),())).bind fun c=>
 bif(decide (c.1.1<(0:Int))) then
 some ((((-1):Int),()),())
else
 some ((c.1.1,()),())
noncomputable def adm:aI:=aL af Tryz.f82 i82 abI [] f82
theorem aw2:aF O 82 adm:=aM aAT Tryz.func82 (by kernel_rfl) ag (fun y=>by kernel_rfl) fun a=>by kernel_rfl
noncomputable abbrev aAq:a8:=[(82,adm)]
theorem adX:aT O (aZ af aAq):=aY ⟨aw2,⟨⟩⟩
abbrev Ax:Shape:=⟨[aO 0 .pack,aj 1,aj 5],[],27⟩
abbrev HY:List aR:=[(.ret,⟨[aj 4],[],27⟩),(.exit 0,⟨[aj 1],[],27⟩)]
noncomputable def an7(y:Ax.J):bQ Ax HY:=
 bif(decide (y.1.2.2.1<(y.1.1.length:Int))) then
(aS y.1.1 y.1.2.2.1).bind fun a=>
(f82 (((a.name,a.a6,a.bl,a.bI,()),y.1.2.1,()),())).bind fun b=>
 bif(decide (b.1.1<(0:Int))) then
 some (.inr (.inl ((((-1):Int),()),())))
else
 some (.inl ((y.1.1,b.1.1,(IntKind.i64.wrap (y.1.2.2.1+(1:Int))),()),()))
else
 some (.inr (.inr ((y.1.2.1,()),())))
noncomputable def TZ:Ax.J->Option (aH HY):=bA an7
theorem amM:aV O (ap (codeOf Tryz.f44) 1 122) (aX Ax HY TZ):=bT adX (by kernel_rfl) ag fun y=>by kernel_rfl
abbrev i44:Shape:=⟨[aO 0 .pack,aj 1],[],27⟩
abbrev ab2:Shape:=⟨[aj 4],[],27⟩
noncomputable def f44(a:i44.J):Option ab2.J:=
 bif(decide ((IntKind.i64.wrap (a.1.2.1-(a.1.1.length:Int)))<(0:Int))) then
 some ((((-1):Int),()),())
else
(TZ ((a.1.1,(IntKind.i64.wrap (a.1.2.1-(a.1.1.length:Int))),(0:Int),()),())).bind fun b=>
(match b with
|.inl c=>
 some ((c.1.1,()),())
|.inr d=>
 some ((d.1.1,()),()))
noncomputable def adA:aI:=aL af Tryz.f44 i44 ab2 [] f44
theorem axd:aF O 44 adA:=aM adX Tryz.func44 (by kernel_rfl) (a7 amM ag) (fun y=>by kernel_rfl) fun a=>by kernel_rfl
noncomputable abbrev aAK:a8:=[(44,adA)]
theorem aA9:aT O (aZ af aAK):=aY ⟨axd,⟨⟩⟩
abbrev i15:Shape:=⟨[ck 0 [br .pack],aj 1],[],12⟩
abbrev acl:Shape:=⟨[aj 4],[],12⟩
noncomputable def f15(a:i15.J):Option acl.J:=
(f44 ((a.1.1.1,a.1.2.1,()),())).bind fun b=>
 bif(decide (b.1.1<(0:Int))) then
 some ((((-1):Int),()),())
else
 some ((b.1.1,()),())
noncomputable def yk:aI:=aL af Tryz.f15 i15 acl [] f15
theorem axj:aF O 15 yk:=aM aA9 Tryz.func15 (by kernel_rfl) ag (fun y=>by kernel_rfl) fun a=>by kernel_rfl
noncomputable abbrev az7:a8:=[(136,aat),(137,aas)]
theorem aAR:aT O (aZ af az7):=aY ⟨atb,ata,⟨⟩⟩
abbrev i84:Shape:=⟨[ck 0 [ah,ah,br .need,br .entry]],[],19⟩
abbrev abH:Shape:=⟨[ax 2 2 0],[bv 5000130 .need 2 2,bv 5000131 .entry 2 3,aw 2 [ah,ah,.own 5000130,.own 5000131]],19⟩
noncomputable def f84(a:i84.J):Option abH.J:=
(f136 ((a.1.1.2.2.1,()),())).bind fun b=>
(f137 ((a.1.1.2.2.2.1,()),())).bind fun c=>
 some (((),()),b.2.1,c.2.1,(a.1.1.1,a.1.1.2.1,(),(),()),())
noncomputable def adl:aI:=aL af Tryz.f84 i84 abH [] f84
theorem aw1:aF O 84 adl:=aM aAR Tryz.func84 (by kernel_rfl) ag (fun y=>by kernel_rfl) fun a=>by kernel_rfl
noncomputable abbrev aAo:a8:=[(84,adl)]
theorem adW:aT O (aZ af aAo):=aY ⟨aw1,⟨⟩⟩
abbrev Cf:Shape:=⟨[aO 0 .pack,bd 3 3000192,aj 4],[bc 3000192 .pack 3 0],23⟩
abbrev JT:List aR:=[(.exit 0,⟨[bd 3 3000192],[bc 3000192 .pack 3 0],23⟩)]
noncomputable def ap3(y:Cf.J):bQ Cf JT:=
 bif(decide (y.1.2.2.1<(y.1.1.length:Int))) then
(aS y.1.1 y.1.2.2.1).bind fun a=>
(f84 (((a.name,a.a6,a.bl,a.bI,()),()),())).bind fun b=>
(bf y.2.1.length y.1.2.2.1).bind fun c=>
((y.2.1[c]?).bind fun q=>some (aJ.mk b.2.2.2.1.1 b.2.2.2.1.2.1 b.2.1 b.2.2.1)).bind fun d=>
 some (.inl ((y.1.1,(),(IntKind.i64.wrap (y.1.2.2.1+(1:Int))),()),(y.2.1.set c d),()))
else
 some (.inr (((),()),y.2.1,()))
noncomputable def VJ:Cf.J->Option (aH JT):=bA ap3
theorem apz:aV O (ap (codeOf Tryz.f46) 1 58) (aX Cf JT VJ):=bT adW (by kernel_rfl) ag fun y=>by kernel_rfl
abbrev i46:Shape:=⟨[aO 0 .pack],[],23⟩
abbrev ab0:Shape:=⟨[bd 2 3000128],[bc 3000128 .pack 2 0],23⟩
noncomputable def f46(a:i46.J):Option ab0.J:=
(kh 80 (a.1.1.length:Int) (a.1.1.length:Int) (aJ.mk ([]:B) ([]:B) ([]:List bD) ([]:List aB))).bind fun b=>
(VJ ((a.1.1,(),(0:Int),()),b,())).bind fun c=>
 some (((),()),c.2.1,())
noncomputable def ady:aI:=aL af Tryz.f46 i46 ab0 [] f46
theorem z46:aF O 46 ady:=aM adW Tryz.func46 (by kernel_rfl) (a7 apz ag) (fun y=>by kernel_rfl) fun a=>by kernel_rfl
noncomputable abbrev aAI:a8:=[(46,ady)]
theorem aA8:aT O (aZ af aAI):=aY ⟨z46,⟨⟩⟩
abbrev i17:Shape:=⟨[ck 0 [br .pack]],[],9⟩
abbrev acj:Shape:=⟨[ax 2 2 0],[bv 5000128 .pack 2 0,aw 2 [.own 5000128]],9⟩
noncomputable def f17(a:i17.J):Option acj.J:=
(f46 ((a.1.1.1,()),())).bind fun b=>
 some (((),()),b.2.1,((),()),())
noncomputable def adH:aI:=aL af Tryz.f17 i17 acj [] f17
theorem axi:aF O 17 adH:=aM aA8 Tryz.func17 (by kernel_rfl) ag (fun y=>by kernel_rfl) fun a=>by kernel_rfl
noncomputable abbrev az6:a8:=[(138,aar),(139,aaq)]
theorem aAQ:aT O (aZ af az6):=aY ⟨z138,z139,⟨⟩⟩
abbrev i85:Shape:=⟨[ck 0 [ah,ah,br .need,br .entry],ck 1 [ah,ah,br .need,br .entry]],[],27⟩
abbrev abG:Shape:=⟨[ar 4],[],27⟩
noncomputable def f85(a:i85.J):Option abG.J:=
 bif(!(a.1.1.1==a.1.2.1.1)) then
 some ((false,()),())
else
 bif(!(a.1.1.2.1==a.1.2.1.2.1)) then
 some ((false,()),())
else
(f138 ((a.1.1.2.2.1,a.1.2.1.2.2.1,()),())).bind fun b=>
 bif(!b.1.1) then
 some ((false,()),())
else
(f139 ((a.1.1.2.2.2.1,a.1.2.1.2.2.2.1,()),())).bind fun c=>
 bif(!c.1.1) then
 some ((false,()),())
else
 some ((true,()),())
noncomputable def adk:aI:=aL af Tryz.f85 i85 abG [] f85
theorem z85:aF O 85 adk:=aM aAQ Tryz.func85 (by kernel_rfl) ag (fun y=>by kernel_rfl) fun a=>by kernel_rfl
noncomputable abbrev aAm:a8:=[(85,adk)]
theorem adV:aT O (aZ af aAm):=aY ⟨z85,⟨⟩⟩
abbrev Ce:Shape:=⟨[aO 0 .pack,aO 1 .pack,aj 5],[],27⟩
abbrev JS:List aR:=[(.ret,⟨[ar 4],[],27⟩),(.exit 0,⟨[],[],27⟩)]
noncomputable def ap2(y:Ce.J):bQ Ce JS:=
 bif(decide (y.1.2.2.1<(y.1.1.length:Int))) then
(aS y.1.1 y.1.2.2.1).bind fun a=>
(aS y.1.2.1 y.1.2.2.1).bind fun b=>
(f85 (((a.name,a.a6,a.bl,a.bI,()),(b.name,b.a6,b.bl,b.bI,()),()),())).bind fun c=>
 bif(!c.1.1) then
 some (.inr (.inl ((false,()),())))
else
 some (.inl ((y.1.1,y.1.2.1,(IntKind.i64.wrap (y.1.2.2.1+(1:Int))),()),()))
else
 some (.inr (.inr ((),())))
noncomputable def VI:Ce.J->Option (aH JS):=bA ap2
theorem apy:aV O (ap (codeOf Tryz.f48) 1 58) (aX Ce JS VI):=bT adV (by kernel_rfl) ag fun y=>by kernel_rfl
abbrev i48:Shape:=⟨[aO 0 .pack,aO 1 .pack],[],27⟩
abbrev abY:Shape:=⟨[ar 4],[],27⟩
noncomputable def f48(a:i48.J):Option abY.J:=
 bif((a.1.1.length:Int) !=(a.1.2.1.length:Int)) then
 some ((false,()),())
else
(VI ((a.1.1,a.1.2.1,(0:Int),()),())).bind fun b=>
(match b with
|.inl c=>
 some ((c.1.1,()),())
|.inr d=>
 some ((true,()),()))
noncomputable def adw:aI:=aL af Tryz.f48 i48 abY [] f48
theorem axa:aF O 48 adw:=aM adV Tryz.func48 (by kernel_rfl) (a7 apy ag) (fun y=>by kernel_rfl) fun a=>by kernel_rfl
noncomputable abbrev aAG:a8:=[(48,adw)]
theorem aA7:aT O (aZ af aAG):=aY ⟨axa,⟨⟩⟩
abbrev i20:Shape:=⟨[ck 0 [br .pack],ck 1 [br .pack]],[],11⟩
abbrev acg:Shape:=⟨[ar 4],[],11⟩
noncomputable def f20(a:i20.J):Option acg.J:=
(f48 ((a.1.1.1,a.1.2.1.1,()),())).bind fun b=>
 bif(!b.1.1) then
 some ((false,()),())
else
 some ((true,()),())
noncomputable def adF:aI:=aL af Tryz.f20 i20 acg [] f20
theorem z20:aF O 20 adF:=aM aA7 Tryz.func20 (by kernel_rfl) ag (fun y=>by kernel_rfl) fun a=>by kernel_rfl
abbrev kp(n:Nat):Prop:=n<=1048576
abbrev azP(n:bD):Prop:=kp n.name.length/\kp n.a6.length
abbrev azQ(e:aB):Prop:=kp e.path.length/\kp e.text.length
abbrev auN(l:List bD):Prop:=kp l.length/\∀n,n∈l->azP n
abbrev auO(l:List aB):Prop:=kp l.length/\∀n,n∈l->azQ n
abbrev azO(p:aJ):Prop:=kp p.name.length/\kp p.a6.length/\auN p.bl/\auO p.bI
abbrev _g(l:List aJ):Prop:=kp l.length/\∀n,n∈l->azO n
theorem _g.yD{ps:List aJ}(h:_g ps):fS ps/\ko ps:=by
 obtain⟨h1,h2⟩:=h;have up:∀{n:Nat},kp n->cw n:=fun h=>Nat.le_trans h (by decide)
 have abu:∀{n:Nat},kp n->n<=2097151:=fun h=>Nat.le_trans h (by decide)
 refine⟨⟨up h1,fun p hp=>?_⟩,fun p hp=>?_⟩
 ·obtain⟨a,b,c,d⟩:=h2 p hp;exact⟨up a,up b,⟨up c.1,fun n hn=>⟨up (c.2 n hn).1,up (c.2 n hn).2⟩⟩,up d.1,fun n hn=>⟨up (d.2 n hn).1,up (d.2 n hn).2⟩⟩
 ·obtain⟨a,b,c,d⟩:=h2 p hp;exact⟨abu b,fun n hn=>abu (c.2 n hn).2⟩
abbrev i19:Shape:=⟨[ck 0 [ah,ah],ck 1 [ah,ah]],[],15⟩
abbrev ach:Shape:=⟨[ar 4],[],15⟩
noncomputable def f19(a:i19.J):Option ach.J:=
 bif(!(a.1.1.1==a.1.2.1.1)) then
 some ((false,()),())
else
 bif(!(a.1.1.2.1==a.1.2.1.2.1)) then
 some ((false,()),())
else
 some ((true,()),())
noncomputable def adG:aI:=aL af Tryz.f19 i19 ach [] f19
theorem axh:aF O 19 adG:=aM g0 Tryz.func19 (by kernel_rfl) ag (fun y=>by kernel_rfl) fun a=>by kernel_rfl
noncomputable abbrev aAE:a8:=[(34,NQ)]
theorem aA5:aT O (aZ af aAE):=aY ⟨abo,⟨⟩⟩
abbrev i27:Shape:=⟨[ck 0 [br .pack]],[],6⟩
abbrev ace:Shape:=⟨[ax 2 2 0],[aw 2 [ah,ah]],6⟩
noncomputable def f27(a:i27.J):Option ace.J:=
(f34 (((a.1.1.1,()),()),())).bind fun b=>
 some (((),()),(b.1.1,([]:B),()),())
noncomputable def yi:aI:=aL af Tryz.f27 i27 ace [] f27
theorem D3:aF O 27 yi:=aM aA5 Tryz.func27 (by kernel_rfl) ag (fun y=>by kernel_rfl) fun a=>by kernel_rfl
noncomputable abbrev aAD:a8:=[(37,adD)]
theorem aA4:aT O (aZ af aAD):=aY ⟨z37,⟨⟩⟩
abbrev i29:Shape:=⟨[ck 0 [br .pack]],[],6⟩
abbrev acb:Shape:=⟨[ax 2 2 0],[aw 2 [ah,ah]],6⟩
noncomputable def f29(a:i29.J):Option acb.J:=
(f37 (((a.1.1.1,()),()),())).bind fun b=>
 some (((),()),(b.1.1,([]:B),()),())
noncomputable def EL:aI:=aL af Tryz.f29 i29 acb [] f29
theorem Mr:aF O 29 EL:=aM aA4 Tryz.func29 (by kernel_rfl) ag (fun y=>by kernel_rfl) fun a=>by kernel_rfl
theorem aiA(ps:List aJ)(hb:fS ps)(hv:ko ps):f29 (((ps,()),()),())=some (((),()),(((bif eY ps then cK ps else []),(([]:B),())),())):=by
 simp only[f29,aix ps hb hv,Y]
theorem ahf(ps:List aJ)(hb:fS ps)(hv:ko ps):f27 (((ps,()),()),())=some (((),()),(((bif eY ps then cK ps else []),(([]:B),())),())):=by
 simp only[f27,ahd ps hb hv,Y]
abbrev i11:Shape:=⟨[ck 0 [ah,ah],aj 1],[],20⟩
abbrev Ed:Shape:=⟨[aj 4],[],20⟩
noncomputable def f11(a:i11.J):Option Ed.J:=
 bif(decide ((IntKind.i64.wrap (a.1.2.1-(a.1.1.1.length:Int)))<(0:Int))) then
 some ((((-1):Int),()),())
else
 bif(decide ((IntKind.i64.wrap ((IntKind.i64.wrap (a.1.2.1-(a.1.1.1.length:Int)))-(a.1.1.2.1.length:Int)))<(0:Int))) then
 some ((((-1):Int),()),())
else
 some (((IntKind.i64.wrap ((IntKind.i64.wrap (a.1.2.1-(a.1.1.1.length:Int)))-(a.1.1.2.1.length:Int))),()),())
noncomputable def u5:aI:=aL af Tryz.f11 i11 Ed [] f11
theorem abq:aF O 11 u5:=aM g0 Tryz.func11 (by kernel_rfl) ag (fun y=>by kernel_rfl) fun a=>by kernel_rfl
abbrev i13:Shape:=⟨[ck 0 [ah,ah]],[],11⟩
abbrev acm:Shape:=⟨[ax 2 2 0],[aw 2 [ah,ah]],11⟩
noncomputable def f13(a:i13.J):Option acm.J:=
 some (((),()),(a.1.1.1,a.1.1.2.1,()),())
noncomputable def yl:aI:=aL af Tryz.f13 i13 acm [] f13
theorem abp:aF O 13 yl:=aM g0 Tryz.func13 (by kernel_rfl) ag (fun y=>by kernel_rfl) fun a=>by kernel_rfl
noncomputable abbrev aAp:a8:=[(70,EH),(83,yc)]
theorem aAW:aT O (aZ af aAp):=aY ⟨z70,DZ,⟨⟩⟩
abbrev i45:Shape:=⟨[ck 0 [br .pack]],[],13⟩
abbrev ab1:Shape:=⟨[am 2],[],13⟩
noncomputable def f45(a:i45.J):Option ab1.J:=
(f70 (((a.1.1.1,()),()),())).bind fun b=>
(f83 (((b.1.1.length:Int),()),())).bind fun c=>
(cc c.1.1 ([10]:B)).bind fun d=>
(cc d b.1.1).bind fun e=>
(cc e ([101,110,100,10]:B)).bind fun f=>
 some ((f,()),())
noncomputable def adz:aI:=aL af Tryz.f45 i45 ab1 [] f45
theorem axc:aF O 45 adz:=aM aAW Tryz.func45 (by kernel_rfl) ag (fun y=>by kernel_rfl) fun a=>by kernel_rfl
noncomputable abbrev aAJ:a8:=[(12,sp),(30,so),(45,adz)]
theorem EQ:aT O (aZ af aAJ):=aY ⟨z12,uA,axc,⟨⟩⟩
abbrev Vd:Shape:=⟨[aj 2,ax 3 3 0,ax 4 4 0,ax 6 6 0],[aw 3 [ah,ah],aw 4 [br .pack],aw 6 [ah,ah]],33⟩
abbrev UZ:List aR:=[(.norm,⟨[aj 2,ax 3 3 0,ax 4 4 0,ax 6 6 0,ar 15],[aw 3 [ah,ah],aw 4 [br .pack],aw 6 [ah,ah]],33⟩)]
noncomputable def Ko(y:Vd.J):Option (aH UZ):=
(f12 (((y.2.1.1,y.2.1.2.1,()),()),())).bind fun a=>
 bif(!(!a.1.1)) then
(f30 (((y.2.2.1.1,()),()),())).bind fun b=>
 some ((y.1.1,(),(),(),(!b.1.1),()),(y.2.1.1,y.2.1.2.1,()),(y.2.2.1.1,()),(y.2.2.2.1.1,y.2.2.2.1.2.1,()),())
else
 some ((y.1.1,(),(),(),true,()),(y.2.1.1,y.2.1.2.1,()),(y.2.2.1.1,()),(y.2.2.2.1.1,y.2.2.2.1.2.1,()),())
theorem apH:aV O (ap (codeOf Tryz.f16) 1 12) (aX Vd UZ Ko):=cn EQ (by kernel_rfl) ag fun y=>by kernel_rfl
abbrev Vc:Shape:=⟨[aj 2,ax 3 3 0,ax 6 6 0,am 7],[aw 3 [ah,ah],aw 6 [ah,ah]],33⟩
abbrev UY:List aR:=[(.norm,⟨[aj 2,ax 3 3 0,ax 6 6 0,am 7],[aw 3 [ah,ah],aw 6 [ah,ah]],33⟩)]
noncomputable def Kn(y:Vc.J):Option (aH UY):=
 bif(decide (y.1.1<(0:Int))) then
 some (((0:Int),(),(),y.1.2.2.2.1,()),(y.2.1.1,y.2.1.2.1,()),(y.2.2.1.1,y.2.2.1.2.1,()),())
else
 some ((y.1.1,(),(),y.1.2.2.2.1,()),(y.2.1.1,y.2.1.2.1,()),(y.2.2.1.1,y.2.2.1.2.1,()),())
theorem apG:aV O (ap (codeOf Tryz.f16) 1 30) (aX Vc UY Kn):=cn EQ (by kernel_rfl) ag fun y=>by kernel_rfl
abbrev Vb:Shape:=⟨[aj 2,ax 3 3 0,ax 6 6 0,am 7],[aw 3 [ah,ah],aw 6 [ah,ah]],33⟩
abbrev UX:List aR:=[(.norm,⟨[aj 2,ax 3 3 0,ax 6 6 0,am 7],[aw 3 [ah,ah],aw 6 [ah,ah]],33⟩)]
noncomputable def Km(y:Vb.J):Option (aH UX):=
 bif(decide (y.1.1>(y.1.2.2.2.1.length:Int))) then
 some (((y.1.2.2.2.1.length:Int),(),(),y.1.2.2.2.1,()),(y.2.1.1,y.2.1.2.1,()),(y.2.2.1.1,y.2.2.1.2.1,()),())
else
 some ((y.1.1,(),(),y.1.2.2.2.1,()),(y.2.1.1,y.2.1.2.1,()),(y.2.2.1.1,y.2.2.1.2.1,()),())
theorem apF:aV O (ap (codeOf Tryz.f16) 1 62) (aX Vb UX Km):=cn EQ (by kernel_rfl) ag fun y=>by kernel_rfl
abbrev i16:Shape:=⟨[ck 0 [ah,ah],ck 1 [br .pack],aj 2],[],33⟩
abbrev ack:Shape:=⟨[ax 6 6 0],[aw 6 [ah,ah]],33⟩
noncomputable def f16(a:i16.J):Option ack.J:=
(Ko ((a.1.2.2.1,(),(),(),()),(a.1.1.1,a.1.1.2.1,()),(a.1.2.1.1,()),(([]:B),([]:B),()),())).bind fun b=>
 bif b.1.2.2.2.2.1 then
 some (((),()),(([]:B),([]:B),()),())
else
(f45 (((b.2.2.1.1,()),()),())).bind fun c=>
(Kn ((b.1.1,(),(),c.1.1,()),(b.2.1.1,b.2.1.2.1,()),(b.2.2.2.1.1,b.2.2.2.1.2.1,()),())).bind fun d=>
(Km ((d.1.1,(),(),d.1.2.2.2.1,()),(d.2.1.1,d.2.1.2.1,()),(d.2.2.1.1,d.2.2.1.2.1,()),())).bind fun e=>
(bq e.1.2.2.2.1 (0:Int) e.1.1).bind fun f=>
 some (((),()),(e.2.1.1,f,()),())
noncomputable def yj:aI:=aL af Tryz.f16 i16 ack [] f16
theorem D4:aF O 16 yj:=aM EQ Tryz.func16 (by kernel_rfl) (a7 apH (a7 apG (a7 apF ag))) (fun y=>by kernel_rfl) fun a=>by kernel_rfl
noncomputable abbrev aAn:a8:=[(64,DJ)]
theorem aAV:aT O (aZ af aAn):=aY ⟨KY,⟨⟩⟩
abbrev i47:Shape:=⟨[am 0],[],10⟩
abbrev abZ:Shape:=⟨[am 2],[],10⟩
noncomputable def f47(a:i47.J):Option abZ.J:=
(if-9223372036854775808<=(a.1.1.length:Int)/\(a.1.1.length:Int)<=9223372036854775807 then some () else none).bind fun b=>
(cc (Lib.itoa (a.1.1.length:Int)) ([10]:B)).bind fun c=>
(cc c a.1.1).bind fun d=>
(cc d ([101,110,100,10]:B)).bind fun e=>
 some ((e,()),())
noncomputable def adx:aI:=aL af Tryz.f47 i47 abZ [] f47
theorem axb:aF O 47 adx:=aM aAV Tryz.func47 (by kernel_rfl) ag (fun y=>by kernel_rfl) fun a=>by kernel_rfl
noncomputable abbrev aAH:a8:=[(14,qC),(34,NQ),(43,ye),(47,adx)]
theorem ad1:aT O (aZ af aAH):=aY ⟨xy,abo,D1,axb,⟨⟩⟩
abbrev Va:Shape:=⟨[aj 2,ax 3 3 0,ax 4 4 0,ax 6 6 0],[aw 3 [ah,ah],aw 4 [br .pack],aw 6 [ah,ah]],30⟩
abbrev UW:List aR:=[(.norm,⟨[aj 2,ax 3 3 0,ax 4 4 0,ax 6 6 0,ar 15],[aw 3 [ah,ah],aw 4 [br .pack],aw 6 [ah,ah]],30⟩)]
noncomputable def Wf(y:Va.J):Option (aH UW):=
(f14 (((y.2.1.1,y.2.1.2.1,()),()),())).bind fun a=>
 bif(!(!a.1.1)) then
(f43 (((y.2.2.1.1,()),()),())).bind fun b=>
 some ((y.1.1,(),(),(),(!b.1.1),()),(y.2.1.1,y.2.1.2.1,()),(y.2.2.1.1,()),(y.2.2.2.1.1,y.2.2.2.1.2.1,()),())
else
 some ((y.1.1,(),(),(),true,()),(y.2.1.1,y.2.1.2.1,()),(y.2.2.1.1,()),(y.2.2.2.1.1,y.2.2.2.1.2.1,()),())
theorem apE:aV O (ap (codeOf Tryz.f18) 1 12) (aX Va UW Wf):=cn ad1 (by kernel_rfl) ag fun y=>by kernel_rfl
abbrev i18:Shape:=⟨[ck 0 [ah,ah],ck 1 [br .pack],aj 2],[],30⟩
abbrev aci:Shape:=⟨[ax 6 6 0],[aw 6 [ah,ah]],30⟩
noncomputable def f18(a:i18.J):Option aci.J:=
(Wf ((a.1.2.2.1,(),(),(),()),(a.1.1.1,a.1.1.2.1,()),(a.1.2.1.1,()),(([]:B),([]:B),()),())).bind fun b=>
 bif b.1.2.2.2.2.1 then
 some (((),()),(([]:B),([]:B),()),())
else
(f34 (((b.2.2.1.1,()),()),())).bind fun c=>
(f47 ((c.1.1,()),())).bind fun d=>
(bq d.1.1 (0:Int) (l6 (hd b.1.1 (0:Int)) (d.1.1.length:Int))).bind fun e=>
 some (((),()),(b.2.1.1,e,()),())
noncomputable def EM:aI:=aL af Tryz.f18 i18 aci [] f18
theorem Ms:aF O 18 EM:=aM ad1 Tryz.func18 (by kernel_rfl) (a7 apE ag) (fun y=>by kernel_rfl) fun a=>by kernel_rfl
noncomputable abbrev OD:a8:=[(11,u5),(12,sp),(13,yl),(14,qC)]
theorem OI:aT O (aZ af OD):=aY ⟨abq,z12,abp,xy,⟨⟩⟩
abbrev i3:Shape:=⟨[ck 0 [ah,ah]],[],20⟩
abbrev o3:Shape:=⟨[ar 2],[],20⟩
noncomputable def f3(a:i3.J):Option o3.J:=
(f11 (((a.1.1.1,a.1.1.2.1,()),(1048576:Int),()),())).bind fun b=>
 bif(decide (b.1.1<(0:Int))) then
 some ((true,()),())
else
(f13 (((a.1.1.1,a.1.1.2.1,()),()),())).bind fun c=>
(f12 (((c.2.1.1,c.2.1.2.1,()),()),())).bind fun d=>
(f13 (((a.1.1.1,a.1.1.2.1,()),()),())).bind fun e=>
(f14 (((e.2.1.1,e.2.1.2.1,()),()),())).bind fun f=>
 bif(!(f.1.1==d.1.1)) then
 some ((false,()),())
else
 some ((true,()),())
noncomputable def jA:aI:=aL af Tryz.f3 i3 o3 [] f3
theorem z3:aF O 3 jA:=aM OI Tryz.func3 (by kernel_rfl) ag (fun y=>by kernel_rfl) fun a=>by kernel_rfl
noncomputable abbrev OC:a8:=[(11,u5),(13,yl),(15,yk),(16,yj),(17,adH),(18,EM),(19,adG),(20,adF)]
theorem OH:aT O (aZ af OC):=aY ⟨abq,abp,axj,D4,axi,Ms,axh,z20,⟨⟩⟩
abbrev i4:Shape:=⟨[ck 0 [ah,ah],ck 1 [br .pack],aj 2],[],43⟩
abbrev aei:Shape:=⟨[ar 6],[],43⟩
noncomputable def f4(a:i4.J):Option aei.J:=
(f11 (((a.1.1.1,a.1.1.2.1,()),(1048576:Int),()),())).bind fun b=>
 bif(decide (b.1.1<(0:Int))) then
 some ((true,()),())
else
(f15 (((a.1.2.1.1,()),b.1.1,()),())).bind fun c=>
 bif(decide (c.1.1<(0:Int))) then
 some ((true,()),())
else
(f13 (((a.1.1.1,a.1.1.2.1,()),()),())).bind fun d=>
(f17 (((a.1.2.1.1,()),()),())).bind fun e=>
(f16 (((d.2.1.1,d.2.1.2.1,()),(e.2.1,()),a.1.2.2.1,()),())).bind fun f=>
(f17 (((a.1.2.1.1,()),()),())).bind fun g=>
(f13 (((a.1.1.1,a.1.1.2.1,()),()),())).bind fun h=>
(f18 (((h.2.1.1,h.2.1.2.1,()),(g.2.1,()),a.1.2.2.1,()),())).bind fun i=>
(f19 (((i.2.1.1,i.2.1.2.1,()),(f.2.1.1,f.2.1.2.1,()),()),())).bind fun j=>
 bif(!j.1.1) then
 some ((false,()),())
else
(f17 (((a.1.2.1.1,()),()),())).bind fun k=>
(f20 (((g.2.1,()),(k.2.1,()),()),())).bind fun l=>
 bif(!l.1.1) then
 some ((false,()),())
else
 some ((true,()),())
noncomputable def mo:aI:=aL af Tryz.f4 i4 aei [] f4
theorem z4:aF O 4 mo:=aM OH Tryz.func4 (by kernel_rfl) ag (fun y=>by kernel_rfl) fun a=>by kernel_rfl
def kI:B:=[101,110,100,10]
def l7(ps:List aJ):B:=dz (cK ps)++kI
theorem alq{ps:List aJ}(hb:fS ps)(hr:eY ps=true):(cK ps).length<=503317500:=by
 have hk:=(kT hr).1;have bn:=(kT hr).2;have h1:=nw (f:=fun p=>dz (bJ p)) (xs:=ps) (n:=100663500) fun p hp=>Gb (hb.2 p hp) (hk p hp)
 have aD:ps.length*100663500<=5*100663500:=Nat.mul_le_mul_right _ bn;have e:(cK ps).length=(ps.flatMap fun p=>dz (bJ p)).length:=rfl
 omega
theorem akm(ps:List aJ)(hb:fS ps)(hr:eY ps=true):f45 (((ps,()),()),())=some ((l7 ps,()),()):=by
 have hl:=alq hb hr;have fe:=As ps hb (kT hr).1;have aa:f83 ((((cK ps).length:Int),()),())=_:=At (cK ps).length (by omega)
 have h2:=ku (cK ps).length (by omega)
 have e1:=dS (s:=Lib.itoa ((cK ps).length:Int)) (t:=[10]) (by simp;omega)
 have e2:=dS (s:=Lib.itoa ((cK ps).length:Int)++[10]) (t:=cK ps) (by simp;omega)
 have bE:=dS (s:=Lib.itoa ((cK ps).length:Int)++[10]++cK ps) (t:=[101,110,100,10]) (by simp;omega)
 simp only[f45];exact(n9 fe).trans ((n9 aa).trans ((n9 e1).trans ((n9 e2).trans ((n9 bE).trans rfl))))
def rl(b:Int)(n:Nat):Nat:=min b.toNat n
theorem akw(b:Int)(n:Nat):rl b n<=n:=Nat.min_le_right _ _
abbrev pV(k:Bool)(s:B)(ps:List aJ)(b:Int):B×B:=bif k&&eY ps then(s,(l7 ps).take (rl b (l7 ps).length)) else([],[])
theorem ahl(s t:B)(ps:List aJ)(b:Int)(hb:fS ps)(hv:ko ps)(k:Bool)(hk:f12 (((s,(t,())),()),())=some ((k,()),())):
  f16 (((s,(t,())),((ps,()),(b,()))),())=some (((),()),(((pV k s ps b).1,((pV k s ps b).2,())),())):=by
 have e1:=zH (((ps,()),()),()) hb hv;have e1:f30 (((ps,()),()),())=some ((eY ps,()),()):=e1;simp only[f16,Ko,hk,Y];cases k with
 |false=>rfl
 |true=>
  cases hr:eY ps with
  |false=>
   rw[hr] at e1;simp only[pV,hr,bu,bK,ad,e1,Y,Bool.true_and,ak]
  |true=>
   rw[hr] at e1;have bE:=akm ps hb hr;have fin:∀x:Int,x=((rl b (l7 ps).length:Nat):Int)->bq (l7 ps) 0 x=some ((l7 ps).take (rl b (l7 ps).length)):=fun x hx=>by rw[hx];exact gx (akw b _)
   simp only[pV,hr,bu,bK,ad,e1,Y,Bool.true_and,ak,bE,Kn,Km];by_cases h0:b<0
   ·have d0:decide ((0:Int)>((l7 ps).length:Int))=false:=decide_eq_false (by omega)
    simp only[h0,decide_true,ad,Y,d0,ak,fin 0 (by unfold rl;omega)]
   ·simp only[h0,decide_false,ak,Y];by_cases h1:b>((l7 ps).length:Int)
    ·simp only[h1,decide_true,ad,Y,fin _ (show((l7 ps).length:Int)=_ by unfold rl;omega)]
    ·simp only[h1,decide_false,ak,Y,fin b (by unfold rl;omega)]
abbrev Sc:Shape:=⟨[ax 0 500000 0,aj 1],[aw 500000 [br .u8,ba]],99⟩
abbrev RU:List aR:=[(.norm,⟨[ax 0 500000 0,aj 1,ar 24],[aw 500000 [br .u8,ba]],99⟩)]
noncomputable def Ae(y:Sc.J):Option (aH RU):=
 bif(!(decide (y.1.2.1<(1:Int)))) then
 some (((),y.1.2.1,((y.2.1.1.length:Int)==(0:Int)),()),(y.2.1.1,y.2.1.2.1,()),())
else
 some (((),y.1.2.1,true,()),(y.2.1.1,y.2.1.2.1,()),())
theorem akQ:aV O (ap (codeOf Tryz.f78) 1 28) (aX Sc RU Ae):=cn g0 (by kernel_rfl) ag fun y=>by kernel_rfl
abbrev Xb:Shape:=⟨[ax 0 500000 0,aj 1],[aw 500000 [br .u8,ba]],99⟩
abbrev WX:Shape:=⟨[ax 0 500000 0,aj 4],[aw 500000 [br .u8,ba]],99⟩
noncomputable def gz(a:Xb.J):Option WX.J:=
(Ae (((),a.1.2.1,()),(a.2.1.1,(IntKind.i64.wrap (a.2.1.2.1+(1:Int))),()),())).bind fun b=>
 bif b.1.2.2.1 then
 some (((),(0:Int),()),(b.2.1.1,b.2.1.2.1,()),())
else
 bif(decide ((IntKind.i64.wrap (b.2.1.2.1-(1:Int)))<(b.2.1.1.length:Int))) then
(aS b.2.1.1 (IntKind.i64.wrap (b.2.1.2.1-(1:Int)))).bind fun c=>
(ja (IntKind.i64.wrap c) b.1.2.1).bind fun d=>
 some (((),d,()),(b.2.1.1,b.2.1.2.1,()),())
else
(ja (IntKind.i64.wrap (b.2.1.2.1-(1:Int))) (b.2.1.1.length:Int)).bind fun e=>
(aS b.2.1.1 e).bind fun f=>
(ja (IntKind.i64.wrap ((IntKind.i64.wrap ((IntKind.i64.wrap (b.2.1.2.1-(1:Int)))*(7:Int)))+(3:Int))) (b.2.1.1.length:Int)).bind fun g=>
(aS b.2.1.1 g).bind fun h=>
(l5 .i64 (IntKind.i64.wrap (b.2.1.2.1-(1:Int))) (b.2.1.1.length:Int)).bind fun i=>
(l5 .i64 (IntKind.i64.wrap ((IntKind.i64.wrap ((IntKind.i64.wrap ((IntKind.i64.wrap ((IntKind.i64.wrap f)*(131:Int)))+(IntKind.i64.wrap ((IntKind.i64.wrap h)*(1117:Int)))))+(IntKind.i64.wrap ((IntKind.i64.wrap (b.2.1.2.1-(1:Int)))*(29:Int)))))+(IntKind.i64.wrap (i*(53:Int))))) (64:Int)).bind fun j=>
(ja (dB .i64 (IntKind.i64.wrap ((IntKind.i64.wrap ((IntKind.i64.wrap ((IntKind.i64.wrap ((IntKind.i64.wrap f)*(131:Int)))+(IntKind.i64.wrap ((IntKind.i64.wrap h)*(1117:Int)))))+(IntKind.i64.wrap ((IntKind.i64.wrap (b.2.1.2.1-(1:Int)))*(29:Int)))))+(IntKind.i64.wrap (i*(53:Int))))) j) b.1.2.1).bind fun k=>
 some (((),k,()),(b.2.1.1,b.2.1.2.1,()),())
noncomputable def jl:aI:=aL af Tryz.f78 Xb WX [0] gz
theorem jI:aF O 78 jl:=aM g0 Tryz.func78 (by kernel_rfl) (a7 akQ ag) (fun y=>by kernel_rfl) fun a=>by kernel_rfl
noncomputable abbrev ar4:a8:=[(78,jl)]
theorem ar9:aT O (aZ af ar4):=aY ⟨jI,⟨⟩⟩
abbrev Xa:Shape:=⟨[ax 0 500000 0,aO 1 .str],[aw 500000 [br .u8,ba]],12⟩
abbrev WW:Shape:=⟨[ax 0 500000 0,am 4],[aw 500000 [br .u8,ba]],12⟩
noncomputable def jK(a:Xa.J):Option WW.J:=
(gz (((),(a.1.2.1.length:Int),()),(a.2.1.1,a.2.1.2.1,()),())).bind fun b=>
(aS a.1.2.1 b.1.2.1).bind fun c=>
 some (((),c,()),(b.2.1.1,b.2.1.2.1,()),())
noncomputable def k3:aI:=aL af Tryz.f79 Xa WW [0] jK
theorem lU:aF O 79 k3:=aM ar9 Tryz.func79 (by kernel_rfl) ag (fun y=>by kernel_rfl) fun a=>by kernel_rfl
noncomputable abbrev aqw:a8:=[(79,k3)]
theorem aqP:aT O (aZ af aqw):=aY ⟨lU,⟨⟩⟩
abbrev VX:Shape:=⟨[ax 0 500000 0],[aw 500000 [br .u8,ba]],6⟩
abbrev Vs:Shape:=⟨[ax 0 500000 0,am 2],[aw 500000 [br .u8,ba]],6⟩
noncomputable def tE(a:VX.J):Option Vs.J:=
(jK (((),([([49]:B),([49,46,48]:B),([49,46,49]:B),([49,46,50]:B),([50]:B),([48,46,57,46,57]:B),([49,46,49,48]:B),([57,57,57,46,57,57,57,46,57,57,57,46,57,57,57]:B)]:List B),()),(a.2.1.1,a.2.1.2.1,()),())).bind fun b=>
 some (((),b.1.2.1,()),(b.2.1.1,b.2.1.2.1,()),())
noncomputable def CU:aI:=aL af Tryz.f176 VX Vs [0] tE
theorem JD:aF O 176 CU:=aM aqP Tryz.func176 (by kernel_rfl) ag (fun y=>by kernel_rfl) fun a=>by kernel_rfl
noncomputable abbrev au7:a8:=[(143,L8),(144,L7),(145,L6),(194,DL),(202,xo)]
theorem Mc:aT O (aZ af au7):=aY ⟨z143,XK,z145,z194,Dm,⟨⟩⟩
abbrev Sk:Shape:=⟨[aO 0 .entry,ax 3 3 0,bd 4 3000256,ar 5,aj 6,ar 7,bd 8 3000512],[aw 3 [ah,ba,ba,ah],bc 3000256 .entry 4 0,bc 3000512 .entry 8 0],68⟩
abbrev R3:List aR:=[(.norm,⟨[aO 0 .entry,ax 3 3 0,bd 4 3000256,ar 5,aj 6,ar 7,bd 8 3000512,ar 18],[aw 3 [ah,ba,ba,ah],bc 3000256 .entry 4 0,bc 3000512 .entry 8 0],68⟩)]
noncomputable def Aj(y:Sk.J):Option (aH R3):=
(f143 (((y.2.1.1,y.2.1.2.1,y.2.1.2.2.1,y.2.1.2.2.2.1,()),()),())).bind fun a=>
 bif(!(!a.1.1)) then
(f145 ((y.2.1.1,()),())).bind fun b=>
(f144 ((y.1.1,b.1.1,()),())).bind fun c=>
 some ((y.1.1,(),(),y.1.2.2.2.1,y.1.2.2.2.2.1,y.1.2.2.2.2.2.1,(),(!c.1.1),()),(y.2.1.1,y.2.1.2.1,y.2.1.2.2.1,y.2.1.2.2.2.1,()),y.2.2.1,y.2.2.2.1,())
else
 some ((y.1.1,(),(),y.1.2.2.2.1,y.1.2.2.2.2.1,y.1.2.2.2.2.2.1,(),true,()),(y.2.1.1,y.2.1.2.1,y.2.1.2.2.1,y.2.1.2.2.2.1,()),y.2.2.1,y.2.2.2.1,())
theorem ak6:aV O (ap (codeOf Tryz.f223) 1 120) (aX Sk R3 Aj):=cn Mc (by kernel_rfl) ag fun y=>by kernel_rfl
abbrev Sj:Shape:=⟨[aO 0 .entry,ax 3 3 0,bd 4 3000256,ar 5,aj 6,ar 7,bd 8 3000512],[aw 3 [ah,ba,ba,ah],bc 3000256 .entry 4 0,bc 3000512 .entry 8 0],68⟩
abbrev R1:List aR:=[(.norm,⟨[aO 0 .entry,ax 3 3 0,bd 4 3000256,ar 5,aj 6,ar 7,bd 8 3000512,ar 31],[aw 3 [ah,ba,ba,ah],bc 3000256 .entry 4 0,bc 3000512 .entry 8 0],68⟩)]
noncomputable def Ai(y:Sj.J):Option (aH R1):=
 bif y.1.2.2.2.2.2.1 then
(aS y.1.1 y.1.2.2.2.2.1).bind fun a=>
 some ((y.1.1,(),(),y.1.2.2.2.1,y.1.2.2.2.2.1,y.1.2.2.2.2.2.1,(),(a.kind !=y.2.1.2.1),()),(y.2.1.1,y.2.1.2.1,y.2.1.2.2.1,y.2.1.2.2.2.1,()),y.2.2.1,y.2.2.2.1,())
else
 some ((y.1.1,(),(),y.1.2.2.2.1,y.1.2.2.2.2.1,y.1.2.2.2.2.2.1,(),false,()),(y.2.1.1,y.2.1.2.1,y.2.1.2.2.1,y.2.1.2.2.2.1,()),y.2.2.1,y.2.2.2.1,())
theorem ak5:aV O (ap (codeOf Tryz.f223) 1 486) (aX Sj R1 Ai):=cn Mc (by kernel_rfl) ag fun y=>by kernel_rfl
abbrev i223:Shape:=⟨[aO 0 .entry,ck 1 [ah,ba,ba,ah]],[],68⟩
abbrev Yn:Shape:=⟨[bd 4 3000256,ar 5],[bc 3000256 .entry 4 0],68⟩
noncomputable def f223(a:i223.J):Option Yn.J:=
(f194 ((a.1.1,a.1.2.1.1,()),())).bind fun b=>
(f202 ((a.1.1,()),())).bind fun c=>
(Aj ((a.1.1,(),(),false,b.1.1,b.1.2.1,(),()),(a.1.2.1.1,a.1.2.1.2.1,a.1.2.1.2.2.1,a.1.2.1.2.2.2.1,()),([]:List aB),c.2.1,())).bind fun d=>
 bif d.1.2.2.2.2.2.2.2.1 then
 some (((),false,()),d.2.2.2.1,())
else
(Ai ((d.1.1,(),(),d.1.2.2.2.1,d.1.2.2.2.2.1,d.1.2.2.2.2.2.1,(),()),(d.2.1.1,d.2.1.2.1,d.2.1.2.2.1,d.2.1.2.2.2.1,()),d.2.2.1,d.2.2.2.1,())).bind fun e=>
 bif e.1.2.2.2.2.2.2.2.1 then
 some (((),false,()),e.2.2.2.1,())
else
 bif e.1.2.2.2.2.2.1 then
(bf e.2.2.2.1.length e.1.2.2.2.2.1).bind fun f=>
((e.2.2.2.1[f]?).bind fun q=>some (aB.mk e.2.1.1 e.2.1.2.1 e.2.1.2.2.1 e.2.1.2.2.2.1)).bind fun g=>
 some (((),true,()),(e.2.2.2.1.set f g),())
else
 bif(decide ((e.1.1.length:Int)>=(16:Int))) then
 some (((),false,()),e.2.2.2.1,())
else
(bq e.1.1 (0:Int) e.1.2.2.2.2.1).bind fun h=>
(cm 48 ([]:List aB) h).bind fun i=>
(cm 48 i ([(aB.mk e.2.1.1 e.2.1.2.1 e.2.1.2.2.1 e.2.1.2.2.2.1)]:List aB)).bind fun j=>
(bq e.1.1 e.1.2.2.2.2.1 (e.1.1.length:Int)).bind fun k=>
(cm 48 j k).bind fun l=>
 some (((),true,()),l,())
noncomputable def _H:aI:=aL af Tryz.f223 i223 Yn [] f223
theorem asD:aF O 223 _H:=aM Mc Tryz.func223 (by kernel_rfl) (a7 ak6 (a7 ak5 ag)) (fun y=>by kernel_rfl) fun a=>by kernel_rfl
noncomputable abbrev aqn:a8:=[(79,k3)]
theorem aqJ:aT O (aZ af aqn):=aY ⟨lU,⟨⟩⟩
abbrev VO:Shape:=⟨[ax 0 500000 0],[aw 500000 [br .u8,ba]],6⟩
abbrev Vk:Shape:=⟨[ax 0 500000 0,am 2],[aw 500000 [br .u8,ba]],6⟩
noncomputable def tD(a:VO.J):Option Vk.J:=
(jK (((),([([97]:B),([98]:B),([97,47,98]:B),([97,47,99]:B),([97,47,98,47,99]:B),([108,105,98]:B),([108,105,98,47,120]:B),([108,105,98,47,120,46,99]:B),([100,111,99,47,121]:B),([98,105,110]:B),([98,105,110,47,122]:B),([97,47,98,47,99,47,100,47,101]:B)]:List B),()),(a.2.1.1,a.2.1.2.1,()),())).bind fun b=>
 some (((),b.1.2.1,()),(b.2.1.1,b.2.1.2.1,()),())
noncomputable def Kv:aI:=aL af Tryz.f261 VO Vk [0] tD
theorem UA:aF O 261 Kv:=aM aqJ Tryz.func261 (by kernel_rfl) ag (fun y=>by kernel_rfl) fun a=>by kernel_rfl
abbrev Si:Shape:=⟨[am 0,aj 1,am 5],[],20⟩
abbrev R0:List aR:=[(.norm,⟨[am 0,aj 1,am 5],[],20⟩)]
noncomputable def Ah(y:Si.J):Option (aH R0):=
(ja y.1.2.1 (2:Int)).bind fun a=>
 bif(a==(1:Int)) then
(cc y.1.2.2.1 y.1.1).bind fun b=>
 some ((y.1.1,y.1.2.1,b,()),())
else
 some ((y.1.1,y.1.2.1,y.1.2.2.1,()),())
theorem ak4:aV O (ap (dk (ap (codeOf Tryz.f237) 1 28)) 56 452) (aX Si R0 Ah):=cn g0 (by kernel_rfl) ag fun y=>by kernel_rfl
abbrev AH:Shape:=⟨[am 0,aj 1,am 5],[],20⟩
abbrev H8:List aR:=[(.exit 0,⟨[am 5],[],20⟩)]
noncomputable def Um(y:AH.J):bQ AH H8:=
 bif(decide (y.1.2.1>(0:Int))) then
(Ah ((y.1.1,y.1.2.1,y.1.2.2.1,()),())).bind fun a=>
(cc a.1.1 a.1.1).bind fun b=>
(l5 .i64 a.1.2.1 (2:Int)).bind fun c=>
 some (.inl ((b,c,a.1.2.2.1,()),()))
else
 some (.inr ((y.1.2.2.1,()),()))
noncomputable def IU:AH.J->Option (aH H8):=bA Um
theorem amZ:aV O (ap (codeOf Tryz.f237) 1 28) (aX AH H8 IU):=bT g0 (by kernel_rfl) (a7 ak4 ag) fun y=>by kernel_rfl
abbrev i237:Shape:=⟨[am 0,aj 1],[],20⟩
abbrev Yg:Shape:=⟨[am 4],[],20⟩
noncomputable def f237(a:i237.J):Option Yg.J:=
(IU ((a.1.1,a.1.2.1,([]:B),()),())).bind fun b=>
 some ((b.1.1,()),())
noncomputable def LR:aI:=aL af Tryz.f237 i237 Yg [] f237
theorem XC:aF O 237 LR:=aM g0 Tryz.func237 (by kernel_rfl) (a7 amZ ag) (fun y=>by kernel_rfl) fun a=>by kernel_rfl
noncomputable abbrev aqm:a8:=[(79,k3),(237,LR)]
theorem aqI:aT O (aZ af aqm):=aY ⟨lU,XC,⟨⟩⟩
abbrev VN:Shape:=⟨[ax 0 500000 0],[aw 500000 [br .u8,ba]],7⟩
abbrev Vj:Shape:=⟨[ax 0 500000 0,am 2],[aw 500000 [br .u8,ba]],7⟩
noncomputable def CG(a:VN.J):Option Vj.J:=
(f237 ((([116]:B),(80:Int),()),())).bind fun b=>
(jK (((),([([]:B),([111,110,101,10]:B),([111,110,101,10,116,119,111,10,116,104,114,101,101,10]:B),([110,111,32,101,110,100]:B),([97,10,98,10,99,10,100,10,101,10,102,10,103,10]:B),b.1.1]:List B),()),(a.2.1.1,a.2.1.2.1,()),())).bind fun c=>
 some (((),c.1.2.1,()),(c.2.1.1,c.2.1.2.1,()),())
noncomputable def Wn:aI:=aL af Tryz.f262 VN Vj [0] CG
theorem aoB:aF O 262 Wn:=aM aqI Tryz.func262 (by kernel_rfl) ag (fun y=>by kernel_rfl) fun a=>by kernel_rfl
noncomputable abbrev ar5:a8:=[(78,jl)]
theorem asa:aT O (aZ af ar5):=aY ⟨jI,⟨⟩⟩
abbrev Xc:Shape:=⟨[ax 0 500000 0,aO 1 .i64],[aw 500000 [br .u8,ba]],12⟩
abbrev WY:Shape:=⟨[ax 0 500000 0,aj 4],[aw 500000 [br .u8,ba]],12⟩
noncomputable def ua(a:Xc.J):Option WY.J:=
(gz (((),(a.1.2.1.length:Int),()),(a.2.1.1,a.2.1.2.1,()),())).bind fun b=>
(aS a.1.2.1 b.1.2.1).bind fun c=>
 some (((),c,()),(b.2.1.1,b.2.1.2.1,()),())
noncomputable def Dh:aI:=aL af Tryz.f77 Xc WY [0] ua
theorem KB:aF O 77 Dh:=aM asa Tryz.func77 (by kernel_rfl) ag (fun y=>by kernel_rfl) fun a=>by kernel_rfl
noncomputable abbrev aqr:a8:=[(77,Dh),(78,jl),(261,Kv),(262,Wn)]
theorem aqL:aT O (aZ af aqr):=aY ⟨KB,jI,UA,aoB,⟨⟩⟩
abbrev VS:Shape:=⟨[ax 0 500000 0],[aw 500000 [br .u8,ba]],26⟩
abbrev Vn:Shape:=⟨[ax 0 500000 0,ax 2 2 0],[aw 500000 [br .u8,ba],aw 2 [ah,ba,ba,ah]],26⟩
noncomputable def wA(a:VS.J):Option Vn.J:=
(tD (((),()),(a.2.1.1,a.2.1.2.1,()),())).bind fun b=>
(ua (((),([(1:Int),(1:Int),(2:Int),(2:Int),(3:Int)]:List Int),()),(b.2.1.1,b.2.1.2.1,()),())).bind fun c=>
(gz (((),(8:Int),()),(c.2.1.1,c.2.1.2.1,()),())).bind fun d=>
 bif(c.1.2.1==(2:Int)) then
(CG (((),()),(d.2.1.1,d.2.1.2.1,()),())).bind fun e=>
 some (((),(),()),(e.2.1.1,e.2.1.2.1,()),(b.1.2.1,c.1.2.1,d.1.2.1,e.1.2.1,()),())
else
 bif(c.1.2.1==(3:Int)) then
(tD (((),()),(d.2.1.1,d.2.1.2.1,()),())).bind fun f=>
 some (((),(),()),(f.2.1.1,f.2.1.2.1,()),(b.1.2.1,c.1.2.1,(0:Int),f.1.2.1,()),())
else
 some (((),(),()),(d.2.1.1,d.2.1.2.1,()),(b.1.2.1,c.1.2.1,d.1.2.1,([]:B),()),())
noncomputable def Kw:aI:=aL af Tryz.f224 VS Vn [0] wA
theorem UB:aF O 224 Kw:=aM aqL Tryz.func224 (by kernel_rfl) ag (fun y=>by kernel_rfl) fun a=>by kernel_rfl
theorem hJ(a)(m:Nat)(h:dj a.2.1.1 a.2.1.2.1 m)(hm:1<=m):ab (gz a) (fun r=>dj r.2.1.1 r.2.1.2.1 (m-1)/\(0:Int)<=r.1.2.1/\((1:Int)<=a.1.2.1->(r.1.2.1:Int)<a.1.2.1)):=by
 obtain⟨⟨u1,(n:Int),u2⟩,⟨⟨(b:List Int),(p:Int),sx⟩,aec⟩⟩:=a;have h:dj b p m:=h;obtain⟨h1,h2,h3,aD⟩:=h;have e1:IntKind.i64.wrap (p+1)=p+1:=c5 (by omega) (by omega)
 have e2:IntKind.i64.wrap (p+1-1)=p:=by rw[show p+1-1=p by omega];exact c5 (by omega) (by omega)
 have R:dj b (p+1) (m-1):=⟨h1,h2,by omega,by omega⟩
 unfold gz;simp only[e1];have hg:Ae (((),(n,())),((b,(p+1,())),()))=some ((((),(n,((decide (n<1)||(b.length:Int)==0),()))),((b,(p+1,())),()))):=by
  unfold Ae;cases decide (n<1)<;>rfl
 refine ab.eq hg ?_
 refine ab.ite (fun hc=>ab.ret ⟨R,Int.le_refl _,fun hn=>hn⟩) fun hc=>?_
 have hc:(decide (n<1)||(b.length:Int)==0)=false:=hc;simp only[Bool.or_eq_false_iff,decide_eq_false_iff_not,beq_eq_false_iff_ne,ne_eq] at hc;have hn:1<=n:=by omega
 have hb:0<b.length:=by omega
 simp only[e2];refine ab.ite (fun aa=>?_) fun aa=>?_
 ·have aa:p<(b.length:Int):=of_decide_eq_true aa;obtain⟨x,aG,aK⟩:=nH (xs:=b) h3 aa;obtain⟨bP,cU⟩:=h2 x aK;refine ab.eq aG ?_
  have bE:IntKind.i64.wrap x=x:=c5 (by omega) (by omega)
  refine ab.eq (x:=x%n) (by show ja (IntKind.i64.wrap x) n=_;rw[bE];exact oI bP (by omega)) ?_
  exact ab.ret ⟨R,Int.emod_nonneg _ (by omega),fun _=>Int.emod_lt_of_pos _ (by omega)⟩
 ·have hl:0<(b.length:Int):=by omega
  have m7:IntKind.i64.wrap (IntKind.i64.wrap (p*7)+3)=p*7+3:=by rw[c5 (n:=p*7) (by omega) (by omega)];exact c5 (by omega) (by omega)
  obtain⟨x,aG,aK⟩:=nH (xs:=b) (Int.emod_nonneg p (b:=(b.length:Int)) (by omega)) (Int.emod_lt_of_pos p hl)
  obtain⟨bP,cU⟩:=h2 x aK;obtain⟨y,ed,fU⟩:=nH (xs:=b) (Int.emod_nonneg (p*7+3) (b:=(b.length:Int)) (by omega)) (Int.emod_lt_of_pos (p*7+3) hl)
  obtain⟨u',aDv⟩:=h2 y fU;have q0:0<=p/(b.length:Int):=Int.ediv_nonneg h3 (by omega)
  have q1:p/(b.length:Int)<=p:=Int.ediv_le_self _ h3;refine ab.eq (x:=p%(b.length:Int)) (oI h3 hl) ?_
  refine ab.eq aG ?_
  refine ab.eq (x:=(p*7+3)%(b.length:Int)) (by show ja (IntKind.i64.wrap (IntKind.i64.wrap (p*7)+3)) (b.length:Int)=_;rw[m7];exact oI (by omega) hl) ?_
  refine ab.eq ed ?_
  refine ab.eq (x:=p/(b.length:Int)) (wo rfl h3 (by omega) hl) ?_
  have a':IntKind.i64.wrap x=x:=c5 (by omega) (by omega)
  have w2:IntKind.i64.wrap y=y:=c5 (by omega) (by omega)
  have cr:IntKind.i64.wrap (x*131)=x*131:=c5 (by omega) (by omega)
  have lu:IntKind.i64.wrap (y*1117)=y*1117:=c5 (by omega) (by omega)
  have ss:IntKind.i64.wrap (x*131+y*1117)=x*131+y*1117:=c5 (by omega) (by omega)
  have pi:IntKind.i64.wrap (p*29)=p*29:=c5 (by omega) (by omega)
  have jY:IntKind.i64.wrap (x*131+y*1117+p*29)=x*131+y*1117+p*29:=c5 (by omega) (by omega)
  have ph:IntKind.i64.wrap (p/(b.length:Int)*53)=p/(b.length:Int)*53:=c5 (by omega) (by omega)
  have iy:IntKind.i64.wrap (x*131+y*1117+p*29+p/(b.length:Int)*53)=x*131+y*1117+p*29+p/(b.length:Int)*53:=c5 (by omega) (by omega)
  simp only[a',w2,cr,lu,ss,pi,jY,ph,iy];have n0:0<=x*131+y*1117+p*29+p/(b.length:Int)*53:=by omega
  have n1:x*131+y*1117+p*29+p/(b.length:Int)*53<4611686018427387904:=by omega
  generalize x*131+y*1117+p*29+p/(b.length:Int)*53=X at n0 n1;refine ab.eq (x:=X/64) (wo rfl n0 (by omega) (by decide)) ?_
  have hx:=aoS n0 n1 (Int.ediv_nonneg n0 (by decide:(0:Int)<=64)) (Int.lt_of_le_of_lt (Int.ediv_le_self 64 n0) n1)
  refine ab.eq (x:=dB .i64 X (X/64)%n) (oI hx (by omega)) ?_
  exact ab.ret ⟨R,Int.emod_nonneg _ (by omega),fun _=>Int.emod_lt_of_pos _ (by omega)⟩
theorem k4(a)(m:Nat)(h:dj a.2.1.1 a.2.1.2.1 m)(hm:1<=m)(hl:(1:Int)<=(a.1.2.1:List B).length):ab (jK a) (fun r=>dj r.2.1.1 r.2.1.2.1 (m-1)/\r.1.2.1∈(a.1.2.1:List B)):=by
 unfold jK;refine ab.bind (hJ _ m h hm) fun r hr=>?_
 obtain⟨x,aG,aK⟩:=nH (xs:=(a.1.2.1:List B)) hr.2.1 (hr.2.2 hl);exact ab.eq aG (ab.ret ⟨hr.1,aK⟩)
theorem KD(a)(m:Nat)(h:dj a.2.1.1 a.2.1.2.1 m)(hm:1<=m)(hl:(1:Int)<=(a.1.2.1:List Int).length):ab (ua a) (fun r=>dj r.2.1.1 r.2.1.2.1 (m-1)/\r.1.2.1∈(a.1.2.1:List Int)):=by
 unfold ua;refine ab.bind (hJ _ m h hm) fun r hr=>?_
 obtain⟨x,aG,aK⟩:=nH (xs:=(a.1.2.1:List Int)) hr.2.1 (hr.2.2 hl);exact ab.eq aG (ab.ret ⟨hr.1,aK⟩)
abbrev dI(s:B):Prop:=s.length<=200
theorem pP{L:List B}(h:L.all (fun s=>decide (s.length<=200))=true){s:B}(hs:s∈L):dI s:=of_decide_eq_true (List.all_eq_true.1 h s hs)
theorem Fi(a)(m:Nat)(h:dj a.2.1.1 a.2.1.2.1 m)(hm:1<=m):ab (tE a) (fun r=>dj r.2.1.1 r.2.1.2.1 (m-1)/\dI r.1.2.1):=by
 unfold tE;refine ab.bind (k4 _ m h hm (by simp)) fun r hr=>ab.ret ⟨hr.1,pP (by rfl) hr.2⟩
theorem FY(a)(m:Nat)(h:dj a.2.1.1 a.2.1.2.1 m)(hm:1<=m):ab (tD a) (fun r=>dj r.2.1.1 r.2.1.2.1 (m-1)/\dI r.1.2.1):=by
 unfold tD;refine ab.bind (k4 _ m h hm (by simp)) fun r hr=>ab.ret ⟨hr.1,pP (by rfl) hr.2⟩
theorem RL(a)(hs:(a.1.1:B).length<=1)(h0:(0:Int)<=a.1.2.1)(h1:(a.1.2.1:Int)<=127):ab (f237 a) (fun r=>dI r.1.1):=by
 obtain⟨⟨(s:B),(n:Int),u⟩,b8⟩:=a;unfold f237;have key:ab (IU ((s,(n,(([]:B),()))),())) (fun r=>dI r.1.1):=by
  refine ab.loop (fun(k:Nat) y=>(0:Int)<=y.1.2.1/\(y.1.2.1:Int).toNat=k/\(y.1.2.1:Int).toNat*(y.1.1:B).length+(y.1.2.2.1:B).length<=127/\(y.1.1:B).length<=256/\(y.1.2.1:Int)<=127) (fun k y hy=>?_) n.toNat _ ⟨h0,rfl,?_,by show s.length<=256;have:s.length<=1:=hs;omega,h1⟩
  ·obtain⟨⟨(s:B),(n:Int),(out:B),u⟩,b8⟩:=y;obtain⟨cV,dD,dZ,ix,fb⟩:=hy;have fb:n<=127:=fb;have cV:0<=n:=cV;have dZ:n.toNat*s.length+out.length<=127:=dZ;have ix:s.length<=256:=ix;unfold Um;refine ab.ite (fun hc=>?_) fun hc=>?_
   ·have hc:n>0:=of_decide_eq_true hc;have eJ:1<=n.toNat:=by omega
    have iP:s.length<=127:=by have:=Nat.mul_le_mul_right s.length eJ;omega
    have piece:ab (Ah ((s,(n,(out,()))),())) (fun r=>r.1.1=s/\r.1.2.1=n/\(n%2=1/\(r.1.2.2.1:B).length=out.length+s.length\/n%2=0/\(r.1.2.2.1:B).length=out.length)):=by
     unfold Ah;refine ab.eq (x:=n%2) (oI cV (by decide)) ?_
     refine ab.ite (fun aa=>?_) fun aa=>?_
     ·have aa:n%2=1:=by simpa using aa
      exact ab.eq (dS (s:=out) (t:=s) (by omega)) (ab.ret ⟨rfl,rfl,.inl ⟨aa,by simp⟩⟩)
     ·have aa:¬n%2=1:=by simpa using aa
      exact ab.ret ⟨rfl,rfl,.inr ⟨by omega,rfl⟩⟩
    refine ab.bind piece fun r hr=>?_
    obtain⟨⟨(aQ:B),(h7:Int),(K':B),v⟩,v'⟩:=r;obtain⟨r1,r2,dE⟩:=hr;have r1:aQ=s:=r1;have r2:h7=n:=r2;subst r1 r2;refine ab.eq (dS (s:=aQ) (t:=aQ) (by omega)) ?_
    refine ab.eq (x:=h7/2) (wo (x:=h7) rfl cV (by omega) (by decide)) ?_
    refine ab.ret ⟨(h7/2).toNat,?_,?_⟩
    ·show(h7/2).toNat<k;have:h7.toNat=k:=dD;omega
    ·refine⟨by show 0<=h7/2;omega,rfl,?_,by show(aQ++aQ).length<=256;simp;omega,by show h7/2<=127;omega⟩
     show(h7/2).toNat*(aQ++aQ).length+K'.length<=127;have dE:h7%2=1/\K'.length=out.length+aQ.length\/h7%2=0/\K'.length=out.length:=dE;obtain⟨q,aC⟩:∃q:Nat,(h7/2).toNat=q:=⟨_,rfl⟩;rw[aC,dx];rcases dE with⟨dE,gu⟩|⟨dE,gu⟩
     ·have e:h7.toNat=2*q+1:=by omega
      rw[e] at dZ;rw[gu];have:(2*q+1)*aQ.length=q*(aQ.length+aQ.length)+aQ.length:=by rw[Nat.add_mul,Nat.one_mul,Nat.mul_assoc,Nat.mul_add];omega
      omega
     ·have e:h7.toNat=2*q:=by omega
      rw[e] at dZ;rw[gu];have:2*q*aQ.length=q*(aQ.length+aQ.length):=by rw[Nat.mul_add,Nat.mul_assoc];omega
      omega
   ·exact ab.ret (show out.length<=200 by omega)
  ·show n.toNat*s.length+0<=127;have hs:s.length<=1:=hs;have h1:n<=127:=h1;have:n.toNat*s.length<=n.toNat*1:=Nat.mul_le_mul_left _ hs;omega
 exact ab.bind key fun r hr=>ab.ret hr
theorem air(a)(m:Nat)(h:dj a.2.1.1 a.2.1.2.1 m)(hm:1<=m):ab (CG a) (fun r=>dj r.2.1.1 r.2.1.2.1 (m-1)/\dI r.1.2.1):=by
 unfold CG;refine ab.bind (RL _ (by simp) (by show(0:Int)<=80;decide) (by show(80:Int)<=127;decide)) fun q aC=>?_
 refine ab.bind (k4 _ m h hm (by simp)) fun r hr=>ab.ret ⟨hr.1,?_⟩
 have:=hr.2;simp only[bR,List.not_mem_nil,or_false] at this;rcases this with e|e|e|e|e|e
 ·show(r.1.2.1:B).length<=200;rw[e];decide
 ·show(r.1.2.1:B).length<=200;rw[e];decide
 ·show(r.1.2.1:B).length<=200;rw[e];decide
 ·show(r.1.2.1:B).length<=200;rw[e];decide
 ·show(r.1.2.1:B).length<=200;rw[e];decide
 ·show(r.1.2.1:B).length<=200;rw[e];exact aC
abbrev lq(e:aB):Prop:=dI e.path/\dI e.text
theorem PN(a)(m:Nat)(h:dj a.2.1.1 a.2.1.2.1 m)(hm:4<=m):ab (wA a) (fun r=>dj r.2.1.1 r.2.1.2.1 (m-4)/\lq ⟨r.2.2.1.1,r.2.2.1.2.1,r.2.2.1.2.2.1,r.2.2.1.2.2.2.1⟩):=by
 unfold wA;refine ab.bind (FY _ m h (by omega)) fun r1 h1=>?_
 refine ab.bind (KD _ (m-1) h1.1 (by omega) (by simp)) fun r2 h2=>?_
 refine ab.bind (hJ _ (m-1-1) h2.1 (by omega)) fun dE h3=>?_
 refine ab.ite (fun _=>?_) fun _=>ab.ite (fun _=>?_) fun _=>?_
 ·exact ab.bind (air _ _ h3.1 (by omega)) fun gu aD=>ab.ret ⟨aD.1.less (by omega),h1.2,aD.2⟩
 ·exact ab.bind (FY _ _ h3.1 (by omega)) fun gu aD=>ab.ret ⟨aD.1.less (by omega),h1.2,aD.2⟩
 ·exact ab.ret ⟨h3.1.less (by omega),h1.2,show(0:Nat)<=200 by decide⟩
theorem GM(a)(h:cw a.1.1.length):f202 a=some (((),()),(a.1.1,())):=by
 obtain⟨⟨t,u⟩,b8⟩:=a;have h:t.length<=2097152:=h;simp only[f202,dw (show(48:Nat)<=100 by decide) (show aA (([]:List aB).length+t.length) by unfold aA;simp;omega),List.nil_append,Y]
abbrev jw(t:List aB):Prop:=t.length<=16/\∀e,e∈t->lq e
theorem Tn{t:List aB}{k:Nat}{e:aB}(h:∀e,e∈t->lq e)(he:lq e):∀x,x∈t.set k e->lq x:=by
 intro x hx;rcases List.mem_or_eq_of_mem_set hx with hx|hx
 ·exact h x hx
 ·rw[hx];exact he
theorem HU(a)(ay:jw a.1.1)(he:lq ⟨a.1.2.1.1,a.1.2.1.2.1,a.1.2.1.2.2.1,a.1.2.1.2.2.2.1⟩):ab (f223 a) (fun r=>jw r.2.1):=by
 obtain⟨⟨t,⟨path,kind,mode,text,nh⟩,u⟩,b8⟩:=a;obtain⟨h1,h2⟩:=ay;have h1:t.length<=16:=h1;have he:lq ⟨path,kind,mode,text⟩:=he;have hb:cw t.length:=by unfold cw;omega
 unfold f223;refine ab.eq (JF ((t,(path,())),()) hb) ?_
 refine ab.eq (GM ((t,()),()) hb) ?_
 have hp:=q_ t path;have e1:=Qn (((path,(kind,(mode,(text,())))),()),()) (Nat.le_trans he.1 (by decide)) (Nat.le_trans he.2 (by decide))
 have e2:=UI ((path,()),()) (Nat.le_trans he.1 (by decide))
 have bE:=S0 ((t,(jr path,())),()) hb;obtain⟨c,hc⟩:∃c:Bool,Aj ((t,((),((),(false,((bW t path:Int),(g' t path,((),()))))))),((path,(kind,(mode,(text,())))),(([]:List aB),(t,()))))=
   some ((t,((),((),(false,((bW t path:Int),(g' t path,((),(c,())))))))),((path,(kind,(mode,(text,())))),(([]:List aB),(t,())))):=by
  unfold Aj;simp only[e1,Y,Bool.not_not];cases e9 ⟨path,kind,mode,text⟩ with
  |false=>exact⟨true,rfl⟩
  |true=>simp only[ad,e2,Y,bE];exact⟨_,rfl⟩
 refine ab.eq hc ?_
 refine ab.ite (fun _=>ab.ret ⟨h1,h2⟩) fun _=>?_
 obtain⟨d,aa⟩:∃d:Bool,Ai ((t,((),((),(false,((bW t path:Int),(g' t path,((),()))))))),((path,(kind,(mode,(text,())))),(([]:List aB),(t,()))))=
   some ((t,((),((),(false,((bW t path:Int),(g' t path,((),(d,())))))))),((path,(kind,(mode,(text,())))),(([]:List aB),(t,())))):=by
  unfold Ai;cases bV:g' t path with
  |false=>exact⟨false,rfl⟩
  |true=>
   unfold g' at bV;cases aC:t[bW t path]? with
   |none=>rw[aC] at bV;cases bV
   |some e=>simp only[ad,cd,aC,Y];exact⟨_,rfl⟩
 refine ab.eq aa ?_
 refine ab.ite (fun _=>ab.ret ⟨h1,h2⟩) fun _=>?_
 refine ab.ite (fun bV=>?_) fun _=>ab.ite (fun _=>ab.ret ⟨h1,h2⟩) fun hl=>?_
 ·have bV:g' t path=true:=bV;unfold g' at bV;cases aC:t[bW t path]? with
  |none=>rw[aC] at bV;cases bV
  |some e=>
   refine ab.eq (fP (da aC)) ?_
   refine ab.eq (x:=aB.mk path kind mode text) (by show(t[bW t path]?).bind _=_;rw[aC];rfl) ?_
   exact ab.ret ⟨by show(t.set _ _).length<=16;rw[List.length_set];exact h1,Tn h2 he⟩
 ·have hl:¬((t.length:Int)>=16):=of_decide_eq_false hl;refine ab.eq (gx hp) ?_
  refine ab.eq (dw (by decide) (by unfold aA;simp;omega)) ?_
  refine ab.eq (dw (by decide) (by unfold aA;simp;omega)) ?_
  refine ab.eq (fC hp) ?_
  refine ab.eq (dw (by decide) (by unfold aA;simp;omega)) ?_
  refine ab.ret ⟨?_,fun x hx=>?_⟩
  ·show(([]++t.take (bW t path)++[aB.mk path kind mode text])++t.drop (bW t path)).length<=16;simp;omega
  ·have hx:x∈([]++t.take (bW t path)++[aB.mk path kind mode text])++t.drop (bW t path):=hx;simp only[List.nil_append,bo,List.mem_singleton] at hx;rcases hx with(hx|hx)|hx
   ·exact h2 x (List.mem_of_mem_take hx)
   ·rw[hx];exact he
   ·exact h2 x (List.mem_of_mem_drop hx)
noncomputable abbrev auS:a8:=[(146,DM)]
theorem xt:aT O (aZ af auS):=aY ⟨z146,⟨⟩⟩
abbrev Tu:Shape:=⟨[am 0,aj 3],[],43⟩
abbrev S_:List aR:=[(.norm,⟨[am 0,aj 3,ar 12],[],43⟩)]
noncomputable def Ui(y:Tu.J):Option (aH S_):=
 bif(decide ((y.1.1.length:Int)>(1:Int))) then
(aS y.1.1 (1:Int)).bind fun a=>
 some ((y.1.1,y.1.2.1,((a.toNat:Int)==(33:Int)),()),())
else
 some ((y.1.1,y.1.2.1,false,()),())
theorem amQ:aV O (ap (ap (codeOf Tryz.f284) 1 14) 14 28) (aX Tu S_ Ui):=cn xt (by kernel_rfl) ag fun y=>by kernel_rfl
abbrev Tv:Shape:=⟨[am 0,aj 3],[],43⟩
abbrev S':List aR:=[(.norm,⟨[am 0,aj 3],[],43⟩)]
noncomputable def Uj(y:Tv.J):Option (aH S'):=
(Ui ((y.1.1,y.1.2.1,()),())).bind fun a=>
 bif a.1.2.2.1 then
 some ((a.1.1,(2:Int),()),())
else
 some ((a.1.1,a.1.2.1,()),())
theorem amR:aV O (ap (codeOf Tryz.f284) 1 14) (aX Tv S' Uj):=cn xt (by kernel_rfl) (a7 amQ ag) fun y=>by kernel_rfl
abbrev zP:Shape:=⟨[am 0,aj 3,aj 4],[],43⟩
abbrev GV:List aR:=[(.exit 0,⟨[am 0,aj 3,aj 4],[],43⟩)]
noncomputable def alV(y:zP.J):bQ zP GV:=
 bif(decide (y.1.2.1<(y.1.1.length:Int))) then
(aS y.1.1 y.1.2.1).bind fun a=>
(f146 (((a.toNat:Int),()),())).bind fun b=>
 bif b.1.1 then
 some (.inl ((y.1.1,(IntKind.i64.wrap (y.1.2.1+(1:Int))),y.1.2.2.1,()),()))
else
 some (.inr ((y.1.1,y.1.2.1,y.1.2.2.1,()),()))
else
 some (.inr ((y.1.1,y.1.2.1,y.1.2.2.1,()),()))
noncomputable def Sy:zP.J->Option (aH GV):=bA alV
theorem akZ:aV O (ap (codeOf Tryz.f284) 1 124) (aX zP GV Sy):=bT xt (by kernel_rfl) ag fun y=>by kernel_rfl
abbrev Sg:Shape:=⟨[am 0,aj 3,aj 4],[],43⟩
abbrev RY:List aR:=[(.norm,⟨[aj 3,ar 40],[],43⟩)]
noncomputable def SK(y:Sg.J):Option (aH RY):=
 bif(!(y.1.2.1==y.1.2.2.1)) then
 bif(!(y.1.2.1==(y.1.1.length:Int))) then
(aS y.1.1 y.1.2.1).bind fun a=>
 some ((y.1.2.1,((a.toNat:Int) !=(93:Int)),()),())
else
 some ((y.1.2.1,true,()),())
else
 some ((y.1.2.1,true,()),())
theorem akY:aV O (ap (codeOf Tryz.f284) 1 252) (aX Sg RY SK):=cn xt (by kernel_rfl) ag fun y=>by kernel_rfl
abbrev i284:Shape:=⟨[am 0],[],43⟩
abbrev X2:Shape:=⟨[aj 2],[],43⟩
noncomputable def f284(a:i284.J):Option X2.J:=
(Uj ((a.1.1,(1:Int),()),())).bind fun b=>
(Sy ((b.1.1,b.1.2.1,b.1.2.1,()),())).bind fun c=>
(SK ((c.1.1,c.1.2.1,c.1.2.2.1,()),())).bind fun d=>
 bif d.1.2.1 then
 some (((0:Int),()),())
else
 some (((IntKind.i64.wrap (d.1.1+(1:Int))),()),())
noncomputable def LO:aI:=aL af Tryz.f284 i284 X2 [] f284
theorem Xz:aF O 284 LO:=aM xt Tryz.func284 (by kernel_rfl) (a7 amR (a7 akZ (a7 akY ag))) (fun y=>by kernel_rfl) fun a=>by kernel_rfl
noncomputable abbrev auV:a8:=[(146,DM),(284,LO)]
theorem Ma:aT O (aZ af auV):=aY ⟨z146,Xz,⟨⟩⟩
abbrev QT:Shape:=⟨[am 0,aj 3],[],45⟩
abbrev Qz:List aR:=[(.norm,⟨[am 0,aj 3,ar 26],[],45⟩)]
noncomputable def zv(y:QT.J):Option (aH Qz):=
(aS y.1.1 y.1.2.1).bind fun a=>
 bif(!((a.toNat:Int)==(42:Int))) then
(aS y.1.1 y.1.2.1).bind fun b=>
 some ((y.1.1,y.1.2.1,((b.toNat:Int)==(63:Int)),()),())
else
 some ((y.1.1,y.1.2.1,true,()),())
theorem ai2:aV O (ap (dk (ap (codeOf Tryz.f279) 1 26)) 52 6726) (aX QT Qz zv):=cn Ma (by kernel_rfl) ag fun y=>by kernel_rfl
abbrev AB:Shape:=⟨[am 0,aj 3],[],45⟩
abbrev H2:List aR:=[(.ret,⟨[ar 2],[],45⟩),(.exit 0,⟨[am 0],[],45⟩)]
noncomputable def Uk(y:AB.J):bQ AB H2:=
 bif(decide (y.1.2.1<(y.1.1.length:Int))) then
(aS y.1.1 y.1.2.1).bind fun a=>
 bif((a.toNat:Int)==(91:Int)) then
(bq y.1.1 y.1.2.1 (y.1.1.length:Int)).bind fun b=>
(f284 ((b,()),())).bind fun c=>
 bif(c.1.1==(0:Int)) then
 some (.inr (.inl ((false,()),())))
else
 some (.inl ((y.1.1,(IntKind.i64.wrap ((IntKind.i64.wrap ((IntKind.i64.wrap (y.1.2.1+c.1.1))-(1:Int)))+(1:Int))),()),()))
else
(zv ((y.1.1,y.1.2.1,()),())).bind fun d=>
 bif d.1.2.2.1 then
 some (.inl ((d.1.1,(IntKind.i64.wrap (d.1.2.1+(1:Int))),()),()))
else
(aS d.1.1 d.1.2.1).bind fun e=>
(f146 (((e.toNat:Int),()),())).bind fun f=>
 bif(!f.1.1) then
 some (.inr (.inl ((false,()),())))
else
 some (.inl ((d.1.1,(IntKind.i64.wrap (d.1.2.1+(1:Int))),()),()))
else
 some (.inr (.inr ((y.1.1,()),())))
noncomputable def T2:AB.J->Option (aH H2):=bA Uk
theorem amT:aV O (ap (codeOf Tryz.f279) 1 26) (aX AB H2 T2):=bT Ma (by kernel_rfl) (a7 ai2 ag) fun y=>by kernel_rfl
abbrev i279:Shape:=⟨[am 0],[],45⟩
abbrev X4:Shape:=⟨[ar 2],[],45⟩
noncomputable def f279(a:i279.J):Option X4.J:=
(T2 ((a.1.1,(0:Int),()),())).bind fun b=>
(match b with
|.inl c=>
 some ((c.1.1,()),())
|.inr d=>
 some (((!(d.1.1==([]:B))),()),()))
noncomputable def _o:aI:=aL af Tryz.f279 i279 X4 [] f279
theorem aso:aF O 279 _o:=aM Ma Tryz.func279 (by kernel_rfl) (a7 amT ag) (fun y=>by kernel_rfl) fun a=>by kernel_rfl
noncomputable abbrev au0:a8:=[(73,pf),(279,_o)]
theorem aaN:aT O (aZ af au0):=aY ⟨ql,aso,⟨⟩⟩
abbrev AE:Shape:=⟨[am 0,bd 3 3000192,aj 4],[bc 3000192 .str 3 0],30⟩
abbrev H5:List aR:=[(.ret,⟨[ar 2],[],30⟩),(.exit 0,⟨[am 0,bd 3 3000192],[bc 3000192 .str 3 0],30⟩)]
noncomputable def Ul(y:AE.J):bQ AE H5:=
 bif(decide (y.1.2.2.1<(y.2.1.length:Int))) then
(bf y.2.1.length y.1.2.2.1).bind fun a=>
(y.2.1[a]?).bind fun b=>
(f279 ((b,()),())).bind fun c=>
 bif(!c.1.1) then
 some (.inr (.inl ((false,()),())))
else
 some (.inl ((y.1.1,(),(IntKind.i64.wrap (y.1.2.2.1+(1:Int))),()),y.2.1,()))
else
 some (.inr (.inr ((y.1.1,(),()),y.2.1,())))
noncomputable def T3:AE.J->Option (aH H5):=bA Ul
theorem amW:aV O (ap (codeOf Tryz.f258) 1 58) (aX AE H5 T3):=bT aaN (by kernel_rfl) ag fun y=>by kernel_rfl
abbrev i258:Shape:=⟨[am 0],[],30⟩
abbrev Yb:Shape:=⟨[ar 2],[],30⟩
noncomputable def f258(a:i258.J):Option Yb.J:=
(f73 ((a.1.1,(47:Int),(IntKind.i64.wrap ((a.1.1.length:Int)+(1:Int))),()),())).bind fun b=>
(T3 ((a.1.1,(),(0:Int),()),b.2.1,())).bind fun c=>
(match c with
|.inl d=>
 some ((d.1.1,()),())
|.inr e=>
 bif(decide ((e.2.1.length:Int)<=(5:Int))) then
 some (((decide ((e.1.1.length:Int)<=(40:Int))),()),())
else
 some ((false,()),()))
noncomputable def _w:aI:=aL af Tryz.f258 i258 Yb [] f258
theorem asw:aF O 258 _w:=aM aaN Tryz.func258 (by kernel_rfl) (a7 amW ag) (fun y=>by kernel_rfl) fun a=>by kernel_rfl
abbrev QS:Shape:=⟨[am 0,(1,.aq (.d (.int .u8))),ar 5,aj 6],[],33⟩
abbrev Qy:List aR:=[(.norm,⟨[am 0,(1,.aq (.d (.int .u8))),ar 5,aj 6,ar 29],[],33⟩)]
noncomputable def Rn(y:QS.J):Option (aH Qy):=
(aS y.1.1 y.1.2.2.2.1).bind fun a=>
 bif((a.toNat:Int)==y.1.2.1) then
 bif(!(decide (y.1.2.2.2.1>(1:Int)))) then
 some ((y.1.1,y.1.2.1,y.1.2.2.1,y.1.2.2.2.1,(!y.1.2.2.1),()),())
else
 some ((y.1.1,y.1.2.1,y.1.2.2.1,y.1.2.2.2.1,true,()),())
else
 some ((y.1.1,y.1.2.1,y.1.2.2.1,y.1.2.2.2.1,false,()),())
theorem ai1:aV O (ap (dk (ap (codeOf Tryz.f285) 1 58)) 116 1864) (aX QS Qy Rn):=cn g0 (by kernel_rfl) ag fun y=>by kernel_rfl
abbrev Az:Shape:=⟨[am 0,(1,.aq (.d (.int .u8))),ar 5,aj 6],[],33⟩
abbrev H0:List aR:=[(.ret,⟨[ar 4],[],33⟩),(.exit 0,⟨[ar 5],[],33⟩)]
noncomputable def an8(y:Az.J):bQ Az H0:=
 bif(decide (y.1.2.2.2.1<(IntKind.i64.wrap ((y.1.1.length:Int)-(1:Int))))) then
(Rn ((y.1.1,y.1.2.1,y.1.2.2.1,y.1.2.2.2.1,()),())).bind fun a=>
 bif a.1.2.2.2.2.1 then
 some (.inr (.inl (((!a.1.2.2.1),()),())))
else
 some (.inl ((a.1.1,a.1.2.1,a.1.2.2.1,(IntKind.i64.wrap (a.1.2.2.2.1+(1:Int))),()),()))
else
 some (.inr (.inr ((y.1.2.2.1,()),())))
noncomputable def T1:Az.J->Option (aH H0):=bA an8
theorem amP:aV O (ap (codeOf Tryz.f285) 1 58) (aX Az H0 T1):=bT g0 (by kernel_rfl) (a7 ai1 ag) fun y=>by kernel_rfl
abbrev i285:Shape:=⟨[am 0,(1,.aq (.d (.int .u8)))],[],33⟩
abbrev X1:Shape:=⟨[ar 4],[],33⟩
noncomputable def f285(a:i285.J):Option X1.J:=
(aS a.1.1 (1:Int)).bind fun b=>
(T1 ((a.1.1,a.1.2.1,((b.toNat:Int)==(33:Int)),(1:Int),()),())).bind fun c=>
(match c with
|.inl d=>
 some ((d.1.1,()),())
|.inr e=>
 some ((e.1.1,()),()))
noncomputable def _k:aI:=aL af Tryz.f285 i285 X1 [] f285
theorem asj:aF O 285 _k:=aM g0 Tryz.func285 (by kernel_rfl) (a7 amP ag) (fun y=>by kernel_rfl) fun a=>by kernel_rfl
abbrev i280:Shape:=⟨[am 0,am 1],[],68⟩
abbrev nK:Shape:=⟨[ar 4],[],68⟩
noncomputable def KT(aW:i280.J->Option nK.J):aI:=aL af Tryz.f280 i280 nK [] aW
noncomputable abbrev auU(aW:i280.J->Option nK.J):a8:=[(280,(KT aW)),(284,LO),(285,_k)]
theorem awk(aW:i280.J->Option nK.J)(eV:aF O 280 (KT aW)):aT O (aZ af (auU aW)):=aY ⟨eV,Xz,asj,⟨⟩⟩
noncomputable def p4(aW:i280.J->Option nK.J)(a:i280.J):Option nK.J:=
 bif(a.1.1==([]:B)) then
 some (((a.1.2.1==([]:B)),()),())
else
(aS a.1.1 (0:Int)).bind fun b=>
 bif((b.toNat:Int)==(42:Int)) then
(bq a.1.1 (1:Int) (a.1.1.length:Int)).bind fun c=>
(aW ((c,a.1.2.1,()),())).bind fun d=>
 bif(!d.1.1) then
 bif(!(a.1.2.1==([]:B))) then
(bq a.1.2.1 (1:Int) (a.1.2.1.length:Int)).bind fun e=>
(aW ((a.1.1,e,()),())).bind fun f=>
 some ((f.1.1,()),())
else
 some ((false,()),())
else
 some ((true,()),())
else
 bif(a.1.2.1==([]:B)) then
 some ((false,()),())
else
(aS a.1.1 (0:Int)).bind fun g=>
 bif((g.toNat:Int)==(63:Int)) then
(bq a.1.1 (1:Int) (a.1.1.length:Int)).bind fun h=>
(bq a.1.2.1 (1:Int) (a.1.2.1.length:Int)).bind fun i=>
(aW ((h,i,()),())).bind fun j=>
 some ((j.1.1,()),())
else
 bif((g.toNat:Int)==(91:Int)) then
(f284 ((a.1.1,()),())).bind fun k=>
(bq a.1.1 (0:Int) k.1.1).bind fun l=>
(aS a.1.2.1 (0:Int)).bind fun m=>
(f285 ((l,(m.toNat:Int),()),())).bind fun n=>
 bif n.1.1 then
(bq a.1.1 k.1.1 (a.1.1.length:Int)).bind fun D=>
(bq a.1.2.1 (1:Int) (a.1.2.1.length:Int)).bind fun p=>
(aW ((D,p,()),())).bind fun q=>
 some ((q.1.1,()),())
else
 some ((false,()),())
else
(aS a.1.1 (0:Int)).bind fun r=>
(aS a.1.2.1 (0:Int)).bind fun s=>
 bif((r.toNat:Int)==(s.toNat:Int)) then
(bq a.1.1 (1:Int) (a.1.1.length:Int)).bind fun t=>
(bq a.1.2.1 (1:Int) (a.1.2.1.length:Int)).bind fun u=>
(aW ((t,u,()),())).bind fun v=>
 some ((v.1.1,()),())
else
 some ((false,()),())
theorem aqY(aW:i280.J->Option nK.J)(eV:aF O 280 (KT aW)):aF O 280 (aL af Tryz.f280 i280 nK [] (p4 aW)):=aM (awk aW eV) Tryz.func280 (by kernel_rfl) ag (fun y=>by kernel_rfl) fun a=>by kernel_rfl
noncomputable def f280:i280.J->Option nK.J:=j_ p4 kB
noncomputable def _n:aI:=aL af Tryz.f280 i280 nK [] f280
theorem asn:aF O 280 _n:=JW (ff:=p4) aqY kB
abbrev i259:Shape:=⟨[aO 0 .str,aO 1 .str],[],49⟩
abbrev nL:Shape:=⟨[ar 4],[],49⟩
noncomputable def KU(aW:i259.J->Option nL.J):aI:=aL af Tryz.f259 i259 nL [] aW
noncomputable abbrev auZ(aW:i259.J->Option nL.J):a8:=[(259,(KU aW)),(280,_n)]
theorem awn(aW:i259.J->Option nL.J)(eV:aF O 259 (KU aW)):aT O (aZ af (auZ aW)):=aY ⟨eV,asn,⟨⟩⟩
noncomputable def rz(aW:i259.J->Option nL.J)(a:i259.J):Option nL.J:=
 bif((a.1.1.length:Int)==(0:Int)) then
 some ((((a.1.2.1.length:Int)==(0:Int)),()),())
else
(aS a.1.1 (0:Int)).bind fun b=>
 bif(b==([42,42]:B)) then
(bq a.1.1 (1:Int) (a.1.1.length:Int)).bind fun c=>
(aW ((c,a.1.2.1,()),())).bind fun d=>
 bif(!d.1.1) then
 bif(decide ((a.1.2.1.length:Int)>(0:Int))) then
(bq a.1.2.1 (1:Int) (a.1.2.1.length:Int)).bind fun e=>
(aW ((a.1.1,e,()),())).bind fun f=>
 some ((f.1.1,()),())
else
 some ((false,()),())
else
 some ((true,()),())
else
 bif(decide ((a.1.2.1.length:Int)>(0:Int))) then
(aS a.1.1 (0:Int)).bind fun g=>
(aS a.1.2.1 (0:Int)).bind fun h=>
(f280 ((g,h,()),())).bind fun i=>
 bif i.1.1 then
(bq a.1.1 (1:Int) (a.1.1.length:Int)).bind fun j=>
(bq a.1.2.1 (1:Int) (a.1.2.1.length:Int)).bind fun k=>
(aW ((j,k,()),())).bind fun l=>
 some ((l.1.1,()),())
else
 some ((false,()),())
else
 some ((false,()),())
theorem aqZ(aW:i259.J->Option nL.J)(eV:aF O 259 (KU aW)):aF O 259 (aL af Tryz.f259 i259 nL [] (rz aW)):=aM (awn aW eV) Tryz.func259 (by kernel_rfl) ag (fun y=>by kernel_rfl) fun a=>by kernel_rfl
noncomputable def f259:i259.J->Option nL.J:=j_ rz kB
noncomputable def _v:aI:=aL af Tryz.f259 i259 nL [] f259
theorem asv:aF O 259 _v:=JW (ff:=rz) aqZ kB
noncomputable abbrev au9:a8:=[(73,pf),(193,LZ),(258,_w),(259,_v)]
theorem aws:aT O (aZ af au9):=aY ⟨ql,z193,asw,asv,⟨⟩⟩
abbrev i221:Shape:=⟨[am 0,am 1],[],24⟩
abbrev Yp:Shape:=⟨[ar 4],[],24⟩
noncomputable def f221(a:i221.J):Option Yp.J:=
(f258 ((a.1.1,()),())).bind fun b=>
 bif b.1.1 then
(f193 ((a.1.2.1,()),())).bind fun c=>
 bif c.1.1 then
(f73 ((a.1.1,(47:Int),(IntKind.i64.wrap ((a.1.1.length:Int)+(1:Int))),()),())).bind fun d=>
(f73 ((a.1.2.1,(47:Int),(IntKind.i64.wrap ((a.1.2.1.length:Int)+(1:Int))),()),())).bind fun e=>
(f259 ((d.2.1,e.2.1,()),())).bind fun f=>
 some ((f.1.1,()),())
else
 some ((false,()),())
else
 some ((false,()),())
noncomputable def LU:aI:=aL af Tryz.f221 i221 Yp [] f221
theorem XE:aF O 221 LU:=aM aws Tryz.func221 (by kernel_rfl) ag (fun y=>by kernel_rfl) fun a=>by kernel_rfl
abbrev i260:Shape:=⟨[am 0,am 1],[],30⟩
abbrev Ya:Shape:=⟨[ar 4],[],30⟩
noncomputable def f260(a:i260.J):Option Ya.J:=
 bif(!(a.1.2.1==a.1.1)) then
 bif(decide ((a.1.2.1.length:Int)>(a.1.1.length:Int))) then
(bq a.1.2.1 (0:Int) (a.1.1.length:Int)).bind fun b=>
 bif(b==a.1.1) then
(aS a.1.2.1 (a.1.1.length:Int)).bind fun c=>
 some ((((c.toNat:Int)==(47:Int)),()),())
else
 some ((false,()),())
else
 some ((false,()),())
else
 some ((true,()),())
noncomputable def _u:aI:=aL af Tryz.f260 i260 Ya [] f260
theorem asu:aF O 260 _u:=aM g0 Tryz.func260 (by kernel_rfl) ag (fun y=>by kernel_rfl) fun a=>by kernel_rfl
noncomputable abbrev au8:a8:=[(221,LU),(260,_u)]
theorem Md:aT O (aZ af au8):=aY ⟨XE,asu,⟨⟩⟩
abbrev Sl:Shape:=⟨[aO 0 .entry,am 1,am 2,aj 7],[],30⟩
abbrev R4:List aR:=[(.norm,⟨[aO 0 .entry,am 1,am 2,aj 7,ar 29],[],30⟩)]
noncomputable def Ak(y:Sl.J):Option (aH R4):=
(aS y.1.1 y.1.2.2.2.1).bind fun a=>
(f260 ((y.1.2.2.1,a.path,()),())).bind fun b=>
 bif b.1.1 then
(aS y.1.1 y.1.2.2.2.1).bind fun c=>
(f221 ((y.1.2.1,c.path,()),())).bind fun d=>
 some ((y.1.1,y.1.2.1,y.1.2.2.1,y.1.2.2.2.1,d.1.1,()),())
else
 some ((y.1.1,y.1.2.1,y.1.2.2.1,y.1.2.2.2.1,false,()),())
theorem ak7:aV O (ap (dk (ap (codeOf Tryz.f222) 1 26)) 52 840) (aX Sl R4 Ak):=cn Md (by kernel_rfl) ag fun y=>by kernel_rfl
abbrev AI:Shape:=⟨[aO 0 .entry,am 1,am 2,aj 7],[],30⟩
abbrev H9:List aR:=[(.ret,⟨[ar 6],[],30⟩),(.exit 0,⟨[],[],30⟩)]
noncomputable def Un(y:AI.J):bQ AI H9:=
 bif(decide (y.1.2.2.2.1<(y.1.1.length:Int))) then
(Ak ((y.1.1,y.1.2.1,y.1.2.2.1,y.1.2.2.2.1,()),())).bind fun a=>
 bif a.1.2.2.2.2.1 then
 some (.inr (.inl ((true,()),())))
else
 some (.inl ((a.1.1,a.1.2.1,a.1.2.2.1,(IntKind.i64.wrap (a.1.2.2.2.1+(1:Int))),()),()))
else
 some (.inr (.inr ((),())))
noncomputable def T4:AI.J->Option (aH H9):=bA Un
theorem am1:aV O (ap (codeOf Tryz.f222) 1 26) (aX AI H9 T4):=bT Md (by kernel_rfl) (a7 ak7 ag) fun y=>by kernel_rfl
abbrev i222:Shape:=⟨[aO 0 .entry,am 1,am 2],[],30⟩
abbrev Yo:Shape:=⟨[ar 6],[],30⟩
noncomputable def f222(a:i222.J):Option Yo.J:=
(T4 ((a.1.1,a.1.2.1,a.1.2.2.1,(0:Int),()),())).bind fun b=>
(match b with
|.inl c=>
 some ((c.1.1,()),())
|.inr d=>
 some ((false,()),()))
noncomputable def _I:aI:=aL af Tryz.f222 i222 Yo [] f222
theorem z222:aF O 222 _I:=aM Md Tryz.func222 (by kernel_rfl) (a7 am1 ag) (fun y=>by kernel_rfl) fun a=>by kernel_rfl
noncomputable abbrev avu:a8:=[(90,yb),(221,LU),(222,_I)]
theorem Mg:aT O (aZ af avu):=aY ⟨DY,XE,z222,⟨⟩⟩
abbrev QX:Shape:=⟨[aO 0 .entry,am 1,bd 5 3000320,aj 6],[bc 3000320 .entry 5 0],51⟩
abbrev QD:List aR:=[(.norm,⟨[aO 0 .entry,am 1,bd 5 3000320,aj 6,ar 42],[bc 3000320 .entry 5 0],51⟩)]
noncomputable def zy(y:QX.J):Option (aH QD):=
(aS y.1.1 y.1.2.2.2.1).bind fun a=>
(f221 ((y.1.2.1,a.path,()),())).bind fun b=>
 bif(!b.1.1) then
(aS y.1.1 y.1.2.2.2.1).bind fun c=>
 bif(c.kind==(1:Int)) then
(aS y.1.1 y.1.2.2.2.1).bind fun d=>
(f222 ((y.1.1,y.1.2.1,d.path,()),())).bind fun e=>
 some ((y.1.1,y.1.2.1,(),y.1.2.2.2.1,e.1.1,()),y.2.1,())
else
 some ((y.1.1,y.1.2.1,(),y.1.2.2.2.1,false,()),y.2.1,())
else
 some ((y.1.1,y.1.2.1,(),y.1.2.2.2.1,true,()),y.2.1,())
theorem ai9:aV O (ap (dk (ap (codeOf Tryz.f177) 1 58)) 116 1864) (aX QX QD zy):=cn Mg (by kernel_rfl) ag fun y=>by kernel_rfl
abbrev AR:Shape:=⟨[aO 0 .entry,am 1,bd 5 3000320,aj 6],[bc 3000320 .entry 5 0],51⟩
abbrev If:List aR:=[(.exit 0,⟨[bd 5 3000320],[bc 3000320 .entry 5 0],51⟩)]
noncomputable def Uo(y:AR.J):bQ AR If:=
 bif(decide (y.1.2.2.2.1<(y.1.1.length:Int))) then
(f90 ((y.1.1,()),())).bind fun a=>
 bif a.1.1 then
(zy ((y.1.1,y.1.2.1,(),y.1.2.2.2.1,()),y.2.1,())).bind fun b=>
 bif b.1.2.2.2.2.1 then
(aS b.1.1 b.1.2.2.2.1).bind fun c=>
(cm 48 b.2.1 ([c]:List aB)).bind fun d=>
 some (.inl ((b.1.1,b.1.2.1,(),(IntKind.i64.wrap (b.1.2.2.2.1+(1:Int))),()),d,()))
else
 some (.inl ((b.1.1,b.1.2.1,(),(IntKind.i64.wrap (b.1.2.2.2.1+(1:Int))),()),b.2.1,()))
else
 some (.inr (((),()),y.2.1,()))
else
 some (.inr (((),()),y.2.1,()))
noncomputable def T6:AR.J->Option (aH If):=bA Uo
theorem anf:aV O (ap (codeOf Tryz.f177) 1 58) (aX AR If T6):=bT Mg (by kernel_rfl) (a7 ai9 ag) fun y=>by kernel_rfl
abbrev i177:Shape:=⟨[aO 0 .entry,am 1],[],51⟩
abbrev YU:Shape:=⟨[bd 4 3000256],[bc 3000256 .entry 4 0],51⟩
noncomputable def f177(a:i177.J):Option YU.J:=
(T6 ((a.1.1,a.1.2.1,(),(0:Int),()),([]:List aB),())).bind fun b=>
 some (((),()),b.2.1,())
noncomputable def _5:aI:=aL af Tryz.f177 i177 YU [] f177
theorem asX:aF O 177 _5:=aM Mg Tryz.func177 (by kernel_rfl) (a7 anf ag) (fun y=>by kernel_rfl) fun a=>by kernel_rfl
noncomputable abbrev aqv:a8:=[(78,jl),(83,yc),(223,_H),(224,Kw)]
theorem CX:aT O (aZ af aqv):=aY ⟨jI,DZ,asD,UB,⟨⟩⟩
abbrev y1:Shape:=⟨[ax 0 500000 0,bd 3 3000192,bd 4 3000256,aj 5],[aw 500000 [br .u8,ba],bc 3000192 .entry 3 0,bc 3000256 .str 4 0],59⟩
abbrev FF:List aR:=[(.exit 0,⟨[ax 0 500000 0,bd 3 3000192],[aw 500000 [br .u8,ba],bc 3000192 .entry 3 0],59⟩)]
noncomputable def P'(y:y1.J):bQ y1 FF:=
 bif(decide (y.1.2.2.2.1<(y.2.2.2.1.length:Int))) then
(gz (((),(2:Int),()),(y.2.1.1,y.2.1.2.1,()),())).bind fun a=>
 bif(a.1.2.1==(0:Int)) then
(bf y.2.2.2.1.length y.1.2.2.2.1).bind fun b=>
(y.2.2.2.1[b]?).bind fun c=>
(f223 ((y.2.2.1,(c,(1:Int),(7:Int),([]:B),()),()),())).bind fun d=>
 some (.inl (((),(),(),(IntKind.i64.wrap (y.1.2.2.2.1+(1:Int))),()),(a.2.1.1,a.2.1.2.1,()),d.2.1,y.2.2.2.1,()))
else
 some (.inl (((),(),(),(IntKind.i64.wrap (y.1.2.2.2.1+(1:Int))),()),(a.2.1.1,a.2.1.2.1,()),y.2.2.1,y.2.2.2.1,()))
else
 some (.inr (((),(),()),(y.2.1.1,y.2.1.2.1,()),y.2.2.1,()))
noncomputable def P6:y1.J->Option (aH FF):=bA P'
theorem ahC:aV O (ap (codeOf Tryz.f178) 1 122) (aX y1 FF P6):=bT CX (by kernel_rfl) ag fun y=>by kernel_rfl
abbrev y0:Shape:=⟨[ax 0 500000 0,bd 3 3000192,aj 6],[aw 500000 [br .u8,ba],bc 3000192 .entry 3 0],59⟩
abbrev FE:List aR:=[(.exit 2,⟨[ax 0 500000 0,bd 3 3000192],[aw 500000 [br .u8,ba],bc 3000192 .entry 3 0],59⟩)]
noncomputable def P_(y:y0.J):bQ y0 FE:=
 bif(decide (y.1.2.2.1>(0:Int))) then
(wA (((),()),(y.2.1.1,y.2.1.2.1,()),())).bind fun a=>
(f223 ((y.2.2.1,(a.2.2.1.1,a.2.2.1.2.1,a.2.2.1.2.2.1,a.2.2.1.2.2.2.1,()),()),())).bind fun b=>
 some (.inl (((),(),(IntKind.i64.wrap (y.1.2.2.1-(1:Int))),()),(a.2.1.1,a.2.1.2.1,()),b.2.1,()))
else
 some (.inr (((),(),()),(y.2.1.1,y.2.1.2.1,()),y.2.2.1,()))
noncomputable def P5:y0.J->Option (aH FE):=bA P_
theorem ahB:aV O (ap (codeOf Tryz.f178) 1 250) (aX y0 FE P5):=bT CX (by kernel_rfl) ag fun y=>by kernel_rfl
abbrev yT:Shape:=⟨[ax 0 500000 0,bd 3 3000192,aj 7],[aw 500000 [br .u8,ba],bc 3000192 .entry 3 0],59⟩
abbrev Ft:List aR:=[(.exit 4,⟨[ax 0 500000 0,bd 3 3000192],[aw 500000 [br .u8,ba],bc 3000192 .entry 3 0],59⟩)]
noncomputable def PE(y:yT.J):bQ yT Ft:=
 bif(decide (y.1.2.2.1<(16:Int))) then
(f83 ((y.1.2.2.1,()),())).bind fun a=>
(cc ([102]:B) a.1.1).bind fun b=>
(f223 ((y.2.2.1,(b,(2:Int),(0:Int),([]:B),()),()),())).bind fun c=>
 some (.inl (((),(),(IntKind.i64.wrap (y.1.2.2.1+(1:Int))),()),(y.2.1.1,y.2.1.2.1,()),c.2.1,()))
else
 some (.inr (((),(),()),(y.2.1.1,y.2.1.2.1,()),y.2.2.1,()))
noncomputable def Py:yT.J->Option (aH Ft):=bA PE
theorem agz:aV O (ap (codeOf Tryz.f178) 1 2026) (aX yT Ft Py):=bT CX (by kernel_rfl) ag fun y=>by kernel_rfl
abbrev VW:Shape:=⟨[ax 0 500000 0],[aw 500000 [br .u8,ba]],59⟩
abbrev Vr:Shape:=⟨[ax 0 500000 0,bd 2 3000128],[aw 500000 [br .u8,ba],bc 3000128 .entry 2 0],59⟩
noncomputable def wC(a:VW.J):Option Vr.J:=
(P6 (((),(),(),(0:Int),()),(a.2.1.1,a.2.1.2.1,()),([]:List aB),([([97]:B),([108,105,98]:B),([98,105,110]:B),([100,111,99]:B),([97,47,98]:B)]:List B),())).bind fun b=>
(gz (((),(7:Int),()),(b.2.1.1,b.2.1.2.1,()),())).bind fun c=>
(P5 (((),(),c.1.2.1,()),(c.2.1.1,c.2.1.2.1,()),b.2.2.1,())).bind fun d=>
(gz (((),(30:Int),()),(d.2.1.1,d.2.1.2.1,()),())).bind fun e=>
 bif(e.1.2.1==(0:Int)) then
(Py (((),(),(0:Int),()),(e.2.1.1,e.2.1.2.1,()),d.2.2.1,())).bind fun f=>
 some (((),(),()),(f.2.1.1,f.2.1.2.1,()),f.2.2.1,())
else
 some (((),(),()),(e.2.1.1,e.2.1.2.1,()),d.2.2.1,())
noncomputable def Kx:aI:=aL af Tryz.f178 VW Vr [0] wC
theorem UC:aF O 178 Kx:=aM CX Tryz.func178 (by kernel_rfl) (a7 ahC (a7 ahB (a7 agz ag))) (fun y=>by kernel_rfl) fun a=>by kernel_rfl
abbrev lc(g:B):Prop:=∀b,b∈g->b.toNat≠91
theorem Cn{s:B}{i:Int}(h0:0<=i)(h1:i<(s.length:Int)):∃x,aS s i=some x/\x∈s:=nH h0 h1
theorem agf(a)(hs:cw a.1.1.length)(hn:lc a.1.1):ab (f279 a) (fun _=>True):=by
 obtain⟨⟨(s:B),u⟩,b8⟩:=a;have hs:s.length<=2097152:=hs;unfold f279;refine ab.bind (P:=fun _=>True) ?_ fun r _=>?_
 ·refine ab.loop (fun(k:Nat) y=>y.1.1=s/\(0:Int)<=y.1.2.1/\(y.1.2.1:Int)+k=s.length) (fun k y hy=>?_) s.length _ ⟨rfl,Int.le_refl _,by show(0:Int)+s.length=s.length;omega⟩
  obtain⟨⟨(s1:B),(i:Int),u⟩,b8⟩:=y;obtain⟨cV,dD,dZ⟩:=hy;have cV:s1=s:=cV;subst cV;have dD:0<=i:=dD;have dZ:i+k=s1.length:=dZ;unfold Uk;refine ab.ite (fun hc=>?_) fun _=>ab.ret trivial
  have hc:i<(s1.length:Int):=of_decide_eq_true hc;obtain⟨x,aG,aK⟩:=Cn dD hc;have hx:((x.toNat:Int)==91)=false:=by
   have:=hn x aK;simp only[beq_eq_false_iff_ne,ne_eq];omega
  have hw:IntKind.i64.wrap (i+1)=i+1:=c5 (by omega) (by omega)
  refine ab.eq aG ?_
  refine ab.ite (fun aa=>by rw[hx] at aa;cases aa) fun _=>?_
  have piece:ab (zv ((s1,(i,())),())) (fun r=>r.1.1=s1/\r.1.2.1=i):=by
   unfold zv;refine ab.eq aG ?_
   exact ab.ite (fun _=>ab.eq aG (ab.ret ⟨rfl,rfl⟩)) fun _=>ab.ret ⟨rfl,rfl⟩
  refine ab.bind piece fun r hr=>?_
  obtain⟨⟨(s2:B),(i2:Int),(c:Bool),v⟩,v'⟩:=r;obtain⟨r1,r2⟩:=hr;have r1:s2=s1:=r1;have r2:i2=i:=r2;subst r1 r2;refine ab.ite (fun _=>?_) fun _=>?_
  ·refine ab.ret ⟨k-1,by omega,rfl,?_,?_⟩
   ·show 0<=IntKind.i64.wrap (i2+1);rw[hw];omega
   ·show IntKind.i64.wrap (i2+1)+((k-1:Nat):Int)=_;rw[hw];omega
  ·refine ab.eq aG ?_
   refine ab.eq (Qo (((x.toNat:Int),()),())) ?_
   refine ab.ite (fun _=>ab.ret trivial) fun _=>?_
   refine ab.ret ⟨k-1,by omega,rfl,?_,?_⟩
   ·show 0<=IntKind.i64.wrap (i2+1);rw[hw];omega
   ·show IntKind.i64.wrap (i2+1)+((k-1:Nat):Int)=_;rw[hw];omega
 ·cases r with
  |inl r=>exact ab.ret trivial
  |inr r=>exact ab.ret trivial
theorem Po{g:B}(h:lc g):∀x,x∈bO 47 g->lc x:=by
 induction g with
 |nil=>
  intro x hx b hb;simp[bO] at hx;subst hx;cases hb
 |cons c g ih=>
  have ih:=ih fun b hb=>h b (ci _ hb)
  intro x hx b hb;simp only[bO] at hx;cases hc:(c==47) with
  |true=>
   simp only[hc,ad,bR] at hx;rcases hx with rfl|hx
   ·cases hb
   ·exact ih x hx b hb
  |false=>
   simp only[hc,ak] at hx;cases ee:bO 47 g with
   |nil=>exact absurd ee (px 47 g)
   |cons y L=>
    rw[ee] at hx ih;simp only[bR] at hx;rcases hx with rfl|hx
    ·rcases bR.1 hb with rfl|hb
     ·exact h _ cj
     ·exact ih y cj b hb
    ·exact ih x (ci _ hx) b hb
theorem akq(a)(hs:a.1.1.length<=200)(hn:lc a.1.1):ab (f258 a) (fun _=>True):=by
 obtain⟨⟨(g:B),u⟩,b8⟩:=a;have hs:g.length<=200:=hs;unfold f258;have hw:IntKind.i64.wrap ((g.length:Int)+1)=((g.length+1:Nat):Int):=b9 (by unfold aA;omega)
 refine ab.eq (vN 47 ((g,((47:Int),(IntKind.i64.wrap ((g.length:Int)+1),()))),()) (by show g.length<=2097152;omega) rfl hw) ?_
 have ee:(bO 47 g).length<=201:=by have:=om 47 g;omega
 refine ab.bind (P:=fun _=>True) ?_ fun r _=>?_
 ·refine ab.loop (fun(k:Nat) y=>y.2.1=bO 47 g/\(0:Int)<=y.1.2.2.1/\(y.1.2.2.1:Int)+k=(bO 47 g).length) (fun k y hy=>?_) (bO 47 g).length _ ⟨rfl,Int.le_refl _,by show(0:Int)+_=_;omega⟩
  obtain⟨⟨(g1:B),u1,(i:Int),u⟩,(L:List B),b8⟩:=y;obtain⟨cV,dD,dZ⟩:=hy;have cV:L=bO 47 g:=cV;have dD:0<=i:=dD;have dZ:i+k=(bO 47 g).length:=dZ;subst cV;unfold Ul;refine ab.ite (fun hc=>?_) fun _=>ab.ret trivial
  have hc:i<((bO 47 g).length:Int):=of_decide_eq_true hc;obtain⟨j,rfl⟩:=Int.eq_ofNat_of_zero_le dD;have hj:j<(bO 47 g).length:=by omega
  have hw:IntKind.i64.wrap ((j:Int)+1)=(j:Int)+1:=c5 (by omega) (by omega)
  refine ab.eq (fP hj) ?_
  refine ab.eq (d_ hj) ?_
  have hm:=List.getElem_mem hj;refine ab.bind (agf (((bO 47 g)[j],()),()) (by have:=qL 47 g _ hm;show((bO 47 g)[j]).length<=2097152;omega) (Po hn _ hm)) fun r _=>?_
  refine ab.ite (fun _=>ab.ret trivial) fun _=>?_
  refine ab.ret ⟨k-1,by omega,rfl,?_,?_⟩
  ·show 0<=IntKind.i64.wrap ((j:Int)+1);rw[hw];omega
  ·show IntKind.i64.wrap ((j:Int)+1)+((k-1:Nat):Int)=_;rw[hw];omega
 ·cases r with
  |inl r=>exact ab.ret trivial
  |inr r=>exact ab.ite (fun _=>ab.ret trivial) fun _=>ab.ret trivial
theorem tO{s:B}(h:s≠[]):bq s (1:Int) (s.length:Int)=some (s.drop 1):=fC (a:=1) (by have:=List.length_pos_iff.2 h;omega)
theorem B2{s:List B}(h:0<s.length):bq s (1:Int) (s.length:Int)=some (s.drop 1):=fC (a:=1) h
theorem Ra{s:B}(h:(s==([]:B))=false):s≠[]:=by simpa using h
theorem aof:∀(n:Nat) (g s:B),lc g->g.length+s.length<n->ab (j_ p4 n ((g,(s,())),())) (fun _=>True):=by
 intro n;induction n with
 |zero=>intro g s _ h;omega
 |succ n ih=>
  intro g s hn hl;show ab (p4 (j_ p4 n) _) _;unfold p4;refine ab.ite (fun _=>ab.ret trivial) fun hg=>?_
  have hg:g≠[]:=Ra hg;have Nd:=List.length_pos_iff.2 hg;obtain⟨x,aG,aK⟩:=Cn (s:=g) (i:=0) (by omega) (by omega)
  refine ab.eq aG ?_
  have hd1:lc (g.drop 1):=fun b hb=>hn b (List.mem_of_mem_drop hb)
  have hdl:(g.drop 1).length+1=g.length:=by rw[List.length_drop];omega
  refine ab.ite (fun _=>?_) fun _=>?_
  ·refine ab.eq (tO hg) ?_
   refine ab.bind (ih (g.drop 1) s hd1 (by omega)) fun r _=>?_
   refine ab.ite (fun _=>?_) fun _=>ab.ret trivial
   refine ab.ite (fun hs=>?_) fun _=>ab.ret trivial
   have hs:s≠[]:=by
    have hs:(!(s==([]:B)))=true:=hs;intro e;subst e;cases hs
   have kj:=List.length_pos_iff.2 hs;refine ab.eq (tO hs) ?_
   exact ab.bind (ih g (s.drop 1) hn (by rw[List.length_drop];omega)) fun r _=>ab.ret trivial
  ·refine ab.ite (fun _=>ab.ret trivial) fun hs=>?_
   have hs:s≠[]:=Ra hs;have kj:=List.length_pos_iff.2 hs;have step:ab (j_ p4 n ((g.drop 1,(s.drop 1,())),())) (fun _=>True):=ih _ _ hd1 (by rw[List.length_drop];rw[List.length_drop];omega)
   refine ab.eq aG ?_
   refine ab.ite (fun _=>?_) fun _=>?_
   ·refine ab.eq (tO hg) ?_
    refine ab.eq (tO hs) ?_
    exact ab.bind step fun r _=>ab.ret trivial
   ·have hx:((x.toNat:Int)==91)=false:=by
     have:=hn x aK;simp only[beq_eq_false_iff_ne,ne_eq];omega
    refine ab.ite (fun aa=>by rw[hx] at aa;cases aa) fun _=>?_
    refine ab.eq aG ?_
    obtain⟨y,ed,fU⟩:=Cn (s:=s) (i:=0) (by omega) (by omega)
    refine ab.eq ed ?_
    refine ab.ite (fun _=>?_) fun _=>ab.ret trivial
    refine ab.eq (tO hg) ?_
    refine ab.eq (tO hs) ?_
    exact ab.bind step fun r _=>ab.ret trivial
theorem akj(a)(h1:cw a.1.1.length)(h2:cw a.1.2.1.length)(hn:lc a.1.1):ab (f280 a) (fun _=>True):=by
 obtain⟨⟨(g:B),(s:B),u⟩,b8⟩:=a;have h1:g.length<=2097152:=h1;have h2:s.length<=2097152:=h2;exact aof kB g s hn (by unfold kB;omega)
theorem alB:∀(n:Nat) (g s:List B),(∀x,x∈g->lc x/\cw x.length)->(∀x,x∈s->cw x.length)->g.length+s.length<n->ab (j_ rz n ((g,(s,())),())) (fun _=>True):=by
 intro n;induction n with
 |zero=>intro g s _ _ h;omega
 |succ n ih=>
  intro g s hn hs hl;show ab (rz (j_ rz n) _) _;unfold rz;refine ab.ite (fun _=>ab.ret trivial) fun hg=>?_
  have Nd:0<g.length:=by
   have hg:((g.length:Int)==0)=false:=hg;simp only[beq_eq_false_iff_ne,ne_eq] at hg;omega
  obtain⟨x,aG,aK⟩:=nH (xs:=g) (i:=0) (by omega) (by omega)
  refine ab.eq aG ?_
  have hd1:∀x,x∈g.drop 1->lc x/\cw x.length:=fun b hb=>hn b (List.mem_of_mem_drop hb)
  have jT:∀x,x∈s.drop 1->cw x.length:=fun b hb=>hs b (List.mem_of_mem_drop hb)
  have hdl:(g.drop 1).length+1=g.length:=by rw[List.length_drop];omega
  refine ab.ite (fun _=>?_) fun _=>?_
  ·refine ab.eq (B2 Nd) ?_
   refine ab.bind (ih (g.drop 1) s hd1 hs (by omega)) fun r _=>?_
   refine ab.ite (fun _=>?_) fun _=>ab.ret trivial
   refine ab.ite (fun hc=>?_) fun _=>ab.ret trivial
   have hc:(s.length:Int)>0:=of_decide_eq_true hc;refine ab.eq (B2 (s:=s) (by omega)) ?_
   exact ab.bind (ih g (s.drop 1) hn jT (by rw[List.length_drop];omega)) fun r _=>ab.ret trivial
  ·refine ab.ite (fun hc=>?_) fun _=>ab.ret trivial
   have hc:(s.length:Int)>0:=of_decide_eq_true hc;refine ab.eq aG ?_
   obtain⟨y,ed,fU⟩:=nH (xs:=s) (i:=0) (by omega) (by omega)
   refine ab.eq ed ?_
   refine ab.bind (akj ((x,(y,())),()) (hn x aK).2 (hs y fU) (hn x aK).1) fun r _=>?_
   refine ab.ite (fun _=>?_) fun _=>ab.ret trivial
   refine ab.eq (B2 Nd) ?_
   refine ab.eq (B2 (s:=s) (by omega)) ?_
   exact ab.bind (ih (g.drop 1) (s.drop 1) hd1 jT (by rw[List.length_drop];rw[List.length_drop];omega)) fun r _=>ab.ret trivial
theorem Qw(a)(h1:a.1.1.length<=200)(h2:a.1.2.1.length<=1048576)(hn:lc a.1.1):ab (f221 a) (fun _=>True):=by
 obtain⟨⟨(g:B),(s:B),u⟩,b8⟩:=a;have h1:g.length<=200:=h1;have h2:s.length<=1048576:=h2;unfold f221;refine ab.bind (akq ((g,()),()) h1 hn) fun r _=>?_
 refine ab.ite (fun _=>?_) fun _=>ab.ret trivial
 refine ab.eq (GN ((s,()),()) (by show s.length<=2097152;omega)) ?_
 refine ab.ite (fun _=>?_) fun _=>ab.ret trivial
 refine ab.eq (vN 47 ((g,((47:Int),(IntKind.i64.wrap ((g.length:Int)+1),()))),()) (by show g.length<=2097152;omega) rfl (b9 (by unfold aA;omega))) ?_
 refine ab.eq (vN 47 ((s,((47:Int),(IntKind.i64.wrap ((s.length:Int)+1),()))),()) (by show s.length<=2097152;omega) rfl (b9 (by unfold aA;omega))) ?_
 have g1:=om 47 g;have s1:=om 47 s;refine ab.bind (P:=fun _=>True) ?_ fun r _=>ab.ret trivial
 exact alB kB (bO 47 g) (bO 47 s) (fun x hx=>⟨Po hn x hx,by have:=qL 47 g x hx;unfold cw;omega⟩) (fun x hx=>by have:=qL 47 s x hx;unfold cw;omega) (by unfold kB;omega)
theorem aiq(a)(h1:cw a.1.1.length):ab (f260 a) (fun _=>True):=by
 obtain⟨⟨(g:B),(s:B),u⟩,b8⟩:=a;unfold f260;refine ab.ite (fun _=>?_) fun _=>ab.ret trivial
 refine ab.ite (fun hc=>?_) fun _=>ab.ret trivial
 have hc:(s.length:Int)>(g.length:Int):=of_decide_eq_true hc;refine ab.eq (gx (xs:=s) (b:=g.length) (by omega)) ?_
 refine ab.ite (fun _=>?_) fun _=>ab.ret trivial
 obtain⟨x,aG,_⟩:=Cn (s:=s) (i:=(g.length:Int)) (by omega) (by omega)
 exact ab.eq aG (ab.ret trivial)
theorem ahb(a)(ay:jw a.1.1)(hg:a.1.2.1.length<=200)(hn:lc a.1.2.1)(aa:dI a.1.2.2.1):ab (f222 a) (fun _=>True):=by
 obtain⟨⟨(t:List aB),(g:B),(d:B),u⟩,b8⟩:=a;obtain⟨n3,me⟩:=ay;have n3:t.length<=16:=n3;have aa:d.length<=200:=aa;unfold f222;refine ab.bind (P:=fun _=>True) ?_ fun r _=>?_
 ·refine ab.loop (fun(k:Nat) y=>y.1.1=t/\y.1.2.1=g/\y.1.2.2.1=d/\(0:Int)<=y.1.2.2.2.1/\(y.1.2.2.2.1:Int)+k=t.length) (fun k y hy=>?_) t.length _ ⟨rfl,rfl,rfl,Int.le_refl _,by show(0:Int)+_=_;omega⟩
  obtain⟨⟨(t1:List aB),(g1:B),(d1:B),(i:Int),u⟩,b8⟩:=y;obtain⟨cV,dD,dZ,ix,fb⟩:=hy;have cV:t1=t:=cV;have dD:g1=g:=dD;have dZ:d1=d:=dZ;subst cV dD dZ;have ix:0<=i:=ix;have fb:i+k=t1.length:=fb;unfold Un;refine ab.ite (fun hc=>?_) fun _=>ab.ret trivial
  have hc:i<(t1.length:Int):=of_decide_eq_true hc;have hw:IntKind.i64.wrap (i+1)=i+1:=c5 (by omega) (by omega)
  obtain⟨x,aG,aK⟩:=nH (xs:=t1) ix hc;have piece:ab (Ak ((t1,(g1,(d1,(i,())))),())) (fun r=>r.1.1=t1/\r.1.2.1=g1/\r.1.2.2.1=d1/\r.1.2.2.2.1=i):=by
   unfold Ak;refine ab.eq aG ?_
   refine ab.bind (aiq ((d1,(x.path,())),()) (by show d1.length<=2097152;omega)) fun r _=>?_
   refine ab.ite (fun _=>?_) fun _=>ab.ret ⟨rfl,rfl,rfl,rfl⟩
   refine ab.eq aG ?_
   exact ab.bind (Qw ((g1,(x.path,())),()) hg (Nat.le_trans (me x aK).1 (by decide)) hn) fun r _=>ab.ret ⟨rfl,rfl,rfl,rfl⟩
  refine ab.bind piece fun r hr=>?_
  obtain⟨⟨(My:List aB),(g2:B),(d2:B),(i2:Int),(c:Bool),v⟩,v'⟩:=r;obtain⟨r1,r2,dE,gu⟩:=hr;have r1:My=t1:=r1;have r2:g2=g1:=r2;have dE:d2=d1:=dE;have gu:i2=i:=gu;subst r1 r2 dE gu;refine ab.ite (fun _=>ab.ret trivial) fun _=>?_
  refine ab.ret ⟨k-1,by omega,rfl,rfl,rfl,?_,?_⟩
  ·show 0<=IntKind.i64.wrap (i2+1);rw[hw];omega
  ·show IntKind.i64.wrap (i2+1)+((k-1:Nat):Int)=_;rw[hw];omega
 ·cases r with
  |inl r=>exact ab.ret trivial
  |inr r=>exact ab.ret trivial
theorem ahi(a)(ay:jw a.1.1)(hg:a.1.2.1.length<=200)(hn:lc a.1.2.1):ab (f177 a) (fun r=>jw r.2.1):=by
 obtain⟨⟨(t:List aB),(g:B),u⟩,b8⟩:=a;obtain⟨n3,me⟩:=ay;have n3:t.length<=16:=n3;have hg:g.length<=200:=hg;have ayW:iL t:=⟨by show t.length<=2097152;omega,fun e he=>⟨Nat.le_trans (me e he).1 (by decide),Nat.le_trans (me e he).2 (by decide)⟩⟩
 unfold f177;refine ab.bind (P:=fun r=>jw r.2.1) ?_ fun r hr=>ab.ret hr
 refine ab.loop (fun(k:Nat) y=>y.1.1=t/\y.1.2.1=g/\(0:Int)<=y.1.2.2.2.1/\(y.1.2.2.2.1:Int)+k=t.length/\((y.2.1:List aB).length:Int)<=y.1.2.2.2.1/\∀e,e∈(y.2.1:List aB)->lq e) (fun k y hy=>?_) t.length _
  ⟨rfl,rfl,Int.le_refl _,by show(0:Int)+_=_;omega,by show(0:Int)<=0;omega,fun e he=>by cases he⟩
 obtain⟨⟨(t1:List aB),(g1:B),u1,(i:Int),u⟩,(out:List aB),b8⟩:=y;obtain⟨cV,dD,dZ,ix,fb,fo⟩:=hy;have cV:t1=t:=cV;have dD:g1=g:=dD;subst cV dD;have dZ:0<=i:=dZ;have ix:i+k=t1.length:=ix;have fb:(out.length:Int)<=i:=fb;unfold Uo;refine ab.ite (fun hc=>?_) fun _=>ab.ret ⟨by show out.length<=16;omega,fo⟩
 have hc:i<(t1.length:Int):=of_decide_eq_true hc;have hw:IntKind.i64.wrap (i+1)=i+1:=c5 (by omega) (by omega)
 obtain⟨x,aG,aK⟩:=nH (xs:=t1) dZ hc;refine ab.eq (vF ((t1,()),()) ayW) ?_
 refine ab.ite (fun _=>?_) fun _=>ab.ret ⟨by show out.length<=16;omega,fo⟩
 have piece:ab (zy ((t1,(g1,((),(i,())))),(out,()))) (fun r=>r.1.1=t1/\r.1.2.1=g1/\r.1.2.2.2.1=i/\r.2.1=out):=by
  unfold zy;refine ab.eq aG ?_
  refine ab.bind (Qw ((g1,(x.path,())),()) hg (Nat.le_trans (me x aK).1 (by decide)) hn) fun r _=>?_
  refine ab.ite (fun _=>?_) fun _=>ab.ret ⟨rfl,rfl,rfl,rfl⟩
  refine ab.eq aG ?_
  refine ab.ite (fun _=>?_) fun _=>ab.ret ⟨rfl,rfl,rfl,rfl⟩
  refine ab.eq aG ?_
  exact ab.bind (ahb ((t1,(g1,(x.path,()))),()) ⟨n3,me⟩ hg hn (me x aK).1) fun r _=>ab.ret ⟨rfl,rfl,rfl,rfl⟩
 refine ab.bind piece fun r hr=>?_
 obtain⟨⟨(My:List aB),(g2:B),a',(i2:Int),(c:Bool),v⟩,(Du:List aB),v'⟩:=r;obtain⟨r1,r2,dE,gu⟩:=hr;have r1:My=t1:=r1;have r2:g2=g1:=r2;have dE:i2=i:=dE;have gu:Du=out:=gu;subst r1 r2 dE gu;refine ab.ite (fun _=>?_) fun _=>?_
 ·refine ab.eq aG ?_
  refine ab.eq (dw (by decide) (by unfold aA;simp;omega)) ?_
  refine ab.ret ⟨k-1,by omega,rfl,rfl,?_,?_,?_,fun e he=>?_⟩
  ·show 0<=IntKind.i64.wrap (i2+1);rw[hw];omega
  ·show IntKind.i64.wrap (i2+1)+((k-1:Nat):Int)=_;rw[hw];omega
  ·show((Du++[x]).length:Int)<=IntKind.i64.wrap (i2+1);rw[hw];simp;omega
  ·have he:e∈Du++[x]:=he;rcases bo.1 he with he|he
   ·exact fo e he
   ·rw[List.mem_singleton.1 he];exact me x aK
 ·refine ab.ret ⟨k-1,by omega,rfl,rfl,?_,?_,?_,fo⟩
  ·show 0<=IntKind.i64.wrap (i2+1);rw[hw];omega
  ·show IntKind.i64.wrap (i2+1)+((k-1:Nat):Int)=_;rw[hw];omega
  ·show(Du.length:Int)<=IntKind.i64.wrap (i2+1);rw[hw];omega
theorem aqc:∀(n:Nat) (x:Int),0<=x->x<=100000->x<n->ab (j_ l_ n ((x,()),())) (fun r=>((r.1.1:B).length:Int)<=x+1):=by
 intro n;induction n with
 |zero=>intro x h0 _ h;omega
 |succ n ih=>
  intro x h0 h1 hl;show ab (l_ (j_ l_ n) _) _;unfold l_;refine ab.ite (fun hc=>?_) fun _=>?_
  ·have hc:x< -9223372036854775807:=of_decide_eq_true hc;omega
  refine ab.ite (fun hc=>?_) fun _=>?_
  ·have hc:x<0:=of_decide_eq_true hc;omega
  refine ab.ite (fun hc=>?_) fun hc=>?_
  ·exact ab.ret (by show((strOf [_]).length:Int)<=x+1;simp[strOf];omega)
  ·have hc:¬x<10:=of_decide_eq_false hc;refine ab.eq (wo (x:=x) rfl h0 (by omega) (by decide)) ?_
   refine ab.bind (ih (x/10) (by omega) (by omega) (by omega)) fun r hr=>?_
   refine ab.eq (oI (x:=x) h0 (by decide)) ?_
   have hr:((r.1.1:B).length:Int)<=x/10+1:=hr;refine ab.eq (dS (s:=r.1.1) (by simp[strOf];omega)) ?_
   exact ab.ret (by show(((r.1.1:B)++strOf [_]).length:Int)<=x+1;rw[dx];simp[strOf];omega)
theorem akl(a)(h0:(0:Int)<=a.1.1)(h1:(a.1.1:Int)<=100):ab (f83 a) (fun r=>(r.1.1:B).length<=101):=by
 obtain⟨⟨(x:Int),u⟩,b8⟩:=a;have h0:0<=x:=h0;have h1:x<=100:=h1;exact(aqc kB x h0 (by omega) (by unfold kB;omega)).mono fun r hr=>by have hr:((r.1.1:B).length:Int)<=x+1:=hr;omega
theorem Qp(a)(m:Nat)(h:dj a.2.1.1 a.2.1.2.1 m)(hm:40<=m):ab (wC a) (fun r=>dj r.2.1.1 r.2.1.2.1 (m-40)/\jw r.2.2.1):=by
 obtain⟨⟨u1,u2⟩,⟨⟨(b:List Int),(p:Int),sx⟩,aec⟩⟩:=a;have h:dj b p m:=h;unfold wC;refine ab.bind (P:=fun r=>dj r.2.1.1 r.2.1.2.1 (m-5)/\jw r.2.2.1) ?_ fun r1 h1=>?_
 ·refine ab.loop (fun(k:Nat) y=>k<=5/\(0:Int)<=y.1.2.2.2.1/\(y.1.2.2.2.1:Int)+k=5/\(y.2.2.2.1:List B)=[[97],[108,105,98],[98,105,110],[100,111,99],[97,47,98]]/\dj y.2.1.1 y.2.1.2.1 (m-(5-k))/\jw y.2.2.1) (fun k y hy=>?_) 5 _
   ⟨Nat.le_refl _,Int.le_refl _,by show(0:Int)+(5:Nat)=5;rfl,rfl,h,by show(0:Nat)<=16;decide,fun e he=>by cases he⟩
  obtain⟨⟨a',w2,cr,(i:Int),lu⟩,⟨⟨(bS:List Int),(h6:Int),ss⟩,(t:List aB),(L:List B),pi⟩⟩:=y;obtain⟨cV,dD,dZ,ix,fb,fo⟩:=hy;have dD:0<=i:=dD;have dZ:i+k=5:=dZ;have ix:L=_:=ix;have ee:L.length=5:=by rw[ix];rfl
  have ay3:∀s,s∈L->dI s:=by rw[ix];exact fun s hs=>pP (by rfl) hs
  have fb:dj bS h6 (m-(5-k)):=fb;have fo:jw t:=fo;unfold P';refine ab.ite (fun hc=>?_) fun hc=>?_
  ·have hc:i<(L.length:Int):=of_decide_eq_true hc;have hw:IntKind.i64.wrap (i+1)=i+1:=c5 (by omega) (by omega)
   obtain⟨j,rfl⟩:=Int.eq_ofNat_of_zero_le dD;have hj:j<L.length:=by omega
   refine ab.bind (hJ _ _ fb (by omega)) fun r hr=>?_
   have hR:dj r.2.1.1 r.2.1.2.1 (m-(5-(k-1))):=hr.1.less (by omega)
   refine ab.ite (fun _=>?_) fun _=>?_
   ·refine ab.eq (fP hj) ?_
    refine ab.eq (d_ hj) ?_
    have hsh:dI L[j]:=ay3 _ (List.getElem_mem hj);refine ab.bind (HU ((t,((L[j],((1:Int),((7:Int),(([]:B),())))),())),()) fo ⟨hsh,by show(0:Nat)<=200;decide⟩) fun r2 h2=>?_
    refine ab.ret ⟨k-1,by omega,by omega,?_,?_,ix,hR,h2⟩
    ·show 0<=IntKind.i64.wrap ((j:Int)+1);rw[hw];omega
    ·show IntKind.i64.wrap ((j:Int)+1)+((k-1:Nat):Int)=5;rw[hw];omega
   ·refine ab.ret ⟨k-1,by omega,by omega,?_,?_,ix,hR,fo⟩
    ·show 0<=IntKind.i64.wrap ((j:Int)+1);rw[hw];omega
    ·show IntKind.i64.wrap ((j:Int)+1)+((k-1:Nat):Int)=5;rw[hw];omega
  ·exact ab.ret ⟨fb.less (by omega),fo⟩
 refine ab.bind (hJ _ _ h1.1 (by omega)) fun r2 h2=>?_
 obtain⟨⟨v1,(q:Int),v2⟩,⟨⟨(b1:List Int),(iS:Int),v3⟩,v4⟩⟩:=r2;have aDf:q<7:=h2.2.2 (by show(1:Int)<=7;decide)
 have aDg:0<=q:=h2.2.1;refine ab.bind (P:=fun r=>dj r.2.1.1 r.2.1.2.1 (m-34)/\jw r.2.2.1) ?_ fun dE h3=>?_
 ·refine ab.loop (fun(k:Nat) y=>k<=6/\(y.1.2.2.1:Int)=k/\dj y.2.1.1 y.2.1.2.1 (m-34+4*k)/\jw y.2.2.1) (fun k y hy=>?_) q.toNat _
   ⟨by omega,by show q=_;omega,(by refine h2.1.less ?_;omega),h1.2⟩
  obtain⟨⟨a',w2,(i:Int),lu⟩,⟨⟨(bS:List Int),(h6:Int),ss⟩,(t:List aB),pi⟩⟩:=y;obtain⟨cV,dZ,fb,fo⟩:=hy;have dZ:i=k:=dZ;subst dZ;have fb:dj bS h6 (m-34+4*k):=fb;have fo:jw t:=fo;unfold P_;refine ab.ite (fun hc=>?_) fun hc=>?_
  ·have hc:(k:Int)>0:=of_decide_eq_true hc;have hw:IntKind.i64.wrap ((k:Int)-1)=((k-1:Nat):Int):=by rw[c5 (by omega) (by omega)];omega
   refine ab.bind (PN _ _ fb (by omega)) fun r hr=>?_
   refine ab.bind (HU ((t,((r.2.2.1.1,(r.2.2.1.2.1,(r.2.2.1.2.2.1,(r.2.2.1.2.2.2.1,())))),())),()) fo hr.2) fun r2 h2=>?_
   exact ab.ret ⟨k-1,by omega,by omega,hw,hr.1.less (by omega),h2⟩
  ·exact ab.ret ⟨fb.less (by omega),fo⟩
 refine ab.bind (hJ _ _ h3.1 (by omega)) fun gu aD=>?_
 refine ab.ite (fun _=>?_) fun _=>ab.ret ⟨aD.1.less (by omega),h3.2⟩
 refine ab.bind (P:=fun r=>dj r.2.1.1 r.2.1.2.1 (m-34-1)/\jw r.2.2.1) ?_ fun r5 bn=>ab.ret ⟨bn.1.less (by omega),bn.2⟩
 refine ab.loop (fun(k:Nat) y=>(0:Int)<=y.1.2.2.1/\(y.1.2.2.1:Int)+k=16/\dj y.2.1.1 y.2.1.2.1 (m-34-1)/\jw y.2.2.1) (fun k y hy=>?_) 16 _ ⟨Int.le_refl _,by show(0:Int)+(16:Nat)=16;rfl,aD.1,h3.2⟩
 obtain⟨⟨a',w2,(i:Int),lu⟩,⟨⟨(bS:List Int),(h6:Int),ss⟩,(t:List aB),pi⟩⟩:=y;obtain⟨cV,dZ,fb,fo⟩:=hy;have cV:0<=i:=cV;have dZ:i+k=16:=dZ;have fo:jw t:=fo;unfold PE;refine ab.ite (fun hc=>?_) fun hc=>ab.ret ⟨fb,fo⟩
 have hc:i<16:=of_decide_eq_true hc;have hw:IntKind.i64.wrap (i+1)=i+1:=c5 (by omega) (by omega)
 refine ab.bind (akl ((i,()),()) cV (by show i<=100;omega)) fun r hr=>?_
 have hr:(r.1.1:B).length<=101:=hr;refine ab.eq (dS (s:=[102]) (t:=r.1.1) (by show 1+_<=_;omega)) ?_
 refine ab.bind (HU ((t,(((([102]:B)++r.1.1,((2:Int),((0:Int),(([]:B),()))))),())),()) fo ⟨by show((([102]:B)++r.1.1).length)<=200;simp;omega,by show(0:Nat)<=200;decide⟩) fun r2 h2=>?_
 refine ab.ret ⟨k-1,by omega,?_,?_,fb,h2⟩
 ·show 0<=IntKind.i64.wrap (i+1);rw[hw];omega
 ·show IntKind.i64.wrap (i+1)+((k-1:Nat):Int)=16;rw[hw];omega
noncomputable abbrev aqy:a8:=[(78,jl),(79,k3),(176,CU)]
theorem aqR:aT O (aZ af aqy):=aY ⟨jI,lU,JD,⟨⟩⟩
abbrev VZ:Shape:=⟨[ax 0 500000 0],[aw 500000 [br .u8,ba]],17⟩
abbrev Vu:Shape:=⟨[ax 0 500000 0,ax 2 2 0],[aw 500000 [br .u8,ba],aw 2 [ah,ba,ah]],17⟩
noncomputable def tF(a:VZ.J):Option Vu.J:=
(jK (((),([([111,110,101]:B),([116,119,111]:B),([116,104,114,101,101]:B),([122,105,112]:B)]:List B),()),(a.2.1.1,a.2.1.2.1,()),())).bind fun b=>
(gz (((),(4:Int),()),(b.2.1.1,b.2.1.2.1,()),())).bind fun c=>
 bif(c.1.2.1 !=(0:Int)) then
(tE (((),()),(c.2.1.1,c.2.1.2.1,()),())).bind fun d=>
 some (((),(),()),(d.2.1.1,d.2.1.2.1,()),(b.1.2.1,c.1.2.1,d.1.2.1,()),())
else
 some (((),(),()),(c.2.1.1,c.2.1.2.1,()),(b.1.2.1,c.1.2.1,([]:B),()),())
noncomputable def CV:aI:=aL af Tryz.f157 VZ Vu [0] tF
theorem JE:aF O 157 CV:=aM aqR Tryz.func157 (by kernel_rfl) ag (fun y=>by kernel_rfl) fun a=>by kernel_rfl
noncomputable abbrev aqE:a8:=[(78,jl),(79,k3),(157,CV),(176,CU),(177,_5),(178,Kx)]
theorem aqW:aT O (aZ af aqE):=aY ⟨jI,lU,JE,JD,asX,UC,⟨⟩⟩
abbrev V6:Shape:=⟨[ax 0 500000 0,am 1],[aw 500000 [br .u8,ba]],27⟩
abbrev VB:Shape:=⟨[ax 0 500000 0,ax 4 4 0],[aw 500000 [br .u8,ba],bv 5000258 .need 4 2,bv 5000259 .entry 4 3,aw 4 [ah,ah,.own 5000258,.own 5000259]],27⟩
noncomputable def wE(a:V6.J):Option VB.J:=
(tE (((),()),(a.2.1.1,a.2.1.2.1,()),())).bind fun b=>
(wC (((),()),(b.2.1.1,b.2.1.2.1,()),())).bind fun c=>
(jK (((),([([42,42]:B),([97,47,42,42]:B),([108,105,98,47,42,42]:B),([100,111,99,47,42,42]:B),([98,42]:B)]:List B),()),(c.2.1.1,c.2.1.2.1,()),())).bind fun d=>
(f177 ((c.2.2.1,d.1.2.1,()),())).bind fun e=>
(gz (((),(3:Int),()),(d.2.1.1,d.2.1.2.1,()),())).bind fun f=>
 bif(f.1.2.1==(0:Int)) then
(tF (((),()),(f.2.1.1,f.2.1.2.1,()),())).bind fun g=>
(cm 40 ([]:List bD) ([(bD.mk g.2.2.1.1 g.2.2.1.2.1 g.2.2.1.2.2.1)]:List bD)).bind fun h=>
 some (((),(),()),(g.2.1.1,g.2.1.2.1,()),h,e.2.1,(a.1.2.1,b.1.2.1,(),(),()),())
else
 some (((),(),()),(f.2.1.1,f.2.1.2.1,()),([]:List bD),e.2.1,(a.1.2.1,b.1.2.1,(),(),()),())
noncomputable def Kz:aI:=aL af Tryz.f125 V6 VB [0] wE
theorem UE:aF O 125 Kz:=aM aqW Tryz.func125 (by kernel_rfl) ag (fun y=>by kernel_rfl) fun a=>by kernel_rfl
noncomputable abbrev aqA:a8:=[(78,jl),(79,k3),(176,CU)]
theorem aqT:aT O (aZ af aqA):=aY ⟨jI,lU,JD,⟨⟩⟩
abbrev V1:Shape:=⟨[ax 0 500000 0],[aw 500000 [br .u8,ba]],11⟩
abbrev Vw:Shape:=⟨[ax 0 500000 0,am 2],[aw 500000 [br .u8,ba]],11⟩
noncomputable def wD(a:V1.J):Option Vw.J:=
(gz (((),(6:Int),()),(a.2.1.1,a.2.1.2.1,()),())).bind fun b=>
 bif(b.1.2.1==(0:Int)) then
(jK (((),([([]:B),([46]:B),([49,46]:B),([48,49]:B),([49,48,48,48]:B),([49,46,50,46,51,46,52,46,53]:B),([97]:B),([49,46,45,49]:B)]:List B),()),(b.2.1.1,b.2.1.2.1,()),())).bind fun c=>
 some (((),c.1.2.1,()),(c.2.1.1,c.2.1.2.1,()),())
else
(tE (((),()),(b.2.1.1,b.2.1.2.1,()),())).bind fun d=>
 some (((),d.1.2.1,()),(d.2.1.1,d.2.1.2.1,()),())
noncomputable def Ky:aI:=aL af Tryz.f155 V1 Vw [0] wD
theorem UD:aF O 155 Ky:=aM aqT Tryz.func155 (by kernel_rfl) ag (fun y=>by kernel_rfl) fun a=>by kernel_rfl
noncomputable abbrev aqz:a8:=[(78,jl),(79,k3),(155,Ky),(157,CV)]
theorem aqS:aT O (aZ af aqz):=aY ⟨jI,lU,UD,JE,⟨⟩⟩
abbrev V0:Shape:=⟨[ax 0 500000 0],[aw 500000 [br .u8,ba]],26⟩
abbrev Vv:Shape:=⟨[ax 0 500000 0,ax 2 2 0],[aw 500000 [br .u8,ba],aw 2 [ah,ba,ah]],26⟩
noncomputable def CM(a:V0.J):Option Vv.J:=
(tF (((),()),(a.2.1.1,a.2.1.2.1,()),())).bind fun b=>
(gz (((),(14:Int),()),(b.2.1.1,b.2.1.2.1,()),())).bind fun c=>
 bif(c.1.2.1==(0:Int)) then
(jK (((),([([]:B),([57]:B),([79,110,101]:B),([101,108,101,118,101,110,108,101,116,116,101]:B)]:List B),()),(c.2.1.1,c.2.1.2.1,()),())).bind fun d=>
 some (((),(),()),(d.2.1.1,d.2.1.2.1,()),(d.1.2.1,b.2.2.1.2.1,b.2.2.1.2.2.1,()),())
else
 bif(c.1.2.1==(1:Int)) then
(gz (((),(6:Int),()),(c.2.1.1,c.2.1.2.1,()),())).bind fun e=>
 some (((),(),()),(e.2.1.1,e.2.1.2.1,()),(b.2.2.1.1,(IntKind.i64.wrap (e.1.2.1-(1:Int))),b.2.2.1.2.2.1,()),())
else
 bif(c.1.2.1==(2:Int)) then
(wD (((),()),(c.2.1.1,c.2.1.2.1,()),())).bind fun f=>
 some (((),(),()),(f.2.1.1,f.2.1.2.1,()),(b.2.2.1.1,b.2.2.1.2.1,f.1.2.1,()),())
else
 some (((),(),()),(c.2.1.1,c.2.1.2.1,()),(b.2.2.1.1,b.2.2.1.2.1,b.2.2.1.2.2.1,()),())
noncomputable def Wv:aI:=aL af Tryz.f156 V0 Vv [0] CM
theorem aoJ:aF O 156 Wv:=aM aqS Tryz.func156 (by kernel_rfl) ag (fun y=>by kernel_rfl) fun a=>by kernel_rfl
noncomputable abbrev aqo:a8:=[(78,jl),(79,k3),(261,Kv)]
theorem aqK:aT O (aZ af aqo):=aY ⟨jI,lU,UA,⟨⟩⟩
abbrev VP:Shape:=⟨[ax 0 500000 0],[aw 500000 [br .u8,ba]],11⟩
abbrev Vl:Shape:=⟨[ax 0 500000 0,am 2],[aw 500000 [br .u8,ba]],11⟩
noncomputable def CH(a:VP.J):Option Vl.J:=
(gz (((),(6:Int),()),(a.2.1.1,a.2.1.2.1,()),())).bind fun b=>
 bif(b.1.2.1==(0:Int)) then
(jK (((),([([]:B),([47]:B),([97,47]:B),([47,97]:B),([46]:B),([46,46]:B),([97,47,47,98]:B),([65]:B),([97,47,98,47,99,47,100,47,101,47,102]:B),([101,108,101,118,101,110,108,101,116,116,101]:B),([97,32,98]:B),([120,47,46,46,47,121]:B)]:List B),()),(b.2.1.1,b.2.1.2.1,()),())).bind fun c=>
 some (((),c.1.2.1,()),(c.2.1.1,c.2.1.2.1,()),())
else
(tD (((),()),(b.2.1.1,b.2.1.2.1,()),())).bind fun d=>
 some (((),d.1.2.1,()),(d.2.1.1,d.2.1.2.1,()),())
noncomputable def Wo:aI:=aL af Tryz.f236 VP Vl [0] CH
theorem aoC:aF O 236 Wo:=aM aqK Tryz.func236 (by kernel_rfl) ag (fun y=>by kernel_rfl) fun a=>by kernel_rfl
noncomputable abbrev aqs:a8:=[(77,Dh),(78,jl),(79,k3),(224,Kw),(236,Wo),(237,LR)]
theorem aqM:aT O (aZ af aqs):=aY ⟨KB,jI,lU,UB,aoC,XC,⟨⟩⟩
abbrev VT:Shape:=⟨[ax 0 500000 0],[aw 500000 [br .u8,ba]],32⟩
abbrev Vo:Shape:=⟨[ax 0 500000 0,ax 2 2 0],[aw 500000 [br .u8,ba],aw 2 [ah,ba,ba,ah]],32⟩
noncomputable def wB(a:VT.J):Option Vo.J:=
(wA (((),()),(a.2.1.1,a.2.1.2.1,()),())).bind fun b=>
(gz (((),(14:Int),()),(b.2.1.1,b.2.1.2.1,()),())).bind fun c=>
 bif(c.1.2.1==(0:Int)) then
(CH (((),()),(c.2.1.1,c.2.1.2.1,()),())).bind fun d=>
 some (((),(),()),(d.2.1.1,d.2.1.2.1,()),(d.1.2.1,b.2.2.1.2.1,b.2.2.1.2.2.1,b.2.2.1.2.2.2.1,()),())
else
 bif(c.1.2.1==(1:Int)) then
(gz (((),(5:Int),()),(c.2.1.1,c.2.1.2.1,()),())).bind fun e=>
 some (((),(),()),(e.2.1.1,e.2.1.2.1,()),(b.2.2.1.1,e.1.2.1,b.2.2.1.2.2.1,b.2.2.1.2.2.2.1,()),())
else
 bif(c.1.2.1==(2:Int)) then
(ua (((),([((-1):Int),(8:Int),(0:Int)]:List Int),()),(c.2.1.1,c.2.1.2.1,()),())).bind fun f=>
 some (((),(),()),(f.2.1.1,f.2.1.2.1,()),(b.2.2.1.1,b.2.2.1.2.1,f.1.2.1,b.2.2.1.2.2.2.1,()),())
else
 bif(c.1.2.1==(3:Int)) then
(f237 ((([117]:B),(81:Int),()),())).bind fun g=>
(jK (((),([([1]:B),g.1.1,([120]:B),([]:B)]:List B),()),(c.2.1.1,c.2.1.2.1,()),())).bind fun h=>
 some (((),(),()),(h.2.1.1,h.2.1.2.1,()),(b.2.2.1.1,b.2.2.1.2.1,b.2.2.1.2.2.1,h.1.2.1,()),())
else
 some (((),(),()),(c.2.1.1,c.2.1.2.1,()),(b.2.2.1.1,b.2.2.1.2.1,b.2.2.1.2.2.1,b.2.2.1.2.2.2.1,()),())
noncomputable def Wr:aI:=aL af Tryz.f203 VT Vo [0] wB
theorem aoF:aF O 203 Wr:=aM aqM Tryz.func203 (by kernel_rfl) ag (fun y=>by kernel_rfl) fun a=>by kernel_rfl
noncomputable abbrev aqx:a8:=[(78,jl),(178,Kx),(202,xo),(203,Wr)]
theorem aqQ:aT O (aZ af aqx):=aY ⟨jI,UC,Dm,aoF,⟨⟩⟩
abbrev VY:Shape:=⟨[ax 0 500000 0],[aw 500000 [br .u8,ba]],30⟩
abbrev Vt:Shape:=⟨[ax 0 500000 0,bd 2 3000128],[aw 500000 [br .u8,ba],bc 3000128 .entry 2 0],30⟩
noncomputable def CL(a:VY.J):Option Vt.J:=
(wC (((),()),(a.2.1.1,a.2.1.2.1,()),())).bind fun b=>
(f202 ((b.2.2.1,()),())).bind fun c=>
(gz (((),(14:Int),()),(b.2.1.1,b.2.1.2.1,()),())).bind fun d=>
 bif(d.1.2.1==(0:Int)) then
(wB (((),()),(d.2.1.1,d.2.1.2.1,()),())).bind fun e=>
(cm 48 c.2.1 ([(aB.mk e.2.2.1.1 e.2.2.1.2.1 e.2.2.1.2.2.1 e.2.2.1.2.2.2.1)]:List aB)).bind fun f=>
 some (((),(),()),(e.2.1.1,e.2.1.2.1,()),f,())
else
 bif(d.1.2.1==(1:Int)) then
 bif(decide ((c.2.1.length:Int)>(0:Int))) then
(gz (((),(c.2.1.length:Int),()),(d.2.1.1,d.2.1.2.1,()),())).bind fun g=>
(wB (((),()),(g.2.1.1,g.2.1.2.1,()),())).bind fun h=>
(bf c.2.1.length g.1.2.1).bind fun i=>
((c.2.1[i]?).bind fun q=>some (aB.mk h.2.2.1.1 h.2.2.1.2.1 h.2.2.1.2.2.1 h.2.2.1.2.2.2.1)).bind fun j=>
 some (((),(),()),(h.2.1.1,h.2.1.2.1,()),(c.2.1.set i j),())
else
 some (((),(),()),(d.2.1.1,d.2.1.2.1,()),c.2.1,())
else
 some (((),(),()),(d.2.1.1,d.2.1.2.1,()),c.2.1,())
noncomputable def Wu:aI:=aL af Tryz.f158 VY Vt [0] CL
theorem aoI:aF O 158 Wu:=aM aqQ Tryz.func158 (by kernel_rfl) ag (fun y=>by kernel_rfl) fun a=>by kernel_rfl
noncomputable abbrev aqF:a8:=[(78,jl),(79,k3),(125,Kz),(155,Ky),(156,Wv),(157,CV),(158,Wu)]
theorem aqX:aT O (aZ af aqF):=aY ⟨jI,lU,UE,UD,aoJ,JE,aoI,⟨⟩⟩
abbrev V8:Shape:=⟨[ax 0 500000 0],[aw 500000 [br .u8,ba]],39⟩
abbrev VD:Shape:=⟨[ax 0 500000 0,ax 2 2 0],[aw 500000 [br .u8,ba],bv 5000130 .need 2 2,bv 5000131 .entry 2 3,aw 2 [ah,ah,.own 5000130,.own 5000131]],39⟩
noncomputable def CN(a:V8.J):Option VD.J:=
(jK (((),([([111,110,101]:B),([116,119,111]:B),([116,104,114,101,101]:B),([122,105,112]:B)]:List B),()),(a.2.1.1,a.2.1.2.1,()),())).bind fun b=>
(wE (((),b.1.2.1,()),(b.2.1.1,b.2.1.2.1,()),())).bind fun c=>
(gz (((),(14:Int),()),(c.2.1.1,c.2.1.2.1,()),())).bind fun d=>
 bif(d.1.2.1==(0:Int)) then
(jK (((),([([]:B),([79,110,101]:B)]:List B),()),(d.2.1.1,d.2.1.2.1,()),())).bind fun e=>
 some (((),(),()),(e.2.1.1,e.2.1.2.1,()),c.2.2.1,c.2.2.2.1,(e.1.2.1,c.2.2.2.2.1.2.1,(),(),()),())
else
 bif(d.1.2.1==(1:Int)) then
(wD (((),()),(d.2.1.1,d.2.1.2.1,()),())).bind fun f=>
 some (((),(),()),(f.2.1.1,f.2.1.2.1,()),c.2.2.1,c.2.2.2.1,(c.2.2.2.2.1.1,f.1.2.1,(),(),()),())
else
 bif(d.1.2.1==(2:Int)) then
(CM (((),()),(d.2.1.1,d.2.1.2.1,()),())).bind fun g=>
(tF (((),()),(g.2.1.1,g.2.1.2.1,()),())).bind fun h=>
(cm 40 c.2.2.1 ([(bD.mk g.2.2.1.1 g.2.2.1.2.1 g.2.2.1.2.2.1),(bD.mk h.2.2.1.1 h.2.2.1.2.1 h.2.2.1.2.2.1)]:List bD)).bind fun i=>
 some (((),(),()),(h.2.1.1,h.2.1.2.1,()),i,c.2.2.2.1,(c.2.2.2.2.1.1,c.2.2.2.2.1.2.1,(),(),()),())
else
 bif(d.1.2.1==(3:Int)) then
(CL (((),()),(d.2.1.1,d.2.1.2.1,()),())).bind fun j=>
 some (((),(),()),(j.2.1.1,j.2.1.2.1,()),c.2.2.1,j.2.2.1,(c.2.2.2.2.1.1,c.2.2.2.2.1.2.1,(),(),()),())
else
 some (((),(),()),(d.2.1.1,d.2.1.2.1,()),c.2.2.1,c.2.2.2.1,(c.2.2.2.2.1.1,c.2.2.2.2.1.2.1,(),(),()),())
noncomputable def WB:aI:=aL af Tryz.f108 V8 VD [0] CN
theorem aoP:aF O 108 WB:=aM aqX Tryz.func108 (by kernel_rfl) ag (fun y=>by kernel_rfl) fun a=>by kernel_rfl
abbrev ym(p:aJ):Prop:=jW p/\p.a6.length<=2097151/\∀n,n∈p.bl->n.a6.length<=2097151
abbrev pg(k:Nat)(ps:List aJ):Prop:=ps.length<=k/\∀p,p∈ps->ym p
theorem pg.yD{k:Nat}{ps:List aJ}(h:pg k ps)(hk:k<=2097152):fS ps:=⟨Nat.le_trans h.1 hk,fun p hp=>(h.2 p hp).1⟩
theorem pg.vs{k:Nat}{ps:List aJ}(h:pg k ps):ko ps:=fun p hp=>(h.2 p hp).2
abbrev EF(n:bD):Prop:=dI n.name/\dI n.a6
def W5(s:B):Bool:=!(s==[102,114,101,115,104])&&!(s==[110,111,98,111,100,121,115])
abbrev NV(s:B):Prop:=dI s/\W5 s=true
theorem J0{L:List B}(h:L.all (fun s=>decide (s.length<=200)&&W5 s)=true){s:B}(hs:s∈L):NV s:=by
 have:=List.all_eq_true.1 h s hs;simp only[bz,dW] at this;exact this
abbrev sn(p:aJ):Prop:=NV p.name/\dI p.a6/\(p.bl.length<=3/\∀n,n∈p.bl->EF n)/\(p.bI.length<=17/\∀e,e∈p.bI->lq e)
theorem sn.ok{p:aJ}(h:sn p):ym p:=by
 obtain⟨a,b,⟨c1,c2⟩,d1,d2⟩:=h;have up:∀{s:B},dI s->cw s.length:=fun h=>Nat.le_trans h (by decide)
 exact⟨⟨up a.1,up b,⟨Nat.le_trans c1 (by decide),fun n hn=>⟨up (c2 n hn).1,up (c2 n hn).2⟩⟩,Nat.le_trans d1 (by decide),fun e he=>⟨up (d2 e he).1,up (d2 e he).2⟩⟩,Nat.le_trans b (by decide),fun n hn=>Nat.le_trans (c2 n hn).2 (by decide)⟩
theorem FZ(a)(m:Nat)(h:dj a.2.1.1 a.2.1.2.1 m)(hm:3<=m):ab (tF a) (fun r=>dj r.2.1.1 r.2.1.2.1 (m-3)/\EF ⟨r.2.2.1.1,r.2.2.1.2.1,r.2.2.1.2.2.1⟩):=by
 unfold tF;refine ab.bind (k4 _ m h (by omega) (by simp)) fun r1 h1=>?_
 have s1:dI r1.1.2.1:=pP (by rfl) h1.2
 refine ab.bind (hJ _ _ h1.1 (by omega)) fun r2 h2=>?_
 refine ab.ite (fun _=>?_) fun _=>ab.ret ⟨h2.1.less (by omega),s1,by show(0:Nat)<=200;decide⟩
 exact ab.bind (Fi _ _ h2.1 (by omega)) fun dE h3=>ab.ret ⟨h3.1.less (by omega),s1,h3.2⟩
theorem Qr(a)(m:Nat)(h:dj a.2.1.1 a.2.1.2.1 m)(hm:50<=m)(hn:NV a.1.2.1):ab (wE a) (fun r=>dj r.2.1.1 r.2.1.2.1 (m-50)/\sn ⟨r.2.2.2.2.1.1,r.2.2.2.2.1.2.1,r.2.2.1,r.2.2.2.1⟩/\(r.2.2.1:List bD).length<=1):=by
 unfold wE;refine ab.bind (Fi _ m h (by omega)) fun r1 h1=>?_
 refine ab.bind (Qp _ _ h1.1 (by omega)) fun r2 h2=>?_
 refine ab.bind (k4 _ _ h2.1 (by omega) (by simp)) fun dE h3=>?_
 have hg:(dE.1.2.1:B).length<=200/\lc dE.1.2.1:=by
  have:=h3.2;simp only[bR,List.not_mem_nil,or_false] at this;rcases this with e|e|e|e|e
  all_goals(rw[e];exact⟨by decide,by decide⟩)
 refine ab.bind (ahi ((r2.2.2.1,(dE.1.2.1,())),()) h2.2 hg.1 hg.2) fun gu aD=>?_
 refine ab.bind (hJ _ _ h3.1 (by omega)) fun r5 bn=>?_
 have ay:(gu.2.1:List aB).length<=17/\∀e,e∈(gu.2.1:List aB)->lq e:=⟨Nat.le_succ_of_le aD.1,aD.2⟩;refine ab.ite (fun _=>?_) fun _=>ab.ret ⟨bn.1.less (by omega),⟨hn,h1.2,⟨by show(0:Nat)<=3;decide,fun n hn=>by cases hn⟩,ay⟩,by show(0:Nat)<=1;decide⟩
 refine ab.bind (FZ _ _ bn.1 (by omega)) fun sz cl=>?_
 refine ab.eq (dw (by decide) (by unfold aA;simp)) ?_
 refine ab.ret ⟨cl.1.less (by omega),⟨hn,h1.2,⟨by show(1:Nat)<=3;decide,fun n hn=>?_⟩,ay⟩,by show(1:Nat)<=1;decide⟩
 have hn:n∈([]:List bD)++[_]:=hn;rw[List.nil_append,List.mem_singleton] at hn;rw[hn];exact cl.2
theorem OT(a)(m:Nat)(h:dj a.2.1.1 a.2.1.2.1 m)(hm:2<=m):ab (wD a) (fun r=>dj r.2.1.1 r.2.1.2.1 (m-2)/\dI r.1.2.1):=by
 unfold wD;refine ab.bind (hJ _ m h (by omega)) fun r1 h1=>?_
 refine ab.ite (fun _=>?_) fun _=>?_
 ·exact ab.bind (k4 _ _ h1.1 (by omega) (by simp)) fun r hr=>ab.ret ⟨hr.1.less (by omega),pP (by rfl) hr.2⟩
 ·exact ab.bind (Fi _ _ h1.1 (by omega)) fun r hr=>ab.ret ⟨hr.1.less (by omega),hr.2⟩
theorem afB(a)(m:Nat)(h:dj a.2.1.1 a.2.1.2.1 m)(hm:2<=m):ab (CH a) (fun r=>dj r.2.1.1 r.2.1.2.1 (m-2)/\dI r.1.2.1):=by
 unfold CH;refine ab.bind (hJ _ m h (by omega)) fun r1 h1=>?_
 refine ab.ite (fun _=>?_) fun _=>?_
 ·exact ab.bind (k4 _ _ h1.1 (by omega) (by simp)) fun r hr=>ab.ret ⟨hr.1.less (by omega),pP (by rfl) hr.2⟩
 ·exact ab.bind (FY _ _ h1.1 (by omega)) fun r hr=>ab.ret ⟨hr.1.less (by omega),hr.2⟩
theorem afD(a)(m:Nat)(h:dj a.2.1.1 a.2.1.2.1 m)(hm:7<=m):ab (CM a) (fun r=>dj r.2.1.1 r.2.1.2.1 (m-7)/\EF ⟨r.2.2.1.1,r.2.2.1.2.1,r.2.2.1.2.2.1⟩):=by
 unfold CM;refine ab.bind (FZ _ m h (by omega)) fun r1 h1=>?_
 refine ab.bind (hJ _ _ h1.1 (by omega)) fun r2 h2=>?_
 refine ab.ite (fun _=>?_) fun _=>ab.ite (fun _=>?_) fun _=>ab.ite (fun _=>?_) fun _=>?_
 ·exact ab.bind (k4 _ _ h2.1 (by omega) (by simp)) fun r hr=>ab.ret ⟨hr.1.less (by omega),pP (by rfl) hr.2,h1.2.2⟩
 ·exact ab.bind (hJ _ _ h2.1 (by omega)) fun r hr=>ab.ret ⟨hr.1.less (by omega),h1.2⟩
 ·exact ab.bind (OT _ _ h2.1 (by omega)) fun r hr=>ab.ret ⟨hr.1.less (by omega),h1.2.1,hr.2⟩
 ·exact ab.ret ⟨h2.1.less (by omega),h1.2⟩
theorem OZ(a)(m:Nat)(h:dj a.2.1.1 a.2.1.2.1 m)(hm:8<=m):ab (wB a) (fun r=>dj r.2.1.1 r.2.1.2.1 (m-8)/\lq ⟨r.2.2.1.1,r.2.2.1.2.1,r.2.2.1.2.2.1,r.2.2.1.2.2.2.1⟩):=by
 unfold wB;refine ab.bind (PN _ m h (by omega)) fun r1 h1=>?_
 refine ab.bind (hJ _ _ h1.1 (by omega)) fun r2 h2=>?_
 refine ab.ite (fun _=>?_) fun _=>ab.ite (fun _=>?_) fun _=>ab.ite (fun _=>?_) fun _=>ab.ite (fun _=>?_) fun _=>?_
 ·exact ab.bind (afB _ _ h2.1 (by omega)) fun r hr=>ab.ret ⟨hr.1.less (by omega),hr.2,h1.2.2⟩
 ·exact ab.bind (hJ _ _ h2.1 (by omega)) fun r hr=>ab.ret ⟨hr.1.less (by omega),h1.2⟩
 ·exact ab.bind (KD _ _ h2.1 (by omega) (by simp)) fun r hr=>ab.ret ⟨hr.1.less (by omega),h1.2⟩
 ·refine ab.bind (RL _ (by simp) (by show(0:Int)<=81;decide) (by show(81:Int)<=127;decide)) fun q aC=>?_
  refine ab.bind (k4 _ _ h2.1 (by omega) (by simp)) fun r hr=>ab.ret ⟨hr.1.less (by omega),h1.2.1,?_⟩
  have:=hr.2;simp only[bR,List.not_mem_nil,or_false] at this;rcases this with e|e|e|e
  ·show(r.1.2.1:B).length<=200;rw[e];decide
  ·show(r.1.2.1:B).length<=200;rw[e];exact aC
  ·show(r.1.2.1:B).length<=200;rw[e];decide
  ·show(r.1.2.1:B).length<=200;rw[e];decide
 ·exact ab.ret ⟨h2.1.less (by omega),h1.2⟩
abbrev _h(t:List aB):Prop:=t.length<=17/\∀e,e∈t->lq e
theorem afz(a)(m:Nat)(h:dj a.2.1.1 a.2.1.2.1 m)(hm:50<=m):ab (CL a) (fun r=>dj r.2.1.1 r.2.1.2.1 (m-50)/\_h r.2.2.1):=by
 unfold CL;refine ab.bind (Qp _ m h (by omega)) fun r1 h1=>?_
 obtain⟨nh,⟨u1,(t:List aB),u2⟩⟩:=r1;have ay:jw t:=h1.2;have acE:=ay.1;refine ab.eq (GM ((t,()),()) (by show t.length<=2097152;omega)) ?_
 refine ab.bind (hJ _ _ h1.1 (by omega)) fun r2 h2=>?_
 have n4:_h t:=⟨Nat.le_succ_of_le ay.1,ay.2⟩;refine ab.ite (fun _=>?_) fun _=>ab.ite (fun _=>?_) fun _=>ab.ret ⟨h2.1.less (by omega),n4⟩
 ·refine ab.bind (OZ _ _ h2.1 (by omega)) fun dE h3=>?_
  refine ab.eq (dw (xs:=t) (by decide) (by unfold aA;simp;omega)) ?_
  refine ab.ret ⟨h3.1.less (by omega),by show(t++[_]).length<=17;simp;omega,fun e he=>?_⟩
  have he:e∈t++[_]:=he;rcases bo.1 he with he|he
  ·exact ay.2 e he
  ·rw[List.mem_singleton.1 he];exact h3.2
 ·refine ab.ite (fun hc=>?_) fun _=>ab.ret ⟨h2.1.less (by omega),n4⟩
  have hc:(t.length:Int)>0:=of_decide_eq_true hc;refine ab.bind (hJ _ _ h2.1 (by omega)) fun dE h3=>?_
  obtain⟨⟨v1,(q:Int),v2⟩,v3⟩:=dE;have xW:0<=q:=h3.2.1;have aC7:q<(t.length:Int):=h3.2.2 (by show(1:Int)<=(t.length:Int);omega)
  obtain⟨j,rfl⟩:=Int.eq_ofNat_of_zero_le xW;have hj:j<t.length:=by omega
  refine ab.bind (OZ _ _ h3.1 (by omega)) fun gu aD=>?_
  refine ab.eq (fP (n:=t.length) (i:=j) hj) ?_
  refine ab.eq (x:=aB.mk gu.2.2.1.1 gu.2.2.1.2.1 gu.2.2.1.2.2.1 gu.2.2.1.2.2.2.1) (by show(t[j]?).bind _=_;rw[d_ hj];rfl) ?_
  exact ab.ret ⟨aD.1.less (by omega),by show(t.set _ _).length<=17;rw[List.length_set];omega,Tn ay.2 aD.2⟩
theorem afC(a)(m:Nat)(h:dj a.2.1.1 a.2.1.2.1 m)(hm:110<=m):ab (CN a) (fun r=>dj r.2.1.1 r.2.1.2.1 (m-110)/\sn ⟨r.2.2.2.2.1.1,r.2.2.2.2.1.2.1,r.2.2.1,r.2.2.2.1⟩):=by
 unfold CN;refine ab.bind (k4 _ m h (by omega) (by simp)) fun r1 h1=>?_
 refine ab.bind (Qr _ _ h1.1 (by omega) (J0 (by rfl) h1.2)) fun r2 h2=>?_
 obtain⟨uN,Er,xX,o7⟩:=h2.2.1;refine ab.bind (hJ _ _ h2.1 (by omega)) fun dE h3=>?_
 refine ab.ite (fun _=>?_) fun _=>ab.ite (fun _=>?_) fun _=>ab.ite (fun _=>?_) fun _=>ab.ite (fun _=>?_) fun _=>?_
 ·exact ab.bind (k4 _ _ h3.1 (by omega) (by simp)) fun r hr=>ab.ret ⟨hr.1.less (by omega),J0 (by rfl) hr.2,Er,xX,o7⟩
 ·exact ab.bind (OT _ _ h3.1 (by omega)) fun r hr=>ab.ret ⟨hr.1.less (by omega),uN,hr.2,xX,o7⟩
 ·refine ab.bind (afD _ _ h3.1 (by omega)) fun gu aD=>?_
  refine ab.bind (FZ _ _ aD.1 (by omega)) fun r5 bn=>?_
  have hl:=h2.2.2;refine ab.eq (dw (xs:=(r2.2.2.1:List bD)) (by decide) (by unfold aA;simp;omega)) ?_
  refine ab.ret ⟨bn.1.less (by omega),uN,Er,⟨by show((r2.2.2.1:List bD)++[_,_]).length<=3;simp;omega,fun n hn=>?_⟩,o7⟩
  have hn:n∈(r2.2.2.1:List bD)++[_,_]:=hn;rcases bo.1 hn with hn|hn
  ·exact xX.2 n hn
  ·simp only[bR,List.not_mem_nil,or_false] at hn;rcases hn with rfl|rfl
   ·exact aD.2
   ·exact bn.2
 ·exact ab.bind (afz _ _ h3.1 (by omega)) fun r hr=>ab.ret ⟨hr.1.less (by omega),uN,Er,xX,hr.2⟩
 ·exact ab.ret ⟨h3.1.less (by omega),uN,Er,xX,o7⟩
noncomputable abbrev avH:a8:=[(202,xo)]
theorem awH:aT O (aZ af avH):=aY ⟨Dm,⟨⟩⟩
abbrev i154:Shape:=⟨[ck 0 [ah,ah,br .need,br .entry]],[],13⟩
abbrev Y9:Shape:=⟨[ax 2 2 0],[bv 5000130 .need 2 2,bv 5000131 .entry 2 3,aw 2 [ah,ah,.own 5000130,.own 5000131]],13⟩
noncomputable def f154(a:i154.J):Option Y9.J:=
(cm 40 ([]:List bD) a.1.1.2.2.1).bind fun b=>
(f202 ((a.1.1.2.2.2.1,()),())).bind fun c=>
 some (((),()),b,c.2.1,(a.1.1.1,a.1.1.2.1,(),(),()),())
noncomputable def L4:aI:=aL af Tryz.f154 i154 Y9 [] f154
theorem z154:aF O 154 L4:=aM awH Tryz.func154 (by kernel_rfl) ag (fun y=>by kernel_rfl) fun a=>by kernel_rfl
noncomputable abbrev awe:a8:=[(154,L4)]
theorem abc:aT O (aZ af awe):=aY ⟨z154,⟨⟩⟩
abbrev Bc:Shape:=⟨[ax 1 1 0,ax 2 2 0,ax 3 3 0,aj 4],[aw 1 [br .pack],bv 5000128 .pack 2 0,aw 2 [.own 5000128],bv 5000192 .pack 3 0,aw 3 [.own 5000192]],25⟩
abbrev IB:List aR:=[(.exit 0,⟨[ax 2 2 0,ax 3 3 0],[bv 5000128 .pack 2 0,aw 2 [.own 5000128],bv 5000192 .pack 3 0,aw 3 [.own 5000192]],25⟩)]
noncomputable def BL(y:Bc.J):bQ Bc IB:=
 bif(decide (y.1.2.2.2.1<(y.2.1.1.length:Int))) then
(aS y.2.1.1 y.1.2.2.2.1).bind fun a=>
(f154 (((a.name,a.a6,a.bl,a.bI,()),()),())).bind fun b=>
(cm 80 y.2.2.2.2.1 ([(aJ.mk b.2.2.2.1.1 b.2.2.2.1.2.1 b.2.1 b.2.2.1)]:List aJ)).bind fun c=>
 some (.inl (((),(),(),(IntKind.i64.wrap (y.1.2.2.2.1+(1:Int))),()),(y.2.1.1,()),y.2.2.1,((),()),c,((),()),()))
else
 some (.inr (((),(),()),y.2.2.1,((),()),y.2.2.2.2.1,((),()),()))
noncomputable def Jb:Bc.J->Option (aH IB):=bA BL
theorem anK:aV O (ap (codeOf Tryz.f107) 1 58) (aX Bc IB Jb):=bT abc (by kernel_rfl) ag fun y=>by kernel_rfl
abbrev i107:Shape:=⟨[ck 0 [br .pack]],[],25⟩
abbrev ZH:Shape:=⟨[ax 2 2 0],[bv 5000128 .pack 2 0,aw 2 [.own 5000128]],25⟩
noncomputable def f107(a:i107.J):Option ZH.J:=
(Jb (((),(),(),(0:Int),()),(a.1.1.1,()),([]:List aJ),((),()),([]:List aJ),((),()),())).bind fun b=>
 some (((),()),b.2.2.2.1,((),()),())
noncomputable def aaK:aI:=aL af Tryz.f107 i107 ZH [] f107
theorem z107:aF O 107 aaK:=aM abc Tryz.func107 (by kernel_rfl) (a7 anK ag) (fun y=>by kernel_rfl) fun a=>by kernel_rfl
noncomputable abbrev avw:a8:=[(60,NM)]
theorem awB:aT O (aZ af avw):=aY ⟨abk,⟨⟩⟩
abbrev i174:Shape:=⟨[ck 0 [br .pack],aO 1 .pack],[],15⟩
abbrev YW:Shape:=⟨[ax 4 4 0,aj 5],[aw 4 [br .pack]],15⟩
noncomputable def f174(a:i174.J):Option YW.J:=
(f60 ((a.1.2.1,()),())).bind fun b=>
 bif(b.1.1 !=(0:Int)) then
 some (((),b.1.1,()),(a.1.1.1,()),())
else
 some (((),(0:Int),()),(a.1.2.1,()),())
noncomputable def _7:aI:=aL af Tryz.f174 i174 YW [] f174
theorem asY:aF O 174 _7:=aM awB Tryz.func174 (by kernel_rfl) ag (fun y=>by kernel_rfl) fun a=>by kernel_rfl
noncomputable abbrev avv:a8:=[(154,L4)]
theorem aaW:aT O (aZ af avv):=aY ⟨z154,⟨⟩⟩
abbrev AS:Shape:=⟨[aO 0 .pack,ax 3 3 0,bd 4 3000256,aj 5],[aw 3 [ah,ah,br .need,br .entry],bc 3000256 .pack 4 0],35⟩
abbrev Ig:List aR:=[(.exit 0,⟨[aO 0 .pack,ax 3 3 0,bd 4 3000256,aj 5],[aw 3 [ah,ah,br .need,br .entry],bc 3000256 .pack 4 0],35⟩)]
noncomputable def wb(y:AS.J):bQ AS Ig:=
 bif(decide (y.1.2.2.2.1<(y.1.1.length:Int))) then
(aS y.1.1 y.1.2.2.2.1).bind fun a=>
 bif(Op.bytesLess a.name y.2.1.1) then
 some (.inl ((y.1.1,(),(),(IntKind.i64.wrap (y.1.2.2.2.1+(1:Int))),()),(y.2.1.1,y.2.1.2.1,y.2.1.2.2.1,y.2.1.2.2.2.1,()),y.2.2.1,()))
else
 some (.inr ((y.1.1,(),(),y.1.2.2.2.1,()),(y.2.1.1,y.2.1.2.1,y.2.1.2.2.1,y.2.1.2.2.2.1,()),y.2.2.1,()))
else
 some (.inr ((y.1.1,(),(),y.1.2.2.2.1,()),(y.2.1.1,y.2.1.2.1,y.2.1.2.2.1,y.2.1.2.2.2.1,()),y.2.2.1,()))
noncomputable def Bi:AS.J->Option (aH Ig):=bA wb
theorem ang:aV O (ap (codeOf Tryz.f175) 1 28) (aX AS Ig Bi):=bT aaW (by kernel_rfl) ag fun y=>by kernel_rfl
abbrev i175:Shape:=⟨[aO 0 .pack,ck 1 [ah,ah,br .need,br .entry]],[],35⟩
abbrev YV:Shape:=⟨[bd 4 3000256],[bc 3000256 .pack 4 0],35⟩
noncomputable def f175(a:i175.J):Option YV.J:=
(Bi ((a.1.1,(),(),(0:Int),()),(a.1.2.1.1,a.1.2.1.2.1,a.1.2.1.2.2.1,a.1.2.1.2.2.2.1,()),([]:List aJ),())).bind fun b=>
(bq b.1.1 (0:Int) b.1.2.2.2.1).bind fun c=>
(cm 80 ([]:List aJ) c).bind fun d=>
(f154 (((b.2.1.1,b.2.1.2.1,b.2.1.2.2.1,b.2.1.2.2.2.1,()),()),())).bind fun e=>
(cm 80 d ([(aJ.mk e.2.2.2.1.1 e.2.2.2.1.2.1 e.2.1 e.2.2.1)]:List aJ)).bind fun f=>
(bq b.1.1 b.1.2.2.2.1 (b.1.1.length:Int)).bind fun g=>
(cm 80 f g).bind fun h=>
 some (((),()),h,())
noncomputable def _6:aI:=aL af Tryz.f175 i175 YV [] f175
theorem z175:aF O 175 _6:=aM aaW Tryz.func175 (by kernel_rfl) (a7 ang ag) (fun y=>by kernel_rfl) fun a=>by kernel_rfl
noncomputable abbrev av2:a8:=[(50,EJ),(160,L3),(174,_7),(175,_6)]
theorem awN:aT O (aZ af av2):=aY ⟨Mq,z160,asY,z175,⟨⟩⟩
abbrev i124:Shape:=⟨[ck 0 [br .pack],ck 1 [ah,ah,br .need,br .entry]],[],27⟩
abbrev Zu:Shape:=⟨[ax 4 4 0,aj 5],[aw 4 [br .pack]],27⟩
noncomputable def f124(a:i124.J):Option Zu.J:=
(f50 (((a.1.2.1.1,a.1.2.1.2.1,a.1.2.1.2.2.1,a.1.2.1.2.2.2.1,()),()),())).bind fun b=>
 bif(!b.1.1) then
 some (((),(1:Int),()),(a.1.1.1,()),())
else
(f160 ((a.1.1.1,a.1.2.1.1,()),())).bind fun c=>
 bif(decide (c.1.1>=(0:Int))) then
 some (((),(2:Int),()),(a.1.1.1,()),())
else
(f175 ((a.1.1.1,(a.1.2.1.1,a.1.2.1.2.1,a.1.2.1.2.2.1,a.1.2.1.2.2.2.1,()),()),())).bind fun d=>
(f174 (((a.1.1.1,()),d.2.1,()),())).bind fun e=>
 some (((),e.1.2.1,()),(e.2.1.1,()),())
noncomputable def aaA:aI:=aL af Tryz.f124 i124 Zu [] f124
theorem z124:aF O 124 aaA:=aM awN Tryz.func124 (by kernel_rfl) ag (fun y=>by kernel_rfl) fun a=>by kernel_rfl
noncomputable abbrev ar6:a8:=[(78,jl),(79,k3),(124,aaA),(125,Kz)]
theorem Xw:aT O (aZ af ar6):=aY ⟨jI,lU,z124,UE,⟨⟩⟩
abbrev zL:Shape:=⟨[ax 0 500000 0,ax 2 2 0,ax 3 3 0,aj 4],[aw 500000 [br .u8,ba],bv 5000128 .pack 2 0,aw 2 [.own 5000128],aw 3 [br .pack]],23⟩
abbrev GQ:List aR:=[(.exit 0,⟨[ax 0 500000 0,ax 2 2 0,ax 3 3 0],[aw 500000 [br .u8,ba],bv 5000128 .pack 2 0,aw 2 [.own 5000128],aw 3 [br .pack]],23⟩)]
noncomputable def SJ(y:zL.J):bQ zL GQ:=
 bif(decide (y.1.2.2.2.1>(0:Int))) then
(jK (((),([([111,110,101]:B),([116,119,111]:B),([116,104,114,101,101]:B),([122,105,112]:B)]:List B),()),(y.2.1.1,y.2.1.2.1,()),())).bind fun a=>
(wE (((),a.1.2.1,()),(a.2.1.1,a.2.1.2.1,()),())).bind fun b=>
(f124 (((y.2.2.2.2.1.1,()),(b.2.2.2.2.1.1,b.2.2.2.2.1.2.1,b.2.2.1,b.2.2.2.1,()),()),())).bind fun c=>
 some (.inl (((),(),(),(IntKind.i64.wrap (y.1.2.2.2.1-(1:Int))),()),(b.2.1.1,b.2.1.2.1,()),y.2.2.1,((),()),(c.2.1.1,()),()))
else
 some (.inr (((),(),(),()),(y.2.1.1,y.2.1.2.1,()),y.2.2.1,((),()),(y.2.2.2.2.1.1,()),()))
noncomputable def Sx:zL.J->Option (aH GQ):=bA SJ
theorem akS:aV O (ap (codeOf Tryz.f72) 1 58) (aX zL GQ Sx):=bT Xw (by kernel_rfl) ag fun y=>by kernel_rfl
abbrev Xd:Shape:=⟨[ax 0 500000 0],[aw 500000 [br .u8,ba]],23⟩
abbrev WZ:Shape:=⟨[ax 0 500000 0,ax 2 2 0],[aw 500000 [br .u8,ba],aw 2 [br .pack]],23⟩
noncomputable def wV(a:Xd.J):Option WZ.J:=
(gz (((),(5:Int),()),(a.2.1.1,a.2.1.2.1,()),())).bind fun b=>
(Sx (((),(),(),b.1.2.1,()),(b.2.1.1,b.2.1.2.1,()),([]:List aJ),((),()),(([]:List aJ),()),())).bind fun c=>
 some (((),(),()),(c.2.1.1,c.2.1.2.1,()),(c.2.2.2.2.1.1,()),())
noncomputable def KV:aI:=aL af Tryz.f72 Xd WZ [0] wV
theorem WK:aF O 72 KV:=aM Xw Tryz.func72 (by kernel_rfl) (a7 akS ag) (fun y=>by kernel_rfl) fun a=>by kernel_rfl
noncomputable abbrev ar7:a8:=[(72,KV),(78,jl),(107,aaK),(108,WB)]
theorem asb:aT O (aZ af ar7):=aY ⟨WK,jI,z107,aoP,⟨⟩⟩
abbrev Xf:Shape:=⟨[ax 0 500000 0],[aw 500000 [br .u8,ba]],29⟩
abbrev W2:Shape:=⟨[ax 0 500000 0,ax 2 2 0],[aw 500000 [br .u8,ba],aw 2 [br .pack]],29⟩
noncomputable def wW(a:Xf.J):Option W2.J:=
(wV (((),()),(a.2.1.1,a.2.1.2.1,()),())).bind fun b=>
(f107 (((b.2.2.1.1,()),()),())).bind fun c=>
(gz (((),(12:Int),()),(b.2.1.1,b.2.1.2.1,()),())).bind fun d=>
 bif(d.1.2.1==(0:Int)) then
(CN (((),()),(d.2.1.1,d.2.1.2.1,()),())).bind fun e=>
(cm 80 c.2.1 ([(aJ.mk e.2.2.2.2.1.1 e.2.2.2.2.1.2.1 e.2.2.1 e.2.2.2.1)]:List aJ)).bind fun f=>
 some (((),(),()),(e.2.1.1,e.2.1.2.1,()),(f,()),())
else
 bif(d.1.2.1==(1:Int)) then
 bif(decide ((c.2.1.length:Int)>(0:Int))) then
(bq c.2.1 (1:Int) (c.2.1.length:Int)).bind fun g=>
 some (((),(),()),(d.2.1.1,d.2.1.2.1,()),(g,()),())
else
 some (((),(),()),(d.2.1.1,d.2.1.2.1,()),(c.2.1,()),())
else
 some (((),(),()),(d.2.1.1,d.2.1.2.1,()),(c.2.1,()),())
noncomputable def KW:aI:=aL af Tryz.f58 Xf W2 [0] wW
theorem WL:aF O 58 KW:=aM asb Tryz.func58 (by kernel_rfl) ag (fun y=>by kernel_rfl) fun a=>by kernel_rfl
theorem aij(a)(hb:fS a.1.1)(hv:ko a.1.1):f60 a=some ((kb a.1.1,()),()):=by
 obtain⟨⟨ps,u⟩,b8⟩:=a;have hl:ps.length<=2097152:=hb.1;have key:Cm ((ps,((0:Int),())),())=some (bif allI (uE ps) 0 ps then .inr ((ps,()),()) else .inl (((1:Int),()),())):=by
  refine gw rk ps (fun i=>((ps,((i:Int),())),())) _ _ _ (fun i x hx=>?_) ?_
  ·have hi:=da hx;have hw:aA i:=by unfold aA;omega
   have qx:=hb.2 x (eK hx);simp only[rk,ct hi,ad,Bo,cd,hx,Y];rw[vG _ qx];simp only[Y,uE,DF];cases cx x with
   |false=>rfl
   |true=>
    simp only[bu,ak,Bool.true_and,nG];cases i with
    |zero=>simp only[beq_self_eq_true,bu,ak,Y,Bool.true_or,ad,b9 hw]
    |succ i=>
     have h0:(i+1==0)=false:=rfl;have jU:i<ps.length:=by omega
     obtain⟨q,aC⟩:∃q,ps[i]? =some q:=⟨ps[i],d_ jU⟩;simp only[h0,bK,ad,vw (i:=i) (by unfold aA;omega),cd,aC,hx,Y,Bool.false_or,Nat.add_sub_cancel]
     cases Op.bytesLess q.name x.name with
     |false=>rfl
     |true=>simp only[bu,ak,ad,b9 hw]
  ·simp only[rk,dK,ak]
 rw[TR] at key;have bn:decide ((ps.length:Int)>5)=!decide (ps.length<=5):=by by_cases h:ps.length<=5<;>simp only[h,decide_true,decide_false,bu,bK,dW,decide_eq_false_iff_not]<;>omega
 simp only[f60,key,Y,kb];cases er:(ps.all cx&&la ps) with
 |false=>rfl
 |true=>
  have hk:ps.all cx=true:=by simp only[bz] at er;exact er.1
  obtain⟨out,ay⟩:=RE ((ps,()),()) hb hk;have hn:=Qm ((ps,()),()) hb hv;simp only[ad,Y,ay,bn];cases decide (ps.length<=5) with
  |false=>rfl
  |true=>
   simp only[bu,ak,hn,Y];cases ps.all (fun p=>p.bl.all (iY ps))<;>cases (fQ [] ps).isSome<;>rfl
theorem RF(a)(h:jW ⟨a.1.1.1,a.1.1.2.1,a.1.1.2.2.1,a.1.1.2.2.2.1⟩):f154 a=some (((),()),(a.1.1.2.2.1,(a.1.1.2.2.2.1,((a.1.1.1,(a.1.1.2.1,((),((),())))),())))):=by
 obtain⟨⟨⟨name,a6,bl,bI,u⟩,b8⟩,nT⟩:=a;have h1:bl.length<=2097152:=h.2.2.1.1;have h2:=GM ((bI,()),()) h.2.2.2.1;simp only[f154,dw (show(40:Nat)<=100 by decide) (show aA (([]:List bD).length+bl.length) by unfold aA;simp;omega),List.nil_append,Y,h2]
def Ds(ps:List aJ)(n:B):Nat:=(ps.takeWhile fun p=>Op.bytesLess p.name n).length
theorem TL(ps:List aJ)(n:B):Ds ps n<=ps.length:=(List.takeWhile_prefix _).length_le
def lV(ps:List aJ)(p:aJ):List aJ:=ps.take (Ds ps p.name)++[p]++ps.drop (Ds ps p.name)
theorem Qk(ps:List aJ)(p:aJ):(lV ps p).length=ps.length+1:=by
 have:=TL ps p.name;unfold lV;simp only[dx,List.length_take,List.length_drop,cY,List.length_nil];omega
theorem Qj{ps:List aJ}{p x:aJ}(h:x∈lV ps p):x=p\/x∈ps:=by
 unfold lV at h;simp only[bo,List.mem_singleton] at h;rcases h with(h|h)|h
 ·exact .inr (List.mem_of_mem_take h)
 ·exact .inl h
 ·exact .inr (List.mem_of_mem_drop h)
theorem aj7{k:Nat}{ps:List aJ}{p:aJ}(h:pg k ps)(hp:ym p):pg (k+1) (lV ps p):=
 ⟨by rw[Qk];exact Nat.succ_le_succ h.1,fun x hx=>by
  rcases Qj hx with rfl|hx
  ·exact hp
  ·exact h.2 x hx⟩
theorem akb(a)(h1:a.1.1.length<=2097151)(hp:jW ⟨a.1.2.1.1,a.1.2.1.2.1,a.1.2.1.2.2.1,a.1.2.1.2.2.2.1⟩):f175 a=some (((),()),(lV a.1.1 ⟨a.1.2.1.1,a.1.2.1.2.1,a.1.2.1.2.2.1,a.1.2.1.2.2.2.1⟩,())):=by
 obtain⟨⟨ps,⟨name,a6,bl,bI,nh⟩,u⟩,b8⟩:=a;have h1:ps.length<=2097151:=h1;have key:∀(r:List aJ) (k:Nat),ps.drop k=r->k<=ps.length->Bi ((ps,((),((),((k:Int),())))),((name,(a6,(bl,(bI,())))),(([]:List aJ),())))=
   some ((ps,((),((),(((k+(r.takeWhile fun p=>Op.bytesLess p.name name).length:Nat):Int),())))),((name,(a6,(bl,(bI,())))),(([]:List aJ),()))):=by
  intro r;induction r with
  |nil=>
   intro k hr hk;have:=drop_nil hr;obtain rfl:k=ps.length:=by omega
   refine cC ?_
   simp only[wb,dK,ak,List.takeWhile_nil,List.length_nil,Nat.add_zero]
  |cons q r ih=>
   intro k hr hk;obtain⟨c1,c2,c3⟩:=drop_cons hr;have hw:aA k:=by unfold aA;omega
   rw[List.takeWhile_cons];cases aC:Op.bytesLess q.name name with
   |false=>
    refine cC ?_
    simp only[wb,ct c3,ad,cd,c1,Y,aC,ak];rfl
   |true=>
    have step:wb ((ps,((),((),((k:Int),())))),((name,(a6,(bl,(bI,())))),(([]:List aJ),())))=some (.inl ((ps,((),((),(((k+1:Nat):Int),())))),((name,(a6,(bl,(bI,())))),(([]:List aJ),())))):=by
     simp only[wb,ct c3,ad,cd,c1,Y,aC,b9 hw]
    refine Eq.trans (ea step) (Eq.trans (ih (k+1) c2 c3) ?_);simp only[if_true,cY];have e:k+1+(r.takeWhile fun p=>Op.bytesLess p.name name).length=k+((r.takeWhile fun p=>Op.bytesLess p.name name).length+1):=by omega
    rw[e]
 have key:=key ps 0 rfl (Nat.zero_le _);rw[Nat.zero_add] at key;have hk:(ps.takeWhile fun p=>Op.bytesLess p.name name).length=Ds ps name:=rfl
 rw[hk] at key;have key:Bi ((ps,((),((),((0:Int),())))),((name,(a6,(bl,(bI,())))),(([]:List aJ),())))=_:=key;have hle:=TL ps name;have e2:=RF (((name,(a6,(bl,(bI,())))),()),()) hp;simp only[f175,key,Y,gx hle,fC hle,e2];rw[dw (show(80:Nat)<=100 by decide) (by unfold aA;simp;omega)]
 simp only[List.nil_append,Y];rw[dw (show(80:Nat)<=100 by decide) (by unfold aA;simp;omega)]
 simp only[Y];rw[dw (show(80:Nat)<=100 by decide) (by unfold aA;simp;omega)]
 rfl
theorem amt(a)(hb:fS a.1.2.1)(hv:ko a.1.2.1):f174 a=some (((),(kb a.1.2.1,())),(((bif kb a.1.2.1==0 then a.1.2.1 else a.1.1.1),()),())):=by
 obtain⟨⟨⟨r,nh⟩,list,u⟩,b8⟩:=a;have e:=aij ((list,()),()) hb hv;simp only[f174,e,Y];have z:(kb list !=0)=!(kb list==0):=rfl;rw[z];cases hc:(kb list==0) with
 |false=>rfl
 |true=>
  have hc:kb list=0:=by simpa using hc
  simp only[bu,ak,ad];rw[hc]
def xO(ps:List aJ)(p:aJ):List aJ×Int:=bif cx p then(match ps.find? (fun q=>q.name==p.name) with
 |some _=>(ps,2)
 |none=>(bif kb (lV ps p)==0 then lV ps p else ps,kb (lV ps p))) else(ps,1)
theorem aoX(a)(k:Nat)(hk:k<=2000000)(h:pg k a.1.1.1)(hp:ym ⟨a.1.2.1.1,a.1.2.1.2.1,a.1.2.1.2.2.1,a.1.2.1.2.2.2.1⟩):f124 a=some (((),((xO a.1.1.1 ⟨a.1.2.1.1,a.1.2.1.2.1,a.1.2.1.2.2.1,a.1.2.1.2.2.2.1⟩).2,())),(((xO a.1.1.1 ⟨a.1.2.1.1,a.1.2.1.2.1,a.1.2.1.2.2.1,a.1.2.1.2.2.2.1⟩).1,()),())):=by
 obtain⟨⟨⟨ps,nh⟩,⟨name,a6,bl,bI,u1⟩,u⟩,b8⟩:=a;have h:pg k ps:=h;have hp:ym ⟨name,a6,bl,bI⟩:=hp;have hl:ps.length<=2000000:=Nat.le_trans h.1 hk;have e1:=vG (((name,(a6,(bl,(bI,())))),()),()) hp.1;simp only[f124,e1,Y,xO];cases cx ⟨name,a6,bl,bI⟩ with
 |false=>rfl
 |true=>
  simp only[bu,ak,ad];rcases RG ((ps,(name,())),()) (show ps.length<=2097152 by omega) with⟨j,q,g1,g2,g3⟩|⟨g1,g2⟩
  ·have g3:ps.find? (fun p=>p.name==name)=some q:=g3
   have hj:decide ((j:Int)>=0)=true:=by simp
   simp only[g1,Y,hj,ad,g3]
  ·have g2:ps.find? (fun p=>p.name==name)=none:=g2
   have hj:decide ((-1:Int)>=0)=false:=rfl;have hw:=aj7 h hp;have e2:=akb ((ps,((name,(a6,(bl,(bI,())))),())),()) (show ps.length<=2097151 by omega) hp.1
   have bE:=amt (((ps,()),(lV ps ⟨name,a6,bl,bI⟩,())),()) (hw.yD (by omega)) hw.vs
   simp only[g1,Y,hj,ak,g2,e2,bE]
theorem akc(a)(h:fS a.1.1.1):f107 a=some (((),()),(a.1.1.1,(((),()),()))):=by
 obtain⟨⟨⟨ps,nh⟩,u⟩,b8⟩:=a;have hl:ps.length<=2097152:=h.1;have key:=Re (S:=List aJ) BL ps (fun i acc=>(((),((),((),((i:Int),())))),((ps,()),(([]:List aJ),(((),()),(acc,(((),()),()))))))) (fun x acc=>acc++[x]) (fun acc=>(((),((),())),(([]:List aJ),(((),()),(acc,(((),()),())))))) (fun i acc=>acc.length=i) [] rfl (fun i x acc hx dH=>?_) (fun acc dH=>?_)
 ·have key:Jb (((),((),((),((0:Int),())))),((ps,()),(([]:List aJ),(((),()),(([]:List aJ),(((),()),()))))))=_:=key;have e:∀(l acc:List aJ),l.foldl (fun s x=>s++[x]) acc=acc++l:=by
   intro l;induction l with
   |nil=>intro acc;simp
   |cons x l ih=>intro acc;simp only[List.foldl_cons];rw[ih];simp
  simp only[f107,key,Y];rw[e];rfl
 ·have hi:=da hx;have hw:aA i:=by unfold aA;omega
  have e2:=RF (((x.name,(x.a6,(x.bl,(x.bI,())))),()),()) (h.2 x (eK hx));have ha:cm 80 acc [x]=some (acc++[x]):=dw (by decide) (by unfold aA;simp;omega)
  simp only[BL,ct hi,ad,cd,hx,Y,e2,ha,b9 hw];exact⟨trivial,by simp[dH]⟩
 ·simp only[BL,dK,ak]
abbrev iv(k:Nat)(ps:List aJ):Prop:=ps.length<=k/\∀p,p∈ps->sn p
theorem iv.ok{k:Nat}{ps:List aJ}(h:iv k ps):pg k ps:=⟨h.1,fun p hp=>(h.2 p hp).ok⟩
theorem apT{k:Nat}{ps:List aJ}{p:aJ}(h:iv k ps)(hp:sn p):iv (k+1) (xO ps p).1:=by
 have an:iv (k+1) ps:=⟨Nat.le_succ_of_le h.1,h.2⟩;unfold xO;cases cx p with
 |false=>exact an
 |true=>
  simp only[ad];cases ps.find? (fun q=>q.name==p.name) with
  |some q=>exact an
  |none=>
   simp only;cases kb (lV ps p)==0 with
   |false=>exact an
   |true=>
    refine⟨by show(lV ps p).length<=k+1;rw[Qk];exact Nat.succ_le_succ h.1,fun x hx=>?_⟩
    rcases Qj hx with rfl|hx
    ·exact hp
    ·exact h.2 x hx
theorem Qq(a)(m:Nat)(h:dj a.2.1.1 a.2.1.2.1 m)(hm:300<=m):ab (wV a) (fun r=>dj r.2.1.1 r.2.1.2.1 (m-300)/\iv 4 r.2.2.1.1):=by
 unfold wV;refine ab.bind (hJ _ m h (by omega)) fun r1 h1=>?_
 obtain⟨⟨v1,(q:Int),v2⟩,⟨⟨(b1:List Int),(iS:Int),v3⟩,v4⟩⟩:=r1;have hn:q<5:=h1.2.2 (by show(1:Int)<=5;decide)
 have h0:0<=q:=h1.2.1;refine ab.bind (P:=fun r=>dj r.2.1.1 r.2.1.2.1 (m-300)/\iv 4 r.2.2.2.2.1.1) ?_ fun r hr=>ab.ret hr
 refine ab.loop (fun(k:Nat) y=>k<=4/\(y.1.2.2.2.1:Int)=k/\dj y.2.1.1 y.2.1.2.1 (m-300+55*k)/\iv (4-k) y.2.2.2.2.1.1) (fun k y hy=>?_) q.toNat _ ⟨by omega,by show q=_;omega,h1.1.less (by omega),by show(0:Nat)<=_;omega,fun p hp=>by cases hp⟩
 obtain⟨⟨a',w2,cr,(i:Int),lu⟩,⟨⟨(bS:List Int),(h6:Int),ss⟩,pi,jY,⟨(ps:List aJ),ph⟩,iy⟩⟩:=y;obtain⟨cV,dZ,fb,fo⟩:=hy;have dZ:i=k:=dZ;subst dZ;have fb:dj bS h6 (m-300+55*k):=fb;have fo:iv (4-k) ps:=fo;unfold SJ;refine ab.ite (fun hc=>?_) fun hc=>ab.ret ⟨fb.less (by omega),Nat.le_trans fo.1 (by omega),fo.2⟩
 have hc:(k:Int)>0:=of_decide_eq_true hc;have hw:IntKind.i64.wrap ((k:Int)-1)=((k-1:Nat):Int):=by rw[c5 (by omega) (by omega)];omega
 refine ab.bind (k4 _ _ fb (by omega) (by simp)) fun r2 h2=>?_
 refine ab.bind (Qr _ _ h2.1 (by omega) (J0 (by rfl) h2.2)) fun dE h3=>?_
 refine ab.eq (aoX (((ps,()),((dE.2.2.2.2.1.1,(dE.2.2.2.2.1.2.1,(dE.2.2.1,(dE.2.2.2.1,())))),())),()) (4-k) (by omega) fo.ok h3.2.1.ok) ?_
 refine ab.ret ⟨k-1,by omega,by omega,hw,h3.1.less (by omega),?_⟩
 have:=apT fo h3.2.1;exact⟨Nat.le_trans this.1 (by omega),this.2⟩
theorem afA(a)(m:Nat)(h:dj a.2.1.1 a.2.1.2.1 m)(hm:500<=m):ab (wW a) (fun r=>dj r.2.1.1 r.2.1.2.1 (m-500)/\iv 5 r.2.2.1.1):=by
 unfold wW;refine ab.bind (Qq _ m h (by omega)) fun r1 h1=>?_
 obtain⟨nh,⟨u1,⟨(ps:List aJ),u2⟩,sx⟩⟩:=r1;have hr:iv 4 ps:=h1.2;have mY:=hr.1;refine ab.eq (akc (((ps,()),()),()) (hr.ok.yD (by decide))) ?_
 refine ab.bind (hJ _ _ h1.1 (by omega)) fun r2 h2=>?_
 have dq:iv 5 ps:=⟨Nat.le_succ_of_le hr.1,hr.2⟩;refine ab.ite (fun _=>?_) fun _=>ab.ite (fun _=>?_) fun _=>ab.ret ⟨h2.1.less (by omega),dq⟩
 ·refine ab.bind (afC _ _ h2.1 (by omega)) fun dE h3=>?_
  refine ab.eq (dw (xs:=ps) (by decide) (by unfold aA;simp;omega)) ?_
  refine ab.ret ⟨h3.1.less (by omega),by show(ps++[_]).length<=5;simp;omega,fun e he=>?_⟩
  have he:e∈ps++[_]:=he;rcases bo.1 he with he|he
  ·exact hr.2 e he
  ·rw[List.mem_singleton.1 he];exact h3.2
 ·refine ab.ite (fun hc=>?_) fun _=>ab.ret ⟨h2.1.less (by omega),dq⟩
  have hc:(ps.length:Int)>0:=of_decide_eq_true hc;refine ab.eq (fC (xs:=ps) (a:=1) (by omega)) ?_
  exact ab.ret ⟨h2.1.less (by omega),by show(ps.drop 1).length<=5;rw[List.length_drop];omega,fun e he=>hr.2 e (List.mem_of_mem_drop he)⟩
def uq(t:List aB)(p:B):Option aB:=match t[bW t p]? with
 |some e=>bif e.path==p then some e else none
 |none=>none
theorem an6{t:List aB}{p:B}{e:aB}(h:uq t p=some e):t[bW t p]? =some e/\e.path=p:=by
 unfold uq at h;cases ay:t[bW t p]? with
 |none=>rw[ay] at h;cases h
 |some x=>
  rw[ay] at h;cases hx:(x.path==p) with
  |false=>simp[hx] at h
  |true=>simp only[hx,ad,bH] at h;subst h;exact⟨rfl,eq_of_beq hx⟩
theorem apK{t:List aB}(ha:ga t){k:Nat}{e:aB}(h:t[k]? =some e):bW t e.path=k:=by
 have h1:=kU (p:=e.path) ha k e h;have h2:Op.bytesLess e.path e.path=false:=wF _;rw[h1] at h2;have h2:¬k<bW t e.path:=of_decide_eq_false h2;rcases Nat.lt_or_ge (bW t e.path) k with h3|h3
 ·exfalso
  have aD:bW t e.path<t.length:=Nat.lt_trans h3 (da h);have bn:=d_ aD;have cl:=kU (p:=e.path) ha (bW t e.path) t[bW t e.path] bn;have iB:Op.bytesLess (t[bW t e.path]).path e.path=true:=by
   have hp:=List.pairwise_iff_getElem.1 ha (bW t e.path) k aD (da h) h3;have:t[k]'(da h)=e:=by
    have:=d_ (da h);rw[h] at this;exact(Option.some.inj this).symm
   rw[this] at hp;exact hp
  rw[iB] at cl;have:=of_decide_eq_true cl.symm;omega
 ·omega
theorem SI{t:List aB}(ha:ga t){p:B}{e:aB}:uq t p=some e <-> e∈t/\e.path=p:=by
 constructor
 ·intro h;obtain⟨h1,h2⟩:=an6 h;exact⟨eK h1,h2⟩
 ·rintro⟨h1,rfl⟩;obtain⟨k,hk⟩:=List.mem_iff_getElem?.1 h1;have:=apK ha hk;unfold uq;rw[this,hk];simp
theorem ap9{a b:aB}(h:kP a b=true):a=b:=by
 unfold kP at h;simp only[bz,beq_iff_eq] at h;obtain⟨h1,h2,h3,aD⟩:=h;cases a;cases b;simp only at h1 h2 h3 aD;subst h1 h2 h3 aD;rfl
theorem SB{t:List aB}{k:Nat}{e x:aB}:x∈j' t k e <-> x=e\/x∈t:=by
 constructor
 ·exact Gx
 ·unfold j';intro h;rcases h with rfl|h
  ·simp
  ·have:x∈t.take k++t.drop k:=by rw[List.take_append_drop];exact h
   simp only[bo,List.mem_singleton] at this ⊢;rcases this with h|h
   ·exact .inl (.inl h)
   ·exact .inr h
theorem akE{out D:List aB}{e:aB}(h:ij out e=some D)(x:aB):x∈D <-> x=e\/x∈out:=by
 unfold ij at h;split at h
 ·rename_i q aC;cases hp:(q.path==e.path) with
  |true=>
   rw[hp] at h;cases hc:mP e q with
   |true=>rw[hc] at h;cases h
   |false=>
    rw[hc] at h;cases h;have:kP e q=true:=by
     unfold mP at hc;simp only[Bool.or_eq_false_iff,Bool.not_eq_false'] at hc;exact hc.2
    have:=ap9 this;subst this;constructor
    ·exact .inr
    ·rintro(rfl|h)
     ·exact eK aC
     ·exact h
  |false=>rw[hp] at h;cases h;exact SB
 ·cases h;exact SB
theorem alL:∀{es out D:List aB},gZ out es=some D->∀x,x∈D <-> x∈out\/x∈es:=by
 intro es;induction es with
 |nil=>intro out D h x;simp only[gZ,bH] at h;subst h;simp
 |cons e r ih=>
  intro out D h x;rw[vq] at h;obtain⟨o1,h1,h2⟩:=Option.bind_eq_some_iff.1 h;rw[ih h2,akE h1,bR];constructor
  ·rintro((h|h)|h)
   ·exact .inr (.inl h)
   ·exact .inl h
   ·exact .inr (.inr h)
  ·rintro(h|h|h)
   ·exact .inl (.inr h)
   ·exact .inl (.inl h)
   ·exact .inr h
theorem aiE:∀{ps:List aJ} {out t:List aB},fQ out ps=some t->∀x,x∈t <-> x∈out\/∃p,p∈ps/\x∈p.bI:=by
 intro ps;induction ps with
 |nil=>intro out t h x;simp only[fQ,bH] at h;subst h;simp
 |cons p r ih=>
  intro out t h x;rw[yQ] at h;obtain⟨D,h1,h2⟩:=Option.bind_eq_some_iff.1 h;rw[ih h2,alL (zK h1).2];constructor
  ·rintro((h|h)|⟨q,h,an⟩)
   ·exact .inl h
   ·exact .inr ⟨p,cj,h⟩
   ·exact .inr ⟨q,ci _ h,an⟩
  ·rintro(h|⟨q,h,an⟩)
   ·exact .inl (.inl h)
   ·rcases bR.1 h with rfl|h
    ·exact .inl (.inr an)
    ·exact .inr ⟨q,h,an⟩
theorem aiD:∀{ps:List aJ} {out t:List aB},dQ out=true->fQ out ps=some t->dQ t=true:=by
 intro ps;induction ps with
 |nil=>intro out t aP h;simp only[fQ,bH] at h;subst h;exact aP
 |cons p r ih=>
  intro out t aP h;rw[yQ] at h;obtain⟨D,h1,h2⟩:=Option.bind_eq_some_iff.1 h;exact ih (zK h1).1 h2
structure yK(ps:List aJ)(t:List aB):Prop where
 bI:fQ [] ps=some t
 art:ps.all cx=true
 aDj:ps.Pairwise fun p q=>Op.bytesLess p.name q.name=true
section
variable {ps:List aJ}{t:List aB}(R:yK ps t)
include R
theorem yK.ok:dQ t=true:=aiD (by rfl) R.bI
theorem yK.aBw{p:aJ}(h:p∈ps):iV p.name=true/\dQ p.bI=true:=by
 have:=List.all_eq_true.1 R.art p h;unfold cx at this;simp only[bz] at this;exact⟨this.1.1.1,this.2⟩
theorem yK.aBr{p:aJ}(h:p∈ps):ga p.bI:=FC (R.aBw h).2
theorem yK.up{p:aJ}(h:p∈ps){path:B}{e:aB}(he:uq p.bI path=some e):uq t path=some e:=by
 obtain⟨aG,aK⟩:=(SI (R.aBr h)).1 he;exact(SI (FC R.ok)).2 ⟨(aiE R.bI e).2 (.inr ⟨p,h,aG⟩),aK⟩
end
abbrev AU:Shape:=⟨[aO 0 .entry,aO 1 .entry,aj 5],[],26⟩
abbrev Ii:List aR:=[(.ret,⟨[ar 4],[],26⟩),(.exit 0,⟨[],[],26⟩)]
noncomputable def By(y:AU.J):bQ AU Ii:=
 bif(decide (y.1.2.2.1<(y.1.1.length:Int))) then
(aS y.1.1 y.1.2.2.1).bind fun a=>
(aS y.1.2.1 y.1.2.2.1).bind fun b=>
 bif(!((a.path==b.path)&&((a.kind==b.kind)&&((a.mode==b.mode)&&(a.text==b.text))))) then
 some (.inr (.inl ((false,()),())))
else
 some (.inl ((y.1.1,y.1.2.1,(IntKind.i64.wrap (y.1.2.2.1+(1:Int))),()),()))
else
 some (.inr (.inr ((),())))
noncomputable def I1:AU.J->Option (aH Ii):=bA By
theorem anl:aV O (ap (codeOf Tryz.f163) 1 58) (aX AU Ii I1):=bT g0 (by kernel_rfl) ag fun y=>by kernel_rfl
abbrev i163:Shape:=⟨[aO 0 .entry,aO 1 .entry],[],26⟩
abbrev Y4:Shape:=⟨[ar 4],[],26⟩
noncomputable def f163(a:i163.J):Option Y4.J:=
 bif((a.1.1.length:Int) !=(a.1.2.1.length:Int)) then
 some ((false,()),())
else
(I1 ((a.1.1,a.1.2.1,(0:Int),()),())).bind fun b=>
(match b with
|.inl c=>
 some ((c.1.1,()),())
|.inr d=>
 some ((true,()),()))
noncomputable def aae:aI:=aL af Tryz.f163 i163 Y4 [] f163
theorem as3:aF O 163 aae:=aM g0 Tryz.func163 (by kernel_rfl) (a7 anl ag) (fun y=>by kernel_rfl) fun a=>by kernel_rfl
theorem aq9{t:bi}{xs:List (den t)}(h:lp (.sl t xs)):xs.length<=maxLen/\∀x,x∈xs->∀d,d∈enc t x->lp d:=by cases h;exact⟨by assumption,by assumption⟩
theorem aj8{xs:List Int}(h:lp (.sl .u8 xs)):∀x,x∈xs->0<=x/\x<=255:=by
 intro x hx;have:=(aq9 h).2 x hx (.int .u8 x) (by simp[enc])
 cases this with
 |int k n hw=>
  simp only[Lit.wf,bz,dW] at hw;have h1:(0:Int)<=x:=hw.1;have h2:x<=(255:Int):=hw.2;exact⟨h1,h2⟩
theorem amC{code:List Int}(h:∀x,x∈code->0<=x/\x<=255):dj (code.take 2000) 0 1000000:=
 ⟨by rw[List.length_take];omega,fun x hx=>h x (List.mem_of_mem_take hx),Int.le_refl _,by decide⟩
theorem FU{aE:Type}:∀(xs:List aE) (i:Nat),allI (fun _ _=>true) i xs=true:=by
 intro xs;induction xs with
 |nil=>intro i;rfl
 |cons x r ih=>intro i;simp only[allI,ih,Bool.and_self]
theorem akn(a)(h:a.1.1=a.1.2.1)(hl:cw a.1.1.length):f163 a=some ((true,()),()):=by
 obtain⟨⟨xs,bm,u⟩,b8⟩:=a;have h:xs=bm:=h;subst h;have hs:xs.length<=2097152:=hl;have key:I1 ((xs,(xs,((0:Int),()))),())=some (bif allI (fun _ _=>true) 0 xs then .inr ((),()) else .inl ((false,()),())):=by
  refine gw By xs (fun i=>((xs,(xs,((i:Int),()))),())) _ _ _ (fun i x hx=>?_) ?_
  ·have hi:=da hx;have hw:aA i:=by unfold aA;omega
   simp only[By,ct hi,ad,cd,hx,Y,beq_self_eq_true,Bool.and_self,bu,ak,b9 hw]
  ·simp only[By,dK,ak]
 rw[FU] at key;have hb:((xs.length:Int) !=(xs.length:Int))=false:=by simp
 simp only[f163,hb,ak,key,ad,Y]
abbrev AV:Shape:=⟨[aO 0 .need,aO 1 .need,aj 5],[],26⟩
abbrev Ij:List aR:=[(.ret,⟨[ar 4],[],26⟩),(.exit 0,⟨[],[],26⟩)]
noncomputable def Bz(y:AV.J):bQ AV Ij:=
 bif(decide (y.1.2.2.1<(y.1.1.length:Int))) then
(aS y.1.1 y.1.2.2.1).bind fun a=>
(aS y.1.2.1 y.1.2.2.1).bind fun b=>
 bif(!((a.name==b.name)&&((a.kind==b.kind)&&(a.a6==b.a6)))) then
 some (.inr (.inl ((false,()),())))
else
 some (.inl ((y.1.1,y.1.2.1,(IntKind.i64.wrap (y.1.2.2.1+(1:Int))),()),()))
else
 some (.inr (.inr ((),())))
noncomputable def I2:AV.J->Option (aH Ij):=bA Bz
theorem anm:aV O (ap (codeOf Tryz.f162) 1 58) (aX AV Ij I2):=bT g0 (by kernel_rfl) ag fun y=>by kernel_rfl
abbrev i162:Shape:=⟨[aO 0 .need,aO 1 .need],[],26⟩
abbrev Y5:Shape:=⟨[ar 4],[],26⟩
noncomputable def f162(a:i162.J):Option Y5.J:=
 bif((a.1.1.length:Int) !=(a.1.2.1.length:Int)) then
 some ((false,()),())
else
(I2 ((a.1.1,a.1.2.1,(0:Int),()),())).bind fun b=>
(match b with
|.inl c=>
 some ((c.1.1,()),())
|.inr d=>
 some ((true,()),()))
noncomputable def aaf:aI:=aL af Tryz.f162 i162 Y5 [] f162
theorem z162:aF O 162 aaf:=aM g0 Tryz.func162 (by kernel_rfl) (a7 anm ag) (fun y=>by kernel_rfl) fun a=>by kernel_rfl
noncomputable abbrev awb:a8:=[(162,aaf),(163,aae)]
theorem awS:aT O (aZ af awb):=aY ⟨z162,as3,⟨⟩⟩
abbrev i111:Shape:=⟨[ck 0 [ah,ah,br .need,br .entry],ck 1 [ah,ah,br .need,br .entry]],[],31⟩
abbrev ZE:Shape:=⟨[ar 4],[],31⟩
noncomputable def f111(a:i111.J):Option ZE.J:=
 bif(a.1.1.1==a.1.2.1.1) then
 bif(a.1.1.2.1==a.1.2.1.2.1) then
(f162 ((a.1.1.2.2.1,a.1.2.1.2.2.1,()),())).bind fun b=>
 bif b.1.1 then
(f163 ((a.1.1.2.2.2.1,a.1.2.1.2.2.2.1,()),())).bind fun c=>
 some ((c.1.1,()),())
else
 some ((false,()),())
else
 some ((false,()),())
else
 some ((false,()),())
noncomputable def aaH:aI:=aL af Tryz.f111 i111 ZE [] f111
theorem atj:aF O 111 aaH:=aM awS Tryz.func111 (by kernel_rfl) ag (fun y=>by kernel_rfl) fun a=>by kernel_rfl
noncomputable abbrev aAh:a8:=[(111,aaH)]
theorem adS:aT O (aZ af aAh):=aY ⟨atj,⟨⟩⟩
abbrev Cb:Shape:=⟨[aO 0 .pack,aO 1 .pack,aj 5],[],27⟩
abbrev JP:List aR:=[(.ret,⟨[ar 4],[],27⟩),(.exit 0,⟨[],[],27⟩)]
noncomputable def CC(y:Cb.J):bQ Cb JP:=
 bif(decide (y.1.2.2.1<(y.1.1.length:Int))) then
(aS y.1.1 y.1.2.2.1).bind fun a=>
(aS y.1.2.1 y.1.2.2.1).bind fun b=>
(f111 (((a.name,a.a6,a.bl,a.bI,()),(b.name,b.a6,b.bl,b.bI,()),()),())).bind fun c=>
 bif(!c.1.1) then
 some (.inr (.inl ((false,()),())))
else
 some (.inl ((y.1.1,y.1.2.1,(IntKind.i64.wrap (y.1.2.2.1+(1:Int))),()),()))
else
 some (.inr (.inr ((),())))
noncomputable def Kb:Cb.J->Option (aH JP):=bA CC
theorem apt:aV O (ap (codeOf Tryz.f62) 1 58) (aX Cb JP Kb):=bT adS (by kernel_rfl) ag fun y=>by kernel_rfl
abbrev i62:Shape:=⟨[aO 0 .pack,aO 1 .pack],[],27⟩
abbrev abS:Shape:=⟨[ar 4],[],27⟩
noncomputable def f62(a:i62.J):Option abS.J:=
 bif((a.1.1.length:Int) !=(a.1.2.1.length:Int)) then
 some ((false,()),())
else
(Kb ((a.1.1,a.1.2.1,(0:Int),()),())).bind fun b=>
(match b with
|.inl c=>
 some ((c.1.1,()),())
|.inr d=>
 some ((true,()),()))
noncomputable def adt:aI:=aL af Tryz.f62 i62 abS [] f62
theorem aw7:aF O 62 adt:=aM adS Tryz.func62 (by kernel_rfl) (a7 apt ag) (fun y=>by kernel_rfl) fun a=>by kernel_rfl
noncomputable abbrev aAA:a8:=[(62,adt)]
theorem aA2:aT O (aZ af aAA):=aY ⟨aw7,⟨⟩⟩
abbrev i32:Shape:=⟨[ck 0 [br .pack],ck 1 [br .pack]],[],10⟩
abbrev ab9:Shape:=⟨[ar 4],[],10⟩
noncomputable def f32(a:i32.J):Option ab9.J:=
(f62 ((a.1.1.1,a.1.2.1.1,()),())).bind fun b=>
 some ((b.1.1,()),())
noncomputable def yf:aI:=aL af Tryz.f32 i32 ab9 [] f32
theorem D2:aF O 32 yf:=aM aA2 Tryz.func32 (by kernel_rfl) ag (fun y=>by kernel_rfl) fun a=>by kernel_rfl
theorem ais(a)(h:a.1.1=a.1.2.1)(hl:cw a.1.1.length):f162 a=some ((true,()),()):=by
 obtain⟨⟨xs,bm,u⟩,b8⟩:=a;have h:xs=bm:=h;subst h;have hs:xs.length<=2097152:=hl;have key:I2 ((xs,(xs,((0:Int),()))),())=some (bif allI (fun _ _=>true) 0 xs then .inr ((),()) else .inl ((false,()),())):=by
  refine gw Bz xs (fun i=>((xs,(xs,((i:Int),()))),())) _ _ _ (fun i x hx=>?_) ?_
  ·have hi:=da hx;have hw:aA i:=by unfold aA;omega
   simp only[Bz,ct hi,ad,cd,hx,Y,beq_self_eq_true,Bool.and_self,bu,ak,b9 hw]
  ·simp only[Bz,dK,ak]
 rw[FU] at key;have hb:((xs.length:Int) !=(xs.length:Int))=false:=by simp
 simp only[f162,hb,ak,key,ad,Y]
theorem RM(a)(h:a.1.1.1=a.1.2.1.1)(hl:fS a.1.1.1):f32 a=some ((true,()),()):=by
 obtain⟨⟨⟨xs,nh⟩,⟨bm,u1⟩,u⟩,b8⟩:=a;have h:xs=bm:=h;subst h;have hs:xs.length<=2097152:=hl.1;have key:Kb ((xs,(xs,((0:Int),()))),())=some (bif allI (fun _ _=>true) 0 xs then .inr ((),()) else .inl ((false,()),())):=by
  refine gw CC xs (fun i=>((xs,(xs,((i:Int),()))),())) _ _ _ (fun i x hx=>?_) ?_
  ·have hi:=da hx;have hw:aA i:=by unfold aA;omega
   have qx:=hl.2 x (eK hx);have e1:=ais ((x.bl,(x.bl,())),()) rfl qx.2.2.1.1;have e2:=akn ((x.bI,(x.bI,())),()) rfl qx.2.2.2.1;simp only[CC,ct hi,ad,cd,hx,Y,f111,beq_self_eq_true,e1,e2,bu,ak,b9 hw]
  ·simp only[CC,dK,ak]
 rw[FU] at key;have hb:((xs.length:Int) !=(xs.length:Int))=false:=by simp
 simp only[f32,f62,hb,ak,key,ad,Y]
noncomputable abbrev aAF:a8:=[(58,KW)]
theorem aA6:aT O (aZ af aAF):=aY ⟨WL,⟨⟩⟩
abbrev i26:Shape:=⟨[aO 0 .u8],[],6⟩
abbrev acf:Shape:=⟨[ax 2 2 0],[aw 2 [br .pack]],6⟩
noncomputable def f26(a:i26.J):Option acf.J:=
(wW (((),()),((a.1.1.take 2000),(0:Int),()),())).bind fun b=>
 some (((),()),(b.2.2.1.1,()),())
noncomputable def adE:aI:=aL af Tryz.f26 i26 acf [] f26
theorem axg:aF O 26 adE:=aM aA6 Tryz.func26 (by kernel_rfl) ag (fun y=>by kernel_rfl) fun a=>by kernel_rfl
abbrev i28:Shape:=⟨[ck 0 [ah,ah],ck 1 [ah,ah]],[],17⟩
abbrev acd:Shape:=⟨[ar 4],[],17⟩
noncomputable def f28(a:i28.J):Option acd.J:=
 bif(a.1.1.1==a.1.2.1.1) then
 some (((a.1.1.2.1==a.1.2.1.2.1),()),())
else
 some ((false,()),())
noncomputable def yh:aI:=aL af Tryz.f28 i28 acd [] f28
theorem z28:aF O 28 yh:=aM g0 Tryz.func28 (by kernel_rfl) ag (fun y=>by kernel_rfl) fun a=>by kernel_rfl
noncomputable abbrev aAi:a8:=[(66,NL)]
theorem adT:aT O (aZ af aAi):=aY ⟨abj,⟨⟩⟩
abbrev U8:Shape:=⟨[am 4,am 5,ar 6],[],20⟩
abbrev US:List aR:=[(.norm,⟨[am 4,ar 18],[],20⟩)]
noncomputable def CD(y:U8.J):Option (aH US):=
 bif(!(!y.1.2.2.1)) then
 some ((y.1.1,(!(y.1.2.1==([101,110,100,10]:B))),()),())
else
 some ((y.1.1,true,()),())
theorem apu:aV O (ap (codeOf Tryz.f61) 1 28) (aX U8 US CD):=cn adT (by kernel_rfl) ag fun y=>by kernel_rfl
abbrev i61:Shape:=⟨[am 0],[],20⟩
abbrev abT:Shape:=⟨[am 2,ar 3],[],20⟩
noncomputable def f61(a:i61.J):Option abT.J:=
(f66 ((a.1.1,()),())).bind fun b=>
(CD ((b.1.1,b.1.2.1,b.1.2.2.1,()),())).bind fun c=>
 bif c.1.2.1 then
 some ((([]:B),false,()),())
else
 some ((c.1.1,true,()),())
noncomputable def adu:aI:=aL af Tryz.f61 i61 abT [] f61
theorem aw8:aF O 61 adu:=aM adT Tryz.func61 (by kernel_rfl) (a7 apu ag) (fun y=>by kernel_rfl) fun a=>by kernel_rfl
noncomputable abbrev aAB:a8:=[(27,yi),(35,NP),(61,adu)]
theorem ad0:aT O (aZ af aAB):=aY ⟨D3,abn,aw8,⟨⟩⟩
abbrev U':Shape:=⟨[ax 1 1 0,ax 2 2 0,ax 3 3 0,ar 4,am 5,ar 6],[aw 1 [ah,ah],bv 5000128 .pack 2 0,aw 2 [.own 5000128],aw 3 [ah,ah]],31⟩
abbrev UV:List aR:=[(.norm,⟨[ax 2 2 0,ax 3 3 0,ar 4,am 5],[bv 5000128 .pack 2 0,aw 2 [.own 5000128],aw 3 [ah,ah]],31⟩)]
noncomputable def Kl(y:U'.J):Option (aH UV):=
 bif(!y.1.2.2.2.2.2.1) then
 some (((),(),y.1.2.2.2.1,y.2.1.1,()),y.2.2.1,((),()),(y.2.2.2.2.1.1,y.2.2.2.2.1.2.1,()),())
else
 some (((),(),y.1.2.2.2.1,y.1.2.2.2.2.1,()),y.2.2.1,((),()),(y.2.2.2.2.1.1,y.2.2.2.2.1.2.1,()),())
theorem apD:aV O (ap (codeOf Tryz.f31) 1 14) (aX U' UV Kl):=cn ad0 (by kernel_rfl) ag fun y=>by kernel_rfl
abbrev i31:Shape:=⟨[ck 0 [ah,ah]],[],31⟩
abbrev xJ:Shape:=⟨[ax 2 2 0,ax 3 3 0,ar 4],[bv 5000128 .pack 2 0,aw 2 [.own 5000128],aw 3 [ah,ah]],31⟩
noncomputable def f31(a:i31.J):Option xJ.J:=
(f61 ((a.1.1.2.1,()),())).bind fun b=>
(Kl (((),(),(),false,b.1.1,b.1.2.1,()),(a.1.1.1,a.1.1.2.1,()),([]:List aJ),((),()),(([]:B),([]:B),()),())).bind fun c=>
(f35 ((c.1.2.2.2.1,()),())).bind fun d=>
 bif(!d.1.2.1) then
 some (((),(),false,()),([]:List aJ),((),()),(([]:B),([]:B),()),())
else
(f27 (((d.2.1,()),()),())).bind fun e=>
 some (((),(),true,()),d.2.1,((),()),(e.2.1.1,e.2.1.2.1,()),())
noncomputable def yg:aI:=aL af Tryz.f31 i31 xJ [] f31
theorem z31:aF O 31 yg:=aM ad0 Tryz.func31 (by kernel_rfl) (a7 apD ag) (fun y=>by kernel_rfl) fun a=>by kernel_rfl
noncomputable abbrev aBW:a8:=[(14,qC),(26,adE),(27,yi),(28,yh),(29,EL),(30,so),(31,yg),(32,yf)]
theorem E_:aT O (aZ af aBW):=aY ⟨xy,axg,D3,z28,Mr,uA,z31,D2,⟨⟩⟩
abbrev U6:Shape:=⟨[ar 2,ax 3 3 0,ax 4 4 0],[aw 3 [br .pack],aw 4 [ah,ah]],53⟩
abbrev UQ:List aR:=[(.norm,⟨[ar 2,ax 3 3 0,ax 4 4 0,ar 24],[aw 3 [br .pack],aw 4 [ah,ah]],53⟩)]
noncomputable def We(y:U6.J):Option (aH UQ):=
(f29 (((y.2.1.1,()),()),())).bind fun a=>
(f28 (((y.2.2.1.1,y.2.2.1.2.1,()),(a.2.1.1,a.2.1.2.1,()),()),())).bind fun b=>
 bif(!b.1.1) then
 some ((y.1.1,(),(),true,()),(y.2.1.1,()),(y.2.2.1.1,y.2.2.1.2.1,()),())
else
(f30 (((y.2.1.1,()),()),())).bind fun c=>
 some ((y.1.1,(),(),(!c.1.1),()),(y.2.1.1,()),(y.2.2.1.1,y.2.2.1.2.1,()),())
theorem apq:aV O (ap (codeOf Tryz.f6) 1 124) (aX U6 UQ We):=cn E_ (by kernel_rfl) ag fun y=>by kernel_rfl
abbrev i6:Shape:=⟨[aO 0 .u8],[],53⟩
abbrev ys:Shape:=⟨[ar 2],[],53⟩
noncomputable def f6(a:i6.J):Option ys.J:=
 bif(decide ((a.1.1.length:Int)>(1048576:Int))) then
 some ((true,()),())
else
(f26 ((a.1.1,()),())).bind fun b=>
(f27 (((b.2.1.1,()),()),())).bind fun c=>
(We ((false,(),(),()),(b.2.1.1,()),(c.2.1.1,c.2.1.2.1,()),())).bind fun d=>
 bif d.1.2.2.2.1 then
(f29 (((d.2.1.1,()),()),())).bind fun e=>
(f28 (((d.2.2.1.1,d.2.2.1.2.1,()),(e.2.1.1,e.2.1.2.1,()),()),())).bind fun f=>
 some ((f.1.1,()),())
else
(f31 (((d.2.2.1.1,d.2.2.1.2.1,()),()),())).bind fun g=>
(f14 (((d.2.2.1.1,d.2.2.1.2.1,()),()),())).bind fun h=>
 bif(h.1.1==g.1.2.2.1) then
 bif(!(!g.1.2.2.1)) then
(f32 (((g.2.1,()),(d.2.1.1,()),()),())).bind fun i=>
 bif i.1.1 then
(f28 (((g.2.2.2.1.1,g.2.2.2.1.2.1,()),(d.2.2.1.1,d.2.2.1.2.1,()),()),())).bind fun j=>
 some ((j.1.1,()),())
else
 some ((false,()),())
else
 some ((true,()),())
else
 some ((false,()),())
noncomputable def Oy:aI:=aL af Tryz.f6 i6 ys [] f6
theorem N0:aF O 6 Oy:=aM E_ Tryz.func6 (by kernel_rfl) (a7 apq ag) (fun y=>by kernel_rfl) fun a=>by kernel_rfl
def gh(s:B):Option B:=match ji s with|some (x,y)=>bif y==kI then some x else none|none=>none
theorem aih(s:B)(hs:aA s.length):f61 ((s,()),())=some ((((gh s).getD [],((gh s).isSome,()))),()):=by
 have e1:=Fq s hs;unfold gh;cases hz:ji s with
 |none=>
  rw[hz] at e1;simp only[f61,e1,Y,CD,Option.isSome_none,bK,bu,ak,ad];rfl
 |some q=>
  obtain⟨x,y⟩:=q;rw[hz] at e1;have hw:(y==([101,110,100,10]:B))=(y==kI):=rfl;simp only[f61,e1,Y,CD,Option.isSome_some,Option.getD_some,bu,bK,ad,hw];cases y==kI<;>rfl
abbrev aey(ps:List aJ)(d:B):xJ.J:=(((),((),(true,()))),(ps,(((),()),((d,(([]:B),())),()))))
abbrev adI:xJ.J:=(((),((),(false,()))),(([]:List aJ),(((),()),((([]:B),(([]:B),())),()))))
def NS(D:Option (List aJ))(d:B):xJ.J:=match D with|some ps=>aey ps d|none=>adI
theorem aiU{s x y:B}(h:ji s=some (x,y)):x.length<=s.length:=by
 have:=(FI h).1;rw[this];unfold dz;simp;omega
theorem Ge{s x:B}(h:gh s=some x):x.length<=s.length:=by
 unfold gh at h;cases hz:ji s with
 |none=>rw[hz] at h;cases h
 |some q=>
  obtain⟨a,b⟩:=q;rw[hz] at h;have h:(bif b==kI then some a else none)=some x:=h
  cases hb:b==kI with
  |false=>rw[hb] at h;cases h
  |true=>rw[hb] at h;cases h;exact aiU hz
theorem Pd(d t:B)(aa:d.length<=1000000000)(ay:t.length<=1000000000):∃D:Option (List aJ),f31 (((d,(t,())),()),())=some (NS D ((gh t).getD d))/\lS D (mU ((gh t).getD d)):=by
 have e1:=aih t (by unfold aA;omega)
 have hl:((gh t).getD d).length<=1000000000:=by
  cases h:gh t with
  |none=>exact aa
  |some x=>have:=Ge h;show x.length<=_;omega
 obtain⟨D,e2,h2⟩:=PO ((gh t).getD d) hl;have fin:∀x:B,x=(gh t).getD d->((f35 ((x,()),())).bind fun KG=>
   bif(!KG.1.2.1) then some adI else(f27 (((KG.2.1,()),()),())).bind fun WT=>some (((),((),(true,()))),(KG.2.1,(((),()),((WT.2.1.1,(WT.2.1.2.1,())),())))))=some (NS D ((gh t).getD d)):=by
  intro x hx;subst hx;rw[e2];cases D with
  |none=>rfl
  |some ps=>
   obtain⟨h3,aD,bn⟩:=(h2 ps).1 rfl;obtain⟨hb,hv⟩:=tc bn (by have:=(kT h3).2;omega)
   have bE:=ahf ps hb hv;rw[h3,aD] at bE;have bE:f27 (((ps,()),()),())=some (((),()),(((gh t).getD d,(([]:B),())),())):=bE;show(f27 (((ps,()),()),())).bind _=_;rw[bE];rfl
 refine⟨D,?_,h2⟩;simp only[f31,e1,Y,Kl];cases h:gh t with
 |none=>
  rw[h] at fin;simp only[Option.isSome_none,bK,ad,Y];exact fin d rfl
 |some x=>
  rw[h] at fin;simp only[Option.isSome_some,bu,ak,Y];exact fin x rfl
theorem RN(s t:B):f28 (((s,(t,())),((s,(t,())),())),())=some ((true,()),()):=by
 simp only[f28,beq_self_eq_true,ad]
noncomputable abbrev aAa:a8:=[(73,pf),(74,yd)]
theorem adN:aT O (aZ af aAa):=aY ⟨ql,D0,⟨⟩⟩
abbrev U3:Shape:=⟨[bd 4 3000256,aj 5],[bc 3000256 .str 4 0],41⟩
abbrev UN:List aR:=[(.norm,⟨[bd 4 3000256,aj 5,ar 35],[bc 3000256 .str 4 0],41⟩)]
noncomputable def tC(y:U3.J):Option (aH UN):=
 bif(!(decide ((y.2.1.length:Int)<(2:Int)))) then
 bif(!(decide (y.1.2.1<(0:Int)))) then
(bf y.2.1.length (1:Int)).bind fun a=>
(y.2.1[a]?).bind fun b=>
 bif(!((b.length:Int) !=(IntKind.i64.wrap (y.1.2.1+(4:Int))))) then
(bf y.2.1.length (1:Int)).bind fun c=>
(y.2.1[c]?).bind fun d=>
(bq d y.1.2.1 (d.length:Int)).bind fun e=>
 some (((),y.1.2.1,(!(e==([101,110,100,10]:B))),()),y.2.1,())
else
 some (((),y.1.2.1,true,()),y.2.1,())
else
 some (((),y.1.2.1,true,()),y.2.1,())
else
 some (((),y.1.2.1,true,()),y.2.1,())
theorem apl:aV O (ap (codeOf Tryz.f80) 1 60) (aX U3 UN tC):=cn adN (by kernel_rfl) ag fun y=>by kernel_rfl
abbrev i80:Shape:=⟨[am 0],[],41⟩
abbrev abK:Shape:=⟨[am 2,ar 3],[],41⟩
noncomputable def f80(a:i80.J):Option abK.J:=
(f73 ((a.1.1,(10:Int),(1:Int),()),())).bind fun b=>
(bf b.2.1.length (0:Int)).bind fun c=>
(b.2.1[c]?).bind fun d=>
(f74 ((d,()),())).bind fun e=>
(tC (((),e.1.1,()),b.2.1,())).bind fun f=>
 bif f.1.2.2.1 then
 some ((([]:B),false,()),())
else
(bf f.2.1.length (1:Int)).bind fun g=>
(f.2.1[g]?).bind fun h=>
(bq h (0:Int) f.1.2.1).bind fun i=>
 some ((i,true,()),())
noncomputable def ado:aI:=aL af Tryz.f80 i80 abK [] f80
theorem z80:aF O 80 ado:=aM adN Tryz.func80 (by kernel_rfl) (a7 apl ag) (fun y=>by kernel_rfl) fun a=>by kernel_rfl
noncomputable abbrev aAs:a8:=[(39,NN),(80,ado)]
theorem adY:aT O (aZ af aAs):=aY ⟨abl,z80,⟨⟩⟩
abbrev U_:Shape:=⟨[ax 1 1 0,ax 2 2 0,ax 3 3 0,am 5,ar 6],[aw 1 [ah,ah],bv 5000128 .pack 2 0,aw 2 [.own 5000128],aw 3 [ah,ah]],31⟩
abbrev UU:List aR:=[(.norm,⟨[ax 2 2 0,ax 3 3 0,am 5],[bv 5000128 .pack 2 0,aw 2 [.own 5000128],aw 3 [ah,ah]],31⟩)]
noncomputable def Kk(y:U_.J):Option (aH UU):=
 bif(!y.1.2.2.2.2.1) then
 some (((),(),y.2.1.1,()),y.2.2.1,((),()),(y.2.2.2.2.1.1,y.2.2.2.2.1.2.1,()),())
else
 some (((),(),y.1.2.2.2.1,()),y.2.2.1,((),()),(y.2.2.2.2.1.1,y.2.2.2.2.1.2.1,()),())
theorem apA:aV O (ap (codeOf Tryz.f42) 1 14) (aX U_ UU Kk):=cn adY (by kernel_rfl) ag fun y=>by kernel_rfl
abbrev i42:Shape:=⟨[ck 0 [ah,ah]],[],31⟩
abbrev xG:Shape:=⟨[ax 2 2 0,ax 3 3 0,ar 4],[bv 5000128 .pack 2 0,aw 2 [.own 5000128],aw 3 [ah,ah]],31⟩
noncomputable def f42(a:i42.J):Option xG.J:=
(f80 ((a.1.1.2.1,()),())).bind fun b=>
(Kk (((),(),(),b.1.1,b.1.2.1,()),(a.1.1.1,a.1.1.2.1,()),([]:List aJ),((),()),(([]:B),([]:B),()),())).bind fun c=>
(f39 ((c.1.2.2.1,()),())).bind fun d=>
 bif(!d.1.2.1) then
 some (((),(),false,()),([]:List aJ),((),()),(([]:B),([]:B),()),())
else
 some (((),(),true,()),d.2.1,((),()),(c.1.2.2.1,([]:B),()),())
noncomputable def adB:aI:=aL af Tryz.f42 i42 xG [] f42
theorem axe:aF O 42 adB:=aM adY Tryz.func42 (by kernel_rfl) (a7 apA ag) (fun y=>by kernel_rfl) fun a=>by kernel_rfl
def wk(s:B):Option B:=match dC 10 s with
 |some (bC,r)=>bif decide (0<=eQ bC)&&decide (r.length=(eQ bC).toNat+4)&&r.drop (eQ bC).toNat==kI then some (r.take (eQ bC).toNat) else none
 |none=>none
theorem aoW:∀(s:B) (n:Int) (i:Nat),s.all cR=true->0<=n->n<10^i->0<=s.foldl en n/\s.foldl en n<10^(i+s.length):=by
 intro s;induction s with
 |nil=>intro n i _ h0 h1;exact⟨h0,h1⟩
 |cons b s ih=>
  intro n i aa h0 h1;simp only[List.all_cons,bz] at aa;obtain⟨jZ,aG⟩:=yR aa.1 h0 h1;have:=ih (en n b) (i+1) aa.2 jZ aG;rw[show i+(b::s).length=i+1+s.length by simp;omega]
  exact this
theorem P0(s:B):eQ s=-1\/((s.all cR=true/\s.length<=6/\(s==[])=false/\hN s=false)/\eQ s=db s/\0<=db s/\db s<1000000):=by
 unfold eQ;cases h:s.all cR&&decide (s.length<=6)&&!(s==[])&&!hN s with
 |false=>exact .inl rfl
 |true=>
  simp only[bz,dW,Bool.not_eq_true'] at h;obtain⟨⟨⟨h1,h2⟩,h3⟩,aD⟩:=h;obtain⟨jZ,aG⟩:=aoW s 0 0 h1 (by decide) (by decide)
  refine .inr ⟨⟨h1,h2,h3,aD⟩,rfl,jZ,?_⟩;have:(10:Int)^(0+s.length)<=10^6:=by
   have:(10:Nat)^(0+s.length)<=10^6:=Nat.pow_le_pow_right (by decide) (by omega)
   exact_mod_cast this
  exact Int.lt_of_lt_of_le aG this
theorem ahc(s:B)(hs:s.length<=2000000):f80 ((s,()),())=some (((wk s).getD [],((wk s).isSome,())),()):=by
 have c1:=lN 10 s (by omega) 1
 have c1:f73 ((s,((10:Int),((1:Int),()))),())=_:=c1;unfold wk;cases aC:dC 10 s with
 |none=>
  have eJ:splitN 10 1 s=[s]:=by unfold splitN;rw[aC]
  rw[eJ] at c1;have n0:=ot s (by unfold aA;omega)
  have i0:bf ([s]:List B).length (0:Int)=some 0:=rfl;have eU:([s]:List B)[0]? =some s:=rfl;have d2:decide ((([s]:List B).length:Int)<2)=true:=rfl;simp only[f80,c1,Y,i0,eU,n0,tC,d2,bu,ak,ad];rfl
 |some q=>
  obtain⟨bC,r⟩:=q;have hlen:=(iT aC).1;have hlen:s.length=bC.length+1+r.length:=by rw[hlen];simp;omega
  have eJ:splitN 10 1 s=[bC,r]:=by unfold splitN;rw[aC];rfl
  rw[eJ] at c1;have n0:=ot bC (by unfold aA;omega)
  have i0:bf ([bC,r]:List B).length (0:Int)=some 0:=rfl;have i1:bf ([bC,r]:List B).length (1:Int)=some 1:=rfl;have eU:([bC,r]:List B)[0]? =some bC:=rfl;have ep:([bC,r]:List B)[1]? =some r:=rfl;have d2:decide ((([bC,r]:List B).length:Int)<2)=false:=rfl;rcases P0 bC with hz|⟨_,hz,h0,cl⟩
  ·rw[hz] at n0;have d3:decide ((-1:Int)<0)=true:=rfl;simp only[f80,c1,Y,i0,eU,n0,tC,d2,bu,bK,ak,ad,d3];rw[hz];rfl
  ·obtain⟨n,hn⟩:∃n:Nat,eQ bC=(n:Int):=⟨(eQ bC).toNat,by omega⟩
   rw[hn] at n0;have hb:n<1000000:=by omega
   have d3:decide ((n:Int)<0)=false:=decide_eq_false (by omega)
   have d4:decide (0<=(n:Int))=true:=decide_eq_true (by omega)
   have hw:IntKind.i64.wrap (((n:Nat):Int)+4)=((n+4:Nat):Int):=by rw[c5 (by omega) (by omega)];omega
   have ayg:∀y:B,(y==([101,110,100,10]:B))=(y==kI):=fun _=>rfl
   simp only[hn,d4,Bool.true_and,Int.toNat_natCast];by_cases aD:r.length=n+4
   ·have pm:(((r.length:Nat):Int) !=((n+4:Nat):Int))=false:=by rw[aD];simp
    have ayP:decide (r.length=n+4)=true:=decide_eq_true aD;have s1:bq r ((n:Nat):Int) ((r.length:Nat):Int)=some (r.drop n):=fC (by omega)
    have s2:bq r 0 ((n:Nat):Int)=some (r.take n):=gx (by omega)
    simp only[f80,c1,Y,i0,eU,n0,tC,d2,bK,bu,ad,ak,d3,i1,ep,hw,pm,s1,ayg,s2,ayP,Bool.true_and];cases r.drop n==kI<;>rfl
   ·have pm:(((r.length:Nat):Int) !=((n+4:Nat):Int))=true:=by rw[bne_iff_ne];omega
    simp only[f80,c1,Y,i0,eU,n0,tC,d2,bK,bu,ad,ak,d3,i1,ep,hw,pm,aD,decide_false,Bool.false_and];rfl
theorem ag4(s:B)(hs:s.length<=999999):wk s=gh s:=by
 unfold wk gh ji;cases aC:dC 10 s with
 |none=>rfl
 |some q=>
  obtain⟨bC,r⟩:=q;have hlen:=(iT aC).1;have hlen:s.length=bC.length+1+r.length:=by rw[hlen];simp;omega
  show(bif decide (0<=eQ bC)&&decide (r.length=(eQ bC).toNat+4)&&r.drop (eQ bC).toNat==kI then some (r.take (eQ bC).toNat) else none)=match(bif e' (r.length:Int) bC then some (r.take (db bC).toNat,r.drop (db bC).toNat) else none) with|some (x,y)=>bif y==kI then some x else none|none=>none
  cases hg:e' (r.length:Int) bC with
  |true=>
   obtain⟨n,h1,h2,h3⟩:=Gi hg;have hz:=zt n (by omega)
   rw[<-h2] at hz;have d4:decide (0<=(n:Int))=true:=decide_eq_true (by omega)
   simp only[hz,h1,d4,Bool.true_and,Int.toNat_natCast,ad];cases he:r.drop n==kI with
   |false=>simp only[Bool.and_false,ak]
   |true=>
    have:r.length=n+4:=by
     have:=congrArg List.length (eq_of_beq he);simp[kI] at this;omega
    simp only[this,decide_true,Bool.and_self,ad]
  |false=>
   simp only[ak];rcases P0 bC with hz|⟨⟨aG,aK,bP,cU⟩,hz,h0,cl⟩
   ·rw[hz];rfl
   ·have hn:¬r.length=(db bC).toNat+4:=by
     intro h;have:e' (r.length:Int) bC=true:=by
      unfold e';rw[aG,bP,cU,decide_eq_true (by omega),decide_eq_true (by omega)]
      rfl
     rw[this] at hg;cases hg
    simp only[hz,hn,decide_false,Bool.and_false,Bool.false_and,ak]
abbrev aBQ(ps:List aJ)(d:B):xG.J:=(((),((),(true,()))),(ps,(((),()),((d,(([]:B),())),()))))
abbrev azY:xG.J:=(((),((),(false,()))),(([]:List aJ),(((),()),((([]:B),(([]:B),())),()))))
def azX(D:Option (List aJ))(d:B):xG.J:=match D with|some ps=>aBQ ps d|none=>azY
theorem ahm(d t:B)(aa:d.length<=2000000)(ay:t.length<=999999):∃D:Option (List aJ),f42 (((d,(t,())),()),())=some (azX D ((gh t).getD d))/\lS D (mU ((gh t).getD d)):=by
 have e1:=ahc t (by omega)
 rw[ag4 t ay] at e1;have hl:((gh t).getD d).length<=2000000:=by
  cases h:gh t with
  |none=>exact aa
  |some x=>have:=Ge h;show x.length<=_;omega
 obtain⟨D,e2,h2⟩:=Qu ((gh t).getD d) hl;refine⟨D,?_,h2⟩;simp only[f42,e1,Y,Kk];cases h:gh t with
 |none=>
  rw[h] at e2;have e2:f39 ((d,()),())=some (NT D):=e2;simp only[Option.isSome_none,bK,ad,Y,e2];cases D<;>rfl
 |some x=>
  rw[h] at e2;have e2:f39 ((x,()),())=some (NT D):=e2;simp only[Option.isSome_some,bu,ak,Y,Option.getD_some,e2];cases D<;>rfl
theorem alE{e:aB}(h:og e)(he:lq e):(et e).length<=500:=by
 have h1:=Bk h;have aD:e.text.length<=200:=he.2;have h3:e.path.length<=200:=he.1;have h2:=ku e.text.length (by omega)
 unfold et;cases e.kind==1<;>cases e.kind==3<;>simp<;>omega
theorem alx{n:bD}(h:EF n):(cM n).length<=410:=by
 have h1:n.name.length<=200:=h.1;have h2:n.a6.length<=200:=h.2;have h3:=Gc n.kind;unfold cM cZ;simp;omega
theorem anM{p:aJ}(h:sn p)(hk:cx p=true):(bJ p).length<=15000:=by
 obtain⟨_,_,_,_,_,ay⟩:=nn hk;obtain⟨⟨h1,_⟩,h2,⟨h3,aD⟩,bn,cl⟩:=h;have h1:p.name.length<=200:=h1;have h2:p.a6.length<=200:=h2;have aG:=nw (f:=cM) (xs:=p.bl) (n:=410) fun n hn=>alx (aD n hn)
 have aK:(dt p.bI).length<=p.bI.length*500:=nw (f:=et) (xs:=p.bI) (n:=500) fun e he=>alE (qO ay e he) (cl e he)
 have bP:p.bl.length*410<=3*410:=Nat.mul_le_mul_right _ h3;have cU:p.bI.length*500<=17*500:=Nat.mul_le_mul_right _ bn;unfold bJ dJ iG;generalize p.bl.flatMap cM=A at aG ⊢;generalize dt p.bI=bx at aK ⊢;simp[zJ];omega
theorem TJ{ps:List aJ}(h:iv 5 ps)(hr:eY ps=true):(cK ps).length<=100000:=by
 have hk:=(kT hr).1;have h1:=nw (f:=fun p=>dz (bJ p)) (xs:=ps) (n:=16000) fun p hp=>by
  have:=anM (h.2 p hp) (hk p hp);have:=ku (bJ p).length (by omega)
  show(dz (bJ p)).length<=16000;unfold dz;simp;omega
 have aD:ps.length*16000<=5*16000:=Nat.mul_le_mul_right _ h.1;have e:(cK ps).length=(ps.flatMap fun p=>dz (bJ p)).length:=rfl
 omega
theorem anU{ps:List aJ}(h:iv 5 ps)(hr:eY ps=true):(l7 ps).length<=200000:=by
 have:=TJ h hr;have:=ku (cK ps).length (by omega)
 unfold l7 dz;simp[kI];omega
theorem aoi{ps:List aJ}(h:iv 5 ps):(bif eY ps then cK ps else []).length<=100000:=by
 cases hr:eY ps with
 |false=>exact Nat.zero_le _
 |true=>exact TJ h hr
noncomputable abbrev aAu:a8:=[(29,EL),(58,KW),(72,KV),(77,Dh),(78,jl)]
theorem aAZ:aT O (aZ af aAu):=aY ⟨Mr,WL,WK,KB,jI,⟨⟩⟩
abbrev i40:Shape:=⟨[aO 0 .u8],[],18⟩
abbrev ab5:Shape:=⟨[ax 2 2 0,ax 3 3 0,aj 4],[aw 2 [ah,ah],aw 3 [br .pack]],18⟩
noncomputable def f40(a:i40.J):Option ab5.J:=
(wV (((),()),((a.1.1.take 2000),(0:Int),()),())).bind fun b=>
(f29 (((b.2.2.1.1,()),()),())).bind fun c=>
(wW (((),()),(b.2.1.1,b.2.1.2.1,()),())).bind fun d=>
(gz (((),(400:Int),()),(d.2.1.1,d.2.1.2.1,()),())).bind fun e=>
(ua (((),([((-1):Int),(0:Int),(1:Int),(5:Int),e.1.2.1,(100000:Int)]:List Int),()),(e.2.1.1,e.2.1.2.1,()),())).bind fun f=>
 some (((),(),f.1.2.1,()),(c.2.1.1,c.2.1.2.1,()),(d.2.2.1.1,()),())
noncomputable def EK:aI:=aL af Tryz.f40 i40 ab5 [] f40
theorem z40:aF O 40 EK:=aM aAZ Tryz.func40 (by kernel_rfl) ag (fun y=>by kernel_rfl) fun a=>by kernel_rfl
noncomputable abbrev aBU:a8:=[(12,sp),(14,qC),(16,yj),(18,EM),(27,yi),(28,yh),(30,so),(31,yg),(32,yf),(40,EK)]
theorem E8:aT O (aZ af aBU):=aY ⟨z12,xy,D4,Ms,D3,z28,uA,z31,D2,z40,⟨⟩⟩
abbrev U0:Shape:=⟨[ar 2,ax 3 3 0,ax 4 4 0,aj 5,ax 6 6 0],[aw 3 [ah,ah],aw 4 [br .pack],aw 6 [ah,ah]],108⟩
abbrev UK:List aR:=[(.norm,⟨[ar 2,ax 3 3 0,ax 4 4 0,aj 5,ax 6 6 0,ar 50],[aw 3 [ah,ah],aw 4 [br .pack],aw 6 [ah,ah]],108⟩)]
noncomputable def Wc(y:U0.J):Option (aH UK):=
(f16 (((y.2.1.1,y.2.1.2.1,()),(y.2.2.1.1,()),y.1.2.2.2.1,()),())).bind fun a=>
(f28 (((y.2.2.2.1.1,y.2.2.2.1.2.1,()),(a.2.1.1,a.2.1.2.1,()),()),())).bind fun b=>
 bif(!b.1.1) then
 some ((y.1.1,(),(),y.1.2.2.2.1,(),true,()),(y.2.1.1,y.2.1.2.1,()),(y.2.2.1.1,()),(y.2.2.2.1.1,y.2.2.2.1.2.1,()),())
else
(f14 (((y.2.1.1,y.2.1.2.1,()),()),())).bind fun c=>
(f12 (((y.2.1.1,y.2.1.2.1,()),()),())).bind fun d=>
 bif(!(c.1.1==d.1.1)) then
 some ((y.1.1,(),(),y.1.2.2.2.1,(),true,()),(y.2.1.1,y.2.1.2.1,()),(y.2.2.1.1,()),(y.2.2.2.1.1,y.2.2.2.1.2.1,()),())
else
(f12 (((y.2.1.1,y.2.1.2.1,()),()),())).bind fun e=>
 bif(!e.1.1) then
 some ((y.1.1,(),(),y.1.2.2.2.1,(),true,()),(y.2.1.1,y.2.1.2.1,()),(y.2.2.1.1,()),(y.2.2.2.1.1,y.2.2.2.1.2.1,()),())
else
(f30 (((y.2.2.1.1,()),()),())).bind fun f=>
 some ((y.1.1,(),(),y.1.2.2.2.1,(),(!f.1.1),()),(y.2.1.1,y.2.1.2.1,()),(y.2.2.1.1,()),(y.2.2.2.1.1,y.2.2.2.1.2.1,()),())
theorem apb:aV O (ap (codeOf Tryz.f9) 1 124) (aX U0 UK Wc):=cn E8 (by kernel_rfl) ag fun y=>by kernel_rfl
abbrev i9:Shape:=⟨[aO 0 .u8],[],108⟩
abbrev aeg:Shape:=⟨[ar 2],[],108⟩
noncomputable def f9(a:i9.J):Option aeg.J:=
 bif(decide ((a.1.1.length:Int)>(1048576:Int))) then
 some ((true,()),())
else
(f40 ((a.1.1,()),())).bind fun b=>
(f18 (((b.2.1.1,b.2.1.2.1,()),(b.2.2.1.1,()),b.1.2.2.1,()),())).bind fun c=>
(Wc ((false,(),(),b.1.2.2.1,(),()),(b.2.1.1,b.2.1.2.1,()),(b.2.2.1.1,()),(c.2.1.1,c.2.1.2.1,()),())).bind fun d=>
 bif d.1.2.2.2.2.2.1 then
(f16 (((d.2.1.1,d.2.1.2.1,()),(d.2.2.1.1,()),d.1.2.2.2.1,()),())).bind fun e=>
(f28 (((d.2.2.2.1.1,d.2.2.2.1.2.1,()),(e.2.1.1,e.2.1.2.1,()),()),())).bind fun f=>
 bif f.1.1 then
(f14 (((d.2.1.1,d.2.1.2.1,()),()),())).bind fun g=>
(f12 (((d.2.1.1,d.2.1.2.1,()),()),())).bind fun h=>
 some (((g.1.1==h.1.1),()),())
else
 some ((false,()),())
else
(f31 (((d.2.2.2.1.1,d.2.2.2.1.2.1,()),()),())).bind fun i=>
(f31 (((d.2.1.1,d.2.1.2.1,()),()),())).bind fun j=>
(f18 (((d.2.1.1,d.2.1.2.1,()),(d.2.2.1.1,()),(1000000:Int),()),())).bind fun k=>
 bif(d.2.2.2.1.2.1==k.2.1.2.1) then
 bif(!i.1.2.2.1) then
 some ((true,()),())
else
(f32 (((i.2.1,()),(d.2.2.1.1,()),()),())).bind fun l=>
 bif l.1.1 then
(f27 (((d.2.2.1.1,()),()),())).bind fun m=>
(f28 (((i.2.2.2.1.1,i.2.2.2.1.2.1,()),(m.2.1.1,m.2.1.2.1,()),()),())).bind fun n=>
 some ((n.1.1,()),())
else
 some ((false,()),())
else
 bif i.1.2.2.1 then
(f32 (((i.2.1,()),(j.2.1,()),()),())).bind fun D=>
 bif D.1.1 then
(f28 (((i.2.2.2.1.1,i.2.2.2.1.2.1,()),(d.2.1.1,d.2.1.2.1,()),()),())).bind fun p=>
 some ((p.1.1,()),())
else
 some ((false,()),())
else
 some ((false,()),())
noncomputable def yJ:aI:=aL af Tryz.f9 i9 aeg [] f9
theorem z9:aF O 9 yJ:=aM E8 Tryz.func9 (by kernel_rfl) (a7 apb ag) (fun y=>by kernel_rfl) fun a=>by kernel_rfl
theorem ae5(a)(h:dj (a.1.1.take 2000) 0 1000000):ab (f40 a) (fun r=>(∃oV,iv 5 oV/\r.2.1.1=(bif eY oV then cK oV else [])/\r.2.1.2.1=[])/\iv 5 r.2.2.1.1):=by
 unfold f40;refine ab.bind (Qq _ 1000000 h (by decide)) fun r1 h1=>?_
 obtain⟨nh,⟨⟨(b1:List Int),(iS:Int),u1⟩,⟨(oV:List aJ),u2⟩,sx⟩⟩:=r1;have hr:iv 4 oV:=h1.2;have dq:iv 5 oV:=⟨Nat.le_succ_of_le hr.1,hr.2⟩;refine ab.eq (aiA oV (dq.ok.yD (by decide)) dq.ok.vs) ?_
 refine ab.bind (afA _ _ h1.1 (by decide)) fun r2 h2=>?_
 refine ab.bind (hJ _ _ h2.1 (by decide)) fun dE h3=>?_
 refine ab.bind (KD _ _ h3.1 (by decide) (by simp)) fun gu aD=>?_
 exact ab.ret ⟨⟨oV,dq,rfl,rfl⟩,h2.2⟩
noncomputable abbrev aAt:a8:=[(16,yj),(40,EK),(78,jl),(79,k3)]
theorem aAY:aT O (aZ af aAt):=aY ⟨D4,z40,jI,lU,⟨⟩⟩
abbrev i41:Shape:=⟨[aO 0 .u8],[],28⟩
abbrev ab4:Shape:=⟨[ax 2 2 0],[aw 2 [ah,ah]],28⟩
noncomputable def f41(a:i41.J):Option ab4.J:=
(f40 ((a.1.1,()),())).bind fun b=>
(gz (((),(8:Int),()),((a.1.1.take 2000),(0:Int),()),())).bind fun c=>
 bif(c.1.2.1==(0:Int)) then
(jK (((),([([48,10,101,110,100,10]:B),([49,10,120,101,110,100,10]:B),([101,110,100,10]:B)]:List B),()),(c.2.1.1,c.2.1.2.1,()),())).bind fun d=>
 some (((),()),(b.2.1.1,d.1.2.1,()),())
else
(f16 (((b.2.1.1,b.2.1.2.1,()),(b.2.2.1.1,()),b.1.2.2.1,()),())).bind fun e=>
 some (((),()),(e.2.1.1,e.2.1.2.1,()),())
noncomputable def adC:aI:=aL af Tryz.f41 i41 ab4 [] f41
theorem axf:aF O 41 adC:=aM aAY Tryz.func41 (by kernel_rfl) ag (fun y=>by kernel_rfl) fun a=>by kernel_rfl
noncomputable abbrev aAN:a8:=[(14,qC),(28,yh),(31,yg),(32,yf),(41,adC),(42,adB),(43,ye)]
theorem ER:aT O (aZ af aAN):=aY ⟨xy,z28,z31,D2,axf,axe,D1,⟨⟩⟩
abbrev TG:Shape:=⟨[ax 4 4 0,ax 5 5 0,ar 6,ax 7 7 0,ax 8 8 0,ar 9],[bv 5000256 .pack 4 0,aw 4 [.own 5000256],aw 5 [ah,ah],bv 5000448 .pack 7 0,aw 7 [.own 5000448],aw 8 [ah,ah]],87⟩
abbrev Tk:List aR:=[(.norm,⟨[ax 4 4 0,ax 5 5 0,ar 6,ax 7 7 0,ax 8 8 0,ar 9,ar 48],[bv 5000256 .pack 4 0,aw 4 [.own 5000256],aw 5 [ah,ah],bv 5000448 .pack 7 0,aw 7 [.own 5000448],aw 8 [ah,ah]],87⟩)]
noncomputable def tl(y:TG.J):Option (aH Tk):=
 bif(!(!(y.1.2.2.1==y.1.2.2.2.2.2.1))) then
(f32 (((y.2.1,()),(y.2.2.2.2.1,()),()),())).bind fun a=>
 bif(!(!a.1.1)) then
(f28 (((y.2.2.2.1.1,y.2.2.2.1.2.1,()),(y.2.2.2.2.2.2.1.1,y.2.2.2.2.2.2.1.2.1,()),()),())).bind fun b=>
 bif(!(!b.1.1)) then
 some (((),(),y.1.2.2.1,(),(),y.1.2.2.2.2.2.1,(!y.1.2.2.1),()),y.2.1,((),()),(y.2.2.2.1.1,y.2.2.2.1.2.1,()),y.2.2.2.2.1,((),()),(y.2.2.2.2.2.2.1.1,y.2.2.2.2.2.2.1.2.1,()),())
else
 some (((),(),y.1.2.2.1,(),(),y.1.2.2.2.2.2.1,true,()),y.2.1,((),()),(y.2.2.2.1.1,y.2.2.2.1.2.1,()),y.2.2.2.2.1,((),()),(y.2.2.2.2.2.2.1.1,y.2.2.2.2.2.2.1.2.1,()),())
else
 some (((),(),y.1.2.2.1,(),(),y.1.2.2.2.2.2.1,true,()),y.2.1,((),()),(y.2.2.2.1.1,y.2.2.2.1.2.1,()),y.2.2.2.2.1,((),()),(y.2.2.2.2.2.2.1.1,y.2.2.2.2.2.2.1.2.1,()),())
else
 some (((),(),y.1.2.2.1,(),(),y.1.2.2.2.2.2.1,true,()),y.2.1,((),()),(y.2.2.2.1.1,y.2.2.2.1.2.1,()),y.2.2.2.2.1,((),()),(y.2.2.2.2.2.2.1.1,y.2.2.2.2.2.2.1.2.1,()),())
theorem anI:aV O (ap (codeOf Tryz.f10) 1 252) (aX TG Tk tl):=cn ER (by kernel_rfl) ag fun y=>by kernel_rfl
abbrev i10:Shape:=⟨[aO 0 .u8],[],87⟩
abbrev aco:Shape:=⟨[ar 2],[],87⟩
noncomputable def f10(a:i10.J):Option aco.J:=
 bif(decide ((a.1.1.length:Int)>(1048576:Int))) then
 some ((true,()),())
else
(f41 ((a.1.1,()),())).bind fun b=>
(f31 (((b.2.1.1,b.2.1.2.1,()),()),())).bind fun c=>
(f42 (((b.2.1.1,b.2.1.2.1,()),()),())).bind fun d=>
(tl (((),(),c.1.2.2.1,(),(),d.1.2.2.1,()),c.2.1,((),()),(c.2.2.2.1.1,c.2.2.2.1.2.1,()),d.2.1,((),()),(d.2.2.2.1.1,d.2.2.2.1.2.1,()),())).bind fun e=>
 bif e.1.2.2.2.2.2.2.1 then
 bif(e.1.2.2.1==e.1.2.2.2.2.2.1) then
(f32 (((e.2.1,()),(e.2.2.2.2.1,()),()),())).bind fun f=>
 bif f.1.1 then
(f28 (((e.2.2.2.1.1,e.2.2.2.1.2.1,()),(e.2.2.2.2.2.2.1.1,e.2.2.2.2.2.2.1.2.1,()),()),())).bind fun g=>
 some ((g.1.1,()),())
else
 some ((false,()),())
else
 some ((false,()),())
else
(f31 (((e.2.2.2.1.1,e.2.2.2.1.2.1,()),()),())).bind fun h=>
(f43 (((e.2.1,()),()),())).bind fun i=>
 bif i.1.1 then
(f14 (((e.2.2.2.1.1,e.2.2.2.1.2.1,()),()),())).bind fun j=>
 bif j.1.1 then
 bif h.1.2.2.1 then
(f32 (((h.2.1,()),(e.2.1,()),()),())).bind fun k=>
 bif k.1.1 then
(f28 (((h.2.2.2.1.1,h.2.2.2.1.2.1,()),(e.2.2.2.1.1,e.2.2.2.1.2.1,()),()),())).bind fun l=>
 some ((l.1.1,()),())
else
 some ((false,()),())
else
 some ((false,()),())
else
 some ((false,()),())
else
 some ((false,()),())
noncomputable def lr:aI:=aL af Tryz.f10 i10 aco [] f10
theorem Mt:aF O 10 lr:=aM ER Tryz.func10 (by kernel_rfl) (a7 anI ag) (fun y=>by kernel_rfl) fun a=>by kernel_rfl
noncomputable abbrev aBV:a8:=[(12,sp),(16,yj),(18,EM),(27,yi),(28,yh),(29,EL),(30,so),(31,yg),(32,yf),(40,EK)]
theorem E9:aT O (aZ af aBV):=aY ⟨z12,D4,Ms,D3,z28,Mr,uA,z31,D2,z40,⟨⟩⟩
abbrev U2:Shape:=⟨[ar 2,ax 3 3 0,ax 4 4 0,aj 5,ax 6 6 0],[aw 3 [ah,ah],aw 4 [br .pack],aw 6 [ah,ah]],84⟩
abbrev UM:List aR:=[(.norm,⟨[ar 2,ax 3 3 0,ax 4 4 0,aj 5,ax 6 6 0,ar 48],[aw 3 [ah,ah],aw 4 [br .pack],aw 6 [ah,ah]],84⟩)]
noncomputable def Wd(y:U2.J):Option (aH UM):=
(f16 (((y.2.1.1,y.2.1.2.1,()),(y.2.2.1.1,()),y.1.2.2.2.1,()),())).bind fun a=>
(f28 (((y.2.2.2.1.1,y.2.2.2.1.2.1,()),(a.2.1.1,a.2.1.2.1,()),()),())).bind fun b=>
 bif(!b.1.1) then
 some ((y.1.1,(),(),y.1.2.2.2.1,(),true,()),(y.2.1.1,y.2.1.2.1,()),(y.2.2.1.1,()),(y.2.2.2.1.1,y.2.2.2.1.2.1,()),())
else
(f12 (((y.2.1.1,y.2.1.2.1,()),()),())).bind fun c=>
 bif(!c.1.1) then
 some ((y.1.1,(),(),y.1.2.2.2.1,(),true,()),(y.2.1.1,y.2.1.2.1,()),(y.2.2.1.1,()),(y.2.2.2.1.1,y.2.2.2.1.2.1,()),())
else
(f30 (((y.2.2.1.1,()),()),())).bind fun d=>
 bif(!d.1.1) then
 some ((y.1.1,(),(),y.1.2.2.2.1,(),true,()),(y.2.1.1,y.2.1.2.1,()),(y.2.2.1.1,()),(y.2.2.2.1.1,y.2.2.2.1.2.1,()),())
else
(f29 (((y.2.2.1.1,()),()),())).bind fun e=>
(f12 (((e.2.1.1,e.2.1.2.1,()),()),())).bind fun f=>
 some ((y.1.1,(),(),y.1.2.2.2.1,(),(!f.1.1),()),(y.2.1.1,y.2.1.2.1,()),(y.2.2.1.1,()),(y.2.2.2.1.1,y.2.2.2.1.2.1,()),())
theorem api:aV O (ap (codeOf Tryz.f8) 1 124) (aX U2 UM Wd):=cn E9 (by kernel_rfl) ag fun y=>by kernel_rfl
abbrev i8:Shape:=⟨[aO 0 .u8],[],84⟩
abbrev aeh:Shape:=⟨[ar 2],[],84⟩
noncomputable def f8(a:i8.J):Option aeh.J:=
 bif(decide ((a.1.1.length:Int)>(1048576:Int))) then
 some ((true,()),())
else
(f40 ((a.1.1,()),())).bind fun b=>
(f18 (((b.2.1.1,b.2.1.2.1,()),(b.2.2.1.1,()),b.1.2.2.1,()),())).bind fun c=>
(Wd ((false,(),(),b.1.2.2.1,(),()),(b.2.1.1,b.2.1.2.1,()),(b.2.2.1.1,()),(c.2.1.1,c.2.1.2.1,()),())).bind fun d=>
 bif d.1.2.2.2.2.2.1 then
(f16 (((d.2.1.1,d.2.1.2.1,()),(d.2.2.1.1,()),d.1.2.2.2.1,()),())).bind fun e=>
(f28 (((d.2.2.2.1.1,d.2.2.2.1.2.1,()),(e.2.1.1,e.2.1.2.1,()),()),())).bind fun f=>
 some ((f.1.1,()),())
else
(f31 (((d.2.2.2.1.1,d.2.2.2.1.2.1,()),()),())).bind fun g=>
(f18 (((g.2.2.2.1.1,g.2.2.2.1.2.1,()),(d.2.2.1.1,()),(1000000:Int),()),())).bind fun h=>
(f31 (((h.2.1.1,h.2.1.2.1,()),()),())).bind fun i=>
 bif g.1.2.2.1 then
 bif i.1.2.2.1 then
(f32 (((i.2.1,()),(d.2.2.1.1,()),()),())).bind fun j=>
 bif j.1.1 then
(f27 (((d.2.2.1.1,()),()),())).bind fun k=>
(f28 (((i.2.2.2.1.1,i.2.2.2.1.2.1,()),(k.2.1.1,k.2.1.2.1,()),()),())).bind fun l=>
 some ((l.1.1,()),())
else
 some ((false,()),())
else
 some ((false,()),())
else
 some ((false,()),())
noncomputable def pq:aI:=aL af Tryz.f8 i8 aeh [] f8
theorem ad5:aF O 8 pq:=aM E9 Tryz.func8 (by kernel_rfl) (a7 api ag) (fun y=>by kernel_rfl) fun a=>by kernel_rfl
theorem ae6(a)(h:dj (a.1.1.take 2000) 0 1000000):ab (f41 a) (fun r=>r.2.1.1.length<=200000/\r.2.1.2.1.length<=200000):=by
 unfold f41;refine ab.bind (ae5 _ h) fun r hr=>?_
 obtain⟨⟨nh,u1,(n:Int),u2⟩,⟨⟨(s:B),(t:B),sx⟩,⟨(ps:List aJ),aec⟩,aBp⟩⟩:=r;obtain⟨⟨oV,h0,hs,ay⟩,hp⟩:=hr;have ay:t=[]:=ay;subst ay;have hp:iv 5 ps:=hp;have iP:s.length<=100000:=by have hs:s=_:=hs;rw[hs];exact aoi h0
 refine ab.bind (hJ _ _ h (by decide)) fun r1 h1=>?_
 refine ab.ite (fun _=>?_) fun _=>?_
 ·refine ab.bind (k4 _ _ h1.1 (by decide) (by simp)) fun r2 h2=>?_
  have:=pP (L:=[[48,10,101,110,100,10],[49,10,120,101,110,100,10],[101,110,100,10]]) (by rfl) h2.2
  exact ab.ret ⟨by show s.length<=200000;omega,Nat.le_trans this (by decide)⟩
 ·obtain⟨D,e1,aG⟩:=akr s [] (by omega)
  have dN:=ahl s [] ps n (hp.ok.yD (by decide)) hp.ok.vs _ e1
  refine ab.eq dN ?_
  generalize(D.isSome&&([]:B)==[])=k;refine ab.ret ?_
  show(pV k s ps n).1.length<=200000/\(pV k s ps n).2.length<=200000;cases k with
  |false=>exact⟨Nat.zero_le _,Nat.zero_le _⟩
  |true=>
   cases hr:eY ps with
   |false=>simp[pV,hr]
   |true=>
    have:=anU hp hr;simp only[pV,hr,Bool.and_self,ad];exact⟨by omega,by simp;omega⟩
theorem afG(a)(h:∀x,x∈(a.1.1:List Int)->0<=x/\x<=255):ab (f10 a) (fun r=>r.1.1=true):=by
 unfold f10;refine ab.ite (fun _=>ab.ret rfl) fun _=>?_
 refine ab.bind (ae6 _ (amC h)) fun r hr=>?_
 obtain⟨nh,⟨⟨(s:B),(t:B),sx⟩,aBp⟩⟩:=r;have hs:s.length<=200000:=hr.1;have ay:t.length<=200000:=hr.2;obtain⟨D,e1,aG⟩:=Pd s t (by omega) (by omega)
 obtain⟨dm,e2,aK⟩:=ahm s t (by omega) (by omega)
 cases aG.K2 aK;have hl:((gh t).getD s).length<=200000:=by
  cases h:gh t with
  |none=>exact hs
  |some x=>have:=Ge h;show x.length<=_;omega
 generalize(gh t).getD s=X at e1 e2 aG hl;refine ab.eq e1 ?_
 refine ab.eq e2 ?_
 cases D with
 |none=>
  have si:=RM (((([]:List aJ),()),((([]:List aJ),()),())),()) rfl ⟨by decide,fun p hp=>by cases hp⟩
  have si:f32 (((([]:List aJ),()),((([]:List aJ),()),())),())=some ((true,()),()):=si;have Nw:=RN [] [];show ab ((tl (((),((),(false,((),((),(false,())))))),(([]:List aJ),(((),()),((([]:B),(([]:B),())),(([]:List aJ),(((),()),((([]:B),(([]:B),())),())))))))).bind _) _;simp only[tl,beq_self_eq_true,bu,bK,ad,ak,si,Nw,Y];exact ab.ret rfl
 |some ps=>
  obtain⟨q1,q2,dU⟩:=(aG ps).1 rfl;obtain⟨hb,hv⟩:=tc dU (by have:=(kT q1).2;omega)
  have si:=RM (((ps,()),((ps,()),())),()) rfl hb;have si:f32 (((ps,()),((ps,()),())),())=some ((true,()),()):=si;have Nw:=RN X [];obtain⟨EW,fp,fA⟩:=Pd X [] (by omega) (by simp)
  have fp:f31 (((X,(([]:B),())),()),())=some (NS EW X):=fp;have fA:lS EW (mU X):=fA;obtain⟨ys,od,h9⟩:=ait X [] (by omega)
  cases fA.K2 aG;cases h9.K2 aG;have oc:=za (((ps,()),()),()) hb hv;have oc:f43 (((ps,()),()),())=some ((eY ps,()),()):=oc;rw[q1] at oc;have fp:f31 (((X,(([]:B),())),()),())=some (aey ps X):=fp;have od:f14 (((X,(([]:B),())),()),())=some ((true,()),()):=od;show ab ((tl (((),((),(true,((),((),(true,())))))),(ps,(((),()),((X,(([]:B),())),(ps,(((),()),((X,(([]:B),())),())))))))).bind _) _;simp only[tl,beq_self_eq_true,bu,bK,ad,ak,si,Nw,Y,fp,od,oc];exact ab.ret rfl
theorem pure_FnDiskRise:LawOk lr [(false,[.sl .u8])]:=by
 rintro⟨⟨code,u⟩,b8⟩ ⟨h,_⟩;obtain⟨r,hr,aC⟩:=afG ((code,()),()) (aj8 (h (.sl .u8 code) (by simp[fY,ef.mk])))
 obtain⟨⟨b,v⟩,v'⟩:=r;have aC:b=true:=aC;subst aC;exact⟨((true,()),()),hr,rfl⟩
end Go.Proofs
