/- FnDiskOver: the last complete root is recovered. (part 6 of 7: JkKF76, JkKPuGr, JkKF39, JkKF12, JkKPuGs, JkKF34, JkKPuPc, JkKF186, JkKF134, JkKF187, JkKF135, JkKF188, JkKF136, JkKF189, JkKF137, JkKF190, JkKF138, JkKF191, JkKF139, JkKF82, JkKF44, JkKF15, JkKF84, J) Conditions: none beyond the statement. -/
import Derived.Test.YthhecoidfjkmeaaGreatDoorZFnDiskOver4
import Derived.Tactics
import Derived.Deep.RegionLaw
import Derived.Shelf.Abstract
import Derived.Test.YthhecoidfjkmeaaGreatDoorProg
import Derived.KernelRfl
set_option linter.unusedSimpArgs false
set_option maxRecDepth 100000
set_option linter.unusedVariables false
namespace Go.Proofs
open Go.Jk
noncomputable abbrev aAb:a8:=[(50,EP),(123,Ma),(126,aaA),(127,aaz)]
theorem NT:aT O (aZ af aAb):=aY ⟨Mr,XN,atc,z127,⟨⟩⟩
abbrev U5:Shape:=⟨[am 0,ax 2 2 0,ax 4 4 0,am 5,ar 6],[bv 5000130 .need 2 2,bv 5000131 .entry 2 3,aw 2 [ah,ah,.own 5000130,.own 5000131],bv 5000258 .need 4 2,bv 5000259 .entry 4 3,aw 4 [ah,ah,.own 5000258,.own 5000259]],45⟩
abbrev UP:List aR:=[(.norm,⟨[am 0,ax 2 2 0,ax 4 4 0,am 5,ar 21],[bv 5000130 .need 2 2,bv 5000131 .entry 2 3,aw 2 [ah,ah,.own 5000130,.own 5000131],bv 5000258 .need 4 2,bv 5000259 .entry 4 3,aw 4 [ah,ah,.own 5000258,.own 5000259]],45⟩)]
noncomputable def oM(y:U5.J):Option (aG UP):=
 bif(!(!y.1.2.2.2.2.1)) then
 some ((y.1.1,(),(),y.1.2.2.2.1,(decide ((y.1.1.length:Int)>(4000:Int))),()),y.2.1,y.2.2.1,(y.2.2.2.1.1,y.2.2.2.1.2.1,(),(),()),y.2.2.2.2.1,y.2.2.2.2.2.1,(y.2.2.2.2.2.2.1.1,y.2.2.2.2.2.2.1.2.1,(),(),()),())
else
 some ((y.1.1,(),(),y.1.2.2.2.1,true,()),y.2.1,y.2.2.1,(y.2.2.2.1.1,y.2.2.2.1.2.1,(),(),()),y.2.2.2.2.1,y.2.2.2.2.2.1,(y.2.2.2.2.2.2.1.1,y.2.2.2.2.2.2.1.2.1,(),(),()),())
theorem apj:aV O (ap (codeOf Tryz.f76) 1 28) (aX U5 UP oM):=cm NT (by kernel_rfl) ag fun y=>by kernel_rfl
abbrev Ts:Shape:=⟨[am 0,ax 2 2 0,ax 4 4 0,ar 8],[bv 5000130 .need 2 2,bv 5000131 .entry 2 3,aw 2 [ah,ah,.own 5000130,.own 5000131],bv 5000258 .need 4 2,bv 5000259 .entry 4 3,aw 4 [ah,ah,.own 5000258,.own 5000259]],45⟩
abbrev S8:List aR:=[(.norm,⟨[ax 2 2 0,ax 4 4 0,ar 42],[bv 5000130 .need 2 2,bv 5000131 .entry 2 3,aw 2 [ah,ah,.own 5000130,.own 5000131],bv 5000258 .need 4 2,bv 5000259 .entry 4 3,aw 4 [ah,ah,.own 5000258,.own 5000259]],45⟩)]
noncomputable def re(y:Ts.J):Option (aG S8):=
 bif(!(!y.1.2.2.2.1)) then
(f50 (((y.2.2.2.2.2.2.1.1,y.2.2.2.2.2.2.1.2.1,y.2.2.2.2.1,y.2.2.2.2.2.1,()),()),())).bind fun a=>
 bif(!(!a.1.1)) then
(f123 (((y.2.2.2.2.2.2.1.1,y.2.2.2.2.2.2.1.2.1,y.2.2.2.2.1,y.2.2.2.2.2.1,()),()),())).bind fun b=>
 some (((),(),(!(b.1.1==y.1.1)),()),y.2.1,y.2.2.1,(y.2.2.2.1.1,y.2.2.2.1.2.1,(),(),()),y.2.2.2.2.1,y.2.2.2.2.2.1,(y.2.2.2.2.2.2.1.1,y.2.2.2.2.2.2.1.2.1,(),(),()),())
else
 some (((),(),true,()),y.2.1,y.2.2.1,(y.2.2.2.1.1,y.2.2.2.1.2.1,(),(),()),y.2.2.2.2.1,y.2.2.2.2.2.1,(y.2.2.2.2.2.2.1.1,y.2.2.2.2.2.2.1.2.1,(),(),()),())
else
 some (((),(),true,()),y.2.1,y.2.2.1,(y.2.2.2.1.1,y.2.2.2.1.2.1,(),(),()),y.2.2.2.2.1,y.2.2.2.2.2.1,(y.2.2.2.2.2.2.1.1,y.2.2.2.2.2.2.1.2.1,(),(),()),())
theorem amF:aV O (ap (codeOf Tryz.f76) 1 252) (aX Ts S8 re):=cm NT (by kernel_rfl) ag fun y=>by kernel_rfl
abbrev i76:Shape:=⟨[am 0],[],45⟩
abbrev xM:Shape:=⟨[ax 2 2 0,ar 3],[bv 5000130 .need 2 2,bv 5000131 .entry 2 3,aw 2 [ah,ah,.own 5000130,.own 5000131]],45⟩
noncomputable def f76(a:i76.J):Option xM.J:=
(f126 ((a.1.1,()),())).bind fun b=>
(oM ((a.1.1,(),(),b.1.2.1,b.1.2.2.1,()),([]:List bF),([]:List aB),(([]:B),([]:B),(),(),()),b.2.1,b.2.2.1,(b.2.2.2.1.1,b.2.2.2.1.2.1,(),(),()),())).bind fun c=>
 bif c.1.2.2.2.2.1 then
 some (((),false,()),([]:List bF),([]:List aB),(([]:B),([]:B),(),(),()),())
else
(f127 ((c.1.2.2.2.1,()),())).bind fun d=>
(re ((c.1.1,(),(),d.1.2.1,()),c.2.1,c.2.2.1,(c.2.2.2.1.1,c.2.2.2.1.2.1,(),(),()),c.2.2.2.2.1,d.2.1,(c.2.2.2.2.2.2.1.1,c.2.2.2.2.2.2.1.2.1,(),(),()),())).bind fun e=>
 bif e.1.2.2.1 then
 some (((),false,()),([]:List bF),([]:List aB),(([]:B),([]:B),(),(),()),())
else
 some (((),true,()),e.2.2.2.2.1,e.2.2.2.2.2.1,(e.2.2.2.2.2.2.1.1,e.2.2.2.2.2.2.1.2.1,(),(),()),())
noncomputable def adu:aH:=aL af Tryz.f76 i76 xM [] f76
theorem z76:aE O 76 adu:=aM NT Tryz.func76 (by kernel_rfl) (a7 apj (a7 amF ag)) (fun y=>by kernel_rfl) fun a=>by kernel_rfl
def eH(n:bF):B:=gh++32::cX n
theorem apW{n:bF}(h:dR n=true):cn 10 (eH n):=(cn.lit (by decide)).df fun z hz=>by
 rcases bO.1 hz with rfl|hz
 ·decide
 ·exact TK h z hz
theorem Sv(n:bF)(r:B):cL n++r=eH n++10::r:=by unfold cL eH gh;simp
theorem apK:∀(ns acc:List bF) (pre more:List B) (L bW vs:B),(∀n,n∈ns->dR n=true)->2<=pre.length->acc.length<=pre.length->pre.length+ns.length<=8->(ns.flatMap cL++10::L).length<=2000000->
  lO (iC (ns.flatMap cL++10::L) (pre.length:Int) acc bW vs (pre++(ns.map eH++[]::more)))=some (.inl (qJ L true (acc++ns) bW vs)):=by
 intro ns;induction ns with
 |nil=>
  intro acc pre more L bW vs _ hp _ hi hs;have hlt:pre.length<(pre++(([]:List bF).map eH++[]::more)).length:=by simp
  have hx:(pre++(([]:List bF).map eH++[]::more))[pre.length]? =some []:=by rw[List.getElem?_append_right (Nat.le_refl _)];simp
  have hin:=fQ hlt;have d:decide ((pre.length:Int)<=8)=true:=decide_eq_true (by simp at hi;omega)
  have c2:=mw 32 [] (by simp) 2
  have c2:f73 ((([]:B),((32:Int),((2:Int),()))),())=some (((),()),([[]],())):=c2;have hw1:IntKind.i64.wrap (((([]:B).length:Nat):Int)+1)=((1:Nat):Int):=by decide
  have j0:decide (((((10:UInt8)::L).length:Nat):Int)<((1:Nat):Int))=false:=decide_eq_false (by simp only[cW];omega)
  have jU:bq ((10:UInt8)::L) ((1:Nat):Int) ((((10:UInt8)::L).length:Nat):Int)=some L:=fO (xs:=(10:UInt8)::L) (by simp)
  have t1:((pre.length:Int)==1)=false:=by rw[beq_eq_false_iff_ne];omega
  have t2:decide ((pre.length:Int)>1)=true:=decide_eq_true (by omega)
  have hxe:(([]:B)==([]:B))=true:=rfl;rw[List.append_nil];refine cC ?_
  show ia (iC (10::L) (pre.length:Int) acc bW vs _)=_;simp only[ia,ct hlt,d,ad,hin,Y,hx,c2,hw1,j0,ak,jU,lJ,t1,mv,t2,hxe]
 |cons n ns ih=>
  intro acc pre more L bW vs h hp ha hi hs;have hk:=h n ci;have hE:(n::ns).flatMap cL++10::L=eH n++10::(ns.flatMap cL++10::L):=by rw[List.flatMap_cons,List.append_assoc,Sv]
  rw[hE] at hs ⊢;have hR:pre++((n::ns).map eH++[]::more)=(pre++[eH n])++(ns.map eH++[]::more):=by simp
  have hlt:pre.length<(pre++((n::ns).map eH++[]::more)).length:=by simp
  have hx:(pre++((n::ns).map eH++[]::more))[pre.length]? =some (eH n):=by rw[List.getElem?_append_right (Nat.le_refl _)];simp
  have hin:=fQ hlt;have aDb:(eH n).length=gh.length+1+(cX n).length:=by unfold eH;simp;omega
  simp only[dx,cW] at hs hi;have d:decide ((pre.length:Int)<=8)=true:=decide_eq_true (by omega)
  have rV:splitN 32 2 (eH n)=[gh,cX n]:=by
   have hn:cn 32 gh:=cn.lit (by decide)
   unfold eH;rw[PT hn,QN (ajq hk)]
  have c2:=mw 32 (eH n) (by omega) 2
  rw[rV] at c2;have c2:f73 ((eH n,((32:Int),((2:Int),()))),())=some (((),()),([gh,cX n],())):=c2;have hw1:IntKind.i64.wrap ((((eH n).length:Nat):Int)+1)=(((eH n).length+1:Nat):Int):=b9 (by unfold aA;omega)
  have lk:IntKind.i64.wrap (((pre.length:Nat):Int)+1)=((pre.length+1:Nat):Int):=b9 (by unfold aA;omega)
  have j0:decide ((((eH n++10::(ns.flatMap cL++10::L)).length:Nat):Int)<(((eH n).length+1:Nat):Int))=false:=decide_eq_false (by simp;omega)
  have jU:bq (eH n++10::(ns.flatMap cL++10::L)) (((eH n).length+1:Nat):Int) (((eH n++10::(ns.flatMap cL++10::L)).length:Nat):Int)=some (ns.flatMap cL++10::L):=by
   rw[fO (by simp only[dx,cW];omega)]
   refine congrArg some ?_
   rw[show eH n++10::(ns.flatMap cL++10::L)=(eH n++[10])++(ns.flatMap cL++10::L) by simp,List.drop_left' (by simp)]
  have t1:((pre.length:Int)==1)=false:=by rw[beq_eq_false_iff_ne];omega
  have t2:decide ((pre.length:Int)>1)=true:=decide_eq_true (by omega)
  have hxe:(eH n==([]:B))=false:=rfl;have h7:bh ([gh,cX n]:List B).length (0:Int)=some 0:=rfl;have ml:bh ([gh,cX n]:List B).length (1:Int)=some 1:=rfl;have dS:([gh,cX n]:List B)[0]? =some gh:=rfl;have cT:([gh,cX n]:List B)[1]? =some (cX n):=rfl;have q0:(gh==([110,101,101,100]:B))=true:=rfl;have q2:((([gh,cX n]:List B).length:Int)==2)=true:=rfl;obtain⟨ok,e1⟩:=age hk (by omega)
  have fJ:cl 40 acc ([(bF.mk n.name n.kind n.a6)]:List bF)=some (acc++[n]):=dy (by decide) (by unfold aA;simp;omega)
  have st:ia (iC (eH n++10::(ns.flatMap cL++10::L)) (pre.length:Int) acc bW vs (pre++((n::ns).map eH++[]::more)))=some (.inl (iC (ns.flatMap cL++10::L) ((pre.length+1:Nat):Int) (acc++[n]) bW vs (pre++((n::ns).map eH++[]::more)))):=by
   simp only[ia,ct hlt,d,ad,hin,Y,hx,c2,hw1,j0,ak,jU,lJ,t1,mv,t2,hxe,oo,h7,dS,q0,q2,ml,cT,e1,fJ,lk]
  have:=ih (acc++[n]) (pre++[eH n]) more L bW vs (fun x hx=>h x (cf _ hx)) (by simp;omega) (by simp;omega) (by simp;omega) (by simp only[dx,cW];omega)
  rw[<-hR,List.append_assoc] at this;have qq:(pre++[eH n]).length=pre.length+1:=by simp
  rw[qq] at this;exact(d' st).trans this
theorem agO(ns:List bF)(r:B)(h:∀n,n∈ns->dR n=true):bN 10 (ns.flatMap cL++10::r)=ns.map eH++[]::bN 10 r:=by
 induction ns with
 |nil=>exact sP (a:=[]) (cn.nil 10)
 |cons n ns ih=>
  rw[List.flatMap_cons,List.append_assoc,Sv,sP (apW (h n ci)),ih fun x hx=>h x (cf _ hx)]
  rfl
theorem amx(p:aK):cn 10 (e8 p):=(cn.lit (by decide)).df (Tm _)
theorem afz(p:aK)(hk:cx p=true)(hs:(bD p).length<=2000000):f126 ((bD p,()),())=some (qJ (dt p.bI) true p.bl p.name p.a6):=by
 have hw:IntKind.i64.wrap ((((bD p).length:Nat):Int)+1)=(((bD p).length+1:Nat):Int):=b9 (by unfold aA;omega)
 have c1:=mw 10 (bD p) (by omega) ((bD p).length+1)
 obtain⟨h1,h2,h3,aF,_,cp⟩:=nq hk;have km:splitN 10 ((bD p).length+1) (bD p)=e8 p::et p::(p.bl.map eH++[]::bN 10 (dt p.bI)):=by
  rw[y2 10 _ _ (by omega),v6,sP (amx p),vR,sP (SF hk),jh,agO _ _ h3]
 rw[km] at c1;have c1:f73 ((bD p,((10:Int),((((bD p).length+1:Nat):Int),()))),())=_:=c1;generalize aBG:p.bl.map eH++[]::bN 10 (dt p.bI)=fA at c1;have vf:bD p=e8 p++10::dJ p:=v6 p;have hB:dJ p=et p++10::jh p:=vR p;have ed:(bD p).length=(e8 p).length+1+(dJ p).length:=by rw[vf];simp;omega
 have fU:(dJ p).length=(et p).length+1+(jh p).length:=by rw[hB];simp;omega
 have hlt:∀i,i<2->decide (((i:Nat):Int)<(((e8 p::et p::fA).length:Nat):Int))=true:=fun i hi=>decide_eq_true (by simp;omega)
 have i0:bh (e8 p::et p::fA).length (0:Int)=some 0:=ML (by simp)
 have i1:bh (e8 p::et p::fA).length ((0+1:Nat):Int)=some 1:=MK (by simp)
 have fy:(e8 p::et p::fA)[0]? =some (e8 p):=rfl;have eC:(e8 p::et p::fA)[1]? =some (et p):=rfl;have iR:ia (iC (bD p) (0:Int) [] [] [] (e8 p::et p::fA))=some (.inl (iC (dJ p) ((0+1:Nat):Int) [] [] [] (e8 p::et p::fA))):=by
  have d:decide ((0:Int)<=8)=true:=rfl;have d0:decide ((0:Int)<(((e8 p::et p::fA).length:Nat):Int))=true:=hlt 0 (by decide)
  have c2:=mw 32 (e8 p) (by omega) 2
  have c2:f73 ((e8 p,((32:Int),((2:Int),()))),())=_:=c2;have hw1:IntKind.i64.wrap ((((e8 p).length:Nat):Int)+1)=(((e8 p).length+1:Nat):Int):=b9 (by unfold aA;omega)
  have j0:decide ((((bD p).length:Nat):Int)<(((e8 p).length+1:Nat):Int))=false:=decide_eq_false (by omega)
  have jU:bq (bD p) (((e8 p).length+1:Nat):Int) (((bD p).length:Nat):Int)=some (dJ p):=by
   rw[fO (by omega)]
   refine congrArg some ?_
   rw[vf,show e8 p++10::dJ p=(e8 p++[10])++dJ p by simp,List.drop_left' (by simp)]
  have t1:((0:Int)==1)=false:=rfl;have t2:decide ((0:Int)>1)=false:=rfl;have t3:decide ((0:Int)>0)=false:=rfl;have lk:IntKind.i64.wrap ((0:Int)+1)=((0+1:Nat):Int):=by decide
  simp only[ia,d0,d,ad,i0,Y,fy,c2,hw1,j0,ak,jU,lJ,t1,mv,t2,oo,t3,lk]
 have s1:ia (iC (dJ p) ((0+1:Nat):Int) [] [] [] (e8 p::et p::fA))=some (.inl (iC (jh p) ((([e8 p,et p]:List B).length:Nat):Int) [] p.name p.a6 (e8 p::et p::fA))):=by
  have d:decide (((0+1:Nat):Int)<=8)=true:=rfl;have d0:=hlt 1 (by decide)
  have d0:decide (((0+1:Nat):Int)<(((e8 p::et p::fA).length:Nat):Int))=true:=d0;have rV:splitN 32 2 (et p)=[iX,p.name,p.a6]:=by
   rw[y3 32 2 _ (by rw[FD hk];exact Nat.le_refl 3),FD hk]
  have c2:=mw 32 (et p) (by omega) 2
  rw[rV] at c2;have c2:f73 ((et p,((32:Int),((2:Int),()))),())=some (((),()),([iX,p.name,p.a6],())):=c2;have hw1:IntKind.i64.wrap ((((et p).length:Nat):Int)+1)=(((et p).length+1:Nat):Int):=b9 (by unfold aA;omega)
  have j0:decide ((((dJ p).length:Nat):Int)<(((et p).length+1:Nat):Int))=false:=decide_eq_false (by omega)
  have jU:bq (dJ p) (((et p).length+1:Nat):Int) (((dJ p).length:Nat):Int)=some (jh p):=by
   rw[fO (by omega)]
   refine congrArg some ?_
   rw[hB,show et p++10::jh p=(et p++[10])++jh p by simp,List.drop_left' (by simp)]
  have t1:(((0+1:Nat):Int)==1)=true:=rfl;have h7:bh ([iX,p.name,p.a6]:List B).length (0:Int)=some 0:=rfl;have ml:bh ([iX,p.name,p.a6]:List B).length (1:Int)=some 1:=rfl;have qG:bh ([iX,p.name,p.a6]:List B).length (2:Int)=some 2:=rfl;have dS:([iX,p.name,p.a6]:List B)[0]? =some iX:=rfl;have cT:([iX,p.name,p.a6]:List B)[1]? =some p.name:=rfl;have dC:([iX,p.name,p.a6]:List B)[2]? =some p.a6:=rfl;have q0:(iX==([112,97,99,107]:B))=true:=rfl;have ec:((([iX,p.name,p.a6]:List B).length:Int)==3)=true:=rfl;have lk:IntKind.i64.wrap (((0+1:Nat):Int)+1)=((([e8 p,et p]:List B).length:Nat):Int):=by show IntKind.i64.wrap (((0+1:Nat):Int)+1)=((2:Nat):Int);decide
  simp only[ia,d0,d,ad,i1,Y,eC,c2,hw1,j0,ak,jU,lJ,t1,h7,dS,q0,ec,ml,qG,cT,dC,lk]
 have s2:=apK p.bl [] [e8 p,et p] (bN 10 (dt p.bI)) (dt p.bI) p.name p.a6 h3 (Nat.le_refl 2) (Nat.zero_le _) (by simp;omega) (by show(jh p).length<=_;omega)
 rw[aBG] at s2;have e:lO (iC (bD p) (0:Int) [] [] [] (e8 p::et p::fA))=some (.inl (qJ (dt p.bI) true p.bl p.name p.a6)):=(d' iR).trans ((d' s1).trans s2);simp only[f126,hw,c1,Y,e]
abbrev sH(p:aK):xM.J:=(((),(true,())),(p.bl,(p.bI,((p.name,(p.a6,((),((),())))),()))))
abbrev Ox:xM.J:=(((),(false,())),(([]:List bF),(([]:List aB),((([]:B),(([]:B),((),((),())))),()))))
theorem aqf{p q:aK}(h:sH p=sH q):p=q:=by
 obtain⟨a,b,c,d⟩:=p;obtain⟨c_,bQ,fM,aey⟩:=q;simp only[sH,Prod.mk.injEq] at h;obtain⟨_,rfl,rfl,⟨rfl,rfl,_⟩,_⟩:=h;rfl
theorem Fl{p:aK}(hk:cx p=true)(hl:(bD p).length<=4000):f76 ((bD p,()),())=some (sH p):=by
 have hb:=JZ hk hl;obtain⟨h1,h2,h3,aF,_,cp⟩:=nq hk;obtain⟨q1,q2,ec,nk⟩:=y_ p;have c1:=afz p hk (by omega)
 have d:decide (((bD p).length:Int)>4000)=false:=decide_eq_false (by omega)
 have c2:=aeY p.bI cp (by omega) hb.2.2.2
 have c3:=vM (((p.name,(p.a6,(p.bl,(p.bI,())))),()),()) hb;have c3:f50 (((p.name,(p.a6,(p.bl,(p.bI,())))),()),())=some ((cx p,()),()):=c3;rw[hk] at c3;have dv:=HV p hb hk;simp only[f76,c1,Y,oM,bu,bJ,ad,d,ak,c2,re,c3,dv,beq_self_eq_true]
theorem aff(s:B)(hs:s.length<=2000000):f76 ((s,()),())=some Ox\/∃p:aK,f76 ((s,()),())=some (sH p)/\cx p=true/\bD p=s/\s.length<=4000:=by
 obtain⟨r,ok,ns,bW,vs,c1,aI,aJ,bS,cY,gq⟩:=afA s hs;cases ok with
 |false=>
  refine .inl ?_
  simp only[f76,c1,Y,oM,bu,bJ,ad,ak]
 |true=>
  by_cases hl:s.length<=4000
  ·have d:decide ((s.length:Int)>4000)=false:=decide_eq_false (by omega)
   obtain⟨MC,t,c2,iT,pq⟩:=aeZ r (by omega)
   cases MC with
   |false=>
    refine .inl ?_
    simp only[f76,c1,Y,oM,bu,bJ,ad,d,ak,c2,re]
   |true=>
    have hb:jX ⟨bW,vs,ns,t⟩:=⟨by show bW.length<=2097152;omega,by show vs.length<=2097152;omega,⟨by show ns.length<=2097152;omega,fun n hn=>by have:=bS n hn;exact⟨by show n.name.length<=2097152;omega,by show n.a6.length<=2097152;omega⟩⟩,Uy iT pq⟩
    have c3:=vM (((bW,(vs,(ns,(t,())))),()),()) hb;have c3:f50 (((bW,(vs,(ns,(t,())))),()),())=some ((cx ⟨bW,vs,ns,t⟩,()),()):=c3;cases hk:cx ⟨bW,vs,ns,t⟩ with
    |false=>
     rw[hk] at c3;refine .inl ?_
     simp only[f76,c1,Y,oM,bu,bJ,ad,d,ak,c2,re,c3]
    |true=>
     rw[hk] at c3;have dv:=HV ⟨bW,vs,ns,t⟩ hb hk;have dv:f123 (((bW,(vs,(ns,(t,())))),()),())=_:=dv;cases he:bD ⟨bW,vs,ns,t⟩==s with
     |false=>
      refine .inl ?_
      simp only[f76,c1,Y,oM,bu,bJ,ad,d,ak,c2,re,c3,dv,he]
     |true=>
      refine .inr ⟨⟨bW,vs,ns,t⟩,?_,hk,eq_of_beq he,hl⟩;simp only[f76,c1,Y,oM,bu,bJ,ad,d,ak,c2,re,c3,dv,he]
  ·have d:decide ((s.length:Int)>4000)=true:=decide_eq_true (by omega)
   refine .inl ?_
   simp only[f76,c1,Y,oM,bu,bJ,ad,d]
def aBS(D:Option aK):xM.J:=match D with|some p=>sH p|none=>Ox
theorem aix(s:B)(hs:s.length<=2000000):∃D:Option aK,f76 ((s,()),())=some (aBS D)/\mG D (acz s):=by
 rcases aff s hs with h|⟨p,h,h1,h2,h3⟩
 ·refine⟨none,h,fun p=>⟨fun hp=>(by cases hp),fun⟨q1,q2,ec⟩=>?_⟩⟩
  subst q2;have:=Fl q1 ec;rw[h] at this;simp only[bE,Prod.mk.injEq] at this;exact absurd this.1.2.1 (by decide)
 ·refine⟨some p,h,fun q=>⟨fun hp=>?_,fun⟨q1,q2,ec⟩=>?_⟩⟩
  ·cases hp;exact⟨h1,h2,h3⟩
  ·subst q2;have:=Fl q1 ec;rw[h] at this;rw[aqf (Option.some.inj this)]
noncomputable abbrev aAv:a8:=[(30,sp),(70,EN),(73,pi),(74,yk),(75,ph),(76,adu)]
theorem EV:aT O (aZ af aAv):=aY ⟨uA,z70,ql,D7,z75,z76,⟨⟩⟩
abbrev Se:Shape:=⟨[am 0,ax 2 2 0,ax 4 4 0,bd 6 3000384,aj 7],[bv 5000128 .pack 2 0,aw 2 [.own 5000128],bv 5000256 .pack 4 0,aw 4 [.own 5000256],bc 3000384 .str 6 0],73⟩
abbrev RW:List aR:=[(.norm,⟨[am 0,ax 2 2 0,ax 4 4 0,bd 6 3000384,aj 7,ar 37],[bv 5000128 .pack 2 0,aw 2 [.own 5000128],bv 5000256 .pack 4 0,aw 4 [.own 5000256],bc 3000384 .str 6 0],73⟩)]
noncomputable def q3(y:Se.J):Option (aG RW):=
 bif(!(decide ((y.2.2.2.2.2.1.length:Int)<(2:Int)))) then
(bh y.2.2.2.2.2.1.length (1:Int)).bind fun a=>
(y.2.2.2.2.2.1[a]?).bind fun b=>
(f75 ((y.1.2.2.2.2.1,(1:Int),(b.length:Int),()),())).bind fun c=>
 some ((y.1.1,(),(),(),y.1.2.2.2.2.1,(!c.1.1),()),y.2.1,((),()),y.2.2.2.1,((),()),y.2.2.2.2.2.1,())
else
 some ((y.1.1,(),(),(),y.1.2.2.2.2.1,true,()),y.2.1,((),()),y.2.2.2.1,((),()),y.2.2.2.2.2.1,())
theorem akW:aV O (ap (di (ap (codeOf Tryz.f39) 1 60)) 120 7724) (aX Se RW q3):=cm EV (by kernel_rfl) ag fun y=>by kernel_rfl
abbrev wy:Shape:=⟨[am 0,ax 2 2 0,ax 4 4 0,am 5],[bv 5000128 .pack 2 0,aw 2 [.own 5000128],bv 5000256 .pack 4 0,aw 4 [.own 5000256]],73⟩
abbrev B8:List aR:=[(.ret,⟨[ax 2 2 0,ar 3],[bv 5000128 .pack 2 0,aw 2 [.own 5000128]],73⟩),(.exit 0,⟨[am 0,ax 2 2 0,ax 4 4 0],[bv 5000128 .pack 2 0,aw 2 [.own 5000128],bv 5000256 .pack 4 0,aw 4 [.own 5000256]],73⟩)]
noncomputable def oN(y:wy.J):bP wy B8:=
 bif(!(y.1.2.2.2.1==([]:B))) then
 bif(decide ((y.2.2.2.1.length:Int)<=(5:Int))) then
(f73 ((y.1.2.2.2.1,(10:Int),(1:Int),()),())).bind fun a=>
(bh a.2.1.length (0:Int)).bind fun b=>
(a.2.1[b]?).bind fun c=>
(f74 ((c,()),())).bind fun d=>
(q3 ((y.1.1,(),(),(),d.1.1,()),y.2.1,((),()),y.2.2.2.1,((),()),a.2.1,())).bind fun e=>
 bif e.1.2.2.2.2.2.1 then
 some (.inr (.inl (((),false,()),([]:List aK),((),()),())))
else
(bh e.2.2.2.2.2.1.length (1:Int)).bind fun f=>
(e.2.2.2.2.2.1[f]?).bind fun g=>
(bq g (0:Int) e.1.2.2.2.2.1).bind fun h=>
(f76 ((h,()),())).bind fun i=>
 bif(!i.1.2.1) then
 some (.inr (.inl (((),false,()),([]:List aK),((),()),())))
else
(cl 80 e.2.2.2.1 ([(aK.mk i.2.2.2.1.1 i.2.2.2.1.2.1 i.2.1 i.2.2.1)]:List aK)).bind fun j=>
(bh e.2.2.2.2.2.1.length (1:Int)).bind fun k=>
(e.2.2.2.2.2.1[k]?).bind fun l=>
(bq l e.1.2.2.2.2.1 (l.length:Int)).bind fun m=>
 some (.inl ((e.1.1,(),(),m,()),e.2.1,((),()),j,((),()),()))
else
 some (.inr (.inr ((y.1.1,(),(),()),y.2.1,((),()),y.2.2.2.1,((),()),())))
else
 some (.inr (.inr ((y.1.1,(),(),()),y.2.1,((),()),y.2.2.2.1,((),()),())))
noncomputable def wC:wy.J->Option (aG B8):=bA oN
theorem apy:aV O (ap (codeOf Tryz.f39) 1 60) (aX wy B8 wC):=bR EV (by kernel_rfl) (a7 akW ag) fun y=>by kernel_rfl
abbrev Tu:Shape:=⟨[am 0,ax 2 2 0,ax 4 4 0],[bv 5000128 .pack 2 0,aw 2 [.own 5000128],bv 5000256 .pack 4 0,aw 4 [.own 5000256]],73⟩
abbrev S_:List aR:=[(.norm,⟨[ax 2 2 0,ax 4 4 0,ar 70],[bv 5000128 .pack 2 0,aw 2 [.own 5000128],bv 5000256 .pack 4 0,aw 4 [.own 5000256]],73⟩)]
noncomputable def th(y:Tu.J):Option (aG S_):=
(f30 (((y.2.2.2.1,()),()),())).bind fun a=>
 bif(!(!a.1.1)) then
(f70 (((y.2.2.2.1,()),()),())).bind fun b=>
 some (((),(),(!(b.1.1==y.1.1)),()),y.2.1,((),()),y.2.2.2.1,((),()),())
else
 some (((),(),true,()),y.2.1,((),()),y.2.2.2.1,((),()),())
theorem amL:aV O (ap (codeOf Tryz.f39) 1 124) (aX Tu S_ th):=cm EV (by kernel_rfl) ag fun y=>by kernel_rfl
abbrev i39:Shape:=⟨[am 0],[],73⟩
abbrev xO:Shape:=⟨[ax 2 2 0,ar 3],[bv 5000128 .pack 2 0,aw 2 [.own 5000128]],73⟩
noncomputable def f39(a:i39.J):Option xO.J:=
(wC ((a.1.1,(),(),a.1.1,()),([]:List aK),((),()),([]:List aK),((),()),())).bind fun b=>
(match b with
|.inl c=>
 some (((),c.1.2.1,()),c.2.1,((),()),())
|.inr d=>
(th ((d.1.1,(),(),()),d.2.1,((),()),d.2.2.2.1,((),()),())).bind fun e=>
 bif e.1.2.2.1 then
 some (((),false,()),([]:List aK),((),()),())
else
 some (((),true,()),e.2.2.2.1,((),()),()))
noncomputable def NL:aH:=aL af Tryz.f39 i39 xO [] f39
theorem abm:aE O 39 NL:=aM EV Tryz.func39 (by kernel_rfl) (a7 apy (a7 amL ag)) (fun y=>by kernel_rfl) fun a=>by kernel_rfl
noncomputable abbrev aAM:a8:=[(39,NL)]
theorem aBb:aT O (aZ af aAM):=aY ⟨abm,⟨⟩⟩
abbrev i12:Shape:=⟨[ck 0 [ah,ah]],[],17⟩
abbrev acq:Shape:=⟨[ar 2],[],17⟩
noncomputable def f12(a:i12.J):Option acq.J:=
(f39 ((a.1.1.1,()),())).bind fun b=>
 bif b.1.2.1 then
 some (((a.1.1.2.1==([]:B)),()),())
else
 some ((false,()),())
noncomputable def sq:aH:=aL af Tryz.f12 i12 acq [] f12
theorem z12:aE O 12 sq:=aM aBb Tryz.func12 (by kernel_rfl) ag (fun y=>by kernel_rfl) fun a=>by kernel_rfl
abbrev sJ(s rest:B)(ps:List aK):wy.J:=((s,((),((),(rest,())))),(([]:List aK),(((),()),(ps,(((),()),())))))
abbrev aeC(s:B)(ps:List aK):aG B8:=.inr ((s,((),((),()))),(([]:List aK),(((),()),(ps,(((),()),())))))
abbrev Ow(ps:List aK):xO.J:=(((),(true,())),(ps,(((),()),())))
abbrev NQ:xO.J:=(((),(false,())),(([]:List aK),(((),()),())))
def azY(D:Option (List aK)):xO.J:=match D with|some ps=>Ow ps|none=>NQ
theorem ao3(s:B):∀(m:Nat) (r:B) (ps:List aK),r.length<=m->m<=2000000->ps.length<=6->qd ps->
  wC (sJ s r ps)=some (.inl NQ)\/∃qs:List aK,wC (sJ s r ps)=some (aeC s qs)/\qd qs/\qs.length<=6:=by
 intro m;induction m with
 |zero=>
  intro r ps hs _ hl ha;have:r=[]:=List.length_eq_zero_iff.1 (by omega)
  subst this;exact .inr ⟨ps,cC rfl,ha,hl⟩
 |succ m ih=>
  intro r ps hs hm hl ha;cases r with
  |nil=>exact .inr ⟨ps,cC rfl,ha,hl⟩
  |cons b r0=>
   have hne:((b::r0)==([]:B))=false:=rfl;generalize eZ:b::r0=r at hs hne;by_cases bo:ps.length<=5
   ·have d:decide (((ps.length:Nat):Int)<=5)=true:=decide_eq_true (by omega)
    have c1:=mw 10 r (by omega) 1
    have c1:f73 ((r,((10:Int),((1:Int),()))),())=_:=c1;cases aC:dK 10 r with
    |none=>
     have e4:splitN 10 1 r=[r]:=by unfold splitN;rw[aC]
     rw[e4] at c1;have n0:=qT r (by unfold aA;omega)
     have i0:bh ([r]:List B).length (0:Int)=some 0:=rfl;have fy:([r]:List B)[0]? =some r:=rfl;have d2:decide ((([r]:List B).length:Int)<2)=true:=rfl;refine .inl (cC ?_);simp only[oN,hne,bJ,ad,d,c1,Y,i0,fy,n0,q3,d2,bu,ak]
    |some q=>
     obtain⟨b8,rest⟩:=q;have hlen:=(jD aC).1;have hlen:r.length=b8.length+1+rest.length:=by rw[hlen];simp;omega
     have e4:splitN 10 1 r=[b8,rest]:=by unfold splitN;rw[aC];rfl
     rw[e4] at c1;have n0:=qT b8 (by unfold aA;omega)
     have i0:bh ([b8,rest]:List B).length (0:Int)=some 0:=rfl;have i1:bh ([b8,rest]:List B).length (1:Int)=some 1:=rfl;have fy:([b8,rest]:List B)[0]? =some b8:=rfl;have eC:([b8,rest]:List B)[1]? =some rest:=rfl;have d2:decide ((([b8,rest]:List B).length:Int)<2)=false:=rfl;have hin:=oI ((hh b8,((1:Int),((rest.length:Int),()))),());have hin:f75 ((hh b8,((1:Int),((rest.length:Int),()))),())=some ((within (hh b8) 1 (rest.length:Int),()),()):=hin;cases hw:within (hh b8) 1 (rest.length:Int) with
     |false=>
      rw[hw] at hin;refine .inl (cC ?_);simp only[oN,hne,bJ,ad,d,c1,Y,i0,fy,n0,q3,d2,i1,eC,hin]
     |true=>
      rw[hw] at hin;have hb:=s4 hw;obtain⟨n,hn⟩:∃n:Nat,hh b8=(n:Int):=⟨(hh b8).toNat,by omega⟩
      rw[hn] at hin n0 hb;have s1:bq rest 0 ((n:Nat):Int)=some (rest.take n):=gw (by omega)
      have s2:bq rest ((n:Nat):Int) ((rest.length:Nat):Int)=some (rest.drop n):=fO (by omega)
      have acI:(rest.take n).length<=2000000:=by simp;omega
      obtain⟨D,g1,g2⟩:=aix (rest.take n) acI;cases D with
      |none=>
       have g1:f76 ((rest.take n,()),())=some Ox:=g1;refine .inl (cC ?_);simp only[oN,hne,bJ,ad,d,c1,Y,i0,fy,n0,q3,d2,i1,eC,hin,bu,ak,s1,g1]
      |some p=>
       have g1:f76 ((rest.take n,()),())=some (sH p):=g1;obtain⟨iS,jx,p3⟩:=(g2 p).1 rfl;have fJ:cl 80 ps ([(aK.mk p.name p.a6 p.bl p.bI)]:List aK)=some (ps++[p]):=dy (by decide) (by unfold aA;simp;omega)
       have st:oN (sJ s r ps)=some (.inl (sJ s (rest.drop n) (ps++[p]))):=by
        simp only[oN,hne,bJ,ad,d,c1,Y,i0,fy,n0,q3,d2,i1,eC,hin,bu,ak,s1,g1,fJ,s2]
       rcases ih (rest.drop n) (ps++[p]) (by simp;omega) (by omega) (by simp;omega) (fun z hz=>by
        rcases bp.1 hz with hz|hz
        ·exact ha z hz
        ·rw[List.mem_singleton.1 hz];exact⟨iS,by rw[jx];exact p3⟩) with e|⟨qs,e1,e2⟩
       ·exact .inl ((d' st).trans e)
       ·exact .inr ⟨qs,(d' st).trans e1,e2⟩
   ·have d:decide (((ps.length:Nat):Int)<=5)=false:=decide_eq_false (by omega)
    refine .inr ⟨ps,cC ?_,ha,hl⟩;simp only[oN,hne,bJ,ad,d,ak]
theorem alp{ps:List aK}(h:qd ps)(bo:ps.length<=5):(ce ps).length<=30000:=by
 have h1:=ny (f:=fun p=>cS (bD p)) (xs:=ps) (n:=5000) fun q aC=>by
  have:=(h q aC).2;have:=j4 (bD q).length (by omega)
  show(cS (bD q)).length<=5000;unfold cS;simp;omega
 have e:(ce ps).length=(ps.flatMap fun p=>cS (bD p)).length:=rfl
 have cp:ps.length*5000<=6*5000:=Nat.mul_le_mul_right _ (by omega)
 omega
theorem ao2(s:B):∀(qs ps:List aK),qd qs->ps.length+qs.length<=5->wC (sJ s (ce qs) ps)=some (aeC s (ps++qs)):=by
 intro qs;induction qs with
 |nil=>intro ps _ _;rw[List.append_nil];exact cC rfl
 |cons p qs ih=>
  intro ps h hl;obtain⟨h1,h2⟩:=h p ci;simp only[cW] at hl;have hR:ce (p::qs)=cS (bD p)++ce qs:=vC p qs;have gl:=zm (bD p) (ce qs);have hlen:=alp (ps:=p::qs) h (by simp;omega)
  rw[hR] at hlen ⊢;generalize hr:cS (bD p)++ce qs=r at gl hlen;have e4:splitN 10 1 r=[Lib.itoa ((bD p).length:Int),bD p++ce qs]:=by unfold splitN;rw[gl];rfl
  have hne:(r==([]:B))=false:=by
   have:=(jD gl).1;cases hx:r with
   |nil=>rw[hx] at this;simp at this
   |cons b r=>rfl
  have d:decide (((ps.length:Nat):Int)<=5)=true:=decide_eq_true (by omega)
  have c1:=mw 10 r (by omega) 1
  rw[e4] at c1;have c1:f73 ((r,((10:Int),((1:Int),()))),())=_:=c1;have aDc:=j4 (bD p).length (by omega)
  have n0:=qT (Lib.itoa ((bD p).length:Int)) (by unfold aA;omega)
  rw[Gl _ (by omega)] at n0
  generalize Lib.itoa ((bD p).length:Int)=b8 at c1 n0;have i0:bh ([b8,bD p++ce qs]:List B).length (0:Int)=some 0:=rfl;have i1:bh ([b8,bD p++ce qs]:List B).length (1:Int)=some 1:=rfl;have fy:([b8,bD p++ce qs]:List B)[0]? =some b8:=rfl;have eC:([b8,bD p++ce qs]:List B)[1]? =some (bD p++ce qs):=rfl;have d2:decide ((([b8,bD p++ce qs]:List B).length:Int)<2)=false:=rfl;have nQ:1<=(bD p).length:=by rw[v6];simp only[dx,cW];omega
  have hin:=oI ((((bD p).length:Int),((1:Int),(((bD p++ce qs).length:Int),()))),());have hin:f75 ((((bD p).length:Int),((1:Int),(((bD p++ce qs).length:Int),()))),())=some ((true,()),()):=by
   rw[hin];have:within ((bD p).length:Int) 1 ((bD p++ce qs).length:Int)=true:=by
    unfold within;rw[decide_eq_true (by omega),decide_eq_true (by simp only[dx];omega)]
    rfl
   show some ((within ((bD p).length:Int) 1 ((bD p++ce qs).length:Int),()),())=_;rw[this]
  have s1:bq (bD p++ce qs) 0 (((bD p).length:Nat):Int)=some (bD p):=by rw[gw (by simp),List.take_left' rfl]
  have s2:bq (bD p++ce qs) (((bD p).length:Nat):Int) (((bD p++ce qs).length:Nat):Int)=some (ce qs):=by rw[fO (by simp),List.drop_left' rfl]
  have g1:=Fl h1 h2;have fJ:cl 80 ps ([(aK.mk p.name p.a6 p.bl p.bI)]:List aK)=some (ps++[p]):=dy (by decide) (by unfold aA;simp;omega)
  have st:oN (sJ s r ps)=some (.inl (sJ s (ce qs) (ps++[p]))):=by
   simp only[oN,hne,bJ,ad,d,c1,Y,i0,fy,n0,q3,d2,i1,eC,hin,bu,ak,s1,g1,fJ,s2]
  have:=ih (ps++[p]) (fun r hr=>h r (cf _ hr)) (by simp;omega)
  rw[List.append_assoc] at this;exact(d' st).trans this
theorem aiw(s:B)(hs:s.length<=2000000):∃D:Option (List aK),f39 ((s,()),())=some (azY D)/\mG D (nZ s):=by
 have put:∀ps:List aK,nZ s ps->f39 ((s,()),())=some (Ow ps):=by
  intro ps ⟨h1,h2,h3⟩;have hl:ps.length<=5:=(kW h1).2;obtain⟨hb,hv⟩:=we h3 (by omega)
  have g:=ao2 s ps [] h3 (by simpa using hl)
  rw[h2] at g;have e:=vL (((ps,()),()),()) hb hv;have e:f30 (((ps,()),()),())=some ((eE ps,()),()):=e;rw[h1] at e;have e2:=Az ps hb (kW h1).1;simp only[f39,g,List.nil_append,Y,th,e,bu,bJ,ad,ak,e2,h2,beq_self_eq_true]
 have any:f39 ((s,()),())=some NQ\/∃ps,f39 ((s,()),())=some (Ow ps)/\nZ s ps:=by
  rcases ao3 s s.length s [] (Nat.le_refl _) hs (by decide) (fun x hx=>by cases hx) with g|⟨qs,g,h2,h3⟩
  ·refine .inl ?_
   simp only[f39,g,Y]
  ·obtain⟨hb,hv⟩:=we h2 h3;have e:=vL (((qs,()),()),()) hb hv;have e:f30 (((qs,()),()),())=some ((eE qs,()),()):=e;cases hr:eE qs with
   |false=>
    rw[hr] at e;refine .inl ?_
    simp only[f39,g,Y,th,e,bJ,bu,ad,ak]
   |true=>
    rw[hr] at e;have e2:=Az qs hb (kW hr).1;cases he:ce qs==s with
    |false=>
     refine .inl ?_
     simp only[f39,g,Y,th,e,bJ,bu,ad,ak,e2,he]
    |true=>
     refine .inr ⟨qs,?_,hr,eq_of_beq he,h2⟩;simp only[f39,g,Y,th,e,bJ,bu,ad,ak,e2,he]
 rcases any with h|⟨ps,h,hr⟩
 ·refine⟨none,h,fun p=>⟨fun hp=>(by cases hp),fun hp=>?_⟩⟩
  have:=put p hp;rw[h] at this;simp only[bE,Prod.mk.injEq] at this;exact absurd this.1.2.1 (by decide)
 ·refine⟨some ps,h,fun q=>⟨fun hp=>by cases hp;exact hr,fun hp=>?_⟩⟩
  have:=put q hp;rw[h] at this;simp only[bE,Prod.mk.injEq] at this;rw[this.2.1]
theorem RN(s t:B)(hs:s.length<=2000000):∃D:Option (List aK),f12 (((s,(t,())),()),())=some ((D.isSome&&t==[],()),())/\mG D (nZ s):=by
 obtain⟨D,h1,h2⟩:=aiw s hs;refine⟨D,?_,h2⟩;simp only[f12,h1,Y];cases D<;>rfl
noncomputable abbrev aAz:a8:=[(36,NM),(43,yl),(63,Dp),(64,DQ)]
theorem ad5:aT O (aZ af aAz):=aY ⟨abn,D8,KE,K0,⟨⟩⟩
abbrev AF:Shape:=⟨[ax 3 3 0,aO 11 .pack,aj 12,aj 13],[bv 5000193 .u8 3 1,aw 3 [.dN,.own 5000193]],28⟩
abbrev H1:List aR:=[(.exit 0,⟨[ax 3 3 0],[bv 5000193 .u8 3 1,aw 3 [.dN,.own 5000193]],28⟩)]
noncomputable def wi(y:AF.J):bP AF H1:=
 bif(decide (y.1.2.2.2.1<y.1.2.2.1)) then
(aS y.1.2.1 y.1.2.2.2.1).bind fun a=>
(f36 (((a.name,a.a6,a.bl,a.bI,()),()),())).bind fun b=>
(if-9223372036854775808<=(b.1.1.length:Int)/\(b.1.1.length:Int)<=9223372036854775807 then some () else none).bind fun c=>
(cc (Lib.itoa (b.1.1.length:Int)) ([10]:B)).bind fun d=>
(cc d b.1.1).bind fun e=>
(mK (((),e,()),y.2.1,((),(),()),())).bind fun f=>
 some (.inl (((),y.1.2.1,y.1.2.2.1,(IntKind.i64.wrap (y.1.2.2.2.1+(1:Int))),()),f.2.1,((),(),()),()))
else
 some (.inr (((),()),y.2.1,((),(),()),()))
noncomputable def IT:AF.J->Option (aG H1):=bA wi
theorem amM:aV O (ap (codeOf Tryz.f34) 1 122) (aX AF H1 IT):=bR ad5 (by kernel_rfl) ag fun y=>by kernel_rfl
abbrev i34:Shape:=⟨[ck 0 [br .pack]],[],28⟩
abbrev acb:Shape:=⟨[am 2],[],28⟩
noncomputable def f34(a:i34.J):Option acb.J:=
(f43 (((a.1.1.1,()),()),())).bind fun b=>
 bif(!b.1.1) then
 some ((([]:B),()),())
else
(IT (((),a.1.1.1,(a.1.1.1.length:Int),(0:Int),()),([]:List Int),((),(),()),())).bind fun c=>
 some (((strOf c.2.1),()),())
noncomputable def NO:aH:=aL af Tryz.f34 i34 acb [] f34
theorem abp:aE O 34 NO:=aM ad5 Tryz.func34 (by kernel_rfl) (a7 amM ag) (fun y=>by kernel_rfl) fun a=>by kernel_rfl
theorem kS{aD lu:Type}{D:Option aD}{x:aD}{k:aD->Option lu}(h:D=some x):D.bind k=k x:=by rw[h];rfl
theorem anZ(ps:List aK)(hb:fu ps)(hk:∀p,p∈ps->cx p=true)(bo:ps.length<=5)(i:Nat)(hi:i<ps.length):
  wi (((),(ps,((ps.length:Int),((i:Int),())))),(bytesOf ((ps.take i).flatMap (fun p=>cS (bD p))),(((),((),())),())))=some (.inl (((),(ps,((ps.length:Int),(((i+1:Nat):Int),())))),(bytesOf ((ps.take (i+1)).flatMap (fun p=>cS (bD p))),(((),((),())),())))):=by
 obtain⟨p,he⟩:∃p,ps[i]? =some p:=⟨ps[i],dZ hi⟩;have eG:=eJ he;have jb:((ps.take i).flatMap fun p=>cS (bD p)).length<=503317500:=by
  have h1:=ny (f:=fun p=>cS (bD p)) (xs:=ps.take i) (n:=100663500) fun p hp=>Gg (hb.2 p (qV hp)) (hk p (qV hp))
  have h2:=(List.take_sublist i ps).length_le;have aF:(ps.take i).length*100663500<=5*100663500:=Nat.mul_le_mul_right _ (by omega)
  omega
 have hX:=Af (hb.2 p eG) (hk p eG);have h2:=j4 (bD p).length (by omega)
 have acK:=hk p eG;have M1:=FH p (hb.2 p eG);simp only[acK,ad] at M1;have acV:(ps.take (i+1)).flatMap (fun p=>cS (bD p))=(ps.take i).flatMap (fun p=>cS (bD p))++cS (bD p):=nr (fun p=>cS (bD p)) he
 rw[acV];clear acV acK hk;generalize bD p=bx at hX h2 M1 ⊢;generalize List.flatMap (fun p=>cS (bD p)) (List.take i ps)=A at jb ⊢
 have i2:=Ki (n:=(bx.length:Int)) ⟨by omega,by omega⟩
 have e1:=dI (s:=Lib.itoa (bx.length:Int)) (t:=[10]) (by simp;omega)
 have e2:=dI (s:=Lib.itoa (bx.length:Int)++[10]) (t:=bx) (by simp;omega)
 have dn:Lib.itoa (bx.length:Int)++[10]++bx=cS bx:=rfl;have e5:(cS bx).length<=100663500:=by unfold cS;simp;omega
 rw[dn] at e2;generalize cS bx=C at e2 e5 ⊢;have bz:=pN (bytesOf A) C (by unfold aA;rw[jB];omega)
 simp only[wi,ct hi,ad,cd,he,Y];refine(kS M1).trans ((kS (if_pos ⟨?_,?_⟩)).trans ((kS e1).trans ((kS e2).trans ((kS bz).trans ?_))))
 ·rw[b9 (i:=i) (by unfold aA;omega),py]
 ·show-9223372036854775808<=(bx.length:Int);omega
 ·show(bx.length:Int)<=9223372036854775807;omega
theorem PL(ps:List aK)(hb:fu ps)(hv:j2 ps):f34 (((ps,()),()),())=some ((bif eE ps then ce ps else [],()),()):=by
 have h0:=zg (((ps,()),()),()) hb hv;have h0:f43 (((ps,()),()),())=some ((eE ps,()),()):=h0;simp only[f34,h0,Y];cases hr:eE ps with
 |false=>rfl
 |true=>
  have hk:=(kW hr).1;have bo:=(kW hr).2;have aI:IT (((),(ps,((ps.length:Int),((0:Int),())))),(([]:List Int),(((),((),())),())))=some (((),()),(bytesOf (ce ps),(((),((),())),()))):=by
   refine ga (g:=wi) (fun i=>(((),(ps,((ps.length:Int),((i:Int),())))),(bytesOf ((ps.take i).flatMap (fun p=>cS (bD p))),(((),((),())),())))) ps.length (fun i hi=>anZ ps hb hk bo i hi) ?_ ps.length 0 (by omega)
   simp only[wi,dL,ak,List.take_length,ce]
  simp only[bu,ak,ad,aI,Y,vq]
abbrev i186:Shape:=⟨[ck 0 [ah,ba,ah],aj 1],[],20⟩
abbrev YQ:Shape:=⟨[aj 4],[],20⟩
noncomputable def f186(a:i186.J):Option YQ.J:=
 bif(decide ((IntKind.i64.wrap (a.1.2.1-(a.1.1.1.length:Int)))<(0:Int))) then
 some ((((-1):Int),()),())
else
 bif(decide ((IntKind.i64.wrap ((IntKind.i64.wrap (a.1.2.1-(a.1.1.1.length:Int)))-(a.1.1.2.2.1.length:Int)))<(0:Int))) then
 some ((((-1):Int),()),())
else
 some (((IntKind.i64.wrap ((IntKind.i64.wrap (a.1.2.1-(a.1.1.1.length:Int)))-(a.1.1.2.2.1.length:Int))),()),())
noncomputable def _1:aH:=aL af Tryz.f186 i186 YQ [] f186
theorem asQ:aE O 186 _1:=aM g0 Tryz.func186 (by kernel_rfl) ag (fun y=>by kernel_rfl) fun a=>by kernel_rfl
noncomputable abbrev avN:a8:=[(186,_1)]
theorem aa8:aT O (aZ af avN):=aY ⟨asQ,⟨⟩⟩
abbrev Aa:Shape:=⟨[aO 0 .need,aj 1,aj 5],[],27⟩
abbrev G7:List aR:=[(.ret,⟨[aj 4],[],27⟩),(.exit 0,⟨[aj 1],[],27⟩)]
noncomputable def alV(y:Aa.J):bP Aa G7:=
 bif(decide (y.1.2.2.1<(y.1.1.length:Int))) then
(aS y.1.1 y.1.2.2.1).bind fun a=>
(f186 (((a.name,a.kind,a.a6,()),y.1.2.1,()),())).bind fun b=>
 bif(decide (b.1.1<(0:Int))) then
 some (.inr (.inl ((((-1):Int),()),())))
else
 some (.inl ((y.1.1,b.1.1,(IntKind.i64.wrap (y.1.2.2.1+(1:Int))),()),()))
else
 some (.inr (.inr ((y.1.2.1,()),())))
noncomputable def SB:Aa.J->Option (aG G7):=bA alV
theorem ali:aV O (ap (codeOf Tryz.f134) 1 122) (aX Aa G7 SB):=bR aa8 (by kernel_rfl) ag fun y=>by kernel_rfl
abbrev i134:Shape:=⟨[aO 0 .need,aj 1],[],27⟩
abbrev Zr:Shape:=⟨[aj 4],[],27⟩
noncomputable def f134(a:i134.J):Option Zr.J:=
 bif(decide ((IntKind.i64.wrap (a.1.2.1-(a.1.1.length:Int)))<(0:Int))) then
 some ((((-1):Int),()),())
else
(SB ((a.1.1,(IntKind.i64.wrap (a.1.2.1-(a.1.1.length:Int))),(0:Int),()),())).bind fun b=>
(match b with
|.inl c=>
 some ((c.1.1,()),())
|.inr d=>
 some ((d.1.1,()),()))
noncomputable def aaw:aH:=aL af Tryz.f134 i134 Zr [] f134
theorem ata:aE O 134 aaw:=aM aa8 Tryz.func134 (by kernel_rfl) (a7 ali ag) (fun y=>by kernel_rfl) fun a=>by kernel_rfl
abbrev i187:Shape:=⟨[ck 0 [ah,ba,ba,ah],aj 1],[],20⟩
abbrev YP:Shape:=⟨[aj 4],[],20⟩
noncomputable def f187(a:i187.J):Option YP.J:=
 bif(decide ((IntKind.i64.wrap (a.1.2.1-(a.1.1.1.length:Int)))<(0:Int))) then
 some ((((-1):Int),()),())
else
 bif(decide ((IntKind.i64.wrap ((IntKind.i64.wrap (a.1.2.1-(a.1.1.1.length:Int)))-(a.1.1.2.2.2.1.length:Int)))<(0:Int))) then
 some ((((-1):Int),()),())
else
 some (((IntKind.i64.wrap ((IntKind.i64.wrap (a.1.2.1-(a.1.1.1.length:Int)))-(a.1.1.2.2.2.1.length:Int))),()),())
noncomputable def _0:aH:=aL af Tryz.f187 i187 YP [] f187
theorem asP:aE O 187 _0:=aM g0 Tryz.func187 (by kernel_rfl) ag (fun y=>by kernel_rfl) fun a=>by kernel_rfl
noncomputable abbrev avM:a8:=[(187,_0)]
theorem aa7:aT O (aZ af avM):=aY ⟨asP,⟨⟩⟩
abbrev z':Shape:=⟨[aO 0 .entry,aj 1,aj 5],[],27⟩
abbrev G6:List aR:=[(.ret,⟨[aj 4],[],27⟩),(.exit 0,⟨[aj 1],[],27⟩)]
noncomputable def alU(y:z'.J):bP z' G6:=
 bif(decide (y.1.2.2.1<(y.1.1.length:Int))) then
(aS y.1.1 y.1.2.2.1).bind fun a=>
(f187 (((a.path,a.kind,a.mode,a.text,()),y.1.2.1,()),())).bind fun b=>
 bif(decide (b.1.1<(0:Int))) then
 some (.inr (.inl ((((-1):Int),()),())))
else
 some (.inl ((y.1.1,b.1.1,(IntKind.i64.wrap (y.1.2.2.1+(1:Int))),()),()))
else
 some (.inr (.inr ((y.1.2.1,()),())))
noncomputable def SA:z'.J->Option (aG G6):=bA alU
theorem alh:aV O (ap (codeOf Tryz.f135) 1 122) (aX z' G6 SA):=bR aa7 (by kernel_rfl) ag fun y=>by kernel_rfl
abbrev i135:Shape:=⟨[aO 0 .entry,aj 1],[],27⟩
abbrev Zq:Shape:=⟨[aj 4],[],27⟩
noncomputable def f135(a:i135.J):Option Zq.J:=
 bif(decide ((IntKind.i64.wrap (a.1.2.1-(a.1.1.length:Int)))<(0:Int))) then
 some ((((-1):Int),()),())
else
(SA ((a.1.1,(IntKind.i64.wrap (a.1.2.1-(a.1.1.length:Int))),(0:Int),()),())).bind fun b=>
(match b with
|.inl c=>
 some ((c.1.1,()),())
|.inr d=>
 some ((d.1.1,()),()))
noncomputable def aav:aH:=aL af Tryz.f135 i135 Zq [] f135
theorem as9:aE O 135 aav:=aM aa7 Tryz.func135 (by kernel_rfl) (a7 alh ag) (fun y=>by kernel_rfl) fun a=>by kernel_rfl
abbrev i188:Shape:=⟨[ck 0 [ah,ba,ah]],[],14⟩
abbrev YO:Shape:=⟨[ax 2 2 0],[aw 2 [ah,ba,ah]],14⟩
noncomputable def f188(a:i188.J):Option YO.J:=
 some (((),()),(a.1.1.1,a.1.1.2.1,a.1.1.2.2.1,()),())
noncomputable def _Z:aH:=aL af Tryz.f188 i188 YO [] f188
theorem asO:aE O 188 _Z:=aM g0 Tryz.func188 (by kernel_rfl) ag (fun y=>by kernel_rfl) fun a=>by kernel_rfl
noncomputable abbrev avL:a8:=[(188,_Z)]
theorem aa6:aT O (aZ af avL):=aY ⟨asO,⟨⟩⟩
abbrev Ba:Shape:=⟨[aO 0 .need,bd 3 3000192,aj 4],[bc 3000192 .need 3 0],23⟩
abbrev Iw:List aR:=[(.exit 0,⟨[bd 3 3000192],[bc 3000192 .need 3 0],23⟩)]
noncomputable def aob(y:Ba.J):bP Ba Iw:=
 bif(decide (y.1.2.2.1<(y.1.1.length:Int))) then
(aS y.1.1 y.1.2.2.1).bind fun a=>
(f188 (((a.name,a.kind,a.a6,()),()),())).bind fun b=>
(bh y.2.1.length y.1.2.2.1).bind fun c=>
((y.2.1[c]?).bind fun q=>some (bF.mk b.2.1.1 b.2.1.2.1 b.2.1.2.2.1)).bind fun d=>
 some (.inl ((y.1.1,(),(IntKind.i64.wrap (y.1.2.2.1+(1:Int))),()),(y.2.1.set c d),()))
else
 some (.inr (((),()),y.2.1,()))
noncomputable def T_:Ba.J->Option (aG Iw):=bA aob
theorem anw:aV O (ap (codeOf Tryz.f136) 1 58) (aX Ba Iw T_):=bR aa6 (by kernel_rfl) ag fun y=>by kernel_rfl
abbrev i136:Shape:=⟨[aO 0 .need],[],23⟩
abbrev Zp:Shape:=⟨[bd 2 3000128],[bc 3000128 .need 2 0],23⟩
noncomputable def f136(a:i136.J):Option Zp.J:=
(kk 40 (a.1.1.length:Int) (a.1.1.length:Int) (bF.mk ([]:B) (0:Int) ([]:B))).bind fun b=>
(T_ ((a.1.1,(),(0:Int),()),b,())).bind fun c=>
 some (((),()),c.2.1,())
noncomputable def aau:aH:=aL af Tryz.f136 i136 Zp [] f136
theorem as8:aE O 136 aau:=aM aa6 Tryz.func136 (by kernel_rfl) (a7 anw ag) (fun y=>by kernel_rfl) fun a=>by kernel_rfl
abbrev i189:Shape:=⟨[ck 0 [ah,ba,ba,ah]],[],17⟩
abbrev YN:Shape:=⟨[ax 2 2 0],[aw 2 [ah,ba,ba,ah]],17⟩
noncomputable def f189(a:i189.J):Option YN.J:=
 some (((),()),(a.1.1.1,a.1.1.2.1,a.1.1.2.2.1,a.1.1.2.2.2.1,()),())
noncomputable def _Y:aH:=aL af Tryz.f189 i189 YN [] f189
theorem asN:aE O 189 _Y:=aM g0 Tryz.func189 (by kernel_rfl) ag (fun y=>by kernel_rfl) fun a=>by kernel_rfl
noncomputable abbrev avK:a8:=[(189,_Y)]
theorem aa5:aT O (aZ af avK):=aY ⟨asN,⟨⟩⟩
abbrev A':Shape:=⟨[aO 0 .entry,bd 3 3000192,aj 4],[bc 3000192 .entry 3 0],23⟩
abbrev Iv:List aR:=[(.exit 0,⟨[bd 3 3000192],[bc 3000192 .entry 3 0],23⟩)]
noncomputable def aoa(y:A'.J):bP A' Iv:=
 bif(decide (y.1.2.2.1<(y.1.1.length:Int))) then
(aS y.1.1 y.1.2.2.1).bind fun a=>
(f189 (((a.path,a.kind,a.mode,a.text,()),()),())).bind fun b=>
(bh y.2.1.length y.1.2.2.1).bind fun c=>
((y.2.1[c]?).bind fun q=>some (aB.mk b.2.1.1 b.2.1.2.1 b.2.1.2.2.1 b.2.1.2.2.2.1)).bind fun d=>
 some (.inl ((y.1.1,(),(IntKind.i64.wrap (y.1.2.2.1+(1:Int))),()),(y.2.1.set c d),()))
else
 some (.inr (((),()),y.2.1,()))
noncomputable def T9:A'.J->Option (aG Iv):=bA aoa
theorem anv:aV O (ap (codeOf Tryz.f137) 1 58) (aX A' Iv T9):=bR aa5 (by kernel_rfl) ag fun y=>by kernel_rfl
abbrev i137:Shape:=⟨[aO 0 .entry],[],23⟩
abbrev Zo:Shape:=⟨[bd 2 3000128],[bc 3000128 .entry 2 0],23⟩
noncomputable def f137(a:i137.J):Option Zo.J:=
(kk 48 (a.1.1.length:Int) (a.1.1.length:Int) (aB.mk ([]:B) (0:Int) (0:Int) ([]:B))).bind fun b=>
(T9 ((a.1.1,(),(0:Int),()),b,())).bind fun c=>
 some (((),()),c.2.1,())
noncomputable def aat:aH:=aL af Tryz.f137 i137 Zo [] f137
theorem as7:aE O 137 aat:=aM aa5 Tryz.func137 (by kernel_rfl) (a7 anv ag) (fun y=>by kernel_rfl) fun a=>by kernel_rfl
abbrev i190:Shape:=⟨[ck 0 [ah,ba,ah],ck 1 [ah,ba,ah]],[],20⟩
abbrev YM:Shape:=⟨[ar 4],[],20⟩
noncomputable def f190(a:i190.J):Option YM.J:=
 bif(!(a.1.1.1==a.1.2.1.1)) then
 some ((false,()),())
else
 bif(a.1.1.2.1 !=a.1.2.1.2.1) then
 some ((false,()),())
else
 bif(!(a.1.1.2.2.1==a.1.2.1.2.2.1)) then
 some ((false,()),())
else
 some ((true,()),())
noncomputable def _X:aH:=aL af Tryz.f190 i190 YM [] f190
theorem asM:aE O 190 _X:=aM g0 Tryz.func190 (by kernel_rfl) ag (fun y=>by kernel_rfl) fun a=>by kernel_rfl
noncomputable abbrev avJ:a8:=[(190,_X)]
theorem aa4:aT O (aZ af avJ):=aY ⟨asM,⟨⟩⟩
abbrev A_:Shape:=⟨[aO 0 .need,aO 1 .need,aj 5],[],27⟩
abbrev Iu:List aR:=[(.ret,⟨[ar 4],[],27⟩),(.exit 0,⟨[],[],27⟩)]
noncomputable def an9(y:A_.J):bP A_ Iu:=
 bif(decide (y.1.2.2.1<(y.1.1.length:Int))) then
(aS y.1.1 y.1.2.2.1).bind fun a=>
(aS y.1.2.1 y.1.2.2.1).bind fun b=>
(f190 (((a.name,a.kind,a.a6,()),(b.name,b.kind,b.a6,()),()),())).bind fun c=>
 bif(!c.1.1) then
 some (.inr (.inl ((false,()),())))
else
 some (.inl ((y.1.1,y.1.2.1,(IntKind.i64.wrap (y.1.2.2.1+(1:Int))),()),()))
else
 some (.inr (.inr ((),())))
noncomputable def T8:A_.J->Option (aG Iu):=bA an9
theorem anu:aV O (ap (codeOf Tryz.f138) 1 58) (aX A_ Iu T8):=bR aa4 (by kernel_rfl) ag fun y=>by kernel_rfl
abbrev i138:Shape:=⟨[aO 0 .need,aO 1 .need],[],27⟩
abbrev Zn:Shape:=⟨[ar 4],[],27⟩
noncomputable def f138(a:i138.J):Option Zn.J:=
 bif((a.1.1.length:Int) !=(a.1.2.1.length:Int)) then
 some ((false,()),())
else
(T8 ((a.1.1,a.1.2.1,(0:Int),()),())).bind fun b=>
(match b with
|.inl c=>
 some ((c.1.1,()),())
|.inr d=>
 some ((true,()),()))
noncomputable def aas:aH:=aL af Tryz.f138 i138 Zn [] f138
theorem z138:aE O 138 aas:=aM aa4 Tryz.func138 (by kernel_rfl) (a7 anu ag) (fun y=>by kernel_rfl) fun a=>by kernel_rfl
abbrev i191:Shape:=⟨[ck 0 [ah,ba,ba,ah],ck 1 [ah,ba,ba,ah]],[],25⟩
abbrev YL:Shape:=⟨[ar 4],[],25⟩
noncomputable def f191(a:i191.J):Option YL.J:=
 bif(!(a.1.1.1==a.1.2.1.1)) then
 some ((false,()),())
else
 bif(a.1.1.2.1 !=a.1.2.1.2.1) then
 some ((false,()),())
else
 bif(a.1.1.2.2.1 !=a.1.2.1.2.2.1) then
 some ((false,()),())
else
 bif(!(a.1.1.2.2.2.1==a.1.2.1.2.2.2.1)) then
 some ((false,()),())
else
 some ((true,()),())
noncomputable def _W:aH:=aL af Tryz.f191 i191 YL [] f191
theorem asL:aE O 191 _W:=aM g0 Tryz.func191 (by kernel_rfl) ag (fun y=>by kernel_rfl) fun a=>by kernel_rfl
noncomputable abbrev avI:a8:=[(191,_W)]
theorem aa3:aT O (aZ af avI):=aY ⟨asL,⟨⟩⟩
abbrev A9:Shape:=⟨[aO 0 .entry,aO 1 .entry,aj 5],[],27⟩
abbrev It:List aR:=[(.ret,⟨[ar 4],[],27⟩),(.exit 0,⟨[],[],27⟩)]
noncomputable def an8(y:A9.J):bP A9 It:=
 bif(decide (y.1.2.2.1<(y.1.1.length:Int))) then
(aS y.1.1 y.1.2.2.1).bind fun a=>
(aS y.1.2.1 y.1.2.2.1).bind fun b=>
(f191 (((a.path,a.kind,a.mode,a.text,()),(b.path,b.kind,b.mode,b.text,()),()),())).bind fun c=>
 bif(!c.1.1) then
 some (.inr (.inl ((false,()),())))
else
 some (.inl ((y.1.1,y.1.2.1,(IntKind.i64.wrap (y.1.2.2.1+(1:Int))),()),()))
else
 some (.inr (.inr ((),())))
noncomputable def T7:A9.J->Option (aG It):=bA an8
theorem ant:aV O (ap (codeOf Tryz.f139) 1 58) (aX A9 It T7):=bR aa3 (by kernel_rfl) ag fun y=>by kernel_rfl
abbrev i139:Shape:=⟨[aO 0 .entry,aO 1 .entry],[],27⟩
abbrev Zm:Shape:=⟨[ar 4],[],27⟩
noncomputable def f139(a:i139.J):Option Zm.J:=
 bif((a.1.1.length:Int) !=(a.1.2.1.length:Int)) then
 some ((false,()),())
else
(T7 ((a.1.1,a.1.2.1,(0:Int),()),())).bind fun b=>
(match b with
|.inl c=>
 some ((c.1.1,()),())
|.inr d=>
 some ((true,()),()))
noncomputable def aar:aH:=aL af Tryz.f139 i139 Zm [] f139
theorem z139:aE O 139 aar:=aM aa3 Tryz.func139 (by kernel_rfl) (a7 ant ag) (fun y=>by kernel_rfl) fun a=>by kernel_rfl
noncomputable abbrev az9:a8:=[(134,aaw),(135,aav)]
theorem aAT:aT O (aZ af az9):=aY ⟨ata,as9,⟨⟩⟩
abbrev i82:Shape:=⟨[ck 0 [ah,ah,br .need,br .entry],aj 1],[],32⟩
abbrev abK:Shape:=⟨[aj 4],[],32⟩
noncomputable def f82(a:i82.J):Option abK.J:=
 bif(decide ((IntKind.i64.wrap (a.1.2.1-(a.1.1.1.length:Int)))<(0:Int))) then
 some ((((-1):Int),()),())
else
 bif(decide ((IntKind.i64.wrap ((IntKind.i64.wrap (a.1.2.1-(a.1.1.1.length:Int)))-(a.1.1.2.1.length:Int)))<(0:Int))) then
 some ((((-1):Int),()),())
else
(f134 ((a.1.1.2.2.1,(IntKind.i64.wrap ((IntKind.i64.wrap (a.1.2.1-(a.1.1.1.length:Int)))-(a.1.1.2.1.length:Int))),()),())).bind fun b=>
 bif(decide (b.1.1<(0:Int))) then
 some ((((-1):Int),()),())
else
(f135 ((a.1.1.2.2.2.1,b.1.1,()),())).bind fun c=>
 bif(decide (c.1.1<(0:Int))) then
 some ((((-1):Int),()),())
else
 some ((c.1.1,()),())
noncomputable def adr:aH:=aL af Tryz.f82 i82 abK [] f82
theorem awS:aE O 82 adr:=aM aAT Tryz.func82 (by kernel_rfl) ag (fun y=>by kernel_rfl) fun a=>by kernel_rfl
noncomputable abbrev aAq:a8:=[(82,adr)]
theorem ad3:aT O (aZ af aAq):=aY ⟨awS,⟨⟩⟩
abbrev AE:Shape:=⟨[aO 0 .pack,aj 1,aj 5],[],27⟩
abbrev H0:List aR:=[(.ret,⟨[aj 4],[],27⟩),(.exit 0,⟨[aj 1],[],27⟩)]
noncomputable def an5(y:AE.J):bP AE H0:=
 bif(decide (y.1.2.2.1<(y.1.1.length:Int))) then
(aS y.1.1 y.1.2.2.1).bind fun a=>
(f82 (((a.name,a.a6,a.bl,a.bI,()),y.1.2.1,()),())).bind fun b=>
 bif(decide (b.1.1<(0:Int))) then
 some (.inr (.inl ((((-1):Int),()),())))
else
 some (.inl ((y.1.1,b.1.1,(IntKind.i64.wrap (y.1.2.2.1+(1:Int))),()),()))
else
 some (.inr (.inr ((y.1.2.1,()),())))
noncomputable def TZ:AE.J->Option (aG H0):=bA an5
theorem amK:aV O (ap (codeOf Tryz.f44) 1 122) (aX AE H0 TZ):=bR ad3 (by kernel_rfl) ag fun y=>by kernel_rfl
abbrev i44:Shape:=⟨[aO 0 .pack,aj 1],[],27⟩
abbrev ab4:Shape:=⟨[aj 4],[],27⟩
noncomputable def f44(a:i44.J):Option ab4.J:=
 bif(decide ((IntKind.i64.wrap (a.1.2.1-(a.1.1.length:Int)))<(0:Int))) then
 some ((((-1):Int),()),())
else
(TZ ((a.1.1,(IntKind.i64.wrap (a.1.2.1-(a.1.1.length:Int))),(0:Int),()),())).bind fun b=>
(match b with
|.inl c=>
 some ((c.1.1,()),())
|.inr d=>
 some ((d.1.1,()),()))
noncomputable def adF:aH:=aL af Tryz.f44 i44 ab4 [] f44
theorem aw3:aE O 44 adF:=aM ad3 Tryz.func44 (by kernel_rfl) (a7 amK ag) (fun y=>by kernel_rfl) fun a=>by kernel_rfl
noncomputable abbrev aAK:a8:=[(44,adF)]
theorem aA9:aT O (aZ af aAK):=aY ⟨aw3,⟨⟩⟩
abbrev i15:Shape:=⟨[ck 0 [br .pack],aj 1],[],12⟩
abbrev aco:Shape:=⟨[aj 4],[],12⟩
noncomputable def f15(a:i15.J):Option aco.J:=
(f44 ((a.1.1.1,a.1.2.1,()),())).bind fun b=>
 bif(decide (b.1.1<(0:Int))) then
 some ((((-1):Int),()),())
else
 some ((b.1.1,()),())
noncomputable def yr:aH:=aL af Tryz.f15 i15 aco [] f15
theorem aw9:aE O 15 yr:=aM aA9 Tryz.func15 (by kernel_rfl) ag (fun y=>by kernel_rfl) fun a=>by kernel_rfl
noncomputable abbrev az7:a8:=[(136,aau),(137,aat)]
theorem aAR:aT O (aZ af az7):=aY ⟨as8,as7,⟨⟩⟩
abbrev i84:Shape:=⟨[ck 0 [ah,ah,br .need,br .entry]],[],19⟩
abbrev abJ:Shape:=⟨[ax 2 2 0],[bv 5000130 .need 2 2,bv 5000131 .entry 2 3,aw 2 [ah,ah,.own 5000130,.own 5000131]],19⟩
noncomputable def f84(a:i84.J):Option abJ.J:=
(f136 ((a.1.1.2.2.1,()),())).bind fun b=>
(f137 ((a.1.1.2.2.2.1,()),())).bind fun c=>
 some (((),()),b.2.1,c.2.1,(a.1.1.1,a.1.1.2.1,(),(),()),())
noncomputable def adq:aH:=aL af Tryz.f84 i84 abJ [] f84
theorem awR:aE O 84 adq:=aM aAR Tryz.func84 (by kernel_rfl) ag (fun y=>by kernel_rfl) fun a=>by kernel_rfl
noncomputable abbrev aAo:a8:=[(84,adq)]
theorem ad2:aT O (aZ af aAo):=aY ⟨awR,⟨⟩⟩
abbrev Cm:Shape:=⟨[aO 0 .pack,bd 3 3000192,aj 4],[bc 3000192 .pack 3 0],23⟩
abbrev JV:List aR:=[(.exit 0,⟨[bd 3 3000192],[bc 3000192 .pack 3 0],23⟩)]
noncomputable def apZ(y:Cm.J):bP Cm JV:=
 bif(decide (y.1.2.2.1<(y.1.1.length:Int))) then
(aS y.1.1 y.1.2.2.1).bind fun a=>
(f84 (((a.name,a.a6,a.bl,a.bI,()),()),())).bind fun b=>
(bh y.2.1.length y.1.2.2.1).bind fun c=>
((y.2.1[c]?).bind fun q=>some (aK.mk b.2.2.2.1.1 b.2.2.2.1.2.1 b.2.1 b.2.2.1)).bind fun d=>
 some (.inl ((y.1.1,(),(IntKind.i64.wrap (y.1.2.2.1+(1:Int))),()),(y.2.1.set c d),()))
else
 some (.inr (((),()),y.2.1,()))
noncomputable def VK:Cm.J->Option (aG JV):=bA apZ
theorem apw:aV O (ap (codeOf Tryz.f46) 1 58) (aX Cm JV VK):=bR ad2 (by kernel_rfl) ag fun y=>by kernel_rfl
abbrev i46:Shape:=⟨[aO 0 .pack],[],23⟩
abbrev ab2:Shape:=⟨[bd 2 3000128],[bc 3000128 .pack 2 0],23⟩
noncomputable def f46(a:i46.J):Option ab2.J:=
(kk 80 (a.1.1.length:Int) (a.1.1.length:Int) (aK.mk ([]:B) ([]:B) ([]:List bF) ([]:List aB))).bind fun b=>
(VK ((a.1.1,(),(0:Int),()),b,())).bind fun c=>
 some (((),()),c.2.1,())
noncomputable def adD:aH:=aL af Tryz.f46 i46 ab2 [] f46
theorem z46:aE O 46 adD:=aM ad2 Tryz.func46 (by kernel_rfl) (a7 apw ag) (fun y=>by kernel_rfl) fun a=>by kernel_rfl
noncomputable abbrev aAI:a8:=[(46,adD)]
theorem aA8:aT O (aZ af aAI):=aY ⟨z46,⟨⟩⟩
abbrev i17:Shape:=⟨[ck 0 [br .pack]],[],9⟩
abbrev acm:Shape:=⟨[ax 2 2 0],[bv 5000128 .pack 2 0,aw 2 [.own 5000128]],9⟩
noncomputable def f17(a:i17.J):Option acm.J:=
(f46 ((a.1.1.1,()),())).bind fun b=>
 some (((),()),b.2.1,((),()),())
noncomputable def adM:aH:=aL af Tryz.f17 i17 acm [] f17
theorem aw8:aE O 17 adM:=aM aA8 Tryz.func17 (by kernel_rfl) ag (fun y=>by kernel_rfl) fun a=>by kernel_rfl
noncomputable abbrev az6:a8:=[(138,aas),(139,aar)]
theorem aAQ:aT O (aZ af az6):=aY ⟨z138,z139,⟨⟩⟩
abbrev i85:Shape:=⟨[ck 0 [ah,ah,br .need,br .entry],ck 1 [ah,ah,br .need,br .entry]],[],27⟩
abbrev abI:Shape:=⟨[ar 4],[],27⟩
noncomputable def f85(a:i85.J):Option abI.J:=
 bif(!(a.1.1.1==a.1.2.1.1)) then
 some ((false,()),())
else
 bif(!(a.1.1.2.1==a.1.2.1.2.1)) then
 some ((false,()),())
else
(f138 ((a.1.1.2.2.1,a.1.2.1.2.2.1,()),())).bind fun b=>
 bif(!b.1.1) then
 some ((false,()),())
else
(f139 ((a.1.1.2.2.2.1,a.1.2.1.2.2.2.1,()),())).bind fun c=>
 bif(!c.1.1) then
 some ((false,()),())
else
 some ((true,()),())
noncomputable def adp:aH:=aL af Tryz.f85 i85 abI [] f85
theorem z85:aE O 85 adp:=aM aAQ Tryz.func85 (by kernel_rfl) ag (fun y=>by kernel_rfl) fun a=>by kernel_rfl
noncomputable abbrev aAm:a8:=[(85,adp)]
theorem ad1:aT O (aZ af aAm):=aY ⟨z85,⟨⟩⟩
abbrev Cl:Shape:=⟨[aO 0 .pack,aO 1 .pack,aj 5],[],27⟩
abbrev JU:List aR:=[(.ret,⟨[ar 4],[],27⟩),(.exit 0,⟨[],[],27⟩)]
noncomputable def apY(y:Cl.J):bP Cl JU:=
 bif(decide (y.1.2.2.1<(y.1.1.length:Int))) then
(aS y.1.1 y.1.2.2.1).bind fun a=>
(aS y.1.2.1 y.1.2.2.1).bind fun b=>
(f85 (((a.name,a.a6,a.bl,a.bI,()),(b.name,b.a6,b.bl,b.bI,()),()),())).bind fun c=>
 bif(!c.1.1) then
 some (.inr (.inl ((false,()),())))
else
 some (.inl ((y.1.1,y.1.2.1,(IntKind.i64.wrap (y.1.2.2.1+(1:Int))),()),()))
else
 some (.inr (.inr ((),())))
noncomputable def VJ:Cl.J->Option (aG JU):=bA apY
theorem apv:aV O (ap (codeOf Tryz.f48) 1 58) (aX Cl JU VJ):=bR ad1 (by kernel_rfl) ag fun y=>by kernel_rfl
abbrev i48:Shape:=⟨[aO 0 .pack,aO 1 .pack],[],27⟩
abbrev ab0:Shape:=⟨[ar 4],[],27⟩
noncomputable def f48(a:i48.J):Option ab0.J:=
 bif((a.1.1.length:Int) !=(a.1.2.1.length:Int)) then
 some ((false,()),())
else
(VJ ((a.1.1,a.1.2.1,(0:Int),()),())).bind fun b=>
(match b with
|.inl c=>
 some ((c.1.1,()),())
|.inr d=>
 some ((true,()),()))
noncomputable def adB:aH:=aL af Tryz.f48 i48 ab0 [] f48
theorem aw0:aE O 48 adB:=aM ad1 Tryz.func48 (by kernel_rfl) (a7 apv ag) (fun y=>by kernel_rfl) fun a=>by kernel_rfl
noncomputable abbrev aAG:a8:=[(48,adB)]
theorem aA7:aT O (aZ af aAG):=aY ⟨aw0,⟨⟩⟩
abbrev i20:Shape:=⟨[ck 0 [br .pack],ck 1 [br .pack]],[],11⟩
abbrev acj:Shape:=⟨[ar 4],[],11⟩
noncomputable def f20(a:i20.J):Option acj.J:=
(f48 ((a.1.1.1,a.1.2.1.1,()),())).bind fun b=>
 bif(!b.1.1) then
 some ((false,()),())
else
 some ((true,()),())
noncomputable def adK:aH:=aL af Tryz.f20 i20 acj [] f20
theorem z20:aE O 20 adK:=aM aA7 Tryz.func20 (by kernel_rfl) ag (fun y=>by kernel_rfl) fun a=>by kernel_rfl
abbrev kr(n:Nat):Prop:=n<=1048576
abbrev azQ(n:bF):Prop:=kr n.name.length/\kr n.a6.length
abbrev azR(e:aB):Prop:=kr e.path.length/\kr e.text.length
abbrev auD(l:List bF):Prop:=kr l.length/\∀n,n∈l->azQ n
abbrev auE(l:List aB):Prop:=kr l.length/\∀n,n∈l->azR n
abbrev azP(p:aK):Prop:=kr p.name.length/\kr p.a6.length/\auD p.bl/\auE p.bI
abbrev _h(l:List aK):Prop:=kr l.length/\∀n,n∈l->azP n
theorem _h.yI{ps:List aK}(h:_h ps):fu ps/\j2 ps:=by
 obtain⟨h1,h2⟩:=h;have up:∀{n:Nat},kr n->cw n:=fun h=>Nat.le_trans h (by decide)
 have abw:∀{n:Nat},kr n->n<=2097151:=fun h=>Nat.le_trans h (by decide)
 refine⟨⟨up h1,fun p hp=>?_⟩,fun p hp=>?_⟩
 ·obtain⟨a,b,c,d⟩:=h2 p hp;exact⟨up a,up b,⟨up c.1,fun n hn=>⟨up (c.2 n hn).1,up (c.2 n hn).2⟩⟩,up d.1,fun n hn=>⟨up (d.2 n hn).1,up (d.2 n hn).2⟩⟩
 ·obtain⟨a,b,c,d⟩:=h2 p hp;exact⟨abw b,fun n hn=>abw (c.2 n hn).2⟩
abbrev i19:Shape:=⟨[ck 0 [ah,ah],ck 1 [ah,ah]],[],15⟩
abbrev ack:Shape:=⟨[ar 4],[],15⟩
noncomputable def f19(a:i19.J):Option ack.J:=
 bif(!(a.1.1.1==a.1.2.1.1)) then
 some ((false,()),())
else
 bif(!(a.1.1.2.1==a.1.2.1.2.1)) then
 some ((false,()),())
else
 some ((true,()),())
noncomputable def adL:aH:=aL af Tryz.f19 i19 ack [] f19
theorem aw7:aE O 19 adL:=aM g0 Tryz.func19 (by kernel_rfl) ag (fun y=>by kernel_rfl) fun a=>by kernel_rfl
noncomputable abbrev aAE:a8:=[(34,NO)]
theorem aA5:aT O (aZ af aAE):=aY ⟨abp,⟨⟩⟩
abbrev i27:Shape:=⟨[ck 0 [br .pack]],[],6⟩
abbrev ach:Shape:=⟨[ax 2 2 0],[aw 2 [ah,ah]],6⟩
noncomputable def f27(a:i27.J):Option ach.J:=
(f34 (((a.1.1.1,()),()),())).bind fun b=>
 some (((),()),(b.1.1,([]:B),()),())
noncomputable def yp:aH:=aL af Tryz.f27 i27 ach [] f27
theorem D_:aE O 27 yp:=aM aA5 Tryz.func27 (by kernel_rfl) ag (fun y=>by kernel_rfl) fun a=>by kernel_rfl
noncomputable abbrev aAD:a8:=[(37,adI)]
theorem aA4:aT O (aZ af aAD):=aY ⟨z37,⟨⟩⟩
abbrev i29:Shape:=⟨[ck 0 [br .pack]],[],6⟩
abbrev acf:Shape:=⟨[ax 2 2 0],[aw 2 [ah,ah]],6⟩
noncomputable def f29(a:i29.J):Option acf.J:=
(f37 (((a.1.1.1,()),()),())).bind fun b=>
 some (((),()),(b.1.1,([]:B),()),())
noncomputable def ER:aH:=aL af Tryz.f29 i29 acf [] f29
theorem Ms:aE O 29 ER:=aM aA4 Tryz.func29 (by kernel_rfl) ag (fun y=>by kernel_rfl) fun a=>by kernel_rfl
theorem Qv(ps:List aK)(hb:fu ps)(hv:j2 ps):f29 (((ps,()),()),())=some (((),()),(((bif eE ps then ce ps else []),(([]:B),())),())):=by
 simp only[f29,aiv ps hb hv,Y]
theorem PN(ps:List aK)(hb:fu ps)(hv:j2 ps):f27 (((ps,()),()),())=some (((),()),(((bif eE ps then ce ps else []),(([]:B),())),())):=by
 simp only[f27,PL ps hb hv,Y]
abbrev i11:Shape:=⟨[ck 0 [ah,ah],aj 1],[],20⟩
abbrev xR:Shape:=⟨[aj 4],[],20⟩
noncomputable def f11(a:i11.J):Option xR.J:=
 bif(decide ((IntKind.i64.wrap (a.1.2.1-(a.1.1.1.length:Int)))<(0:Int))) then
 some ((((-1):Int),()),())
else
 bif(decide ((IntKind.i64.wrap ((IntKind.i64.wrap (a.1.2.1-(a.1.1.1.length:Int)))-(a.1.1.2.1.length:Int)))<(0:Int))) then
 some ((((-1):Int),()),())
else
 some (((IntKind.i64.wrap ((IntKind.i64.wrap (a.1.2.1-(a.1.1.1.length:Int)))-(a.1.1.2.1.length:Int))),()),())
noncomputable def u6:aH:=aL af Tryz.f11 i11 xR [] f11
theorem abr:aE O 11 u6:=aM g0 Tryz.func11 (by kernel_rfl) ag (fun y=>by kernel_rfl) fun a=>by kernel_rfl
abbrev i13:Shape:=⟨[ck 0 [ah,ah]],[],11⟩
abbrev acp:Shape:=⟨[ax 2 2 0],[aw 2 [ah,ah]],11⟩
noncomputable def f13(a:i13.J):Option acp.J:=
 some (((),()),(a.1.1.1,a.1.1.2.1,()),())
noncomputable def ys:aH:=aL af Tryz.f13 i13 acp [] f13
theorem abq:aE O 13 ys:=aM g0 Tryz.func13 (by kernel_rfl) ag (fun y=>by kernel_rfl) fun a=>by kernel_rfl
noncomputable abbrev aAp:a8:=[(70,EN),(83,yj)]
theorem aAW:aT O (aZ af aAp):=aY ⟨z70,D6,⟨⟩⟩
abbrev i45:Shape:=⟨[ck 0 [br .pack]],[],13⟩
abbrev ab3:Shape:=⟨[am 2],[],13⟩
noncomputable def f45(a:i45.J):Option ab3.J:=
(f70 (((a.1.1.1,()),()),())).bind fun b=>
(f83 (((b.1.1.length:Int),()),())).bind fun c=>
(cc c.1.1 ([10]:B)).bind fun d=>
(cc d b.1.1).bind fun e=>
(cc e ([101,110,100,10]:B)).bind fun f=>
 some ((f,()),())
noncomputable def adE:aH:=aL af Tryz.f45 i45 ab3 [] f45
theorem aw2:aE O 45 adE:=aM aAW Tryz.func45 (by kernel_rfl) ag (fun y=>by kernel_rfl) fun a=>by kernel_rfl
noncomputable abbrev aAJ:a8:=[(12,sq),(30,sp),(45,adE)]
theorem EW:aT O (aZ af aAJ):=aY ⟨z12,uA,aw2,⟨⟩⟩
abbrev Ve:Shape:=⟨[aj 2,ax 3 3 0,ax 4 4 0,ax 6 6 0],[aw 3 [ah,ah],aw 4 [br .pack],aw 6 [ah,ah]],33⟩
abbrev U0:List aR:=[(.norm,⟨[aj 2,ax 3 3 0,ax 4 4 0,ax 6 6 0,ar 15],[aw 3 [ah,ah],aw 4 [br .pack],aw 6 [ah,ah]],33⟩)]
noncomputable def Kq(y:Ve.J):Option (aG U0):=
(f12 (((y.2.1.1,y.2.1.2.1,()),()),())).bind fun a=>
 bif(!(!a.1.1)) then
(f30 (((y.2.2.1.1,()),()),())).bind fun b=>
 some ((y.1.1,(),(),(),(!b.1.1),()),(y.2.1.1,y.2.1.2.1,()),(y.2.2.1.1,()),(y.2.2.2.1.1,y.2.2.2.1.2.1,()),())
else
 some ((y.1.1,(),(),(),true,()),(y.2.1.1,y.2.1.2.1,()),(y.2.2.1.1,()),(y.2.2.2.1.1,y.2.2.2.1.2.1,()),())
theorem apE:aV O (ap (codeOf Tryz.f16) 1 12) (aX Ve U0 Kq):=cm EW (by kernel_rfl) ag fun y=>by kernel_rfl
abbrev Vd:Shape:=⟨[aj 2,ax 3 3 0,ax 6 6 0,am 7],[aw 3 [ah,ah],aw 6 [ah,ah]],33⟩
abbrev UZ:List aR:=[(.norm,⟨[aj 2,ax 3 3 0,ax 6 6 0,am 7],[aw 3 [ah,ah],aw 6 [ah,ah]],33⟩)]
noncomputable def Kp(y:Vd.J):Option (aG UZ):=
 bif(decide (y.1.1<(0:Int))) then
 some (((0:Int),(),(),y.1.2.2.2.1,()),(y.2.1.1,y.2.1.2.1,()),(y.2.2.1.1,y.2.2.1.2.1,()),())
else
 some ((y.1.1,(),(),y.1.2.2.2.1,()),(y.2.1.1,y.2.1.2.1,()),(y.2.2.1.1,y.2.2.1.2.1,()),())
theorem apD:aV O (ap (codeOf Tryz.f16) 1 30) (aX Vd UZ Kp):=cm EW (by kernel_rfl) ag fun y=>by kernel_rfl
abbrev Vc:Shape:=⟨[aj 2,ax 3 3 0,ax 6 6 0,am 7],[aw 3 [ah,ah],aw 6 [ah,ah]],33⟩
abbrev UY:List aR:=[(.norm,⟨[aj 2,ax 3 3 0,ax 6 6 0,am 7],[aw 3 [ah,ah],aw 6 [ah,ah]],33⟩)]
noncomputable def Ko(y:Vc.J):Option (aG UY):=
 bif(decide (y.1.1>(y.1.2.2.2.1.length:Int))) then
 some (((y.1.2.2.2.1.length:Int),(),(),y.1.2.2.2.1,()),(y.2.1.1,y.2.1.2.1,()),(y.2.2.1.1,y.2.2.1.2.1,()),())
else
 some ((y.1.1,(),(),y.1.2.2.2.1,()),(y.2.1.1,y.2.1.2.1,()),(y.2.2.1.1,y.2.2.1.2.1,()),())
theorem apC:aV O (ap (codeOf Tryz.f16) 1 62) (aX Vc UY Ko):=cm EW (by kernel_rfl) ag fun y=>by kernel_rfl
abbrev i16:Shape:=⟨[ck 0 [ah,ah],ck 1 [br .pack],aj 2],[],33⟩
abbrev acn:Shape:=⟨[ax 6 6 0],[aw 6 [ah,ah]],33⟩
noncomputable def f16(a:i16.J):Option acn.J:=
(Kq ((a.1.2.2.1,(),(),(),()),(a.1.1.1,a.1.1.2.1,()),(a.1.2.1.1,()),(([]:B),([]:B),()),())).bind fun b=>
 bif b.1.2.2.2.2.1 then
 some (((),()),(([]:B),([]:B),()),())
else
(f45 (((b.2.2.1.1,()),()),())).bind fun c=>
(Kp ((b.1.1,(),(),c.1.1,()),(b.2.1.1,b.2.1.2.1,()),(b.2.2.2.1.1,b.2.2.2.1.2.1,()),())).bind fun d=>
(Ko ((d.1.1,(),(),d.1.2.2.2.1,()),(d.2.1.1,d.2.1.2.1,()),(d.2.2.1.1,d.2.2.1.2.1,()),())).bind fun e=>
(bq e.1.2.2.2.1 (0:Int) e.1.1).bind fun f=>
 some (((),()),(e.2.1.1,f,()),())
noncomputable def yq:aH:=aL af Tryz.f16 i16 acn [] f16
theorem D':aE O 16 yq:=aM EW Tryz.func16 (by kernel_rfl) (a7 apE (a7 apD (a7 apC ag))) (fun y=>by kernel_rfl) fun a=>by kernel_rfl
noncomputable abbrev aAn:a8:=[(64,DQ)]
theorem aAV:aT O (aZ af aAn):=aY ⟨K0,⟨⟩⟩
abbrev i47:Shape:=⟨[am 0],[],10⟩
abbrev ab1:Shape:=⟨[am 2],[],10⟩
noncomputable def f47(a:i47.J):Option ab1.J:=
(if-9223372036854775808<=(a.1.1.length:Int)/\(a.1.1.length:Int)<=9223372036854775807 then some () else none).bind fun b=>
(cc (Lib.itoa (a.1.1.length:Int)) ([10]:B)).bind fun c=>
(cc c a.1.1).bind fun d=>
(cc d ([101,110,100,10]:B)).bind fun e=>
 some ((e,()),())
noncomputable def adC:aH:=aL af Tryz.f47 i47 ab1 [] f47
theorem aw1:aE O 47 adC:=aM aAV Tryz.func47 (by kernel_rfl) ag (fun y=>by kernel_rfl) fun a=>by kernel_rfl
noncomputable abbrev aAH:a8:=[(14,qE),(34,NO),(43,yl),(47,adC)]
theorem ad7:aT O (aZ af aAH):=aY ⟨xG,abp,D8,aw1,⟨⟩⟩
abbrev Vb:Shape:=⟨[aj 2,ax 3 3 0,ax 4 4 0,ax 6 6 0],[aw 3 [ah,ah],aw 4 [br .pack],aw 6 [ah,ah]],30⟩
abbrev UX:List aR:=[(.norm,⟨[aj 2,ax 3 3 0,ax 4 4 0,ax 6 6 0,ar 15],[aw 3 [ah,ah],aw 4 [br .pack],aw 6 [ah,ah]],30⟩)]
noncomputable def Kn(y:Vb.J):Option (aG UX):=
(f14 (((y.2.1.1,y.2.1.2.1,()),()),())).bind fun a=>
 bif(!(!a.1.1)) then
(f43 (((y.2.2.1.1,()),()),())).bind fun b=>
 some ((y.1.1,(),(),(),(!b.1.1),()),(y.2.1.1,y.2.1.2.1,()),(y.2.2.1.1,()),(y.2.2.2.1.1,y.2.2.2.1.2.1,()),())
else
 some ((y.1.1,(),(),(),true,()),(y.2.1.1,y.2.1.2.1,()),(y.2.2.1.1,()),(y.2.2.2.1.1,y.2.2.2.1.2.1,()),())
theorem apB:aV O (ap (codeOf Tryz.f18) 1 12) (aX Vb UX Kn):=cm ad7 (by kernel_rfl) ag fun y=>by kernel_rfl
abbrev i18:Shape:=⟨[ck 0 [ah,ah],ck 1 [br .pack],aj 2],[],30⟩
abbrev acl:Shape:=⟨[ax 6 6 0],[aw 6 [ah,ah]],30⟩
noncomputable def f18(a:i18.J):Option acl.J:=
(Kn ((a.1.2.2.1,(),(),(),()),(a.1.1.1,a.1.1.2.1,()),(a.1.2.1.1,()),(([]:B),([]:B),()),())).bind fun b=>
 bif b.1.2.2.2.2.1 then
 some (((),()),(([]:B),([]:B),()),())
else
(f34 (((b.2.2.1.1,()),()),())).bind fun c=>
(f47 ((c.1.1,()),())).bind fun d=>
(bq d.1.1 (0:Int) (kG (gB b.1.1 (0:Int)) (d.1.1.length:Int))).bind fun e=>
 some (((),()),(b.2.1.1,e,()),())
noncomputable def ES:aH:=aL af Tryz.f18 i18 acl [] f18
theorem Mt:aE O 18 ES:=aM ad7 Tryz.func18 (by kernel_rfl) (a7 apB ag) (fun y=>by kernel_rfl) fun a=>by kernel_rfl
noncomputable abbrev Oz:a8:=[(11,u6),(12,sq),(13,ys),(14,qE)]
theorem OE:aT O (aZ af Oz):=aY ⟨abr,z12,abq,xG,⟨⟩⟩
abbrev i3:Shape:=⟨[ck 0 [ah,ah]],[],20⟩
abbrev o3:Shape:=⟨[ar 2],[],20⟩
noncomputable def f3(a:i3.J):Option o3.J:=
(f11 (((a.1.1.1,a.1.1.2.1,()),(1048576:Int),()),())).bind fun b=>
 bif(decide (b.1.1<(0:Int))) then
 some ((true,()),())
else
(f13 (((a.1.1.1,a.1.1.2.1,()),()),())).bind fun c=>
(f12 (((c.2.1.1,c.2.1.2.1,()),()),())).bind fun d=>
(f13 (((a.1.1.1,a.1.1.2.1,()),()),())).bind fun e=>
(f14 (((e.2.1.1,e.2.1.2.1,()),()),())).bind fun f=>
 bif(!(f.1.1==d.1.1)) then
 some ((false,()),())
else
 some ((true,()),())
noncomputable def jA:aH:=aL af Tryz.f3 i3 o3 [] f3
theorem z3:aE O 3 jA:=aM OE Tryz.func3 (by kernel_rfl) ag (fun y=>by kernel_rfl) fun a=>by kernel_rfl
noncomputable abbrev Oy:a8:=[(11,u6),(13,ys),(15,yr),(16,yq),(17,adM),(18,ES),(19,adL),(20,adK)]
theorem OD:aT O (aZ af Oy):=aY ⟨abr,abq,aw9,D',aw8,Mt,aw7,z20,⟨⟩⟩
abbrev i4:Shape:=⟨[ck 0 [ah,ah],ck 1 [br .pack],aj 2],[],43⟩
abbrev aem:Shape:=⟨[ar 6],[],43⟩
noncomputable def f4(a:i4.J):Option aem.J:=
(f11 (((a.1.1.1,a.1.1.2.1,()),(1048576:Int),()),())).bind fun b=>
 bif(decide (b.1.1<(0:Int))) then
 some ((true,()),())
else
(f15 (((a.1.2.1.1,()),b.1.1,()),())).bind fun c=>
 bif(decide (c.1.1<(0:Int))) then
 some ((true,()),())
else
(f13 (((a.1.1.1,a.1.1.2.1,()),()),())).bind fun d=>
(f17 (((a.1.2.1.1,()),()),())).bind fun e=>
(f16 (((d.2.1.1,d.2.1.2.1,()),(e.2.1,()),a.1.2.2.1,()),())).bind fun f=>
(f17 (((a.1.2.1.1,()),()),())).bind fun g=>
(f13 (((a.1.1.1,a.1.1.2.1,()),()),())).bind fun h=>
(f18 (((h.2.1.1,h.2.1.2.1,()),(g.2.1,()),a.1.2.2.1,()),())).bind fun i=>
(f19 (((i.2.1.1,i.2.1.2.1,()),(f.2.1.1,f.2.1.2.1,()),()),())).bind fun j=>
 bif(!j.1.1) then
 some ((false,()),())
else
(f17 (((a.1.2.1.1,()),()),())).bind fun k=>
(f20 (((g.2.1,()),(k.2.1,()),()),())).bind fun l=>
 bif(!l.1.1) then
 some ((false,()),())
else
 some ((true,()),())
noncomputable def mr:aH:=aL af Tryz.f4 i4 aem [] f4
theorem z4:aE O 4 mr:=aM OD Tryz.func4 (by kernel_rfl) ag (fun y=>by kernel_rfl) fun a=>by kernel_rfl
def gC:B:=[101,110,100,10]
def fE(ps:List aK):B:=cS (ce ps)++gC
theorem St{ps:List aK}(hb:fu ps)(hr:eE ps=true):(ce ps).length<=503317500:=by
 have hk:=(kW hr).1;have bo:=(kW hr).2;have h1:=ny (f:=fun p=>cS (bD p)) (xs:=ps) (n:=100663500) fun p hp=>Gg (hb.2 p hp) (hk p hp)
 have aF:ps.length*100663500<=5*100663500:=Nat.mul_le_mul_right _ bo;have e:(ce ps).length=(ps.flatMap fun p=>cS (bD p)).length:=rfl
 omega
theorem aig(s:B)(hs:s.length<=1000000000):f47 ((s,()),())=some ((cS s++gC,()),()):=by
 have h2:=j4 s.length (by omega)
 have e1:=dI (s:=Lib.itoa (s.length:Int)) (t:=[10]) (by simp;omega)
 have e2:=dI (s:=Lib.itoa (s.length:Int)++[10]) (t:=s) (by simp;omega)
 have bz:=dI (s:=Lib.itoa (s.length:Int)++[10]++s) (t:=[101,110,100,10]) (by simp;omega)
 simp only[f47];refine(kS (if_pos ⟨?_,?_⟩)).trans ((kS e1).trans ((kS e2).trans ((kS bz).trans rfl)))
 ·omega
 ·omega
theorem akl(ps:List aK)(hb:fu ps)(hr:eE ps=true):f45 (((ps,()),()),())=some ((fE ps,()),()):=by
 have hl:=St hb hr;have fa:=Az ps hb (kW hr).1;have aa:f83 ((((ce ps).length:Int),()),())=_:=AA (ce ps).length (by omega)
 have h2:=j4 (ce ps).length (by omega)
 have e1:=dI (s:=Lib.itoa ((ce ps).length:Int)) (t:=[10]) (by simp;omega)
 have e2:=dI (s:=Lib.itoa ((ce ps).length:Int)++[10]) (t:=ce ps) (by simp;omega)
 have bz:=dI (s:=Lib.itoa ((ce ps).length:Int)++[10]++ce ps) (t:=[101,110,100,10]) (by simp;omega)
 simp only[f45];exact(kS fa).trans ((kS aa).trans ((kS e1).trans ((kS e2).trans ((kS bz).trans rfl))))
def j_(b:Int)(n:Nat):Nat:=min b.toNat n
theorem RQ(b:Int)(n:Nat):j_ b n<=n:=Nat.min_le_right _ _
abbrev kB(k:Bool)(s:B)(ps:List aK)(b:Int):B×B:=bif k&&eE ps then(s,(fE ps).take (j_ b (fE ps).length)) else([],[])
theorem O'(s t:B)(ps:List aK)(b:Int)(hb:fu ps)(hv:j2 ps)(k:Bool)(hk:f14 (((s,(t,())),()),())=some ((k,()),())):
  f18 (((s,(t,())),((ps,()),(b,()))),())=some (((),()),(((kB k s ps b).1,((kB k s ps b).2,())),())):=by
 have e1:=zg (((ps,()),()),()) hb hv;have e1:f43 (((ps,()),()),())=some ((eE ps,()),()):=e1;simp only[f18,Kn,hk,Y];cases k with
 |false=>rfl
 |true=>
  cases hr:eE ps with
  |false=>
   rw[hr] at e1;simp only[kB,hr,bu,bJ,ad,e1,Y,Bool.true_and,ak]
  |true=>
   rw[hr] at e1;have e2:=PL ps hb hv;rw[hr] at e2;have hl:=St hb hr;have bz:=aig (ce ps) (by omega)
   have bz:f47 ((ce ps,()),())=some ((fE ps,()),()):=bz;have hm:kG (gB b 0) ((fE ps).length:Int)=((j_ b (fE ps).length:Nat):Int):=by
    unfold kG gB j_;split<;>split<;>omega
   have dn:bq (fE ps) 0 ((j_ b (fE ps).length:Nat):Int)=some _:=gw (RQ b _);simp only[kB,hr,bu,bJ,ad,e1,Y,Bool.true_and,ak,e2,bz,hm,dn]
theorem ahj(s t:B)(ps:List aK)(b:Int)(hb:fu ps)(hv:j2 ps)(k:Bool)(hk:f12 (((s,(t,())),()),())=some ((k,()),())):
  f16 (((s,(t,())),((ps,()),(b,()))),())=some (((),()),(((kB k s ps b).1,((kB k s ps b).2,())),())):=by
 have e1:=vL (((ps,()),()),()) hb hv;have e1:f30 (((ps,()),()),())=some ((eE ps,()),()):=e1;simp only[f16,Kq,hk,Y];cases k with
 |false=>rfl
 |true=>
  cases hr:eE ps with
  |false=>
   rw[hr] at e1;simp only[kB,hr,bu,bJ,ad,e1,Y,Bool.true_and,ak]
  |true=>
   rw[hr] at e1;have bz:=akl ps hb hr;have fin:∀x:Int,x=((j_ b (fE ps).length:Nat):Int)->bq (fE ps) 0 x=some ((fE ps).take (j_ b (fE ps).length)):=fun x hx=>by rw[hx];exact gw (RQ b _)
   simp only[kB,hr,bu,bJ,ad,e1,Y,Bool.true_and,ak,bz,Kp,Ko];by_cases h0:b<0
   ·have d0:decide ((0:Int)>((fE ps).length:Int))=false:=decide_eq_false (by omega)
    simp only[h0,decide_true,ad,Y,d0,ak,fin 0 (by unfold j_;omega)]
   ·simp only[h0,decide_false,ak,Y];by_cases h1:b>((fE ps).length:Int)
    ·simp only[h1,decide_true,ad,Y,fin _ (show((fE ps).length:Int)=_ by unfold j_;omega)]
    ·simp only[h1,decide_false,ak,Y,fin b (by unfold j_;omega)]
abbrev Sc:Shape:=⟨[ax 0 500000 0,aj 1],[aw 500000 [br .u8,ba]],99⟩
abbrev RU:List aR:=[(.norm,⟨[ax 0 500000 0,aj 1,ar 24],[aw 500000 [br .u8,ba]],99⟩)]
noncomputable def Al(y:Sc.J):Option (aG RU):=
 bif(!(decide (y.1.2.1<(1:Int)))) then
 some (((),y.1.2.1,((y.2.1.1.length:Int)==(0:Int)),()),(y.2.1.1,y.2.1.2.1,()),())
else
 some (((),y.1.2.1,true,()),(y.2.1.1,y.2.1.2.1,()),())
theorem akQ:aV O (ap (codeOf Tryz.f78) 1 28) (aX Sc RU Al):=cm g0 (by kernel_rfl) ag fun y=>by kernel_rfl
abbrev Xc:Shape:=⟨[ax 0 500000 0,aj 1],[aw 500000 [br .u8,ba]],99⟩
abbrev WY:Shape:=⟨[ax 0 500000 0,aj 4],[aw 500000 [br .u8,ba]],99⟩
noncomputable def gy(a:Xc.J):Option WY.J:=
(Al (((),a.1.2.1,()),(a.2.1.1,(IntKind.i64.wrap (a.2.1.2.1+(1:Int))),()),())).bind fun b=>
 bif b.1.2.2.1 then
 some (((),(0:Int),()),(b.2.1.1,b.2.1.2.1,()),())
else
 bif(decide ((IntKind.i64.wrap (b.2.1.2.1-(1:Int)))<(b.2.1.1.length:Int))) then
(aS b.2.1.1 (IntKind.i64.wrap (b.2.1.2.1-(1:Int)))).bind fun c=>
(ja (IntKind.i64.wrap c) b.1.2.1).bind fun d=>
 some (((),d,()),(b.2.1.1,b.2.1.2.1,()),())
else
(ja (IntKind.i64.wrap (b.2.1.2.1-(1:Int))) (b.2.1.1.length:Int)).bind fun e=>
(aS b.2.1.1 e).bind fun f=>
(ja (IntKind.i64.wrap ((IntKind.i64.wrap ((IntKind.i64.wrap (b.2.1.2.1-(1:Int)))*(7:Int)))+(3:Int))) (b.2.1.1.length:Int)).bind fun g=>
(aS b.2.1.1 g).bind fun h=>
(l5 .i64 (IntKind.i64.wrap (b.2.1.2.1-(1:Int))) (b.2.1.1.length:Int)).bind fun i=>
(l5 .i64 (IntKind.i64.wrap ((IntKind.i64.wrap ((IntKind.i64.wrap ((IntKind.i64.wrap ((IntKind.i64.wrap f)*(131:Int)))+(IntKind.i64.wrap ((IntKind.i64.wrap h)*(1117:Int)))))+(IntKind.i64.wrap ((IntKind.i64.wrap (b.2.1.2.1-(1:Int)))*(29:Int)))))+(IntKind.i64.wrap (i*(53:Int))))) (64:Int)).bind fun j=>
(ja (dB .i64 (IntKind.i64.wrap ((IntKind.i64.wrap ((IntKind.i64.wrap ((IntKind.i64.wrap ((IntKind.i64.wrap f)*(131:Int)))+(IntKind.i64.wrap ((IntKind.i64.wrap h)*(1117:Int)))))+(IntKind.i64.wrap ((IntKind.i64.wrap (b.2.1.2.1-(1:Int)))*(29:Int)))))+(IntKind.i64.wrap (i*(53:Int))))) j) b.1.2.1).bind fun k=>
 some (((),k,()),(b.2.1.1,b.2.1.2.1,()),())
noncomputable def jl:aH:=aL af Tryz.f78 Xc WY [0] gy
theorem jJ:aE O 78 jl:=aM g0 Tryz.func78 (by kernel_rfl) (a7 akQ ag) (fun y=>by kernel_rfl) fun a=>by kernel_rfl
noncomputable abbrev ar1:a8:=[(78,jl)]
theorem ar6:aT O (aZ af ar1):=aY ⟨jJ,⟨⟩⟩
abbrev Xb:Shape:=⟨[ax 0 500000 0,aO 1 .str],[aw 500000 [br .u8,ba]],12⟩
abbrev WX:Shape:=⟨[ax 0 500000 0,am 4],[aw 500000 [br .u8,ba]],12⟩
noncomputable def jL(a:Xb.J):Option WX.J:=
(gy (((),(a.1.2.1.length:Int),()),(a.2.1.1,a.2.1.2.1,()),())).bind fun b=>
(aS a.1.2.1 b.1.2.1).bind fun c=>
 some (((),c,()),(b.2.1.1,b.2.1.2.1,()),())
noncomputable def k6:aH:=aL af Tryz.f79 Xb WX [0] jL
theorem lT:aE O 79 k6:=aM ar6 Tryz.func79 (by kernel_rfl) ag (fun y=>by kernel_rfl) fun a=>by kernel_rfl
noncomputable abbrev aqs:a8:=[(79,k6)]
theorem aqL:aT O (aZ af aqs):=aY ⟨lT,⟨⟩⟩
abbrev VY:Shape:=⟨[ax 0 500000 0],[aw 500000 [br .u8,ba]],6⟩
abbrev Vt:Shape:=⟨[ax 0 500000 0,am 2],[aw 500000 [br .u8,ba]],6⟩
noncomputable def tE(a:VY.J):Option Vt.J:=
(jL (((),([([49]:B),([49,46,48]:B),([49,46,49]:B),([49,46,50]:B),([50]:B),([48,46,57,46,57]:B),([49,46,49,48]:B),([57,57,57,46,57,57,57,46,57,57,57,46,57,57,57]:B)]:List B),()),(a.2.1.1,a.2.1.2.1,()),())).bind fun b=>
 some (((),b.1.2.1,()),(b.2.1.1,b.2.1.2.1,()),())
noncomputable def C1:aH:=aL af Tryz.f176 VY Vt [0] tE
theorem JF:aE O 176 C1:=aM aqL Tryz.func176 (by kernel_rfl) ag (fun y=>by kernel_rfl) fun a=>by kernel_rfl
noncomputable abbrev auX:a8:=[(143,L9),(144,L8),(145,L7),(194,DS),(202,xx)]
theorem Md:aT O (aZ af auX):=aY ⟨z143,XL,z145,z194,Dt,⟨⟩⟩
abbrev Sk:Shape:=⟨[aO 0 .entry,ax 3 3 0,bd 4 3000256,ar 5,aj 6,ar 7,bd 8 3000512],[aw 3 [ah,ba,ba,ah],bc 3000256 .entry 4 0,bc 3000512 .entry 8 0],68⟩
abbrev R3:List aR:=[(.norm,⟨[aO 0 .entry,ax 3 3 0,bd 4 3000256,ar 5,aj 6,ar 7,bd 8 3000512,ar 18],[aw 3 [ah,ba,ba,ah],bc 3000256 .entry 4 0,bc 3000512 .entry 8 0],68⟩)]
noncomputable def Aq(y:Sk.J):Option (aG R3):=
(f143 (((y.2.1.1,y.2.1.2.1,y.2.1.2.2.1,y.2.1.2.2.2.1,()),()),())).bind fun a=>
 bif(!(!a.1.1)) then
(f145 ((y.2.1.1,()),())).bind fun b=>
(f144 ((y.1.1,b.1.1,()),())).bind fun c=>
 some ((y.1.1,(),(),y.1.2.2.2.1,y.1.2.2.2.2.1,y.1.2.2.2.2.2.1,(),(!c.1.1),()),(y.2.1.1,y.2.1.2.1,y.2.1.2.2.1,y.2.1.2.2.2.1,()),y.2.2.1,y.2.2.2.1,())
else
 some ((y.1.1,(),(),y.1.2.2.2.1,y.1.2.2.2.2.1,y.1.2.2.2.2.2.1,(),true,()),(y.2.1.1,y.2.1.2.1,y.2.1.2.2.1,y.2.1.2.2.2.1,()),y.2.2.1,y.2.2.2.1,())
theorem ak6:aV O (ap (codeOf Tryz.f223) 1 120) (aX Sk R3 Aq):=cm Md (by kernel_rfl) ag fun y=>by kernel_rfl
abbrev Sj:Shape:=⟨[aO 0 .entry,ax 3 3 0,bd 4 3000256,ar 5,aj 6,ar 7,bd 8 3000512],[aw 3 [ah,ba,ba,ah],bc 3000256 .entry 4 0,bc 3000512 .entry 8 0],68⟩
abbrev R1:List aR:=[(.norm,⟨[aO 0 .entry,ax 3 3 0,bd 4 3000256,ar 5,aj 6,ar 7,bd 8 3000512,ar 31],[aw 3 [ah,ba,ba,ah],bc 3000256 .entry 4 0,bc 3000512 .entry 8 0],68⟩)]
noncomputable def Ap(y:Sj.J):Option (aG R1):=
 bif y.1.2.2.2.2.2.1 then
(aS y.1.1 y.1.2.2.2.2.1).bind fun a=>
 some ((y.1.1,(),(),y.1.2.2.2.1,y.1.2.2.2.2.1,y.1.2.2.2.2.2.1,(),(a.kind !=y.2.1.2.1),()),(y.2.1.1,y.2.1.2.1,y.2.1.2.2.1,y.2.1.2.2.2.1,()),y.2.2.1,y.2.2.2.1,())
else
 some ((y.1.1,(),(),y.1.2.2.2.1,y.1.2.2.2.2.1,y.1.2.2.2.2.2.1,(),false,()),(y.2.1.1,y.2.1.2.1,y.2.1.2.2.1,y.2.1.2.2.2.1,()),y.2.2.1,y.2.2.2.1,())
theorem ak5:aV O (ap (codeOf Tryz.f223) 1 486) (aX Sj R1 Ap):=cm Md (by kernel_rfl) ag fun y=>by kernel_rfl
abbrev i223:Shape:=⟨[aO 0 .entry,ck 1 [ah,ba,ba,ah]],[],68⟩
abbrev Yo:Shape:=⟨[bd 4 3000256,ar 5],[bc 3000256 .entry 4 0],68⟩
noncomputable def f223(a:i223.J):Option Yo.J:=
(f194 ((a.1.1,a.1.2.1.1,()),())).bind fun b=>
(f202 ((a.1.1,()),())).bind fun c=>
(Aq ((a.1.1,(),(),false,b.1.1,b.1.2.1,(),()),(a.1.2.1.1,a.1.2.1.2.1,a.1.2.1.2.2.1,a.1.2.1.2.2.2.1,()),([]:List aB),c.2.1,())).bind fun d=>
 bif d.1.2.2.2.2.2.2.2.1 then
 some (((),false,()),d.2.2.2.1,())
else
(Ap ((d.1.1,(),(),d.1.2.2.2.1,d.1.2.2.2.2.1,d.1.2.2.2.2.2.1,(),()),(d.2.1.1,d.2.1.2.1,d.2.1.2.2.1,d.2.1.2.2.2.1,()),d.2.2.1,d.2.2.2.1,())).bind fun e=>
 bif e.1.2.2.2.2.2.2.2.1 then
 some (((),false,()),e.2.2.2.1,())
else
 bif e.1.2.2.2.2.2.1 then
(bh e.2.2.2.1.length e.1.2.2.2.2.1).bind fun f=>
((e.2.2.2.1[f]?).bind fun q=>some (aB.mk e.2.1.1 e.2.1.2.1 e.2.1.2.2.1 e.2.1.2.2.2.1)).bind fun g=>
 some (((),true,()),(e.2.2.2.1.set f g),())
else
 bif(decide ((e.1.1.length:Int)>=(16:Int))) then
 some (((),false,()),e.2.2.2.1,())
else
(bq e.1.1 (0:Int) e.1.2.2.2.2.1).bind fun h=>
(cl 48 ([]:List aB) h).bind fun i=>
(cl 48 i ([(aB.mk e.2.1.1 e.2.1.2.1 e.2.1.2.2.1 e.2.1.2.2.2.1)]:List aB)).bind fun j=>
(bq e.1.1 e.1.2.2.2.2.1 (e.1.1.length:Int)).bind fun k=>
(cl 48 j k).bind fun l=>
 some (((),true,()),l,())
noncomputable def _I:aH:=aL af Tryz.f223 i223 Yo [] f223
theorem asA:aE O 223 _I:=aM Md Tryz.func223 (by kernel_rfl) (a7 ak6 (a7 ak5 ag)) (fun y=>by kernel_rfl) fun a=>by kernel_rfl
noncomputable abbrev aqj:a8:=[(79,k6)]
theorem aqF:aT O (aZ af aqj):=aY ⟨lT,⟨⟩⟩
abbrev VP:Shape:=⟨[ax 0 500000 0],[aw 500000 [br .u8,ba]],6⟩
abbrev Vl:Shape:=⟨[ax 0 500000 0,am 2],[aw 500000 [br .u8,ba]],6⟩
noncomputable def tD(a:VP.J):Option Vl.J:=
(jL (((),([([97]:B),([98]:B),([97,47,98]:B),([97,47,99]:B),([97,47,98,47,99]:B),([108,105,98]:B),([108,105,98,47,120]:B),([108,105,98,47,120,46,99]:B),([100,111,99,47,121]:B),([98,105,110]:B),([98,105,110,47,122]:B),([97,47,98,47,99,47,100,47,101]:B)]:List B),()),(a.2.1.1,a.2.1.2.1,()),())).bind fun b=>
 some (((),b.1.2.1,()),(b.2.1.1,b.2.1.2.1,()),())
noncomputable def Kx:aH:=aL af Tryz.f261 VP Vl [0] tD
theorem UB:aE O 261 Kx:=aM aqF Tryz.func261 (by kernel_rfl) ag (fun y=>by kernel_rfl) fun a=>by kernel_rfl
abbrev Si:Shape:=⟨[am 0,aj 1,am 5],[],20⟩
abbrev R0:List aR:=[(.norm,⟨[am 0,aj 1,am 5],[],20⟩)]
noncomputable def Ao(y:Si.J):Option (aG R0):=
(ja y.1.2.1 (2:Int)).bind fun a=>
 bif(a==(1:Int)) then
(cc y.1.2.2.1 y.1.1).bind fun b=>
 some ((y.1.1,y.1.2.1,b,()),())
else
 some ((y.1.1,y.1.2.1,y.1.2.2.1,()),())
theorem ak4:aV O (ap (di (ap (codeOf Tryz.f237) 1 28)) 56 452) (aX Si R0 Ao):=cm g0 (by kernel_rfl) ag fun y=>by kernel_rfl
abbrev AO:Shape:=⟨[am 0,aj 1,am 5],[],20⟩
abbrev H_:List aR:=[(.exit 0,⟨[am 5],[],20⟩)]
noncomputable def Um(y:AO.J):bP AO H_:=
 bif(decide (y.1.2.1>(0:Int))) then
(Ao ((y.1.1,y.1.2.1,y.1.2.2.1,()),())).bind fun a=>
(cc a.1.1 a.1.1).bind fun b=>
(l5 .i64 a.1.2.1 (2:Int)).bind fun c=>
 some (.inl ((b,c,a.1.2.2.1,()),()))
else
 some (.inr ((y.1.2.2.1,()),()))
noncomputable def IX:AO.J->Option (aG H_):=bA Um
theorem amX:aV O (ap (codeOf Tryz.f237) 1 28) (aX AO H_ IX):=bR g0 (by kernel_rfl) (a7 ak4 ag) fun y=>by kernel_rfl
abbrev i237:Shape:=⟨[am 0,aj 1],[],20⟩
abbrev Yh:Shape:=⟨[am 4],[],20⟩
noncomputable def f237(a:i237.J):Option Yh.J:=
(IX ((a.1.1,a.1.2.1,([]:B),()),())).bind fun b=>
 some ((b.1.1,()),())
noncomputable def LS:aH:=aL af Tryz.f237 i237 Yh [] f237
theorem XD:aE O 237 LS:=aM g0 Tryz.func237 (by kernel_rfl) (a7 amX ag) (fun y=>by kernel_rfl) fun a=>by kernel_rfl
noncomputable abbrev aqi:a8:=[(79,k6),(237,LS)]
theorem aqE:aT O (aZ af aqi):=aY ⟨lT,XD,⟨⟩⟩
abbrev VO:Shape:=⟨[ax 0 500000 0],[aw 500000 [br .u8,ba]],7⟩
abbrev Vk:Shape:=⟨[ax 0 500000 0,am 2],[aw 500000 [br .u8,ba]],7⟩
noncomputable def CN(a:VO.J):Option Vk.J:=
(f237 ((([116]:B),(80:Int),()),())).bind fun b=>
(jL (((),([([]:B),([111,110,101,10]:B),([111,110,101,10,116,119,111,10,116,104,114,101,101,10]:B),([110,111,32,101,110,100]:B),([97,10,98,10,99,10,100,10,101,10,102,10,103,10]:B),b.1.1]:List B),()),(a.2.1.1,a.2.1.2.1,()),())).bind fun c=>
 some (((),c.1.2.1,()),(c.2.1.1,c.2.1.2.1,()),())
noncomputable def Wo:aH:=aL af Tryz.f262 VO Vk [0] CN
theorem aoA:aE O 262 Wo:=aM aqE Tryz.func262 (by kernel_rfl) ag (fun y=>by kernel_rfl) fun a=>by kernel_rfl
noncomputable abbrev ar2:a8:=[(78,jl)]
theorem ar7:aT O (aZ af ar2):=aY ⟨jJ,⟨⟩⟩
abbrev Xd:Shape:=⟨[ax 0 500000 0,aO 1 .i64],[aw 500000 [br .u8,ba]],12⟩
abbrev WZ:Shape:=⟨[ax 0 500000 0,aj 4],[aw 500000 [br .u8,ba]],12⟩
noncomputable def ua(a:Xd.J):Option WZ.J:=
(gy (((),(a.1.2.1.length:Int),()),(a.2.1.1,a.2.1.2.1,()),())).bind fun b=>
(aS a.1.2.1 b.1.2.1).bind fun c=>
 some (((),c,()),(b.2.1.1,b.2.1.2.1,()),())
noncomputable def Do:aH:=aL af Tryz.f77 Xd WZ [0] ua
theorem KD:aE O 77 Do:=aM ar7 Tryz.func77 (by kernel_rfl) ag (fun y=>by kernel_rfl) fun a=>by kernel_rfl
noncomputable abbrev aqn:a8:=[(77,Do),(78,jl),(261,Kx),(262,Wo)]
theorem aqH:aT O (aZ af aqn):=aY ⟨KD,jJ,UB,aoA,⟨⟩⟩
abbrev VT:Shape:=⟨[ax 0 500000 0],[aw 500000 [br .u8,ba]],26⟩
abbrev Vo:Shape:=⟨[ax 0 500000 0,ax 2 2 0],[aw 500000 [br .u8,ba],aw 2 [ah,ba,ba,ah]],26⟩
noncomputable def wH(a:VT.J):Option Vo.J:=
(tD (((),()),(a.2.1.1,a.2.1.2.1,()),())).bind fun b=>
(ua (((),([(1:Int),(1:Int),(2:Int),(2:Int),(3:Int)]:List Int),()),(b.2.1.1,b.2.1.2.1,()),())).bind fun c=>
(gy (((),(8:Int),()),(c.2.1.1,c.2.1.2.1,()),())).bind fun d=>
 bif(c.1.2.1==(2:Int)) then
(CN (((),()),(d.2.1.1,d.2.1.2.1,()),())).bind fun e=>
 some (((),(),()),(e.2.1.1,e.2.1.2.1,()),(b.1.2.1,c.1.2.1,d.1.2.1,e.1.2.1,()),())
else
 bif(c.1.2.1==(3:Int)) then
(tD (((),()),(d.2.1.1,d.2.1.2.1,()),())).bind fun f=>
 some (((),(),()),(f.2.1.1,f.2.1.2.1,()),(b.1.2.1,c.1.2.1,(0:Int),f.1.2.1,()),())
else
 some (((),(),()),(d.2.1.1,d.2.1.2.1,()),(b.1.2.1,c.1.2.1,d.1.2.1,([]:B),()),())
noncomputable def Ky:aH:=aL af Tryz.f224 VT Vo [0] wH
theorem UC:aE O 224 Ky:=aM aqH Tryz.func224 (by kernel_rfl) ag (fun y=>by kernel_rfl) fun a=>by kernel_rfl
theorem ic(a)(m:Nat)(h:dl a.2.1.1 a.2.1.2.1 m)(hm:1<=m):ab (gy a) (fun r=>dl r.2.1.1 r.2.1.2.1 (m-1)/\(0:Int)<=r.1.2.1/\((1:Int)<=a.1.2.1->(r.1.2.1:Int)<a.1.2.1)):=by
 obtain⟨⟨u1,(n:Int),u2⟩,⟨⟨(b:List Int),(p:Int),va⟩,aeh⟩⟩:=a;have h:dl b p m:=h;obtain⟨h1,h2,h3,aF⟩:=h;have e1:IntKind.i64.wrap (p+1)=p+1:=c' (by omega) (by omega)
 have e2:IntKind.i64.wrap (p+1-1)=p:=by rw[show p+1-1=p by omega];exact c' (by omega) (by omega)
 have R:dl b (p+1) (m-1):=⟨h1,h2,by omega,by omega⟩
 unfold gy;simp only[e1];have hg:Al (((),(n,())),((b,(p+1,())),()))=some ((((),(n,((decide (n<1)||(b.length:Int)==0),()))),((b,(p+1,())),()))):=by
  unfold Al;cases decide (n<1)<;>rfl
 refine ab.eq hg ?_
 refine ab.ite (fun hc=>ab.ret ⟨R,Int.le_refl _,fun hn=>hn⟩) fun hc=>?_
 have hc:(decide (n<1)||(b.length:Int)==0)=false:=hc;simp only[Bool.or_eq_false_iff,decide_eq_false_iff_not,beq_eq_false_iff_ne,ne_eq] at hc;have hn:1<=n:=by omega
 have hb:0<b.length:=by omega
 simp only[e2];refine ab.ite (fun aa=>?_) fun aa=>?_
 ·have aa:p<(b.length:Int):=of_decide_eq_true aa;obtain⟨x,aI,aJ⟩:=nJ (xs:=b) h3 aa;obtain⟨bS,cY⟩:=h2 x aJ;refine ab.eq aI ?_
  have bz:IntKind.i64.wrap x=x:=c' (by omega) (by omega)
  refine ab.eq (x:=x%n) (by show ja (IntKind.i64.wrap x) n=_;rw[bz];exact oL bS (by omega)) ?_
  exact ab.ret ⟨R,Int.emod_nonneg _ (by omega),fun _=>Int.emod_lt_of_pos _ (by omega)⟩
 ·have hl:0<(b.length:Int):=by omega
  have m7:IntKind.i64.wrap (IntKind.i64.wrap (p*7)+3)=p*7+3:=by rw[c' (n:=p*7) (by omega) (by omega)];exact c' (by omega) (by omega)
  obtain⟨x,aI,aJ⟩:=nJ (xs:=b) (Int.emod_nonneg p (b:=(b.length:Int)) (by omega)) (Int.emod_lt_of_pos p hl)
  obtain⟨bS,cY⟩:=h2 x aJ;obtain⟨y,ed,fU⟩:=nJ (xs:=b) (Int.emod_nonneg (p*7+3) (b:=(b.length:Int)) (by omega)) (Int.emod_lt_of_pos (p*7+3) hl)
  obtain⟨vd,aDy⟩:=h2 y fU;have q0:0<=p/(b.length:Int):=Int.ediv_nonneg h3 (by omega)
  have q1:p/(b.length:Int)<=p:=Int.ediv_le_self _ h3;refine ab.eq (x:=p%(b.length:Int)) (oL h3 hl) ?_
  refine ab.eq aI ?_
  refine ab.eq (x:=(p*7+3)%(b.length:Int)) (by show ja (IntKind.i64.wrap (IntKind.i64.wrap (p*7)+3)) (b.length:Int)=_;rw[m7];exact oL (by omega) hl) ?_
  refine ab.eq ed ?_
  refine ab.eq (x:=p/(b.length:Int)) (wA rfl h3 (by omega) hl) ?_
  have a':IntKind.i64.wrap x=x:=c' (by omega) (by omega)
  have w2:IntKind.i64.wrap y=y:=c' (by omega) (by omega)
  have cr:IntKind.i64.wrap (x*131)=x*131:=c' (by omega) (by omega)
  have lv:IntKind.i64.wrap (y*1117)=y*1117:=c' (by omega) (by omega)
  have su:IntKind.i64.wrap (x*131+y*1117)=x*131+y*1117:=c' (by omega) (by omega)
  have pm:IntKind.i64.wrap (p*29)=p*29:=c' (by omega) (by omega)
  have jZ:IntKind.i64.wrap (x*131+y*1117+p*29)=x*131+y*1117+p*29:=c' (by omega) (by omega)
  have pk:IntKind.i64.wrap (p/(b.length:Int)*53)=p/(b.length:Int)*53:=c' (by omega) (by omega)
  have ix:IntKind.i64.wrap (x*131+y*1117+p*29+p/(b.length:Int)*53)=x*131+y*1117+p*29+p/(b.length:Int)*53:=c' (by omega) (by omega)
  simp only[a',w2,cr,lv,su,pm,jZ,pk,ix];have n0:0<=x*131+y*1117+p*29+p/(b.length:Int)*53:=by omega
  have n1:x*131+y*1117+p*29+p/(b.length:Int)*53<4611686018427387904:=by omega
  generalize x*131+y*1117+p*29+p/(b.length:Int)*53=X at n0 n1;refine ab.eq (x:=X/64) (wA rfl n0 (by omega) (by decide)) ?_
  have hx:=aoR n0 n1 (Int.ediv_nonneg n0 (by decide:(0:Int)<=64)) (Int.lt_of_le_of_lt (Int.ediv_le_self 64 n0) n1)
  refine ab.eq (x:=dB .i64 X (X/64)%n) (oL hx (by omega)) ?_
  exact ab.ret ⟨R,Int.emod_nonneg _ (by omega),fun _=>Int.emod_lt_of_pos _ (by omega)⟩
theorem l3(a)(m:Nat)(h:dl a.2.1.1 a.2.1.2.1 m)(hm:1<=m)(hl:(1:Int)<=(a.1.2.1:List B).length):ab (jL a) (fun r=>dl r.2.1.1 r.2.1.2.1 (m-1)/\r.1.2.1∈(a.1.2.1:List B)):=by
 unfold jL;refine ab.bind (ic _ m h hm) fun r hr=>?_
 obtain⟨x,aI,aJ⟩:=nJ (xs:=(a.1.2.1:List B)) hr.2.1 (hr.2.2 hl);exact ab.eq aI (ab.ret ⟨hr.1,aJ⟩)
theorem KF(a)(m:Nat)(h:dl a.2.1.1 a.2.1.2.1 m)(hm:1<=m)(hl:(1:Int)<=(a.1.2.1:List Int).length):ab (ua a) (fun r=>dl r.2.1.1 r.2.1.2.1 (m-1)/\r.1.2.1∈(a.1.2.1:List Int)):=by
 unfold ua;refine ab.bind (ic _ m h hm) fun r hr=>?_
 obtain⟨x,aI,aJ⟩:=nJ (xs:=(a.1.2.1:List Int)) hr.2.1 (hr.2.2 hl);exact ab.eq aI (ab.ret ⟨hr.1,aJ⟩)
abbrev dH(s:B):Prop:=s.length<=200
theorem rl{L:List B}(h:L.all (fun s=>decide (s.length<=200))=true){s:B}(hs:s∈L):dH s:=of_decide_eq_true (List.all_eq_true.1 h s hs)
theorem Fo(a)(m:Nat)(h:dl a.2.1.1 a.2.1.2.1 m)(hm:1<=m):ab (tE a) (fun r=>dl r.2.1.1 r.2.1.2.1 (m-1)/\dH r.1.2.1):=by
 unfold tE;refine ab.bind (l3 _ m h hm (by simp)) fun r hr=>ab.ret ⟨hr.1,rl (by rfl) hr.2⟩
theorem F3(a)(m:Nat)(h:dl a.2.1.1 a.2.1.2.1 m)(hm:1<=m):ab (tD a) (fun r=>dl r.2.1.1 r.2.1.2.1 (m-1)/\dH r.1.2.1):=by
 unfold tD;refine ab.bind (l3 _ m h hm (by simp)) fun r hr=>ab.ret ⟨hr.1,rl (by rfl) hr.2⟩
theorem RJ(a)(hs:(a.1.1:B).length<=1)(h0:(0:Int)<=a.1.2.1)(h1:(a.1.2.1:Int)<=127):ab (f237 a) (fun r=>dH r.1.1):=by
 obtain⟨⟨(s:B),(n:Int),u⟩,b7⟩:=a;unfold f237;have key:ab (IX ((s,(n,(([]:B),()))),())) (fun r=>dH r.1.1):=by
  refine ab.loop (fun(k:Nat) y=>(0:Int)<=y.1.2.1/\(y.1.2.1:Int).toNat=k/\(y.1.2.1:Int).toNat*(y.1.1:B).length+(y.1.2.2.1:B).length<=127/\(y.1.1:B).length<=256/\(y.1.2.1:Int)<=127) (fun k y hy=>?_) n.toNat _ ⟨h0,rfl,?_,by show s.length<=256;have:s.length<=1:=hs;omega,h1⟩
  ·obtain⟨⟨(s:B),(n:Int),(out:B),u⟩,b7⟩:=y;obtain⟨cT,dC,dW,iw,e_⟩:=hy;have e_:n<=127:=e_;have cT:0<=n:=cT;have dW:n.toNat*s.length+out.length<=127:=dW;have iw:s.length<=256:=iw;unfold Um;refine ab.ite (fun hc=>?_) fun hc=>?_
   ·have hc:n>0:=of_decide_eq_true hc;have e4:1<=n.toNat:=by omega
    have iP:s.length<=127:=by have:=Nat.mul_le_mul_right s.length e4;omega
    have piece:ab (Ao ((s,(n,(out,()))),())) (fun r=>r.1.1=s/\r.1.2.1=n/\(n%2=1/\(r.1.2.2.1:B).length=out.length+s.length\/n%2=0/\(r.1.2.2.1:B).length=out.length)):=by
     unfold Ao;refine ab.eq (x:=n%2) (oL cT (by decide)) ?_
     refine ab.ite (fun aa=>?_) fun aa=>?_
     ·have aa:n%2=1:=by simpa using aa
      exact ab.eq (dI (s:=out) (t:=s) (by omega)) (ab.ret ⟨rfl,rfl,.inl ⟨aa,by simp⟩⟩)
     ·have aa:¬n%2=1:=by simpa using aa
      exact ab.ret ⟨rfl,rfl,.inr ⟨by omega,rfl⟩⟩
    refine ab.bind piece fun r hr=>?_
    obtain⟨⟨(aQ:B),(h6:Int),(La:B),v⟩,v'⟩:=r;obtain⟨r1,r2,dD⟩:=hr;have r1:aQ=s:=r1;have r2:h6=n:=r2;subst r1 r2;refine ab.eq (dI (s:=aQ) (t:=aQ) (by omega)) ?_
    refine ab.eq (x:=h6/2) (wA (x:=h6) rfl cT (by omega) (by decide)) ?_
    refine ab.ret ⟨(h6/2).toNat,?_,?_⟩
    ·show(h6/2).toNat<k;have:h6.toNat=k:=dC;omega
    ·refine⟨by show 0<=h6/2;omega,rfl,?_,by show(aQ++aQ).length<=256;simp;omega,by show h6/2<=127;omega⟩
     show(h6/2).toNat*(aQ++aQ).length+La.length<=127;have dD:h6%2=1/\La.length=out.length+aQ.length\/h6%2=0/\La.length=out.length:=dD;obtain⟨q,aC⟩:∃q:Nat,(h6/2).toNat=q:=⟨_,rfl⟩;rw[aC,dx];rcases dD with⟨dD,gp⟩|⟨dD,gp⟩
     ·have e:h6.toNat=2*q+1:=by omega
      rw[e] at dW;rw[gp];have:(2*q+1)*aQ.length=q*(aQ.length+aQ.length)+aQ.length:=by rw[Nat.add_mul,Nat.one_mul,Nat.mul_assoc,Nat.mul_add];omega
      omega
     ·have e:h6.toNat=2*q:=by omega
      rw[e] at dW;rw[gp];have:2*q*aQ.length=q*(aQ.length+aQ.length):=by rw[Nat.mul_add,Nat.mul_assoc];omega
      omega
   ·exact ab.ret (show out.length<=200 by omega)
  ·show n.toNat*s.length+0<=127;have hs:s.length<=1:=hs;have h1:n<=127:=h1;have:n.toNat*s.length<=n.toNat*1:=Nat.mul_le_mul_left _ hs;omega
 exact ab.bind key fun r hr=>ab.ret hr
theorem aiq(a)(m:Nat)(h:dl a.2.1.1 a.2.1.2.1 m)(hm:1<=m):ab (CN a) (fun r=>dl r.2.1.1 r.2.1.2.1 (m-1)/\dH r.1.2.1):=by
 unfold CN;refine ab.bind (RJ _ (by simp) (by show(0:Int)<=80;decide) (by show(80:Int)<=127;decide)) fun q aC=>?_
 refine ab.bind (l3 _ m h hm (by simp)) fun r hr=>ab.ret ⟨hr.1,?_⟩
 have:=hr.2;simp only[bO,List.not_mem_nil,or_false] at this;rcases this with e|e|e|e|e|e
 ·show(r.1.2.1:B).length<=200;rw[e];decide
 ·show(r.1.2.1:B).length<=200;rw[e];decide
 ·show(r.1.2.1:B).length<=200;rw[e];decide
 ·show(r.1.2.1:B).length<=200;rw[e];decide
 ·show(r.1.2.1:B).length<=200;rw[e];decide
 ·show(r.1.2.1:B).length<=200;rw[e];exact aC
abbrev ls(e:aB):Prop:=dH e.path/\dH e.text
theorem PK(a)(m:Nat)(h:dl a.2.1.1 a.2.1.2.1 m)(hm:4<=m):ab (wH a) (fun r=>dl r.2.1.1 r.2.1.2.1 (m-4)/\ls ⟨r.2.2.1.1,r.2.2.1.2.1,r.2.2.1.2.2.1,r.2.2.1.2.2.2.1⟩):=by
 unfold wH;refine ab.bind (F3 _ m h (by omega)) fun r1 h1=>?_
 refine ab.bind (KF _ (m-1) h1.1 (by omega) (by simp)) fun r2 h2=>?_
 refine ab.bind (ic _ (m-1-1) h2.1 (by omega)) fun dD h3=>?_
 refine ab.ite (fun _=>?_) fun _=>ab.ite (fun _=>?_) fun _=>?_
 ·exact ab.bind (aiq _ _ h3.1 (by omega)) fun gp aF=>ab.ret ⟨aF.1.less (by omega),h1.2,aF.2⟩
 ·exact ab.bind (F3 _ _ h3.1 (by omega)) fun gp aF=>ab.ret ⟨aF.1.less (by omega),h1.2,aF.2⟩
 ·exact ab.ret ⟨h3.1.less (by omega),h1.2,show(0:Nat)<=200 by decide⟩
theorem GP(a)(h:cw a.1.1.length):f202 a=some (((),()),(a.1.1,())):=by
 obtain⟨⟨t,u⟩,b7⟩:=a;have h:t.length<=2097152:=h;simp only[f202,dy (show(48:Nat)<=100 by decide) (show aA (([]:List aB).length+t.length) by unfold aA;simp;omega),List.nil_append,Y]
abbrev jw(t:List aB):Prop:=t.length<=16/\∀e,e∈t->ls e
theorem To{t:List aB}{k:Nat}{e:aB}(h:∀e,e∈t->ls e)(he:ls e):∀x,x∈t.set k e->ls x:=by
 intro x hx;rcases List.mem_or_eq_of_mem_set hx with hx|hx
 ·exact h x hx
 ·rw[hx];exact he
theorem HW(a)(ay:jw a.1.1)(he:ls ⟨a.1.2.1.1,a.1.2.1.2.1,a.1.2.1.2.2.1,a.1.2.1.2.2.2.1⟩):ab (f223 a) (fun r=>jw r.2.1):=by
 obtain⟨⟨t,⟨path,kind,mode,text,od⟩,u⟩,b7⟩:=a;obtain⟨h1,h2⟩:=ay;have h1:t.length<=16:=h1;have he:ls ⟨path,kind,mode,text⟩:=he;have hb:cw t.length:=by unfold cw;omega
 unfold f223;refine ab.eq (JH ((t,(path,())),()) hb) ?_
 refine ab.eq (GP ((t,()),()) hb) ?_
 have hp:=ra t path;have e1:=Ql (((path,(kind,(mode,(text,())))),()),()) (Nat.le_trans he.1 (by decide)) (Nat.le_trans he.2 (by decide))
 have e2:=UJ ((path,()),()) (Nat.le_trans he.1 (by decide))
 have bz:=S1 ((t,(jr path,())),()) hb;obtain⟨c,hc⟩:∃c:Bool,Aq ((t,((),((),(false,((bV t path:Int),(hd t path,((),()))))))),((path,(kind,(mode,(text,())))),(([]:List aB),(t,()))))=
   some ((t,((),((),(false,((bV t path:Int),(hd t path,((),(c,())))))))),((path,(kind,(mode,(text,())))),(([]:List aB),(t,())))):=by
  unfold Aq;simp only[e1,Y,Bool.not_not];cases e7 ⟨path,kind,mode,text⟩ with
  |false=>exact⟨true,rfl⟩
  |true=>simp only[ad,e2,Y,bz];exact⟨_,rfl⟩
 refine ab.eq hc ?_
 refine ab.ite (fun _=>ab.ret ⟨h1,h2⟩) fun _=>?_
 obtain⟨d,aa⟩:∃d:Bool,Ap ((t,((),((),(false,((bV t path:Int),(hd t path,((),()))))))),((path,(kind,(mode,(text,())))),(([]:List aB),(t,()))))=
   some ((t,((),((),(false,((bV t path:Int),(hd t path,((),(d,())))))))),((path,(kind,(mode,(text,())))),(([]:List aB),(t,())))):=by
  unfold Ap;cases bU:hd t path with
  |false=>exact⟨false,rfl⟩
  |true=>
   unfold hd at bU;cases aC:t[bV t path]? with
   |none=>rw[aC] at bU;cases bU
   |some e=>simp only[ad,cd,aC,Y];exact⟨_,rfl⟩
 refine ab.eq aa ?_
 refine ab.ite (fun _=>ab.ret ⟨h1,h2⟩) fun _=>?_
 refine ab.ite (fun bU=>?_) fun _=>ab.ite (fun _=>ab.ret ⟨h1,h2⟩) fun hl=>?_
 ·have bU:hd t path=true:=bU;unfold hd at bU;cases aC:t[bV t path]? with
  |none=>rw[aC] at bU;cases bU
  |some e=>
   refine ab.eq (fQ (da aC)) ?_
   refine ab.eq (x:=aB.mk path kind mode text) (by show(t[bV t path]?).bind _=_;rw[aC];rfl) ?_
   exact ab.ret ⟨by show(t.set _ _).length<=16;rw[List.length_set];exact h1,To h2 he⟩
 ·have hl:¬((t.length:Int)>=16):=of_decide_eq_false hl;refine ab.eq (gw hp) ?_
  refine ab.eq (dy (by decide) (by unfold aA;simp;omega)) ?_
  refine ab.eq (dy (by decide) (by unfold aA;simp;omega)) ?_
  refine ab.eq (fO hp) ?_
  refine ab.eq (dy (by decide) (by unfold aA;simp;omega)) ?_
  refine ab.ret ⟨?_,fun x hx=>?_⟩
  ·show(([]++t.take (bV t path)++[aB.mk path kind mode text])++t.drop (bV t path)).length<=16;simp;omega
  ·have hx:x∈([]++t.take (bV t path)++[aB.mk path kind mode text])++t.drop (bV t path):=hx;simp only[List.nil_append,bp,List.mem_singleton] at hx;rcases hx with(hx|hx)|hx
   ·exact h2 x (List.mem_of_mem_take hx)
   ·rw[hx];exact he
   ·exact h2 x (List.mem_of_mem_drop hx)
noncomputable abbrev auI:a8:=[(146,DT)]
theorem xB:aT O (aZ af auI):=aY ⟨z146,⟨⟩⟩
abbrev Tv:Shape:=⟨[am 0,aj 3],[],43⟩
abbrev S':List aR:=[(.norm,⟨[am 0,aj 3,ar 12],[],43⟩)]
noncomputable def Ui(y:Tv.J):Option (aG S'):=
 bif(decide ((y.1.1.length:Int)>(1:Int))) then
(aS y.1.1 (1:Int)).bind fun a=>
 some ((y.1.1,y.1.2.1,((a.toNat:Int)==(33:Int)),()),())
else
 some ((y.1.1,y.1.2.1,false,()),())
theorem amO:aV O (ap (ap (codeOf Tryz.f284) 1 14) 14 28) (aX Tv S' Ui):=cm xB (by kernel_rfl) ag fun y=>by kernel_rfl
abbrev Tw:Shape:=⟨[am 0,aj 3],[],43⟩
abbrev Ta:List aR:=[(.norm,⟨[am 0,aj 3],[],43⟩)]
noncomputable def Uj(y:Tw.J):Option (aG Ta):=
(Ui ((y.1.1,y.1.2.1,()),())).bind fun a=>
 bif a.1.2.2.1 then
 some ((a.1.1,(2:Int),()),())
else
 some ((a.1.1,a.1.2.1,()),())
theorem amP:aV O (ap (codeOf Tryz.f284) 1 14) (aX Tw Ta Uj):=cm xB (by kernel_rfl) (a7 amO ag) fun y=>by kernel_rfl
abbrev zV:Shape:=⟨[am 0,aj 3,aj 4],[],43⟩
abbrev GY:List aR:=[(.exit 0,⟨[am 0,aj 3,aj 4],[],43⟩)]
noncomputable def alT(y:zV.J):bP zV GY:=
 bif(decide (y.1.2.1<(y.1.1.length:Int))) then
(aS y.1.1 y.1.2.1).bind fun a=>
(f146 (((a.toNat:Int),()),())).bind fun b=>
 bif b.1.1 then
 some (.inl ((y.1.1,(IntKind.i64.wrap (y.1.2.1+(1:Int))),y.1.2.2.1,()),()))
else
 some (.inr ((y.1.1,y.1.2.1,y.1.2.2.1,()),()))
else
 some (.inr ((y.1.1,y.1.2.1,y.1.2.2.1,()),()))
noncomputable def Sz:zV.J->Option (aG GY):=bA alT
theorem akZ:aV O (ap (codeOf Tryz.f284) 1 124) (aX zV GY Sz):=bR xB (by kernel_rfl) ag fun y=>by kernel_rfl
abbrev Sg:Shape:=⟨[am 0,aj 3,aj 4],[],43⟩
abbrev RY:List aR:=[(.norm,⟨[aj 3,ar 40],[],43⟩)]
noncomputable def SL(y:Sg.J):Option (aG RY):=
 bif(!(y.1.2.1==y.1.2.2.1)) then
 bif(!(y.1.2.1==(y.1.1.length:Int))) then
(aS y.1.1 y.1.2.1).bind fun a=>
 some ((y.1.2.1,((a.toNat:Int) !=(93:Int)),()),())
else
 some ((y.1.2.1,true,()),())
else
 some ((y.1.2.1,true,()),())
theorem akY:aV O (ap (codeOf Tryz.f284) 1 252) (aX Sg RY SL):=cm xB (by kernel_rfl) ag fun y=>by kernel_rfl
abbrev i284:Shape:=⟨[am 0],[],43⟩
abbrev X3:Shape:=⟨[aj 2],[],43⟩
noncomputable def f284(a:i284.J):Option X3.J:=
(Uj ((a.1.1,(1:Int),()),())).bind fun b=>
(Sz ((b.1.1,b.1.2.1,b.1.2.1,()),())).bind fun c=>
(SL ((c.1.1,c.1.2.1,c.1.2.2.1,()),())).bind fun d=>
 bif d.1.2.1 then
 some (((0:Int),()),())
else
 some (((IntKind.i64.wrap (d.1.1+(1:Int))),()),())
noncomputable def LP:aH:=aL af Tryz.f284 i284 X3 [] f284
theorem XA:aE O 284 LP:=aM xB Tryz.func284 (by kernel_rfl) (a7 amP (a7 akZ (a7 akY ag))) (fun y=>by kernel_rfl) fun a=>by kernel_rfl
noncomputable abbrev auL:a8:=[(146,DT),(284,LP)]
theorem Mb:aT O (aZ af auL):=aY ⟨z146,XA,⟨⟩⟩
abbrev QR:Shape:=⟨[am 0,aj 3],[],45⟩
abbrev Qy:List aR:=[(.norm,⟨[am 0,aj 3,ar 26],[],45⟩)]
noncomputable def zC(y:QR.J):Option (aG Qy):=
(aS y.1.1 y.1.2.1).bind fun a=>
 bif(!((a.toNat:Int)==(42:Int))) then
(aS y.1.1 y.1.2.1).bind fun b=>
 some ((y.1.1,y.1.2.1,((b.toNat:Int)==(63:Int)),()),())
else
 some ((y.1.1,y.1.2.1,true,()),())
theorem ai1:aV O (ap (di (ap (codeOf Tryz.f279) 1 26)) 52 6726) (aX QR Qy zC):=cm Mb (by kernel_rfl) ag fun y=>by kernel_rfl
abbrev AI:Shape:=⟨[am 0,aj 3],[],45⟩
abbrev H4:List aR:=[(.ret,⟨[ar 2],[],45⟩),(.exit 0,⟨[am 0],[],45⟩)]
noncomputable def Uk(y:AI.J):bP AI H4:=
 bif(decide (y.1.2.1<(y.1.1.length:Int))) then
(aS y.1.1 y.1.2.1).bind fun a=>
 bif((a.toNat:Int)==(91:Int)) then
(bq y.1.1 y.1.2.1 (y.1.1.length:Int)).bind fun b=>
(f284 ((b,()),())).bind fun c=>
 bif(c.1.1==(0:Int)) then
 some (.inr (.inl ((false,()),())))
else
 some (.inl ((y.1.1,(IntKind.i64.wrap ((IntKind.i64.wrap ((IntKind.i64.wrap (y.1.2.1+c.1.1))-(1:Int)))+(1:Int))),()),()))
else
(zC ((y.1.1,y.1.2.1,()),())).bind fun d=>
 bif d.1.2.2.1 then
 some (.inl ((d.1.1,(IntKind.i64.wrap (d.1.2.1+(1:Int))),()),()))
else
(aS d.1.1 d.1.2.1).bind fun e=>
(f146 (((e.toNat:Int),()),())).bind fun f=>
 bif(!f.1.1) then
 some (.inr (.inl ((false,()),())))
else
 some (.inl ((d.1.1,(IntKind.i64.wrap (d.1.2.1+(1:Int))),()),()))
else
 some (.inr (.inr ((y.1.1,()),())))
noncomputable def T2:AI.J->Option (aG H4):=bA Uk
theorem amR:aV O (ap (codeOf Tryz.f279) 1 26) (aX AI H4 T2):=bR Mb (by kernel_rfl) (a7 ai1 ag) fun y=>by kernel_rfl
abbrev i279:Shape:=⟨[am 0],[],45⟩
abbrev X5:Shape:=⟨[ar 2],[],45⟩
noncomputable def f279(a:i279.J):Option X5.J:=
(T2 ((a.1.1,(0:Int),()),())).bind fun b=>
(match b with
|.inl c=>
 some ((c.1.1,()),())
|.inr d=>
 some (((!(d.1.1==([]:B))),()),()))
noncomputable def _p:aH:=aL af Tryz.f279 i279 X5 [] f279
theorem asl:aE O 279 _p:=aM Mb Tryz.func279 (by kernel_rfl) (a7 amR ag) (fun y=>by kernel_rfl) fun a=>by kernel_rfl
noncomputable abbrev auQ:a8:=[(73,pi),(279,_p)]
theorem aaO:aT O (aZ af auQ):=aY ⟨ql,asl,⟨⟩⟩
abbrev AL:Shape:=⟨[am 0,bd 3 3000192,aj 4],[bc 3000192 .str 3 0],30⟩
abbrev H7:List aR:=[(.ret,⟨[ar 2],[],30⟩),(.exit 0,⟨[am 0,bd 3 3000192],[bc 3000192 .str 3 0],30⟩)]
noncomputable def Ul(y:AL.J):bP AL H7:=
 bif(decide (y.1.2.2.1<(y.2.1.length:Int))) then
(bh y.2.1.length y.1.2.2.1).bind fun a=>
(y.2.1[a]?).bind fun b=>
(f279 ((b,()),())).bind fun c=>
 bif(!c.1.1) then
 some (.inr (.inl ((false,()),())))
else
 some (.inl ((y.1.1,(),(IntKind.i64.wrap (y.1.2.2.1+(1:Int))),()),y.2.1,()))
else
 some (.inr (.inr ((y.1.1,(),()),y.2.1,())))
noncomputable def T3:AL.J->Option (aG H7):=bA Ul
theorem amU:aV O (ap (codeOf Tryz.f258) 1 58) (aX AL H7 T3):=bR aaO (by kernel_rfl) ag fun y=>by kernel_rfl
abbrev i258:Shape:=⟨[am 0],[],30⟩
abbrev Yc:Shape:=⟨[ar 2],[],30⟩
noncomputable def f258(a:i258.J):Option Yc.J:=
(f73 ((a.1.1,(47:Int),(IntKind.i64.wrap ((a.1.1.length:Int)+(1:Int))),()),())).bind fun b=>
(T3 ((a.1.1,(),(0:Int),()),b.2.1,())).bind fun c=>
(match c with
|.inl d=>
 some ((d.1.1,()),())
|.inr e=>
 bif(decide ((e.2.1.length:Int)<=(5:Int))) then
 some (((decide ((e.1.1.length:Int)<=(40:Int))),()),())
else
 some ((false,()),()))
noncomputable def _x:aH:=aL af Tryz.f258 i258 Yc [] f258
theorem ast:aE O 258 _x:=aM aaO Tryz.func258 (by kernel_rfl) (a7 amU ag) (fun y=>by kernel_rfl) fun a=>by kernel_rfl
abbrev QQ:Shape:=⟨[am 0,(1,.aq (.d (.int .u8))),ar 5,aj 6],[],33⟩
abbrev Qx:List aR:=[(.norm,⟨[am 0,(1,.aq (.d (.int .u8))),ar 5,aj 6,ar 29],[],33⟩)]
noncomputable def Rm(y:QQ.J):Option (aG Qx):=
(aS y.1.1 y.1.2.2.2.1).bind fun a=>
 bif((a.toNat:Int)==y.1.2.1) then
 bif(!(decide (y.1.2.2.2.1>(1:Int)))) then
 some ((y.1.1,y.1.2.1,y.1.2.2.1,y.1.2.2.2.1,(!y.1.2.2.1),()),())
else
 some ((y.1.1,y.1.2.1,y.1.2.2.1,y.1.2.2.2.1,true,()),())
else
 some ((y.1.1,y.1.2.1,y.1.2.2.1,y.1.2.2.2.1,false,()),())
theorem ai0:aV O (ap (di (ap (codeOf Tryz.f285) 1 58)) 116 1864) (aX QQ Qx Rm):=cm g0 (by kernel_rfl) ag fun y=>by kernel_rfl
abbrev AG:Shape:=⟨[am 0,(1,.aq (.d (.int .u8))),ar 5,aj 6],[],33⟩
abbrev H2:List aR:=[(.ret,⟨[ar 4],[],33⟩),(.exit 0,⟨[ar 5],[],33⟩)]
noncomputable def an6(y:AG.J):bP AG H2:=
 bif(decide (y.1.2.2.2.1<(IntKind.i64.wrap ((y.1.1.length:Int)-(1:Int))))) then
(Rm ((y.1.1,y.1.2.1,y.1.2.2.1,y.1.2.2.2.1,()),())).bind fun a=>
 bif a.1.2.2.2.2.1 then
 some (.inr (.inl (((!a.1.2.2.1),()),())))
else
 some (.inl ((a.1.1,a.1.2.1,a.1.2.2.1,(IntKind.i64.wrap (a.1.2.2.2.1+(1:Int))),()),()))
else
 some (.inr (.inr ((y.1.2.2.1,()),())))
noncomputable def T1:AG.J->Option (aG H2):=bA an6
theorem amN:aV O (ap (codeOf Tryz.f285) 1 58) (aX AG H2 T1):=bR g0 (by kernel_rfl) (a7 ai0 ag) fun y=>by kernel_rfl
abbrev i285:Shape:=⟨[am 0,(1,.aq (.d (.int .u8)))],[],33⟩
abbrev X2:Shape:=⟨[ar 4],[],33⟩
noncomputable def f285(a:i285.J):Option X2.J:=
(aS a.1.1 (1:Int)).bind fun b=>
(T1 ((a.1.1,a.1.2.1,((b.toNat:Int)==(33:Int)),(1:Int),()),())).bind fun c=>
(match c with
|.inl d=>
 some ((d.1.1,()),())
|.inr e=>
 some ((e.1.1,()),()))
noncomputable def _l:aH:=aL af Tryz.f285 i285 X2 [] f285
theorem asg:aE O 285 _l:=aM g0 Tryz.func285 (by kernel_rfl) (a7 amN ag) (fun y=>by kernel_rfl) fun a=>by kernel_rfl
abbrev i280:Shape:=⟨[am 0,am 1],[],68⟩
abbrev nM:Shape:=⟨[ar 4],[],68⟩
noncomputable def KV(aW:i280.J->Option nM.J):aH:=aL af Tryz.f280 i280 nM [] aW
noncomputable abbrev auK(aW:i280.J->Option nM.J):a8:=[(280,(KV aW)),(284,LP),(285,_l)]
theorem awa(aW:i280.J->Option nM.J)(eS:aE O 280 (KV aW)):aT O (aZ af (auK aW)):=aY ⟨eS,XA,asg,⟨⟩⟩
noncomputable def p4(aW:i280.J->Option nM.J)(a:i280.J):Option nM.J:=
 bif(a.1.1==([]:B)) then
 some (((a.1.2.1==([]:B)),()),())
else
(aS a.1.1 (0:Int)).bind fun b=>
 bif((b.toNat:Int)==(42:Int)) then
(bq a.1.1 (1:Int) (a.1.1.length:Int)).bind fun c=>
(aW ((c,a.1.2.1,()),())).bind fun d=>
 bif(!d.1.1) then
 bif(!(a.1.2.1==([]:B))) then
(bq a.1.2.1 (1:Int) (a.1.2.1.length:Int)).bind fun e=>
(aW ((a.1.1,e,()),())).bind fun f=>
 some ((f.1.1,()),())
else
 some ((false,()),())
else
 some ((true,()),())
else
 bif(a.1.2.1==([]:B)) then
 some ((false,()),())
else
(aS a.1.1 (0:Int)).bind fun g=>
 bif((g.toNat:Int)==(63:Int)) then
(bq a.1.1 (1:Int) (a.1.1.length:Int)).bind fun h=>
(bq a.1.2.1 (1:Int) (a.1.2.1.length:Int)).bind fun i=>
(aW ((h,i,()),())).bind fun j=>
 some ((j.1.1,()),())
else
 bif((g.toNat:Int)==(91:Int)) then
(f284 ((a.1.1,()),())).bind fun k=>
(bq a.1.1 (0:Int) k.1.1).bind fun l=>
(aS a.1.2.1 (0:Int)).bind fun m=>
(f285 ((l,(m.toNat:Int),()),())).bind fun n=>
 bif n.1.1 then
(bq a.1.1 k.1.1 (a.1.1.length:Int)).bind fun D=>
(bq a.1.2.1 (1:Int) (a.1.2.1.length:Int)).bind fun p=>
(aW ((D,p,()),())).bind fun q=>
 some ((q.1.1,()),())
else
 some ((false,()),())
else
(aS a.1.1 (0:Int)).bind fun r=>
(aS a.1.2.1 (0:Int)).bind fun s=>
 bif((r.toNat:Int)==(s.toNat:Int)) then
(bq a.1.1 (1:Int) (a.1.1.length:Int)).bind fun t=>
(bq a.1.2.1 (1:Int) (a.1.2.1.length:Int)).bind fun u=>
(aW ((t,u,()),())).bind fun v=>
 some ((v.1.1,()),())
else
 some ((false,()),())
theorem aqU(aW:i280.J->Option nM.J)(eS:aE O 280 (KV aW)):aE O 280 (aL af Tryz.f280 i280 nM [] (p4 aW)):=aM (awa aW eS) Tryz.func280 (by kernel_rfl) ag (fun y=>by kernel_rfl) fun a=>by kernel_rfl
noncomputable def f280:i280.J->Option nM.J:=kb p4 kD
noncomputable def _o:aH:=aL af Tryz.f280 i280 nM [] f280
theorem asj:aE O 280 _o:=JY (ff:=p4) aqU kD
abbrev i259:Shape:=⟨[aO 0 .str,aO 1 .str],[],49⟩
abbrev nN:Shape:=⟨[ar 4],[],49⟩
noncomputable def KW(aW:i259.J->Option nN.J):aH:=aL af Tryz.f259 i259 nN [] aW
noncomputable abbrev auP(aW:i259.J->Option nN.J):a8:=[(259,(KW aW)),(280,_o)]
theorem awd(aW:i259.J->Option nN.J)(eS:aE O 259 (KW aW)):aT O (aZ af (auP aW)):=aY ⟨eS,asj,⟨⟩⟩
noncomputable def rB(aW:i259.J->Option nN.J)(a:i259.J):Option nN.J:=
 bif((a.1.1.length:Int)==(0:Int)) then
 some ((((a.1.2.1.length:Int)==(0:Int)),()),())
else
(aS a.1.1 (0:Int)).bind fun b=>
 bif(b==([42,42]:B)) then
(bq a.1.1 (1:Int) (a.1.1.length:Int)).bind fun c=>
(aW ((c,a.1.2.1,()),())).bind fun d=>
 bif(!d.1.1) then
 bif(decide ((a.1.2.1.length:Int)>(0:Int))) then
(bq a.1.2.1 (1:Int) (a.1.2.1.length:Int)).bind fun e=>
(aW ((a.1.1,e,()),())).bind fun f=>
 some ((f.1.1,()),())
else
 some ((false,()),())
else
 some ((true,()),())
else
 bif(decide ((a.1.2.1.length:Int)>(0:Int))) then
(aS a.1.1 (0:Int)).bind fun g=>
(aS a.1.2.1 (0:Int)).bind fun h=>
(f280 ((g,h,()),())).bind fun i=>
 bif i.1.1 then
(bq a.1.1 (1:Int) (a.1.1.length:Int)).bind fun j=>
(bq a.1.2.1 (1:Int) (a.1.2.1.length:Int)).bind fun k=>
(aW ((j,k,()),())).bind fun l=>
 some ((l.1.1,()),())
else
 some ((false,()),())
else
 some ((false,()),())
theorem aqV(aW:i259.J->Option nN.J)(eS:aE O 259 (KW aW)):aE O 259 (aL af Tryz.f259 i259 nN [] (rB aW)):=aM (awd aW eS) Tryz.func259 (by kernel_rfl) ag (fun y=>by kernel_rfl) fun a=>by kernel_rfl
noncomputable def f259:i259.J->Option nN.J:=kb rB kD
noncomputable def _w:aH:=aL af Tryz.f259 i259 nN [] f259
theorem ass:aE O 259 _w:=JY (ff:=rB) aqV kD
noncomputable abbrev auZ:a8:=[(73,pi),(193,L0),(258,_x),(259,_w)]
theorem awi:aT O (aZ af auZ):=aY ⟨ql,z193,ast,ass,⟨⟩⟩
abbrev i221:Shape:=⟨[am 0,am 1],[],24⟩
abbrev Yq:Shape:=⟨[ar 4],[],24⟩
noncomputable def f221(a:i221.J):Option Yq.J:=
(f258 ((a.1.1,()),())).bind fun b=>
 bif b.1.1 then
(f193 ((a.1.2.1,()),())).bind fun c=>
 bif c.1.1 then
(f73 ((a.1.1,(47:Int),(IntKind.i64.wrap ((a.1.1.length:Int)+(1:Int))),()),())).bind fun d=>
(f73 ((a.1.2.1,(47:Int),(IntKind.i64.wrap ((a.1.2.1.length:Int)+(1:Int))),()),())).bind fun e=>
(f259 ((d.2.1,e.2.1,()),())).bind fun f=>
 some ((f.1.1,()),())
else
 some ((false,()),())
else
 some ((false,()),())
noncomputable def LV:aH:=aL af Tryz.f221 i221 Yq [] f221
theorem XF:aE O 221 LV:=aM awi Tryz.func221 (by kernel_rfl) ag (fun y=>by kernel_rfl) fun a=>by kernel_rfl
abbrev i260:Shape:=⟨[am 0,am 1],[],30⟩
abbrev Yb:Shape:=⟨[ar 4],[],30⟩
noncomputable def f260(a:i260.J):Option Yb.J:=
 bif(!(a.1.2.1==a.1.1)) then
 bif(decide ((a.1.2.1.length:Int)>(a.1.1.length:Int))) then
(bq a.1.2.1 (0:Int) (a.1.1.length:Int)).bind fun b=>
 bif(b==a.1.1) then
(aS a.1.2.1 (a.1.1.length:Int)).bind fun c=>
 some ((((c.toNat:Int)==(47:Int)),()),())
else
 some ((false,()),())
else
 some ((false,()),())
else
 some ((true,()),())
noncomputable def _v:aH:=aL af Tryz.f260 i260 Yb [] f260
theorem asr:aE O 260 _v:=aM g0 Tryz.func260 (by kernel_rfl) ag (fun y=>by kernel_rfl) fun a=>by kernel_rfl
noncomputable abbrev auY:a8:=[(221,LV),(260,_v)]
theorem Me:aT O (aZ af auY):=aY ⟨XF,asr,⟨⟩⟩
abbrev Sl:Shape:=⟨[aO 0 .entry,am 1,am 2,aj 7],[],30⟩
abbrev R4:List aR:=[(.norm,⟨[aO 0 .entry,am 1,am 2,aj 7,ar 29],[],30⟩)]
noncomputable def Ar(y:Sl.J):Option (aG R4):=
(aS y.1.1 y.1.2.2.2.1).bind fun a=>
(f260 ((y.1.2.2.1,a.path,()),())).bind fun b=>
 bif b.1.1 then
(aS y.1.1 y.1.2.2.2.1).bind fun c=>
(f221 ((y.1.2.1,c.path,()),())).bind fun d=>
 some ((y.1.1,y.1.2.1,y.1.2.2.1,y.1.2.2.2.1,d.1.1,()),())
else
 some ((y.1.1,y.1.2.1,y.1.2.2.1,y.1.2.2.2.1,false,()),())
theorem ak7:aV O (ap (di (ap (codeOf Tryz.f222) 1 26)) 52 840) (aX Sl R4 Ar):=cm Me (by kernel_rfl) ag fun y=>by kernel_rfl
abbrev AP:Shape:=⟨[aO 0 .entry,am 1,am 2,aj 7],[],30⟩
abbrev H':List aR:=[(.ret,⟨[ar 6],[],30⟩),(.exit 0,⟨[],[],30⟩)]
noncomputable def Un(y:AP.J):bP AP H':=
 bif(decide (y.1.2.2.2.1<(y.1.1.length:Int))) then
(Ar ((y.1.1,y.1.2.1,y.1.2.2.1,y.1.2.2.2.1,()),())).bind fun a=>
 bif a.1.2.2.2.2.1 then
 some (.inr (.inl ((true,()),())))
else
 some (.inl ((a.1.1,a.1.2.1,a.1.2.2.1,(IntKind.i64.wrap (a.1.2.2.2.1+(1:Int))),()),()))
else
 some (.inr (.inr ((),())))
noncomputable def T4:AP.J->Option (aG H'):=bA Un
theorem amZ:aV O (ap (codeOf Tryz.f222) 1 26) (aX AP H' T4):=bR Me (by kernel_rfl) (a7 ak7 ag) fun y=>by kernel_rfl
abbrev i222:Shape:=⟨[aO 0 .entry,am 1,am 2],[],30⟩
abbrev Yp:Shape:=⟨[ar 6],[],30⟩
noncomputable def f222(a:i222.J):Option Yp.J:=
(T4 ((a.1.1,a.1.2.1,a.1.2.2.1,(0:Int),()),())).bind fun b=>
(match b with
|.inl c=>
 some ((c.1.1,()),())
|.inr d=>
 some ((false,()),()))
noncomputable def _J:aH:=aL af Tryz.f222 i222 Yp [] f222
theorem z222:aE O 222 _J:=aM Me Tryz.func222 (by kernel_rfl) (a7 amZ ag) (fun y=>by kernel_rfl) fun a=>by kernel_rfl
noncomputable abbrev avk:a8:=[(90,yi),(221,LV),(222,_J)]
theorem Mh:aT O (aZ af avk):=aY ⟨D5,XF,z222,⟨⟩⟩
abbrev QV:Shape:=⟨[aO 0 .entry,am 1,bd 5 3000320,aj 6],[bc 3000320 .entry 5 0],51⟩
abbrev QC:List aR:=[(.norm,⟨[aO 0 .entry,am 1,bd 5 3000320,aj 6,ar 42],[bc 3000320 .entry 5 0],51⟩)]
noncomputable def zF(y:QV.J):Option (aG QC):=
(aS y.1.1 y.1.2.2.2.1).bind fun a=>
(f221 ((y.1.2.1,a.path,()),())).bind fun b=>
 bif(!b.1.1) then
(aS y.1.1 y.1.2.2.2.1).bind fun c=>
 bif(c.kind==(1:Int)) then
(aS y.1.1 y.1.2.2.2.1).bind fun d=>
(f222 ((y.1.1,y.1.2.1,d.path,()),())).bind fun e=>
 some ((y.1.1,y.1.2.1,(),y.1.2.2.2.1,e.1.1,()),y.2.1,())
else
 some ((y.1.1,y.1.2.1,(),y.1.2.2.2.1,false,()),y.2.1,())
else
 some ((y.1.1,y.1.2.1,(),y.1.2.2.2.1,true,()),y.2.1,())
theorem ai8:aV O (ap (di (ap (codeOf Tryz.f177) 1 58)) 116 1864) (aX QV QC zF):=cm Mh (by kernel_rfl) ag fun y=>by kernel_rfl
abbrev AY:Shape:=⟨[aO 0 .entry,am 1,bd 5 3000320,aj 6],[bc 3000320 .entry 5 0],51⟩
abbrev Ih:List aR:=[(.exit 0,⟨[bd 5 3000320],[bc 3000320 .entry 5 0],51⟩)]
noncomputable def Uo(y:AY.J):bP AY Ih:=
 bif(decide (y.1.2.2.2.1<(y.1.1.length:Int))) then
(f90 ((y.1.1,()),())).bind fun a=>
 bif a.1.1 then
(zF ((y.1.1,y.1.2.1,(),y.1.2.2.2.1,()),y.2.1,())).bind fun b=>
 bif b.1.2.2.2.2.1 then
(aS b.1.1 b.1.2.2.2.1).bind fun c=>
(cl 48 b.2.1 ([c]:List aB)).bind fun d=>
 some (.inl ((b.1.1,b.1.2.1,(),(IntKind.i64.wrap (b.1.2.2.2.1+(1:Int))),()),d,()))
else
 some (.inl ((b.1.1,b.1.2.1,(),(IntKind.i64.wrap (b.1.2.2.2.1+(1:Int))),()),b.2.1,()))
else
 some (.inr (((),()),y.2.1,()))
else
 some (.inr (((),()),y.2.1,()))
noncomputable def T6:AY.J->Option (aG Ih):=bA Uo
theorem anc:aV O (ap (codeOf Tryz.f177) 1 58) (aX AY Ih T6):=bR Mh (by kernel_rfl) (a7 ai8 ag) fun y=>by kernel_rfl
abbrev i177:Shape:=⟨[aO 0 .entry,am 1],[],51⟩
abbrev YV:Shape:=⟨[bd 4 3000256],[bc 3000256 .entry 4 0],51⟩
noncomputable def f177(a:i177.J):Option YV.J:=
(T6 ((a.1.1,a.1.2.1,(),(0:Int),()),([]:List aB),())).bind fun b=>
 some (((),()),b.2.1,())
noncomputable def _6:aH:=aL af Tryz.f177 i177 YV [] f177
theorem asU:aE O 177 _6:=aM Mh Tryz.func177 (by kernel_rfl) (a7 anc ag) (fun y=>by kernel_rfl) fun a=>by kernel_rfl
noncomputable abbrev aqr:a8:=[(78,jl),(83,yj),(223,_I),(224,Ky)]
theorem C4:aT O (aZ af aqr):=aY ⟨jJ,D6,asA,UC,⟨⟩⟩
abbrev y6:Shape:=⟨[ax 0 500000 0,bd 3 3000192,bd 4 3000256,aj 5],[aw 500000 [br .u8,ba],bc 3000192 .entry 3 0,bc 3000256 .str 4 0],59⟩
abbrev FL:List aR:=[(.exit 0,⟨[ax 0 500000 0,bd 3 3000192],[aw 500000 [br .u8,ba],bc 3000192 .entry 3 0],59⟩)]
noncomputable def P9(y:y6.J):bP y6 FL:=
 bif(decide (y.1.2.2.2.1<(y.2.2.2.1.length:Int))) then
(gy (((),(2:Int),()),(y.2.1.1,y.2.1.2.1,()),())).bind fun a=>
 bif(a.1.2.1==(0:Int)) then
(bh y.2.2.2.1.length y.1.2.2.2.1).bind fun b=>
(y.2.2.2.1[b]?).bind fun c=>
(f223 ((y.2.2.1,(c,(1:Int),(7:Int),([]:B),()),()),())).bind fun d=>
 some (.inl (((),(),(),(IntKind.i64.wrap (y.1.2.2.2.1+(1:Int))),()),(a.2.1.1,a.2.1.2.1,()),d.2.1,y.2.2.2.1,()))
else
 some (.inl (((),(),(),(IntKind.i64.wrap (y.1.2.2.2.1+(1:Int))),()),(a.2.1.1,a.2.1.2.1,()),y.2.2.1,y.2.2.2.1,()))
else
 some (.inr (((),(),()),(y.2.1.1,y.2.1.2.1,()),y.2.2.1,()))
noncomputable def P4:y6.J->Option (aG FL):=bA P9
theorem ahz:aV O (ap (codeOf Tryz.f178) 1 122) (aX y6 FL P4):=bR C4 (by kernel_rfl) ag fun y=>by kernel_rfl
abbrev y5:Shape:=⟨[ax 0 500000 0,bd 3 3000192,aj 6],[aw 500000 [br .u8,ba],bc 3000192 .entry 3 0],59⟩
abbrev FK:List aR:=[(.exit 2,⟨[ax 0 500000 0,bd 3 3000192],[aw 500000 [br .u8,ba],bc 3000192 .entry 3 0],59⟩)]
noncomputable def P8(y:y5.J):bP y5 FK:=
 bif(decide (y.1.2.2.1>(0:Int))) then
(wH (((),()),(y.2.1.1,y.2.1.2.1,()),())).bind fun a=>
(f223 ((y.2.2.1,(a.2.2.1.1,a.2.2.1.2.1,a.2.2.1.2.2.1,a.2.2.1.2.2.2.1,()),()),())).bind fun b=>
 some (.inl (((),(),(IntKind.i64.wrap (y.1.2.2.1-(1:Int))),()),(a.2.1.1,a.2.1.2.1,()),b.2.1,()))
else
 some (.inr (((),(),()),(y.2.1.1,y.2.1.2.1,()),y.2.2.1,()))
noncomputable def P3:y5.J->Option (aG FK):=bA P8
theorem ahy:aV O (ap (codeOf Tryz.f178) 1 250) (aX y5 FK P3):=bR C4 (by kernel_rfl) ag fun y=>by kernel_rfl
abbrev yY:Shape:=⟨[ax 0 500000 0,bd 3 3000192,aj 7],[aw 500000 [br .u8,ba],bc 3000192 .entry 3 0],59⟩
abbrev Fy:List aR:=[(.exit 4,⟨[ax 0 500000 0,bd 3 3000192],[aw 500000 [br .u8,ba],bc 3000192 .entry 3 0],59⟩)]
noncomputable def PB(y:yY.J):bP yY Fy:=
 bif(decide (y.1.2.2.1<(16:Int))) then
(f83 ((y.1.2.2.1,()),())).bind fun a=>
(cc ([102]:B) a.1.1).bind fun b=>
(f223 ((y.2.2.1,(b,(2:Int),(0:Int),([]:B),()),()),())).bind fun c=>
 some (.inl (((),(),(IntKind.i64.wrap (y.1.2.2.1+(1:Int))),()),(y.2.1.1,y.2.1.2.1,()),c.2.1,()))
else
 some (.inr (((),(),()),(y.2.1.1,y.2.1.2.1,()),y.2.2.1,()))
noncomputable def Pv:yY.J->Option (aG Fy):=bA PB
theorem agB:aV O (ap (codeOf Tryz.f178) 1 2026) (aX yY Fy Pv):=bR C4 (by kernel_rfl) ag fun y=>by kernel_rfl
abbrev VX:Shape:=⟨[ax 0 500000 0],[aw 500000 [br .u8,ba]],59⟩
abbrev Vs:Shape:=⟨[ax 0 500000 0,bd 2 3000128],[aw 500000 [br .u8,ba],bc 3000128 .entry 2 0],59⟩
noncomputable def wJ(a:VX.J):Option Vs.J:=
(P4 (((),(),(),(0:Int),()),(a.2.1.1,a.2.1.2.1,()),([]:List aB),([([97]:B),([108,105,98]:B),([98,105,110]:B),([100,111,99]:B),([97,47,98]:B)]:List B),())).bind fun b=>
(gy (((),(7:Int),()),(b.2.1.1,b.2.1.2.1,()),())).bind fun c=>
(P3 (((),(),c.1.2.1,()),(c.2.1.1,c.2.1.2.1,()),b.2.2.1,())).bind fun d=>
(gy (((),(30:Int),()),(d.2.1.1,d.2.1.2.1,()),())).bind fun e=>
 bif(e.1.2.1==(0:Int)) then
(Pv (((),(),(0:Int),()),(e.2.1.1,e.2.1.2.1,()),d.2.2.1,())).bind fun f=>
 some (((),(),()),(f.2.1.1,f.2.1.2.1,()),f.2.2.1,())
else
 some (((),(),()),(e.2.1.1,e.2.1.2.1,()),d.2.2.1,())
noncomputable def Kz:aH:=aL af Tryz.f178 VX Vs [0] wJ
theorem UD:aE O 178 Kz:=aM C4 Tryz.func178 (by kernel_rfl) (a7 ahz (a7 ahy (a7 agB ag))) (fun y=>by kernel_rfl) fun a=>by kernel_rfl
abbrev lf(g:B):Prop:=∀b,b∈g->b.toNat≠91
theorem Cu{s:B}{i:Int}(h0:0<=i)(h1:i<(s.length:Int)):∃x,aS s i=some x/\x∈s:=nJ h0 h1
theorem agi(a)(hs:cw a.1.1.length)(hn:lf a.1.1):ab (f279 a) (fun _=>True):=by
 obtain⟨⟨(s:B),u⟩,b7⟩:=a;have hs:s.length<=2097152:=hs;unfold f279;refine ab.bind (P:=fun _=>True) ?_ fun r _=>?_
 ·refine ab.loop (fun(k:Nat) y=>y.1.1=s/\(0:Int)<=y.1.2.1/\(y.1.2.1:Int)+k=s.length) (fun k y hy=>?_) s.length _ ⟨rfl,Int.le_refl _,by show(0:Int)+s.length=s.length;omega⟩
  obtain⟨⟨(s1:B),(i:Int),u⟩,b7⟩:=y;obtain⟨cT,dC,dW⟩:=hy;have cT:s1=s:=cT;subst cT;have dC:0<=i:=dC;have dW:i+k=s1.length:=dW;unfold Uk;refine ab.ite (fun hc=>?_) fun _=>ab.ret trivial
  have hc:i<(s1.length:Int):=of_decide_eq_true hc;obtain⟨x,aI,aJ⟩:=Cu dC hc;have hx:((x.toNat:Int)==91)=false:=by
   have:=hn x aJ;simp only[beq_eq_false_iff_ne,ne_eq];omega
  have hw:IntKind.i64.wrap (i+1)=i+1:=c' (by omega) (by omega)
  refine ab.eq aI ?_
  refine ab.ite (fun aa=>by rw[hx] at aa;cases aa) fun _=>?_
  have piece:ab (zC ((s1,(i,())),())) (fun r=>r.1.1=s1/\r.1.2.1=i):=by
   unfold zC;refine ab.eq aI ?_
   exact ab.ite (fun _=>ab.eq aI (ab.ret ⟨rfl,rfl⟩)) fun _=>ab.ret ⟨rfl,rfl⟩
  refine ab.bind piece fun r hr=>?_
  obtain⟨⟨(s2:B),(i2:Int),(c:Bool),v⟩,v'⟩:=r;obtain⟨r1,r2⟩:=hr;have r1:s2=s1:=r1;have r2:i2=i:=r2;subst r1 r2;refine ab.ite (fun _=>?_) fun _=>?_
  ·refine ab.ret ⟨k-1,by omega,rfl,?_,?_⟩
   ·show 0<=IntKind.i64.wrap (i2+1);rw[hw];omega
   ·show IntKind.i64.wrap (i2+1)+((k-1:Nat):Int)=_;rw[hw];omega
  ·refine ab.eq aI ?_
   refine ab.eq (Qm (((x.toNat:Int),()),())) ?_
   refine ab.ite (fun _=>ab.ret trivial) fun _=>?_
   refine ab.ret ⟨k-1,by omega,rfl,?_,?_⟩
   ·show 0<=IntKind.i64.wrap (i2+1);rw[hw];omega
   ·show IntKind.i64.wrap (i2+1)+((k-1:Nat):Int)=_;rw[hw];omega
 ·cases r with
  |inl r=>exact ab.ret trivial
  |inr r=>exact ab.ret trivial
theorem Pl{g:B}(h:lf g):∀x,x∈bN 47 g->lf x:=by
 induction g with
 |nil=>
  intro x hx b hb;simp[bN] at hx;subst hx;cases hb
 |cons c g ih=>
  have ih:=ih fun b hb=>h b (cf _ hb)
  intro x hx b hb;simp only[bN] at hx;cases hc:(c==47) with
  |true=>
   simp only[hc,ad,bO] at hx;rcases hx with rfl|hx
   ·cases hb
   ·exact ih x hx b hb
  |false=>
   simp only[hc,ak] at hx;cases dX:bN 47 g with
   |nil=>exact absurd dX (pz 47 g)
   |cons y L=>
    rw[dX] at hx ih;simp only[bO] at hx;rcases hx with rfl|hx
    ·rcases bO.1 hb with rfl|hb
     ·exact h _ ci
     ·exact ih y ci b hb
    ·exact ih x (cf _ hx) b hb
theorem akq(a)(hs:a.1.1.length<=200)(hn:lf a.1.1):ab (f258 a) (fun _=>True):=by
 obtain⟨⟨(g:B),u⟩,b7⟩:=a;have hs:g.length<=200:=hs;unfold f258;have hw:IntKind.i64.wrap ((g.length:Int)+1)=((g.length+1:Nat):Int):=b9 (by unfold aA;omega)
 refine ab.eq (vT 47 ((g,((47:Int),(IntKind.i64.wrap ((g.length:Int)+1),()))),()) (by show g.length<=2097152;omega) rfl hw) ?_
 have dX:(bN 47 g).length<=201:=by have:=ot 47 g;omega
 refine ab.bind (P:=fun _=>True) ?_ fun r _=>?_
 ·refine ab.loop (fun(k:Nat) y=>y.2.1=bN 47 g/\(0:Int)<=y.1.2.2.1/\(y.1.2.2.1:Int)+k=(bN 47 g).length) (fun k y hy=>?_) (bN 47 g).length _ ⟨rfl,Int.le_refl _,by show(0:Int)+_=_;omega⟩
  obtain⟨⟨(g1:B),u1,(i:Int),u⟩,(L:List B),b7⟩:=y;obtain⟨cT,dC,dW⟩:=hy;have cT:L=bN 47 g:=cT;have dC:0<=i:=dC;have dW:i+k=(bN 47 g).length:=dW;subst cT;unfold Ul;refine ab.ite (fun hc=>?_) fun _=>ab.ret trivial
  have hc:i<((bN 47 g).length:Int):=of_decide_eq_true hc;obtain⟨j,rfl⟩:=Int.eq_ofNat_of_zero_le dC;have hj:j<(bN 47 g).length:=by omega
  have hw:IntKind.i64.wrap ((j:Int)+1)=(j:Int)+1:=c' (by omega) (by omega)
  refine ab.eq (fQ hj) ?_
  refine ab.eq (dZ hj) ?_
  have hm:=List.getElem_mem hj;refine ab.bind (agi (((bN 47 g)[j],()),()) (by have:=qN 47 g _ hm;show((bN 47 g)[j]).length<=2097152;omega) (Pl hn _ hm)) fun r _=>?_
  refine ab.ite (fun _=>ab.ret trivial) fun _=>?_
  refine ab.ret ⟨k-1,by omega,rfl,?_,?_⟩
  ·show 0<=IntKind.i64.wrap ((j:Int)+1);rw[hw];omega
  ·show IntKind.i64.wrap ((j:Int)+1)+((k-1:Nat):Int)=_;rw[hw];omega
 ·cases r with
  |inl r=>exact ab.ret trivial
  |inr r=>exact ab.ite (fun _=>ab.ret trivial) fun _=>ab.ret trivial
theorem tO{s:B}(h:s≠[]):bq s (1:Int) (s.length:Int)=some (s.drop 1):=fO (a:=1) (by have:=List.length_pos_iff.2 h;omega)
theorem B9{s:List B}(h:0<s.length):bq s (1:Int) (s.length:Int)=some (s.drop 1):=fO (a:=1) h
theorem Q'{s:B}(h:(s==([]:B))=false):s≠[]:=by simpa using h
theorem aod:∀(n:Nat) (g s:B),lf g->g.length+s.length<n->ab (kb p4 n ((g,(s,())),())) (fun _=>True):=by
 intro n;induction n with
 |zero=>intro g s _ h;omega
 |succ n ih=>
  intro g s hn hl;show ab (p4 (kb p4 n) _) _;unfold p4;refine ab.ite (fun _=>ab.ret trivial) fun hg=>?_
  have hg:g≠[]:=Q' hg;have Nd:=List.length_pos_iff.2 hg;obtain⟨x,aI,aJ⟩:=Cu (s:=g) (i:=0) (by omega) (by omega)
  refine ab.eq aI ?_
  have hd1:lf (g.drop 1):=fun b hb=>hn b (List.mem_of_mem_drop hb)
  have hdl:(g.drop 1).length+1=g.length:=by rw[List.length_drop];omega
  refine ab.ite (fun _=>?_) fun _=>?_
  ·refine ab.eq (tO hg) ?_
   refine ab.bind (ih (g.drop 1) s hd1 (by omega)) fun r _=>?_
   refine ab.ite (fun _=>?_) fun _=>ab.ret trivial
   refine ab.ite (fun hs=>?_) fun _=>ab.ret trivial
   have hs:s≠[]:=by
    have hs:(!(s==([]:B)))=true:=hs;intro e;subst e;cases hs
   have km:=List.length_pos_iff.2 hs;refine ab.eq (tO hs) ?_
   exact ab.bind (ih g (s.drop 1) hn (by rw[List.length_drop];omega)) fun r _=>ab.ret trivial
  ·refine ab.ite (fun _=>ab.ret trivial) fun hs=>?_
   have hs:s≠[]:=Q' hs;have km:=List.length_pos_iff.2 hs;have step:ab (kb p4 n ((g.drop 1,(s.drop 1,())),())) (fun _=>True):=ih _ _ hd1 (by rw[List.length_drop];rw[List.length_drop];omega)
   refine ab.eq aI ?_
   refine ab.ite (fun _=>?_) fun _=>?_
   ·refine ab.eq (tO hg) ?_
    refine ab.eq (tO hs) ?_
    exact ab.bind step fun r _=>ab.ret trivial
   ·have hx:((x.toNat:Int)==91)=false:=by
     have:=hn x aJ;simp only[beq_eq_false_iff_ne,ne_eq];omega
    refine ab.ite (fun aa=>by rw[hx] at aa;cases aa) fun _=>?_
    refine ab.eq aI ?_
    obtain⟨y,ed,fU⟩:=Cu (s:=s) (i:=0) (by omega) (by omega)
    refine ab.eq ed ?_
    refine ab.ite (fun _=>?_) fun _=>ab.ret trivial
    refine ab.eq (tO hg) ?_
    refine ab.eq (tO hs) ?_
    exact ab.bind step fun r _=>ab.ret trivial
theorem aki(a)(h1:cw a.1.1.length)(h2:cw a.1.2.1.length)(hn:lf a.1.1):ab (f280 a) (fun _=>True):=by
 obtain⟨⟨(g:B),(s:B),u⟩,b7⟩:=a;have h1:g.length<=2097152:=h1;have h2:s.length<=2097152:=h2;exact aod kD g s hn (by unfold kD;omega)
theorem alA:∀(n:Nat) (g s:List B),(∀x,x∈g->lf x/\cw x.length)->(∀x,x∈s->cw x.length)->g.length+s.length<n->ab (kb rB n ((g,(s,())),())) (fun _=>True):=by
 intro n;induction n with
 |zero=>intro g s _ _ h;omega
 |succ n ih=>
  intro g s hn hs hl;show ab (rB (kb rB n) _) _;unfold rB;refine ab.ite (fun _=>ab.ret trivial) fun hg=>?_
  have Nd:0<g.length:=by
   have hg:((g.length:Int)==0)=false:=hg;simp only[beq_eq_false_iff_ne,ne_eq] at hg;omega
  obtain⟨x,aI,aJ⟩:=nJ (xs:=g) (i:=0) (by omega) (by omega)
  refine ab.eq aI ?_
  have hd1:∀x,x∈g.drop 1->lf x/\cw x.length:=fun b hb=>hn b (List.mem_of_mem_drop hb)
  have jU:∀x,x∈s.drop 1->cw x.length:=fun b hb=>hs b (List.mem_of_mem_drop hb)
  have hdl:(g.drop 1).length+1=g.length:=by rw[List.length_drop];omega
  refine ab.ite (fun _=>?_) fun _=>?_
  ·refine ab.eq (B9 Nd) ?_
   refine ab.bind (ih (g.drop 1) s hd1 hs (by omega)) fun r _=>?_
   refine ab.ite (fun _=>?_) fun _=>ab.ret trivial
   refine ab.ite (fun hc=>?_) fun _=>ab.ret trivial
   have hc:(s.length:Int)>0:=of_decide_eq_true hc;refine ab.eq (B9 (s:=s) (by omega)) ?_
   exact ab.bind (ih g (s.drop 1) hn jU (by rw[List.length_drop];omega)) fun r _=>ab.ret trivial
  ·refine ab.ite (fun hc=>?_) fun _=>ab.ret trivial
   have hc:(s.length:Int)>0:=of_decide_eq_true hc;refine ab.eq aI ?_
   obtain⟨y,ed,fU⟩:=nJ (xs:=s) (i:=0) (by omega) (by omega)
   refine ab.eq ed ?_
   refine ab.bind (aki ((x,(y,())),()) (hn x aJ).2 (hs y fU) (hn x aJ).1) fun r _=>?_
   refine ab.ite (fun _=>?_) fun _=>ab.ret trivial
   refine ab.eq (B9 Nd) ?_
   refine ab.eq (B9 (s:=s) (by omega)) ?_
   exact ab.bind (ih (g.drop 1) (s.drop 1) hd1 jU (by rw[List.length_drop];rw[List.length_drop];omega)) fun r _=>ab.ret trivial
theorem Qu(a)(h1:a.1.1.length<=200)(h2:a.1.2.1.length<=1048576)(hn:lf a.1.1):ab (f221 a) (fun _=>True):=by
 obtain⟨⟨(g:B),(s:B),u⟩,b7⟩:=a;have h1:g.length<=200:=h1;have h2:s.length<=1048576:=h2;unfold f221;refine ab.bind (akq ((g,()),()) h1 hn) fun r _=>?_
 refine ab.ite (fun _=>?_) fun _=>ab.ret trivial
 refine ab.eq (GQ ((s,()),()) (by show s.length<=2097152;omega)) ?_
 refine ab.ite (fun _=>?_) fun _=>ab.ret trivial
 refine ab.eq (vT 47 ((g,((47:Int),(IntKind.i64.wrap ((g.length:Int)+1),()))),()) (by show g.length<=2097152;omega) rfl (b9 (by unfold aA;omega))) ?_
 refine ab.eq (vT 47 ((s,((47:Int),(IntKind.i64.wrap ((s.length:Int)+1),()))),()) (by show s.length<=2097152;omega) rfl (b9 (by unfold aA;omega))) ?_
 have g1:=ot 47 g;have s1:=ot 47 s;refine ab.bind (P:=fun _=>True) ?_ fun r _=>ab.ret trivial
 exact alA kD (bN 47 g) (bN 47 s) (fun x hx=>⟨Pl hn x hx,by have:=qN 47 g x hx;unfold cw;omega⟩) (fun x hx=>by have:=qN 47 s x hx;unfold cw;omega) (by unfold kD;omega)
theorem aip(a)(h1:cw a.1.1.length):ab (f260 a) (fun _=>True):=by
 obtain⟨⟨(g:B),(s:B),u⟩,b7⟩:=a;unfold f260;refine ab.ite (fun _=>?_) fun _=>ab.ret trivial
 refine ab.ite (fun hc=>?_) fun _=>ab.ret trivial
 have hc:(s.length:Int)>(g.length:Int):=of_decide_eq_true hc;refine ab.eq (gw (xs:=s) (b:=g.length) (by omega)) ?_
 refine ab.ite (fun _=>?_) fun _=>ab.ret trivial
 obtain⟨x,aI,_⟩:=Cu (s:=s) (i:=(g.length:Int)) (by omega) (by omega)
 exact ab.eq aI (ab.ret trivial)
theorem ahc(a)(ay:jw a.1.1)(hg:a.1.2.1.length<=200)(hn:lf a.1.2.1)(aa:dH a.1.2.2.1):ab (f222 a) (fun _=>True):=by
 obtain⟨⟨(t:List aB),(g:B),(d:B),u⟩,b7⟩:=a;obtain⟨n6,mb⟩:=ay;have n6:t.length<=16:=n6;have aa:d.length<=200:=aa;unfold f222;refine ab.bind (P:=fun _=>True) ?_ fun r _=>?_
 ·refine ab.loop (fun(k:Nat) y=>y.1.1=t/\y.1.2.1=g/\y.1.2.2.1=d/\(0:Int)<=y.1.2.2.2.1/\(y.1.2.2.2.1:Int)+k=t.length) (fun k y hy=>?_) t.length _ ⟨rfl,rfl,rfl,Int.le_refl _,by show(0:Int)+_=_;omega⟩
  obtain⟨⟨(t1:List aB),(g1:B),(d1:B),(i:Int),u⟩,b7⟩:=y;obtain⟨cT,dC,dW,iw,e_⟩:=hy;have cT:t1=t:=cT;have dC:g1=g:=dC;have dW:d1=d:=dW;subst cT dC dW;have iw:0<=i:=iw;have e_:i+k=t1.length:=e_;unfold Un;refine ab.ite (fun hc=>?_) fun _=>ab.ret trivial
  have hc:i<(t1.length:Int):=of_decide_eq_true hc;have hw:IntKind.i64.wrap (i+1)=i+1:=c' (by omega) (by omega)
  obtain⟨x,aI,aJ⟩:=nJ (xs:=t1) iw hc;have piece:ab (Ar ((t1,(g1,(d1,(i,())))),())) (fun r=>r.1.1=t1/\r.1.2.1=g1/\r.1.2.2.1=d1/\r.1.2.2.2.1=i):=by
   unfold Ar;refine ab.eq aI ?_
   refine ab.bind (aip ((d1,(x.path,())),()) (by show d1.length<=2097152;omega)) fun r _=>?_
   refine ab.ite (fun _=>?_) fun _=>ab.ret ⟨rfl,rfl,rfl,rfl⟩
   refine ab.eq aI ?_
   exact ab.bind (Qu ((g1,(x.path,())),()) hg (Nat.le_trans (mb x aJ).1 (by decide)) hn) fun r _=>ab.ret ⟨rfl,rfl,rfl,rfl⟩
  refine ab.bind piece fun r hr=>?_
  obtain⟨⟨(My:List aB),(g2:B),(d2:B),(i2:Int),(c:Bool),v⟩,v'⟩:=r;obtain⟨r1,r2,dD,gp⟩:=hr;have r1:My=t1:=r1;have r2:g2=g1:=r2;have dD:d2=d1:=dD;have gp:i2=i:=gp;subst r1 r2 dD gp;refine ab.ite (fun _=>ab.ret trivial) fun _=>?_
  refine ab.ret ⟨k-1,by omega,rfl,rfl,rfl,?_,?_⟩
  ·show 0<=IntKind.i64.wrap (i2+1);rw[hw];omega
  ·show IntKind.i64.wrap (i2+1)+((k-1:Nat):Int)=_;rw[hw];omega
 ·cases r with
  |inl r=>exact ab.ret trivial
  |inr r=>exact ab.ret trivial
theorem ahg(a)(ay:jw a.1.1)(hg:a.1.2.1.length<=200)(hn:lf a.1.2.1):ab (f177 a) (fun r=>jw r.2.1):=by
 obtain⟨⟨(t:List aB),(g:B),u⟩,b7⟩:=a;obtain⟨n6,mb⟩:=ay;have n6:t.length<=16:=n6;have hg:g.length<=200:=hg;have ayT:iL t:=⟨by show t.length<=2097152;omega,fun e he=>⟨Nat.le_trans (mb e he).1 (by decide),Nat.le_trans (mb e he).2 (by decide)⟩⟩
 unfold f177;refine ab.bind (P:=fun r=>jw r.2.1) ?_ fun r hr=>ab.ret hr
 refine ab.loop (fun(k:Nat) y=>y.1.1=t/\y.1.2.1=g/\(0:Int)<=y.1.2.2.2.1/\(y.1.2.2.2.1:Int)+k=t.length/\((y.2.1:List aB).length:Int)<=y.1.2.2.2.1/\∀e,e∈(y.2.1:List aB)->ls e) (fun k y hy=>?_) t.length _
  ⟨rfl,rfl,Int.le_refl _,by show(0:Int)+_=_;omega,by show(0:Int)<=0;omega,fun e he=>by cases he⟩
 obtain⟨⟨(t1:List aB),(g1:B),u1,(i:Int),u⟩,(out:List aB),b7⟩:=y;obtain⟨cT,dC,dW,iw,e_,fk⟩:=hy;have cT:t1=t:=cT;have dC:g1=g:=dC;subst cT dC;have dW:0<=i:=dW;have iw:i+k=t1.length:=iw;have e_:(out.length:Int)<=i:=e_;unfold Uo;refine ab.ite (fun hc=>?_) fun _=>ab.ret ⟨by show out.length<=16;omega,fk⟩
 have hc:i<(t1.length:Int):=of_decide_eq_true hc;have hw:IntKind.i64.wrap (i+1)=i+1:=c' (by omega) (by omega)
 obtain⟨x,aI,aJ⟩:=nJ (xs:=t1) dW hc;refine ab.eq (vK ((t1,()),()) ayT) ?_
 refine ab.ite (fun _=>?_) fun _=>ab.ret ⟨by show out.length<=16;omega,fk⟩
 have piece:ab (zF ((t1,(g1,((),(i,())))),(out,()))) (fun r=>r.1.1=t1/\r.1.2.1=g1/\r.1.2.2.2.1=i/\r.2.1=out):=by
  unfold zF;refine ab.eq aI ?_
  refine ab.bind (Qu ((g1,(x.path,())),()) hg (Nat.le_trans (mb x aJ).1 (by decide)) hn) fun r _=>?_
  refine ab.ite (fun _=>?_) fun _=>ab.ret ⟨rfl,rfl,rfl,rfl⟩
  refine ab.eq aI ?_
  refine ab.ite (fun _=>?_) fun _=>ab.ret ⟨rfl,rfl,rfl,rfl⟩
  refine ab.eq aI ?_
  exact ab.bind (ahc ((t1,(g1,(x.path,()))),()) ⟨n6,mb⟩ hg hn (mb x aJ).1) fun r _=>ab.ret ⟨rfl,rfl,rfl,rfl⟩
 refine ab.bind piece fun r hr=>?_
 obtain⟨⟨(My:List aB),(g2:B),a',(i2:Int),(c:Bool),v⟩,(DB:List aB),v'⟩:=r;obtain⟨r1,r2,dD,gp⟩:=hr;have r1:My=t1:=r1;have r2:g2=g1:=r2;have dD:i2=i:=dD;have gp:DB=out:=gp;subst r1 r2 dD gp;refine ab.ite (fun _=>?_) fun _=>?_
 ·refine ab.eq aI ?_
  refine ab.eq (dy (by decide) (by unfold aA;simp;omega)) ?_
  refine ab.ret ⟨k-1,by omega,rfl,rfl,?_,?_,?_,fun e he=>?_⟩
  ·show 0<=IntKind.i64.wrap (i2+1);rw[hw];omega
  ·show IntKind.i64.wrap (i2+1)+((k-1:Nat):Int)=_;rw[hw];omega
  ·show((DB++[x]).length:Int)<=IntKind.i64.wrap (i2+1);rw[hw];simp;omega
  ·have he:e∈DB++[x]:=he;rcases bp.1 he with he|he
   ·exact fk e he
   ·rw[List.mem_singleton.1 he];exact mb x aJ
 ·refine ab.ret ⟨k-1,by omega,rfl,rfl,?_,?_,?_,fk⟩
  ·show 0<=IntKind.i64.wrap (i2+1);rw[hw];omega
  ·show IntKind.i64.wrap (i2+1)+((k-1:Nat):Int)=_;rw[hw];omega
  ·show(DB.length:Int)<=IntKind.i64.wrap (i2+1);rw[hw];omega
theorem ap8:∀(n:Nat) (x:Int),0<=x->x<=100000->x<n->ab (kb l8 n ((x,()),())) (fun r=>((r.1.1:B).length:Int)<=x+1):=by
 intro n;induction n with
 |zero=>intro x h0 _ h;omega
 |succ n ih=>
  intro x h0 h1 hl;show ab (l8 (kb l8 n) _) _;unfold l8;refine ab.ite (fun hc=>?_) fun _=>?_
  ·have hc:x< -9223372036854775807:=of_decide_eq_true hc;omega
  refine ab.ite (fun hc=>?_) fun _=>?_
  ·have hc:x<0:=of_decide_eq_true hc;omega
  refine ab.ite (fun hc=>?_) fun hc=>?_
  ·exact ab.ret (by show((strOf [_]).length:Int)<=x+1;simp[strOf];omega)
  ·have hc:¬x<10:=of_decide_eq_false hc;refine ab.eq (wA (x:=x) rfl h0 (by omega) (by decide)) ?_
   refine ab.bind (ih (x/10) (by omega) (by omega) (by omega)) fun r hr=>?_
   refine ab.eq (oL (x:=x) h0 (by decide)) ?_
   have hr:((r.1.1:B).length:Int)<=x/10+1:=hr;refine ab.eq (dI (s:=r.1.1) (by simp[strOf];omega)) ?_
   exact ab.ret (by show(((r.1.1:B)++strOf [_]).length:Int)<=x+1;rw[dx];simp[strOf];omega)
theorem akk(a)(h0:(0:Int)<=a.1.1)(h1:(a.1.1:Int)<=100):ab (f83 a) (fun r=>(r.1.1:B).length<=101):=by
 obtain⟨⟨(x:Int),u⟩,b7⟩:=a;have h0:0<=x:=h0;have h1:x<=100:=h1;exact(ap8 kD x h0 (by omega) (by unfold kD;omega)).mono fun r hr=>by have hr:((r.1.1:B).length:Int)<=x+1:=hr;omega
theorem Qn(a)(m:Nat)(h:dl a.2.1.1 a.2.1.2.1 m)(hm:40<=m):ab (wJ a) (fun r=>dl r.2.1.1 r.2.1.2.1 (m-40)/\jw r.2.2.1):=by
 obtain⟨⟨u1,u2⟩,⟨⟨(b:List Int),(p:Int),va⟩,aeh⟩⟩:=a;have h:dl b p m:=h;unfold wJ;refine ab.bind (P:=fun r=>dl r.2.1.1 r.2.1.2.1 (m-5)/\jw r.2.2.1) ?_ fun r1 h1=>?_
 ·refine ab.loop (fun(k:Nat) y=>k<=5/\(0:Int)<=y.1.2.2.2.1/\(y.1.2.2.2.1:Int)+k=5/\(y.2.2.2.1:List B)=[[97],[108,105,98],[98,105,110],[100,111,99],[97,47,98]]/\dl y.2.1.1 y.2.1.2.1 (m-(5-k))/\jw y.2.2.1) (fun k y hy=>?_) 5 _
   ⟨Nat.le_refl _,Int.le_refl _,by show(0:Int)+(5:Nat)=5;rfl,rfl,h,by show(0:Nat)<=16;decide,fun e he=>by cases he⟩
  obtain⟨⟨a',w2,cr,(i:Int),lv⟩,⟨⟨(bQ:List Int),(h5:Int),su⟩,(t:List aB),(L:List B),pm⟩⟩:=y;obtain⟨cT,dC,dW,iw,e_,fk⟩:=hy;have dC:0<=i:=dC;have dW:i+k=5:=dW;have iw:L=_:=iw;have dX:L.length=5:=by rw[iw];rfl
  have ay2:∀s,s∈L->dH s:=by rw[iw];exact fun s hs=>rl (by rfl) hs
  have e_:dl bQ h5 (m-(5-k)):=e_;have fk:jw t:=fk;unfold P9;refine ab.ite (fun hc=>?_) fun hc=>?_
  ·have hc:i<(L.length:Int):=of_decide_eq_true hc;have hw:IntKind.i64.wrap (i+1)=i+1:=c' (by omega) (by omega)
   obtain⟨j,rfl⟩:=Int.eq_ofNat_of_zero_le dC;have hj:j<L.length:=by omega
   refine ab.bind (ic _ _ e_ (by omega)) fun r hr=>?_
   have hR:dl r.2.1.1 r.2.1.2.1 (m-(5-(k-1))):=hr.1.less (by omega)
   refine ab.ite (fun _=>?_) fun _=>?_
   ·refine ab.eq (fQ hj) ?_
    refine ab.eq (dZ hj) ?_
    have hsh:dH L[j]:=ay2 _ (List.getElem_mem hj);refine ab.bind (HW ((t,((L[j],((1:Int),((7:Int),(([]:B),())))),())),()) fk ⟨hsh,by show(0:Nat)<=200;decide⟩) fun r2 h2=>?_
    refine ab.ret ⟨k-1,by omega,by omega,?_,?_,iw,hR,h2⟩
    ·show 0<=IntKind.i64.wrap ((j:Int)+1);rw[hw];omega
    ·show IntKind.i64.wrap ((j:Int)+1)+((k-1:Nat):Int)=5;rw[hw];omega
   ·refine ab.ret ⟨k-1,by omega,by omega,?_,?_,iw,hR,fk⟩
    ·show 0<=IntKind.i64.wrap ((j:Int)+1);rw[hw];omega
    ·show IntKind.i64.wrap ((j:Int)+1)+((k-1:Nat):Int)=5;rw[hw];omega
  ·exact ab.ret ⟨e_.less (by omega),fk⟩
 refine ab.bind (ic _ _ h1.1 (by omega)) fun r2 h2=>?_
 obtain⟨⟨v1,(q:Int),v2⟩,⟨⟨(b1:List Int),(iS:Int),v3⟩,v4⟩⟩:=r2;have aDh:q<7:=h2.2.2 (by show(1:Int)<=7;decide)
 have aDi:0<=q:=h2.2.1;refine ab.bind (P:=fun r=>dl r.2.1.1 r.2.1.2.1 (m-34)/\jw r.2.2.1) ?_ fun dD h3=>?_
 ·refine ab.loop (fun(k:Nat) y=>k<=6/\(y.1.2.2.1:Int)=k/\dl y.2.1.1 y.2.1.2.1 (m-34+4*k)/\jw y.2.2.1) (fun k y hy=>?_) q.toNat _
   ⟨by omega,by show q=_;omega,(by refine h2.1.less ?_;omega),h1.2⟩
  obtain⟨⟨a',w2,(i:Int),lv⟩,⟨⟨(bQ:List Int),(h5:Int),su⟩,(t:List aB),pm⟩⟩:=y;obtain⟨cT,dW,e_,fk⟩:=hy;have dW:i=k:=dW;subst dW;have e_:dl bQ h5 (m-34+4*k):=e_;have fk:jw t:=fk;unfold P8;refine ab.ite (fun hc=>?_) fun hc=>?_
  ·have hc:(k:Int)>0:=of_decide_eq_true hc;have hw:IntKind.i64.wrap ((k:Int)-1)=((k-1:Nat):Int):=by rw[c' (by omega) (by omega)];omega
   refine ab.bind (PK _ _ e_ (by omega)) fun r hr=>?_
   refine ab.bind (HW ((t,((r.2.2.1.1,(r.2.2.1.2.1,(r.2.2.1.2.2.1,(r.2.2.1.2.2.2.1,())))),())),()) fk hr.2) fun r2 h2=>?_
   exact ab.ret ⟨k-1,by omega,by omega,hw,hr.1.less (by omega),h2⟩
  ·exact ab.ret ⟨e_.less (by omega),fk⟩
 refine ab.bind (ic _ _ h3.1 (by omega)) fun gp aF=>?_
 refine ab.ite (fun _=>?_) fun _=>ab.ret ⟨aF.1.less (by omega),h3.2⟩
 refine ab.bind (P:=fun r=>dl r.2.1.1 r.2.1.2.1 (m-34-1)/\jw r.2.2.1) ?_ fun r5 bo=>ab.ret ⟨bo.1.less (by omega),bo.2⟩
 refine ab.loop (fun(k:Nat) y=>(0:Int)<=y.1.2.2.1/\(y.1.2.2.1:Int)+k=16/\dl y.2.1.1 y.2.1.2.1 (m-34-1)/\jw y.2.2.1) (fun k y hy=>?_) 16 _ ⟨Int.le_refl _,by show(0:Int)+(16:Nat)=16;rfl,aF.1,h3.2⟩
 obtain⟨⟨a',w2,(i:Int),lv⟩,⟨⟨(bQ:List Int),(h5:Int),su⟩,(t:List aB),pm⟩⟩:=y;obtain⟨cT,dW,e_,fk⟩:=hy;have cT:0<=i:=cT;have dW:i+k=16:=dW;have fk:jw t:=fk;unfold PB;refine ab.ite (fun hc=>?_) fun hc=>ab.ret ⟨e_,fk⟩
 have hc:i<16:=of_decide_eq_true hc;have hw:IntKind.i64.wrap (i+1)=i+1:=c' (by omega) (by omega)
 refine ab.bind (akk ((i,()),()) cT (by show i<=100;omega)) fun r hr=>?_
 have hr:(r.1.1:B).length<=101:=hr;refine ab.eq (dI (s:=[102]) (t:=r.1.1) (by show 1+_<=_;omega)) ?_
 refine ab.bind (HW ((t,(((([102]:B)++r.1.1,((2:Int),((0:Int),(([]:B),()))))),())),()) fk ⟨by show((([102]:B)++r.1.1).length)<=200;simp;omega,by show(0:Nat)<=200;decide⟩) fun r2 h2=>?_
 refine ab.ret ⟨k-1,by omega,?_,?_,e_,h2⟩
 ·show 0<=IntKind.i64.wrap (i+1);rw[hw];omega
 ·show IntKind.i64.wrap (i+1)+((k-1:Nat):Int)=16;rw[hw];omega
noncomputable abbrev aqu:a8:=[(78,jl),(79,k6),(176,C1)]
theorem aqN:aT O (aZ af aqu):=aY ⟨jJ,lT,JF,⟨⟩⟩
abbrev V0:Shape:=⟨[ax 0 500000 0],[aw 500000 [br .u8,ba]],17⟩
abbrev Vv:Shape:=⟨[ax 0 500000 0,ax 2 2 0],[aw 500000 [br .u8,ba],aw 2 [ah,ba,ah]],17⟩
noncomputable def tF(a:V0.J):Option Vv.J:=
(jL (((),([([111,110,101]:B),([116,119,111]:B),([116,104,114,101,101]:B),([122,105,112]:B)]:List B),()),(a.2.1.1,a.2.1.2.1,()),())).bind fun b=>
(gy (((),(4:Int),()),(b.2.1.1,b.2.1.2.1,()),())).bind fun c=>
 bif(c.1.2.1 !=(0:Int)) then
(tE (((),()),(c.2.1.1,c.2.1.2.1,()),())).bind fun d=>
 some (((),(),()),(d.2.1.1,d.2.1.2.1,()),(b.1.2.1,c.1.2.1,d.1.2.1,()),())
else
 some (((),(),()),(c.2.1.1,c.2.1.2.1,()),(b.1.2.1,c.1.2.1,([]:B),()),())
noncomputable def C2:aH:=aL af Tryz.f157 V0 Vv [0] tF
theorem JG:aE O 157 C2:=aM aqN Tryz.func157 (by kernel_rfl) ag (fun y=>by kernel_rfl) fun a=>by kernel_rfl
noncomputable abbrev aqA:a8:=[(78,jl),(79,k6),(157,C2),(176,C1),(177,_6),(178,Kz)]
theorem aqS:aT O (aZ af aqA):=aY ⟨jJ,lT,JG,JF,asU,UD,⟨⟩⟩
abbrev V7:Shape:=⟨[ax 0 500000 0,am 1],[aw 500000 [br .u8,ba]],27⟩
abbrev VC:Shape:=⟨[ax 0 500000 0,ax 4 4 0],[aw 500000 [br .u8,ba],bv 5000258 .need 4 2,bv 5000259 .entry 4 3,aw 4 [ah,ah,.own 5000258,.own 5000259]],27⟩
noncomputable def wL(a:V7.J):Option VC.J:=
(tE (((),()),(a.2.1.1,a.2.1.2.1,()),())).bind fun b=>
(wJ (((),()),(b.2.1.1,b.2.1.2.1,()),())).bind fun c=>
(jL (((),([([42,42]:B),([97,47,42,42]:B),([108,105,98,47,42,42]:B),([100,111,99,47,42,42]:B),([98,42]:B)]:List B),()),(c.2.1.1,c.2.1.2.1,()),())).bind fun d=>
(f177 ((c.2.2.1,d.1.2.1,()),())).bind fun e=>
(gy (((),(3:Int),()),(d.2.1.1,d.2.1.2.1,()),())).bind fun f=>
 bif(f.1.2.1==(0:Int)) then
(tF (((),()),(f.2.1.1,f.2.1.2.1,()),())).bind fun g=>
(cl 40 ([]:List bF) ([(bF.mk g.2.2.1.1 g.2.2.1.2.1 g.2.2.1.2.2.1)]:List bF)).bind fun h=>
 some (((),(),()),(g.2.1.1,g.2.1.2.1,()),h,e.2.1,(a.1.2.1,b.1.2.1,(),(),()),())
else
 some (((),(),()),(f.2.1.1,f.2.1.2.1,()),([]:List bF),e.2.1,(a.1.2.1,b.1.2.1,(),(),()),())
noncomputable def KB:aH:=aL af Tryz.f125 V7 VC [0] wL
theorem UF:aE O 125 KB:=aM aqS Tryz.func125 (by kernel_rfl) ag (fun y=>by kernel_rfl) fun a=>by kernel_rfl
noncomputable abbrev aqw:a8:=[(78,jl),(79,k6),(176,C1)]
theorem aqP:aT O (aZ af aqw):=aY ⟨jJ,lT,JF,⟨⟩⟩
abbrev V2:Shape:=⟨[ax 0 500000 0],[aw 500000 [br .u8,ba]],11⟩
abbrev Vx:Shape:=⟨[ax 0 500000 0,am 2],[aw 500000 [br .u8,ba]],11⟩
noncomputable def wK(a:V2.J):Option Vx.J:=
(gy (((),(6:Int),()),(a.2.1.1,a.2.1.2.1,()),())).bind fun b=>
 bif(b.1.2.1==(0:Int)) then
(jL (((),([([]:B),([46]:B),([49,46]:B),([48,49]:B),([49,48,48,48]:B),([49,46,50,46,51,46,52,46,53]:B),([97]:B),([49,46,45,49]:B)]:List B),()),(b.2.1.1,b.2.1.2.1,()),())).bind fun c=>
 some (((),c.1.2.1,()),(c.2.1.1,c.2.1.2.1,()),())
else
(tE (((),()),(b.2.1.1,b.2.1.2.1,()),())).bind fun d=>
 some (((),d.1.2.1,()),(d.2.1.1,d.2.1.2.1,()),())
noncomputable def KA:aH:=aL af Tryz.f155 V2 Vx [0] wK
theorem UE:aE O 155 KA:=aM aqP Tryz.func155 (by kernel_rfl) ag (fun y=>by kernel_rfl) fun a=>by kernel_rfl
noncomputable abbrev aqv:a8:=[(78,jl),(79,k6),(155,KA),(157,C2)]
theorem aqO:aT O (aZ af aqv):=aY ⟨jJ,lT,UE,JG,⟨⟩⟩
abbrev V1:Shape:=⟨[ax 0 500000 0],[aw 500000 [br .u8,ba]],26⟩
abbrev Vw:Shape:=⟨[ax 0 500000 0,ax 2 2 0],[aw 500000 [br .u8,ba],aw 2 [ah,ba,ah]],26⟩
noncomputable def CT(a:V1.J):Option Vw.J:=
(tF (((),()),(a.2.1.1,a.2.1.2.1,()),())).bind fun b=>
(gy (((),(14:Int),()),(b.2.1.1,b.2.1.2.1,()),())).bind fun c=>
 bif(c.1.2.1==(0:Int)) then
(jL (((),([([]:B),([57]:B),([79,110,101]:B),([101,108,101,118,101,110,108,101,116,116,101]:B)]:List B),()),(c.2.1.1,c.2.1.2.1,()),())).bind fun d=>
 some (((),(),()),(d.2.1.1,d.2.1.2.1,()),(d.1.2.1,b.2.2.1.2.1,b.2.2.1.2.2.1,()),())
else
 bif(c.1.2.1==(1:Int)) then
(gy (((),(6:Int),()),(c.2.1.1,c.2.1.2.1,()),())).bind fun e=>
 some (((),(),()),(e.2.1.1,e.2.1.2.1,()),(b.2.2.1.1,(IntKind.i64.wrap (e.1.2.1-(1:Int))),b.2.2.1.2.2.1,()),())
else
 bif(c.1.2.1==(2:Int)) then
(wK (((),()),(c.2.1.1,c.2.1.2.1,()),())).bind fun f=>
 some (((),(),()),(f.2.1.1,f.2.1.2.1,()),(b.2.2.1.1,b.2.2.1.2.1,f.1.2.1,()),())
else
 some (((),(),()),(c.2.1.1,c.2.1.2.1,()),(b.2.2.1.1,b.2.2.1.2.1,b.2.2.1.2.2.1,()),())
noncomputable def Ww:aH:=aL af Tryz.f156 V1 Vw [0] CT
theorem aoI:aE O 156 Ww:=aM aqO Tryz.func156 (by kernel_rfl) ag (fun y=>by kernel_rfl) fun a=>by kernel_rfl
noncomputable abbrev aqk:a8:=[(78,jl),(79,k6),(261,Kx)]
theorem aqG:aT O (aZ af aqk):=aY ⟨jJ,lT,UB,⟨⟩⟩
abbrev VQ:Shape:=⟨[ax 0 500000 0],[aw 500000 [br .u8,ba]],11⟩
abbrev Vm:Shape:=⟨[ax 0 500000 0,am 2],[aw 500000 [br .u8,ba]],11⟩
noncomputable def CO(a:VQ.J):Option Vm.J:=
(gy (((),(6:Int),()),(a.2.1.1,a.2.1.2.1,()),())).bind fun b=>
 bif(b.1.2.1==(0:Int)) then
(jL (((),([([]:B),([47]:B),([97,47]:B),([47,97]:B),([46]:B),([46,46]:B),([97,47,47,98]:B),([65]:B),([97,47,98,47,99,47,100,47,101,47,102]:B),([101,108,101,118,101,110,108,101,116,116,101]:B),([97,32,98]:B),([120,47,46,46,47,121]:B)]:List B),()),(b.2.1.1,b.2.1.2.1,()),())).bind fun c=>
 some (((),c.1.2.1,()),(c.2.1.1,c.2.1.2.1,()),())
else
(tD (((),()),(b.2.1.1,b.2.1.2.1,()),())).bind fun d=>
 some (((),d.1.2.1,()),(d.2.1.1,d.2.1.2.1,()),())
noncomputable def Wp:aH:=aL af Tryz.f236 VQ Vm [0] CO
theorem aoB:aE O 236 Wp:=aM aqG Tryz.func236 (by kernel_rfl) ag (fun y=>by kernel_rfl) fun a=>by kernel_rfl
noncomputable abbrev aqo:a8:=[(77,Do),(78,jl),(79,k6),(224,Ky),(236,Wp),(237,LS)]
theorem aqI:aT O (aZ af aqo):=aY ⟨KD,jJ,lT,UC,aoB,XD,⟨⟩⟩
abbrev VU:Shape:=⟨[ax 0 500000 0],[aw 500000 [br .u8,ba]],32⟩
abbrev Vp:Shape:=⟨[ax 0 500000 0,ax 2 2 0],[aw 500000 [br .u8,ba],aw 2 [ah,ba,ba,ah]],32⟩
noncomputable def wI(a:VU.J):Option Vp.J:=
(wH (((),()),(a.2.1.1,a.2.1.2.1,()),())).bind fun b=>
(gy (((),(14:Int),()),(b.2.1.1,b.2.1.2.1,()),())).bind fun c=>
 bif(c.1.2.1==(0:Int)) then
(CO (((),()),(c.2.1.1,c.2.1.2.1,()),())).bind fun d=>
 some (((),(),()),(d.2.1.1,d.2.1.2.1,()),(d.1.2.1,b.2.2.1.2.1,b.2.2.1.2.2.1,b.2.2.1.2.2.2.1,()),())
else
 bif(c.1.2.1==(1:Int)) then
(gy (((),(5:Int),()),(c.2.1.1,c.2.1.2.1,()),())).bind fun e=>
 some (((),(),()),(e.2.1.1,e.2.1.2.1,()),(b.2.2.1.1,e.1.2.1,b.2.2.1.2.2.1,b.2.2.1.2.2.2.1,()),())
else
 bif(c.1.2.1==(2:Int)) then
(ua (((),([((-1):Int),(8:Int),(0:Int)]:List Int),()),(c.2.1.1,c.2.1.2.1,()),())).bind fun f=>
 some (((),(),()),(f.2.1.1,f.2.1.2.1,()),(b.2.2.1.1,b.2.2.1.2.1,f.1.2.1,b.2.2.1.2.2.2.1,()),())
else
 bif(c.1.2.1==(3:Int)) then
(f237 ((([117]:B),(81:Int),()),())).bind fun g=>
(jL (((),([([1]:B),g.1.1,([120]:B),([]:B)]:List B),()),(c.2.1.1,c.2.1.2.1,()),())).bind fun h=>
 some (((),(),()),(h.2.1.1,h.2.1.2.1,()),(b.2.2.1.1,b.2.2.1.2.1,b.2.2.1.2.2.1,h.1.2.1,()),())
else
 some (((),(),()),(c.2.1.1,c.2.1.2.1,()),(b.2.2.1.1,b.2.2.1.2.1,b.2.2.1.2.2.1,b.2.2.1.2.2.2.1,()),())
noncomputable def Ws:aH:=aL af Tryz.f203 VU Vp [0] wI
theorem aoE:aE O 203 Ws:=aM aqI Tryz.func203 (by kernel_rfl) ag (fun y=>by kernel_rfl) fun a=>by kernel_rfl
noncomputable abbrev aqt:a8:=[(78,jl),(178,Kz),(202,xx),(203,Ws)]
theorem aqM:aT O (aZ af aqt):=aY ⟨jJ,UD,Dt,aoE,⟨⟩⟩
abbrev VZ:Shape:=⟨[ax 0 500000 0],[aw 500000 [br .u8,ba]],30⟩
abbrev Vu:Shape:=⟨[ax 0 500000 0,bd 2 3000128],[aw 500000 [br .u8,ba],bc 3000128 .entry 2 0],30⟩
noncomputable def CS(a:VZ.J):Option Vu.J:=
(wJ (((),()),(a.2.1.1,a.2.1.2.1,()),())).bind fun b=>
(f202 ((b.2.2.1,()),())).bind fun c=>
(gy (((),(14:Int),()),(b.2.1.1,b.2.1.2.1,()),())).bind fun d=>
 bif(d.1.2.1==(0:Int)) then
(wI (((),()),(d.2.1.1,d.2.1.2.1,()),())).bind fun e=>
(cl 48 c.2.1 ([(aB.mk e.2.2.1.1 e.2.2.1.2.1 e.2.2.1.2.2.1 e.2.2.1.2.2.2.1)]:List aB)).bind fun f=>
 some (((),(),()),(e.2.1.1,e.2.1.2.1,()),f,())
else
 bif(d.1.2.1==(1:Int)) then
 bif(decide ((c.2.1.length:Int)>(0:Int))) then
(gy (((),(c.2.1.length:Int),()),(d.2.1.1,d.2.1.2.1,()),())).bind fun g=>
(wI (((),()),(g.2.1.1,g.2.1.2.1,()),())).bind fun h=>
(bh c.2.1.length g.1.2.1).bind fun i=>
((c.2.1[i]?).bind fun q=>some (aB.mk h.2.2.1.1 h.2.2.1.2.1 h.2.2.1.2.2.1 h.2.2.1.2.2.2.1)).bind fun j=>
 some (((),(),()),(h.2.1.1,h.2.1.2.1,()),(c.2.1.set i j),())
else
 some (((),(),()),(d.2.1.1,d.2.1.2.1,()),c.2.1,())
else
 some (((),(),()),(d.2.1.1,d.2.1.2.1,()),c.2.1,())
noncomputable def Wv:aH:=aL af Tryz.f158 VZ Vu [0] CS
theorem aoH:aE O 158 Wv:=aM aqM Tryz.func158 (by kernel_rfl) ag (fun y=>by kernel_rfl) fun a=>by kernel_rfl
noncomputable abbrev aqB:a8:=[(78,jl),(79,k6),(125,KB),(155,KA),(156,Ww),(157,C2),(158,Wv)]
theorem aqT:aT O (aZ af aqB):=aY ⟨jJ,lT,UF,UE,aoI,JG,aoH,⟨⟩⟩
abbrev V9:Shape:=⟨[ax 0 500000 0],[aw 500000 [br .u8,ba]],39⟩
abbrev VE:Shape:=⟨[ax 0 500000 0,ax 2 2 0],[aw 500000 [br .u8,ba],bv 5000130 .need 2 2,bv 5000131 .entry 2 3,aw 2 [ah,ah,.own 5000130,.own 5000131]],39⟩
noncomputable def CU(a:V9.J):Option VE.J:=
(jL (((),([([111,110,101]:B),([116,119,111]:B),([116,104,114,101,101]:B),([122,105,112]:B)]:List B),()),(a.2.1.1,a.2.1.2.1,()),())).bind fun b=>
(wL (((),b.1.2.1,()),(b.2.1.1,b.2.1.2.1,()),())).bind fun c=>
(gy (((),(14:Int),()),(c.2.1.1,c.2.1.2.1,()),())).bind fun d=>
 bif(d.1.2.1==(0:Int)) then
(jL (((),([([]:B),([79,110,101]:B)]:List B),()),(d.2.1.1,d.2.1.2.1,()),())).bind fun e=>
 some (((),(),()),(e.2.1.1,e.2.1.2.1,()),c.2.2.1,c.2.2.2.1,(e.1.2.1,c.2.2.2.2.1.2.1,(),(),()),())
else
 bif(d.1.2.1==(1:Int)) then
(wK (((),()),(d.2.1.1,d.2.1.2.1,()),())).bind fun f=>
 some (((),(),()),(f.2.1.1,f.2.1.2.1,()),c.2.2.1,c.2.2.2.1,(c.2.2.2.2.1.1,f.1.2.1,(),(),()),())
else
 bif(d.1.2.1==(2:Int)) then
(CT (((),()),(d.2.1.1,d.2.1.2.1,()),())).bind fun g=>
(tF (((),()),(g.2.1.1,g.2.1.2.1,()),())).bind fun h=>
(cl 40 c.2.2.1 ([(bF.mk g.2.2.1.1 g.2.2.1.2.1 g.2.2.1.2.2.1),(bF.mk h.2.2.1.1 h.2.2.1.2.1 h.2.2.1.2.2.1)]:List bF)).bind fun i=>
 some (((),(),()),(h.2.1.1,h.2.1.2.1,()),i,c.2.2.2.1,(c.2.2.2.2.1.1,c.2.2.2.2.1.2.1,(),(),()),())
else
 bif(d.1.2.1==(3:Int)) then
(CS (((),()),(d.2.1.1,d.2.1.2.1,()),())).bind fun j=>
 some (((),(),()),(j.2.1.1,j.2.1.2.1,()),c.2.2.1,j.2.2.1,(c.2.2.2.2.1.1,c.2.2.2.2.1.2.1,(),(),()),())
else
 some (((),(),()),(d.2.1.1,d.2.1.2.1,()),c.2.2.1,c.2.2.2.1,(c.2.2.2.2.1.1,c.2.2.2.2.1.2.1,(),(),()),())
noncomputable def WC:aH:=aL af Tryz.f108 V9 VE [0] CU
theorem aoO:aE O 108 WC:=aM aqT Tryz.func108 (by kernel_rfl) ag (fun y=>by kernel_rfl) fun a=>by kernel_rfl
abbrev yt(p:aK):Prop:=jX p/\p.a6.length<=2097151/\∀n,n∈p.bl->n.a6.length<=2097151
abbrev pj(k:Nat)(ps:List aK):Prop:=ps.length<=k/\∀p,p∈ps->yt p
theorem pj.yI{k:Nat}{ps:List aK}(h:pj k ps)(hk:k<=2097152):fu ps:=⟨Nat.le_trans h.1 hk,fun p hp=>(h.2 p hp).1⟩
theorem pj.vs{k:Nat}{ps:List aK}(h:pj k ps):j2 ps:=fun p hp=>(h.2 p hp).2
abbrev EL(n:bF):Prop:=dH n.name/\dH n.a6
def W6(s:B):Bool:=!(s==[102,114,101,115,104])&&!(s==[110,111,98,111,100,121,115])
abbrev NR(s:B):Prop:=dH s/\W6 s=true
theorem J2{L:List B}(h:L.all (fun s=>decide (s.length<=200)&&W6 s)=true){s:B}(hs:s∈L):NR s:=by
 have:=List.all_eq_true.1 h s hs;simp only[bC,dY] at this;exact this
abbrev so(p:aK):Prop:=NR p.name/\dH p.a6/\(p.bl.length<=3/\∀n,n∈p.bl->EL n)/\(p.bI.length<=17/\∀e,e∈p.bI->ls e)
theorem so.ok{p:aK}(h:so p):yt p:=by
 obtain⟨a,b,⟨c1,c2⟩,d1,d2⟩:=h;have up:∀{s:B},dH s->cw s.length:=fun h=>Nat.le_trans h (by decide)
 exact⟨⟨up a.1,up b,⟨Nat.le_trans c1 (by decide),fun n hn=>⟨up (c2 n hn).1,up (c2 n hn).2⟩⟩,Nat.le_trans d1 (by decide),fun e he=>⟨up (d2 e he).1,up (d2 e he).2⟩⟩,Nat.le_trans b (by decide),fun n hn=>Nat.le_trans (c2 n hn).2 (by decide)⟩
theorem F4(a)(m:Nat)(h:dl a.2.1.1 a.2.1.2.1 m)(hm:3<=m):ab (tF a) (fun r=>dl r.2.1.1 r.2.1.2.1 (m-3)/\EL ⟨r.2.2.1.1,r.2.2.1.2.1,r.2.2.1.2.2.1⟩):=by
 unfold tF;refine ab.bind (l3 _ m h (by omega) (by simp)) fun r1 h1=>?_
 have s1:dH r1.1.2.1:=rl (by rfl) h1.2
 refine ab.bind (ic _ _ h1.1 (by omega)) fun r2 h2=>?_
 refine ab.ite (fun _=>?_) fun _=>ab.ret ⟨h2.1.less (by omega),s1,by show(0:Nat)<=200;decide⟩
 exact ab.bind (Fo _ _ h2.1 (by omega)) fun dD h3=>ab.ret ⟨h3.1.less (by omega),s1,h3.2⟩
theorem Qp(a)(m:Nat)(h:dl a.2.1.1 a.2.1.2.1 m)(hm:50<=m)(hn:NR a.1.2.1):ab (wL a) (fun r=>dl r.2.1.1 r.2.1.2.1 (m-50)/\so ⟨r.2.2.2.2.1.1,r.2.2.2.2.1.2.1,r.2.2.1,r.2.2.2.1⟩/\(r.2.2.1:List bF).length<=1):=by
 unfold wL;refine ab.bind (Fo _ m h (by omega)) fun r1 h1=>?_
 refine ab.bind (Qn _ _ h1.1 (by omega)) fun r2 h2=>?_
 refine ab.bind (l3 _ _ h2.1 (by omega) (by simp)) fun dD h3=>?_
 have hg:(dD.1.2.1:B).length<=200/\lf dD.1.2.1:=by
  have:=h3.2;simp only[bO,List.not_mem_nil,or_false] at this;rcases this with e|e|e|e|e
  all_goals(rw[e];exact⟨by decide,by decide⟩)
 refine ab.bind (ahg ((r2.2.2.1,(dD.1.2.1,())),()) h2.2 hg.1 hg.2) fun gp aF=>?_
 refine ab.bind (ic _ _ h3.1 (by omega)) fun r5 bo=>?_
 have ay:(gp.2.1:List aB).length<=17/\∀e,e∈(gp.2.1:List aB)->ls e:=⟨Nat.le_succ_of_le aF.1,aF.2⟩;refine ab.ite (fun _=>?_) fun _=>ab.ret ⟨bo.1.less (by omega),⟨hn,h1.2,⟨by show(0:Nat)<=3;decide,fun n hn=>by cases hn⟩,ay⟩,by show(0:Nat)<=1;decide⟩
 refine ab.bind (F4 _ _ bo.1 (by omega)) fun sz cp=>?_
 refine ab.eq (dy (by decide) (by unfold aA;simp)) ?_
 refine ab.ret ⟨cp.1.less (by omega),⟨hn,h1.2,⟨by show(1:Nat)<=3;decide,fun n hn=>?_⟩,ay⟩,by show(1:Nat)<=1;decide⟩
 have hn:n∈([]:List bF)++[_]:=hn;rw[List.nil_append,List.mem_singleton] at hn;rw[hn];exact cp.2
theorem OP(a)(m:Nat)(h:dl a.2.1.1 a.2.1.2.1 m)(hm:2<=m):ab (wK a) (fun r=>dl r.2.1.1 r.2.1.2.1 (m-2)/\dH r.1.2.1):=by
 unfold wK;refine ab.bind (ic _ m h (by omega)) fun r1 h1=>?_
 refine ab.ite (fun _=>?_) fun _=>?_
 ·exact ab.bind (l3 _ _ h1.1 (by omega) (by simp)) fun r hr=>ab.ret ⟨hr.1.less (by omega),rl (by rfl) hr.2⟩
 ·exact ab.bind (Fo _ _ h1.1 (by omega)) fun r hr=>ab.ret ⟨hr.1.less (by omega),hr.2⟩
theorem afD(a)(m:Nat)(h:dl a.2.1.1 a.2.1.2.1 m)(hm:2<=m):ab (CO a) (fun r=>dl r.2.1.1 r.2.1.2.1 (m-2)/\dH r.1.2.1):=by
 unfold CO;refine ab.bind (ic _ m h (by omega)) fun r1 h1=>?_
 refine ab.ite (fun _=>?_) fun _=>?_
 ·exact ab.bind (l3 _ _ h1.1 (by omega) (by simp)) fun r hr=>ab.ret ⟨hr.1.less (by omega),rl (by rfl) hr.2⟩
 ·exact ab.bind (F3 _ _ h1.1 (by omega)) fun r hr=>ab.ret ⟨hr.1.less (by omega),hr.2⟩
theorem afF(a)(m:Nat)(h:dl a.2.1.1 a.2.1.2.1 m)(hm:7<=m):ab (CT a) (fun r=>dl r.2.1.1 r.2.1.2.1 (m-7)/\EL ⟨r.2.2.1.1,r.2.2.1.2.1,r.2.2.1.2.2.1⟩):=by
 unfold CT;refine ab.bind (F4 _ m h (by omega)) fun r1 h1=>?_
 refine ab.bind (ic _ _ h1.1 (by omega)) fun r2 h2=>?_
 refine ab.ite (fun _=>?_) fun _=>ab.ite (fun _=>?_) fun _=>ab.ite (fun _=>?_) fun _=>?_
 ·exact ab.bind (l3 _ _ h2.1 (by omega) (by simp)) fun r hr=>ab.ret ⟨hr.1.less (by omega),rl (by rfl) hr.2,h1.2.2⟩
 ·exact ab.bind (ic _ _ h2.1 (by omega)) fun r hr=>ab.ret ⟨hr.1.less (by omega),h1.2⟩
 ·exact ab.bind (OP _ _ h2.1 (by omega)) fun r hr=>ab.ret ⟨hr.1.less (by omega),h1.2.1,hr.2⟩
 ·exact ab.ret ⟨h2.1.less (by omega),h1.2⟩
theorem OV(a)(m:Nat)(h:dl a.2.1.1 a.2.1.2.1 m)(hm:8<=m):ab (wI a) (fun r=>dl r.2.1.1 r.2.1.2.1 (m-8)/\ls ⟨r.2.2.1.1,r.2.2.1.2.1,r.2.2.1.2.2.1,r.2.2.1.2.2.2.1⟩):=by
 unfold wI;refine ab.bind (PK _ m h (by omega)) fun r1 h1=>?_
 refine ab.bind (ic _ _ h1.1 (by omega)) fun r2 h2=>?_
 refine ab.ite (fun _=>?_) fun _=>ab.ite (fun _=>?_) fun _=>ab.ite (fun _=>?_) fun _=>ab.ite (fun _=>?_) fun _=>?_
 ·exact ab.bind (afD _ _ h2.1 (by omega)) fun r hr=>ab.ret ⟨hr.1.less (by omega),hr.2,h1.2.2⟩
 ·exact ab.bind (ic _ _ h2.1 (by omega)) fun r hr=>ab.ret ⟨hr.1.less (by omega),h1.2⟩
 ·exact ab.bind (KF _ _ h2.1 (by omega) (by simp)) fun r hr=>ab.ret ⟨hr.1.less (by omega),h1.2⟩
 ·refine ab.bind (RJ _ (by simp) (by show(0:Int)<=81;decide) (by show(81:Int)<=127;decide)) fun q aC=>?_
  refine ab.bind (l3 _ _ h2.1 (by omega) (by simp)) fun r hr=>ab.ret ⟨hr.1.less (by omega),h1.2.1,?_⟩
  have:=hr.2;simp only[bO,List.not_mem_nil,or_false] at this;rcases this with e|e|e|e
  ·show(r.1.2.1:B).length<=200;rw[e];decide
  ·show(r.1.2.1:B).length<=200;rw[e];exact aC
  ·show(r.1.2.1:B).length<=200;rw[e];decide
  ·show(r.1.2.1:B).length<=200;rw[e];decide
 ·exact ab.ret ⟨h2.1.less (by omega),h1.2⟩
abbrev _i(t:List aB):Prop:=t.length<=17/\∀e,e∈t->ls e
theorem afB(a)(m:Nat)(h:dl a.2.1.1 a.2.1.2.1 m)(hm:50<=m):ab (CS a) (fun r=>dl r.2.1.1 r.2.1.2.1 (m-50)/\_i r.2.2.1):=by
 unfold CS;refine ab.bind (Qn _ m h (by omega)) fun r1 h1=>?_
 obtain⟨od,⟨u1,(t:List aB),u2⟩⟩:=r1;have ay:jw t:=h1.2;have acI:=ay.1;refine ab.eq (GP ((t,()),()) (by show t.length<=2097152;omega)) ?_
 refine ab.bind (ic _ _ h1.1 (by omega)) fun r2 h2=>?_
 have n7:_i t:=⟨Nat.le_succ_of_le ay.1,ay.2⟩;refine ab.ite (fun _=>?_) fun _=>ab.ite (fun _=>?_) fun _=>ab.ret ⟨h2.1.less (by omega),n7⟩
 ·refine ab.bind (OV _ _ h2.1 (by omega)) fun dD h3=>?_
  refine ab.eq (dy (xs:=t) (by decide) (by unfold aA;simp;omega)) ?_
  refine ab.ret ⟨h3.1.less (by omega),by show(t++[_]).length<=17;simp;omega,fun e he=>?_⟩
  have he:e∈t++[_]:=he;rcases bp.1 he with he|he
  ·exact ay.2 e he
  ·rw[List.mem_singleton.1 he];exact h3.2
 ·refine ab.ite (fun hc=>?_) fun _=>ab.ret ⟨h2.1.less (by omega),n7⟩
  have hc:(t.length:Int)>0:=of_decide_eq_true hc;refine ab.bind (ic _ _ h2.1 (by omega)) fun dD h3=>?_
  obtain⟨⟨v1,(q:Int),v2⟩,v3⟩:=dD;have x4:0<=q:=h3.2.1;have aC8:q<(t.length:Int):=h3.2.2 (by show(1:Int)<=(t.length:Int);omega)
  obtain⟨j,rfl⟩:=Int.eq_ofNat_of_zero_le x4;have hj:j<t.length:=by omega
  refine ab.bind (OV _ _ h3.1 (by omega)) fun gp aF=>?_
  refine ab.eq (fQ (n:=t.length) (i:=j) hj) ?_
  refine ab.eq (x:=aB.mk gp.2.2.1.1 gp.2.2.1.2.1 gp.2.2.1.2.2.1 gp.2.2.1.2.2.2.1) (by show(t[j]?).bind _=_;rw[dZ hj];rfl) ?_
  exact ab.ret ⟨aF.1.less (by omega),by show(t.set _ _).length<=17;rw[List.length_set];omega,To ay.2 aF.2⟩
theorem afE(a)(m:Nat)(h:dl a.2.1.1 a.2.1.2.1 m)(hm:110<=m):ab (CU a) (fun r=>dl r.2.1.1 r.2.1.2.1 (m-110)/\so ⟨r.2.2.2.2.1.1,r.2.2.2.2.1.2.1,r.2.2.1,r.2.2.2.1⟩):=by
 unfold CU;refine ab.bind (l3 _ m h (by omega) (by simp)) fun r1 h1=>?_
 refine ab.bind (Qp _ _ h1.1 (by omega) (J2 (by rfl) h1.2)) fun r2 h2=>?_
 obtain⟨uN,Ex,x5,o_⟩:=h2.2.1;refine ab.bind (ic _ _ h2.1 (by omega)) fun dD h3=>?_
 refine ab.ite (fun _=>?_) fun _=>ab.ite (fun _=>?_) fun _=>ab.ite (fun _=>?_) fun _=>ab.ite (fun _=>?_) fun _=>?_
 ·exact ab.bind (l3 _ _ h3.1 (by omega) (by simp)) fun r hr=>ab.ret ⟨hr.1.less (by omega),J2 (by rfl) hr.2,Ex,x5,o_⟩
 ·exact ab.bind (OP _ _ h3.1 (by omega)) fun r hr=>ab.ret ⟨hr.1.less (by omega),uN,hr.2,x5,o_⟩
 ·refine ab.bind (afF _ _ h3.1 (by omega)) fun gp aF=>?_
  refine ab.bind (F4 _ _ aF.1 (by omega)) fun r5 bo=>?_
  have hl:=h2.2.2;refine ab.eq (dy (xs:=(r2.2.2.1:List bF)) (by decide) (by unfold aA;simp;omega)) ?_
  refine ab.ret ⟨bo.1.less (by omega),uN,Ex,⟨by show((r2.2.2.1:List bF)++[_,_]).length<=3;simp;omega,fun n hn=>?_⟩,o_⟩
  have hn:n∈(r2.2.2.1:List bF)++[_,_]:=hn;rcases bp.1 hn with hn|hn
  ·exact x5.2 n hn
  ·simp only[bO,List.not_mem_nil,or_false] at hn;rcases hn with rfl|rfl
   ·exact aF.2
   ·exact bo.2
 ·exact ab.bind (afB _ _ h3.1 (by omega)) fun r hr=>ab.ret ⟨hr.1.less (by omega),uN,Ex,x5,hr.2⟩
 ·exact ab.ret ⟨h3.1.less (by omega),uN,Ex,x5,o_⟩
noncomputable abbrev avx:a8:=[(202,xx)]
theorem awx:aT O (aZ af avx):=aY ⟨Dt,⟨⟩⟩
abbrev i154:Shape:=⟨[ck 0 [ah,ah,br .need,br .entry]],[],13⟩
abbrev Y_:Shape:=⟨[ax 2 2 0],[bv 5000130 .need 2 2,bv 5000131 .entry 2 3,aw 2 [ah,ah,.own 5000130,.own 5000131]],13⟩
noncomputable def f154(a:i154.J):Option Y_.J:=
(cl 40 ([]:List bF) a.1.1.2.2.1).bind fun b=>
(f202 ((a.1.1.2.2.2.1,()),())).bind fun c=>
 some (((),()),b,c.2.1,(a.1.1.1,a.1.1.2.1,(),(),()),())
noncomputable def L5:aH:=aL af Tryz.f154 i154 Y_ [] f154
theorem z154:aE O 154 L5:=aM awx Tryz.func154 (by kernel_rfl) ag (fun y=>by kernel_rfl) fun a=>by kernel_rfl
noncomputable abbrev av4:a8:=[(154,L5)]
theorem abd:aT O (aZ af av4):=aY ⟨z154,⟨⟩⟩
abbrev Bj:Shape:=⟨[ax 1 1 0,ax 2 2 0,ax 3 3 0,aj 4],[aw 1 [br .pack],bv 5000128 .pack 2 0,aw 2 [.own 5000128],bv 5000192 .pack 3 0,aw 3 [.own 5000192]],25⟩
abbrev ID:List aR:=[(.exit 0,⟨[ax 2 2 0,ax 3 3 0],[bv 5000128 .pack 2 0,aw 2 [.own 5000128],bv 5000192 .pack 3 0,aw 3 [.own 5000192]],25⟩)]
noncomputable def BS(y:Bj.J):bP Bj ID:=
 bif(decide (y.1.2.2.2.1<(y.2.1.1.length:Int))) then
(aS y.2.1.1 y.1.2.2.2.1).bind fun a=>
(f154 (((a.name,a.a6,a.bl,a.bI,()),()),())).bind fun b=>
(cl 80 y.2.2.2.2.1 ([(aK.mk b.2.2.2.1.1 b.2.2.2.1.2.1 b.2.1 b.2.2.1)]:List aK)).bind fun c=>
 some (.inl (((),(),(),(IntKind.i64.wrap (y.1.2.2.2.1+(1:Int))),()),(y.2.1.1,()),y.2.2.1,((),()),c,((),()),()))
else
 some (.inr (((),(),()),y.2.2.1,((),()),y.2.2.2.2.1,((),()),()))
noncomputable def Je:Bj.J->Option (aG ID):=bA BS
theorem anI:aV O (ap (codeOf Tryz.f107) 1 58) (aX Bj ID Je):=bR abd (by kernel_rfl) ag fun y=>by kernel_rfl
abbrev i107:Shape:=⟨[ck 0 [br .pack]],[],25⟩
abbrev ZI:Shape:=⟨[ax 2 2 0],[bv 5000128 .pack 2 0,aw 2 [.own 5000128]],25⟩
noncomputable def f107(a:i107.J):Option ZI.J:=
(Je (((),(),(),(0:Int),()),(a.1.1.1,()),([]:List aK),((),()),([]:List aK),((),()),())).bind fun b=>
 some (((),()),b.2.2.2.1,((),()),())
noncomputable def aaL:aH:=aL af Tryz.f107 i107 ZI [] f107
theorem z107:aE O 107 aaL:=aM abd Tryz.func107 (by kernel_rfl) (a7 anI ag) (fun y=>by kernel_rfl) fun a=>by kernel_rfl
noncomputable abbrev avm:a8:=[(60,NK)]
theorem awr:aT O (aZ af avm):=aY ⟨abl,⟨⟩⟩
abbrev i174:Shape:=⟨[ck 0 [br .pack],aO 1 .pack],[],15⟩
abbrev YX:Shape:=⟨[ax 4 4 0,aj 5],[aw 4 [br .pack]],15⟩
noncomputable def f174(a:i174.J):Option YX.J:=
(f60 ((a.1.2.1,()),())).bind fun b=>
 bif(b.1.1 !=(0:Int)) then
 some (((),b.1.1,()),(a.1.1.1,()),())
else
 some (((),(0:Int),()),(a.1.2.1,()),())
noncomputable def _8:aH:=aL af Tryz.f174 i174 YX [] f174
theorem asV:aE O 174 _8:=aM awr Tryz.func174 (by kernel_rfl) ag (fun y=>by kernel_rfl) fun a=>by kernel_rfl
noncomputable abbrev avl:a8:=[(154,L5)]
theorem aaX:aT O (aZ af avl):=aY ⟨z154,⟨⟩⟩
abbrev AZ:Shape:=⟨[aO 0 .pack,ax 3 3 0,bd 4 3000256,aj 5],[aw 3 [ah,ah,br .need,br .entry],bc 3000256 .pack 4 0],35⟩
abbrev Ii:List aR:=[(.exit 0,⟨[aO 0 .pack,ax 3 3 0,bd 4 3000256,aj 5],[aw 3 [ah,ah,br .need,br .entry],bc 3000256 .pack 4 0],35⟩)]
noncomputable def wk(y:AZ.J):bP AZ Ii:=
 bif(decide (y.1.2.2.2.1<(y.1.1.length:Int))) then
(aS y.1.1 y.1.2.2.2.1).bind fun a=>
 bif(Op.bytesLess a.name y.2.1.1) then
 some (.inl ((y.1.1,(),(),(IntKind.i64.wrap (y.1.2.2.2.1+(1:Int))),()),(y.2.1.1,y.2.1.2.1,y.2.1.2.2.1,y.2.1.2.2.2.1,()),y.2.2.1,()))
else
 some (.inr ((y.1.1,(),(),y.1.2.2.2.1,()),(y.2.1.1,y.2.1.2.1,y.2.1.2.2.1,y.2.1.2.2.2.1,()),y.2.2.1,()))
else
 some (.inr ((y.1.1,(),(),y.1.2.2.2.1,()),(y.2.1.1,y.2.1.2.1,y.2.1.2.2.1,y.2.1.2.2.2.1,()),y.2.2.1,()))
noncomputable def Bp:AZ.J->Option (aG Ii):=bA wk
theorem ane:aV O (ap (codeOf Tryz.f175) 1 28) (aX AZ Ii Bp):=bR aaX (by kernel_rfl) ag fun y=>by kernel_rfl
abbrev i175:Shape:=⟨[aO 0 .pack,ck 1 [ah,ah,br .need,br .entry]],[],35⟩
abbrev YW:Shape:=⟨[bd 4 3000256],[bc 3000256 .pack 4 0],35⟩
noncomputable def f175(a:i175.J):Option YW.J:=
(Bp ((a.1.1,(),(),(0:Int),()),(a.1.2.1.1,a.1.2.1.2.1,a.1.2.1.2.2.1,a.1.2.1.2.2.2.1,()),([]:List aK),())).bind fun b=>
(bq b.1.1 (0:Int) b.1.2.2.2.1).bind fun c=>
(cl 80 ([]:List aK) c).bind fun d=>
(f154 (((b.2.1.1,b.2.1.2.1,b.2.1.2.2.1,b.2.1.2.2.2.1,()),()),())).bind fun e=>
(cl 80 d ([(aK.mk e.2.2.2.1.1 e.2.2.2.1.2.1 e.2.1 e.2.2.1)]:List aK)).bind fun f=>
(bq b.1.1 b.1.2.2.2.1 (b.1.1.length:Int)).bind fun g=>
(cl 80 f g).bind fun h=>
 some (((),()),h,())
noncomputable def _7:aH:=aL af Tryz.f175 i175 YW [] f175
theorem z175:aE O 175 _7:=aM aaX Tryz.func175 (by kernel_rfl) (a7 ane ag) (fun y=>by kernel_rfl) fun a=>by kernel_rfl
noncomputable abbrev avS:a8:=[(50,EP),(160,L4),(174,_8),(175,_7)]
theorem awD:aT O (aZ af avS):=aY ⟨Mr,z160,asV,z175,⟨⟩⟩
abbrev i124:Shape:=⟨[ck 0 [br .pack],ck 1 [ah,ah,br .need,br .entry]],[],27⟩
abbrev Zv:Shape:=⟨[ax 4 4 0,aj 5],[aw 4 [br .pack]],27⟩
noncomputable def f124(a:i124.J):Option Zv.J:=
(f50 (((a.1.2.1.1,a.1.2.1.2.1,a.1.2.1.2.2.1,a.1.2.1.2.2.2.1,()),()),())).bind fun b=>
 bif(!b.1.1) then
 some (((),(1:Int),()),(a.1.1.1,()),())
else
(f160 ((a.1.1.1,a.1.2.1.1,()),())).bind fun c=>
 bif(decide (c.1.1>=(0:Int))) then
 some (((),(2:Int),()),(a.1.1.1,()),())
else
(f175 ((a.1.1.1,(a.1.2.1.1,a.1.2.1.2.1,a.1.2.1.2.2.1,a.1.2.1.2.2.2.1,()),()),())).bind fun d=>
(f174 (((a.1.1.1,()),d.2.1,()),())).bind fun e=>
 some (((),e.1.2.1,()),(e.2.1.1,()),())
noncomputable def aaB:aH:=aL af Tryz.f124 i124 Zv [] f124
theorem z124:aE O 124 aaB:=aM awD Tryz.func124 (by kernel_rfl) ag (fun y=>by kernel_rfl) fun a=>by kernel_rfl
noncomputable abbrev ar3:a8:=[(78,jl),(79,k6),(124,aaB),(125,KB)]
theorem Xx:aT O (aZ af ar3):=aY ⟨jJ,lT,z124,UF,⟨⟩⟩
abbrev zR:Shape:=⟨[ax 0 500000 0,ax 2 2 0,ax 3 3 0,aj 4],[aw 500000 [br .u8,ba],bv 5000128 .pack 2 0,aw 2 [.own 5000128],aw 3 [br .pack]],23⟩
abbrev GU:List aR:=[(.exit 0,⟨[ax 0 500000 0,ax 2 2 0,ax 3 3 0],[aw 500000 [br .u8,ba],bv 5000128 .pack 2 0,aw 2 [.own 5000128],aw 3 [br .pack]],23⟩)]
noncomputable def SK(y:zR.J):bP zR GU:=
 bif(decide (y.1.2.2.2.1>(0:Int))) then
(jL (((),([([111,110,101]:B),([116,119,111]:B),([116,104,114,101,101]:B),([122,105,112]:B)]:List B),()),(y.2.1.1,y.2.1.2.1,()),())).bind fun a=>
(wL (((),a.1.2.1,()),(a.2.1.1,a.2.1.2.1,()),())).bind fun b=>
(f124 (((y.2.2.2.2.1.1,()),(b.2.2.2.2.1.1,b.2.2.2.2.1.2.1,b.2.2.1,b.2.2.2.1,()),()),())).bind fun c=>
 some (.inl (((),(),(),(IntKind.i64.wrap (y.1.2.2.2.1-(1:Int))),()),(b.2.1.1,b.2.1.2.1,()),y.2.2.1,((),()),(c.2.1.1,()),()))
else
 some (.inr (((),(),(),()),(y.2.1.1,y.2.1.2.1,()),y.2.2.1,((),()),(y.2.2.2.2.1.1,()),()))
noncomputable def Sy:zR.J->Option (aG GU):=bA SK
theorem akS:aV O (ap (codeOf Tryz.f72) 1 58) (aX zR GU Sy):=bR Xx (by kernel_rfl) ag fun y=>by kernel_rfl
abbrev Xe:Shape:=⟨[ax 0 500000 0],[aw 500000 [br .u8,ba]],23⟩
abbrev W0:Shape:=⟨[ax 0 500000 0,ax 2 2 0],[aw 500000 [br .u8,ba],aw 2 [br .pack]],23⟩
noncomputable def w3(a:Xe.J):Option W0.J:=
(gy (((),(5:Int),()),(a.2.1.1,a.2.1.2.1,()),())).bind fun b=>
(Sy (((),(),(),b.1.2.1,()),(b.2.1.1,b.2.1.2.1,()),([]:List aK),((),()),(([]:List aK),()),())).bind fun c=>
 some (((),(),()),(c.2.1.1,c.2.1.2.1,()),(c.2.2.2.2.1.1,()),())
noncomputable def KX:aH:=aL af Tryz.f72 Xe W0 [0] w3
theorem WL:aE O 72 KX:=aM Xx Tryz.func72 (by kernel_rfl) (a7 akS ag) (fun y=>by kernel_rfl) fun a=>by kernel_rfl
noncomputable abbrev ar4:a8:=[(72,KX),(78,jl),(107,aaL),(108,WC)]
theorem ar8:aT O (aZ af ar4):=aY ⟨WL,jJ,z107,aoO,⟨⟩⟩
abbrev Xg:Shape:=⟨[ax 0 500000 0],[aw 500000 [br .u8,ba]],29⟩
abbrev W3:Shape:=⟨[ax 0 500000 0,ax 2 2 0],[aw 500000 [br .u8,ba],aw 2 [br .pack]],29⟩
noncomputable def w4(a:Xg.J):Option W3.J:=
(w3 (((),()),(a.2.1.1,a.2.1.2.1,()),())).bind fun b=>
(f107 (((b.2.2.1.1,()),()),())).bind fun c=>
(gy (((),(12:Int),()),(b.2.1.1,b.2.1.2.1,()),())).bind fun d=>
 bif(d.1.2.1==(0:Int)) then
(CU (((),()),(d.2.1.1,d.2.1.2.1,()),())).bind fun e=>
(cl 80 c.2.1 ([(aK.mk e.2.2.2.2.1.1 e.2.2.2.2.1.2.1 e.2.2.1 e.2.2.2.1)]:List aK)).bind fun f=>
 some (((),(),()),(e.2.1.1,e.2.1.2.1,()),(f,()),())
else
 bif(d.1.2.1==(1:Int)) then
 bif(decide ((c.2.1.length:Int)>(0:Int))) then
(bq c.2.1 (1:Int) (c.2.1.length:Int)).bind fun g=>
 some (((),(),()),(d.2.1.1,d.2.1.2.1,()),(g,()),())
else
 some (((),(),()),(d.2.1.1,d.2.1.2.1,()),(c.2.1,()),())
else
 some (((),(),()),(d.2.1.1,d.2.1.2.1,()),(c.2.1,()),())
noncomputable def KY:aH:=aL af Tryz.f58 Xg W3 [0] w4
theorem WM:aE O 58 KY:=aM ar8 Tryz.func58 (by kernel_rfl) ag (fun y=>by kernel_rfl) fun a=>by kernel_rfl
theorem aii(a)(hb:fu a.1.1)(hv:j2 a.1.1):f60 a=some ((ke a.1.1,()),()):=by
 obtain⟨⟨ps,u⟩,b7⟩:=a;have hl:ps.length<=2097152:=hb.1;have key:Ct ((ps,((0:Int),())),())=some (bif allI (uE ps) 0 ps then .inr ((ps,()),()) else .inl (((1:Int),()),())):=by
  refine gv rp ps (fun i=>((ps,((i:Int),())),())) _ _ _ (fun i x hx=>?_) ?_
  ·have hi:=da hx;have hw:aA i:=by unfold aA;omega
   have qy:=hb.2 x (eJ hx);simp only[rp,ct hi,ad,Bv,cd,hx,Y];rw[vM _ qy];simp only[Y,uE,DM];cases cx x with
   |false=>rfl
   |true=>
    simp only[bu,ak,Bool.true_and,nI];cases i with
    |zero=>simp only[beq_self_eq_true,bu,ak,Y,Bool.true_or,ad,b9 hw]
    |succ i=>
     have h0:(i+1==0)=false:=rfl;have jV:i<ps.length:=by omega
     obtain⟨q,aC⟩:∃q,ps[i]? =some q:=⟨ps[i],dZ jV⟩;simp only[h0,bJ,ad,vA (i:=i) (by unfold aA;omega),cd,aC,hx,Y,Bool.false_or,Nat.add_sub_cancel]
     cases Op.bytesLess q.name x.name with
     |false=>rfl
     |true=>simp only[bu,ak,ad,b9 hw]
  ·simp only[rp,dL,ak]
 rw[TR] at key;have bo:decide ((ps.length:Int)>5)=!decide (ps.length<=5):=by by_cases h:ps.length<=5<;>simp only[h,decide_true,decide_false,bu,bJ,dY,decide_eq_false_iff_not]<;>omega
 simp only[f60,key,Y,ke];cases en:(ps.all cx&&ld ps) with
 |false=>rfl
 |true=>
  have hk:ps.all cx=true:=by simp only[bC] at en;exact en.1
  obtain⟨out,ay⟩:=RD ((ps,()),()) hb hk;have hn:=Qk ((ps,()),()) hb hv;simp only[ad,Y,ay,bo];cases decide (ps.length<=5) with
  |false=>rfl
  |true=>
   simp only[bu,ak,hn,Y];cases ps.all (fun p=>p.bl.all (iY ps))<;>cases (fR [] ps).isSome<;>rfl
theorem RE(a)(h:jX ⟨a.1.1.1,a.1.1.2.1,a.1.1.2.2.1,a.1.1.2.2.2.1⟩):f154 a=some (((),()),(a.1.1.2.2.1,(a.1.1.2.2.2.1,((a.1.1.1,(a.1.1.2.1,((),((),())))),())))):=by
 obtain⟨⟨⟨name,a6,bl,bI,u⟩,b7⟩,nV⟩:=a;have h1:bl.length<=2097152:=h.2.2.1.1;have h2:=GP ((bI,()),()) h.2.2.2.1;simp only[f154,dy (show(40:Nat)<=100 by decide) (show aA (([]:List bF).length+bl.length) by unfold aA;simp;omega),List.nil_append,Y,h2]
def Dz(ps:List aK)(n:B):Nat:=(ps.takeWhile fun p=>Op.bytesLess p.name n).length
theorem TL(ps:List aK)(n:B):Dz ps n<=ps.length:=(List.takeWhile_prefix _).length_le
def lU(ps:List aK)(p:aK):List aK:=ps.take (Dz ps p.name)++[p]++ps.drop (Dz ps p.name)
theorem Qi(ps:List aK)(p:aK):(lU ps p).length=ps.length+1:=by
 have:=TL ps p.name;unfold lU;simp only[dx,List.length_take,List.length_drop,cW,List.length_nil];omega
theorem Qh{ps:List aK}{p x:aK}(h:x∈lU ps p):x=p\/x∈ps:=by
 unfold lU at h;simp only[bp,List.mem_singleton] at h;rcases h with(h|h)|h
 ·exact .inr (List.mem_of_mem_take h)
 ·exact .inl h
 ·exact .inr (List.mem_of_mem_drop h)
theorem aj6{k:Nat}{ps:List aK}{p:aK}(h:pj k ps)(hp:yt p):pj (k+1) (lU ps p):=
 ⟨by rw[Qi];exact Nat.succ_le_succ h.1,fun x hx=>by
  rcases Qh hx with rfl|hx
  ·exact hp
  ·exact h.2 x hx⟩
theorem aka(a)(h1:a.1.1.length<=2097151)(hp:jX ⟨a.1.2.1.1,a.1.2.1.2.1,a.1.2.1.2.2.1,a.1.2.1.2.2.2.1⟩):f175 a=some (((),()),(lU a.1.1 ⟨a.1.2.1.1,a.1.2.1.2.1,a.1.2.1.2.2.1,a.1.2.1.2.2.2.1⟩,())):=by
 obtain⟨⟨ps,⟨name,a6,bl,bI,od⟩,u⟩,b7⟩:=a;have h1:ps.length<=2097151:=h1;have key:∀(r:List aK) (k:Nat),ps.drop k=r->k<=ps.length->Bp ((ps,((),((),((k:Int),())))),((name,(a6,(bl,(bI,())))),(([]:List aK),())))=
   some ((ps,((),((),(((k+(r.takeWhile fun p=>Op.bytesLess p.name name).length:Nat):Int),())))),((name,(a6,(bl,(bI,())))),(([]:List aK),()))):=by
  intro r;induction r with
  |nil=>
   intro k hr hk;have:=drop_nil hr;obtain rfl:k=ps.length:=by omega
   refine cC ?_
   simp only[wk,dL,ak,List.takeWhile_nil,List.length_nil,Nat.add_zero]
  |cons q r ih=>
   intro k hr hk;obtain⟨c1,c2,c3⟩:=drop_cons hr;have hw:aA k:=by unfold aA;omega
   rw[List.takeWhile_cons];cases aC:Op.bytesLess q.name name with
   |false=>
    refine cC ?_
    simp only[wk,ct c3,ad,cd,c1,Y,aC,ak];rfl
   |true=>
    have step:wk ((ps,((),((),((k:Int),())))),((name,(a6,(bl,(bI,())))),(([]:List aK),())))=some (.inl ((ps,((),((),(((k+1:Nat):Int),())))),((name,(a6,(bl,(bI,())))),(([]:List aK),())))):=by
     simp only[wk,ct c3,ad,cd,c1,Y,aC,b9 hw]
    refine Eq.trans (d' step) (Eq.trans (ih (k+1) c2 c3) ?_);simp only[if_true,cW];have e:k+1+(r.takeWhile fun p=>Op.bytesLess p.name name).length=k+((r.takeWhile fun p=>Op.bytesLess p.name name).length+1):=by omega
    rw[e]
 have key:=key ps 0 rfl (Nat.zero_le _);rw[Nat.zero_add] at key;have hk:(ps.takeWhile fun p=>Op.bytesLess p.name name).length=Dz ps name:=rfl
 rw[hk] at key;have key:Bp ((ps,((),((),((0:Int),())))),((name,(a6,(bl,(bI,())))),(([]:List aK),())))=_:=key;have hle:=TL ps name;have e2:=RE (((name,(a6,(bl,(bI,())))),()),()) hp;simp only[f175,key,Y,gw hle,fO hle,e2];rw[dy (show(80:Nat)<=100 by decide) (by unfold aA;simp;omega)]
 simp only[List.nil_append,Y];rw[dy (show(80:Nat)<=100 by decide) (by unfold aA;simp;omega)]
 simp only[Y];rw[dy (show(80:Nat)<=100 by decide) (by unfold aA;simp;omega)]
 rfl
theorem amr(a)(hb:fu a.1.2.1)(hv:j2 a.1.2.1):f174 a=some (((),(ke a.1.2.1,())),(((bif ke a.1.2.1==0 then a.1.2.1 else a.1.1.1),()),())):=by
 obtain⟨⟨⟨r,od⟩,list,u⟩,b7⟩:=a;have e:=aii ((list,()),()) hb hv;simp only[f174,e,Y];have z:(ke list !=0)=!(ke list==0):=rfl;rw[z];cases hc:(ke list==0) with
 |false=>rfl
 |true=>
  have hc:ke list=0:=by simpa using hc
  simp only[bu,ak,ad];rw[hc]
def xW(ps:List aK)(p:aK):List aK×Int:=bif cx p then(match ps.find? (fun q=>q.name==p.name) with
 |some _=>(ps,2)
 |none=>(bif ke (lU ps p)==0 then lU ps p else ps,ke (lU ps p))) else(ps,1)
theorem aoV(a)(k:Nat)(hk:k<=2000000)(h:pj k a.1.1.1)(hp:yt ⟨a.1.2.1.1,a.1.2.1.2.1,a.1.2.1.2.2.1,a.1.2.1.2.2.2.1⟩):f124 a=some (((),((xW a.1.1.1 ⟨a.1.2.1.1,a.1.2.1.2.1,a.1.2.1.2.2.1,a.1.2.1.2.2.2.1⟩).2,())),(((xW a.1.1.1 ⟨a.1.2.1.1,a.1.2.1.2.1,a.1.2.1.2.2.1,a.1.2.1.2.2.2.1⟩).1,()),())):=by
 obtain⟨⟨⟨ps,od⟩,⟨name,a6,bl,bI,u1⟩,u⟩,b7⟩:=a;have h:pj k ps:=h;have hp:yt ⟨name,a6,bl,bI⟩:=hp;have hl:ps.length<=2000000:=Nat.le_trans h.1 hk;have e1:=vM (((name,(a6,(bl,(bI,())))),()),()) hp.1;simp only[f124,e1,Y,xW];cases cx ⟨name,a6,bl,bI⟩ with
 |false=>rfl
 |true=>
  simp only[bu,ak,ad];rcases RF ((ps,(name,())),()) (show ps.length<=2097152 by omega) with⟨j,q,g1,g2,g3⟩|⟨g1,g2⟩
  ·have g3:ps.find? (fun p=>p.name==name)=some q:=g3
   have hj:decide ((j:Int)>=0)=true:=by simp
   simp only[g1,Y,hj,ad,g3]
  ·have g2:ps.find? (fun p=>p.name==name)=none:=g2
   have hj:decide ((-1:Int)>=0)=false:=rfl;have hw:=aj6 h hp;have e2:=aka ((ps,((name,(a6,(bl,(bI,())))),())),()) (show ps.length<=2097151 by omega) hp.1
   have bz:=amr (((ps,()),(lU ps ⟨name,a6,bl,bI⟩,())),()) (hw.yI (by omega)) hw.vs
   simp only[g1,Y,hj,ak,g2,e2,bz]
theorem akb(a)(h:fu a.1.1.1):f107 a=some (((),()),(a.1.1.1,(((),()),()))):=by
 obtain⟨⟨⟨ps,od⟩,u⟩,b7⟩:=a;have hl:ps.length<=2097152:=h.1;have key:=Rd (S:=List aK) BS ps (fun i acc=>(((),((),((),((i:Int),())))),((ps,()),(([]:List aK),(((),()),(acc,(((),()),()))))))) (fun x acc=>acc++[x]) (fun acc=>(((),((),())),(([]:List aK),(((),()),(acc,(((),()),())))))) (fun i acc=>acc.length=i) [] rfl (fun i x acc hx dG=>?_) (fun acc dG=>?_)
 ·have key:Je (((),((),((),((0:Int),())))),((ps,()),(([]:List aK),(((),()),(([]:List aK),(((),()),()))))))=_:=key;have e:∀(l acc:List aK),l.foldl (fun s x=>s++[x]) acc=acc++l:=by
   intro l;induction l with
   |nil=>intro acc;simp
   |cons x l ih=>intro acc;simp only[List.foldl_cons];rw[ih];simp
  simp only[f107,key,Y];rw[e];rfl
 ·have hi:=da hx;have hw:aA i:=by unfold aA;omega
  have e2:=RE (((x.name,(x.a6,(x.bl,(x.bI,())))),()),()) (h.2 x (eJ hx));have ha:cl 80 acc [x]=some (acc++[x]):=dy (by decide) (by unfold aA;simp;omega)
  simp only[BS,ct hi,ad,cd,hx,Y,e2,ha,b9 hw];exact⟨trivial,by simp[dG]⟩
 ·simp only[BS,dL,ak]
abbrev iu(k:Nat)(ps:List aK):Prop:=ps.length<=k/\∀p,p∈ps->so p
theorem iu.ok{k:Nat}{ps:List aK}(h:iu k ps):pj k ps:=⟨h.1,fun p hp=>(h.2 p hp).ok⟩
theorem apP{k:Nat}{ps:List aK}{p:aK}(h:iu k ps)(hp:so p):iu (k+1) (xW ps p).1:=by
 have an:iu (k+1) ps:=⟨Nat.le_succ_of_le h.1,h.2⟩;unfold xW;cases cx p with
 |false=>exact an
 |true=>
  simp only[ad];cases ps.find? (fun q=>q.name==p.name) with
  |some q=>exact an
  |none=>
   simp only;cases ke (lU ps p)==0 with
   |false=>exact an
   |true=>
    refine⟨by show(lU ps p).length<=k+1;rw[Qi];exact Nat.succ_le_succ h.1,fun x hx=>?_⟩
    rcases Qh hx with rfl|hx
    ·exact hp
    ·exact h.2 x hx
theorem Qo(a)(m:Nat)(h:dl a.2.1.1 a.2.1.2.1 m)(hm:300<=m):ab (w3 a) (fun r=>dl r.2.1.1 r.2.1.2.1 (m-300)/\iu 4 r.2.2.1.1):=by
 unfold w3;refine ab.bind (ic _ m h (by omega)) fun r1 h1=>?_
 obtain⟨⟨v1,(q:Int),v2⟩,⟨⟨(b1:List Int),(iS:Int),v3⟩,v4⟩⟩:=r1;have hn:q<5:=h1.2.2 (by show(1:Int)<=5;decide)
 have h0:0<=q:=h1.2.1;refine ab.bind (P:=fun r=>dl r.2.1.1 r.2.1.2.1 (m-300)/\iu 4 r.2.2.2.2.1.1) ?_ fun r hr=>ab.ret hr
 refine ab.loop (fun(k:Nat) y=>k<=4/\(y.1.2.2.2.1:Int)=k/\dl y.2.1.1 y.2.1.2.1 (m-300+55*k)/\iu (4-k) y.2.2.2.2.1.1) (fun k y hy=>?_) q.toNat _ ⟨by omega,by show q=_;omega,h1.1.less (by omega),by show(0:Nat)<=_;omega,fun p hp=>by cases hp⟩
 obtain⟨⟨a',w2,cr,(i:Int),lv⟩,⟨⟨(bQ:List Int),(h5:Int),su⟩,pm,jZ,⟨(ps:List aK),pk⟩,ix⟩⟩:=y;obtain⟨cT,dW,e_,fk⟩:=hy;have dW:i=k:=dW;subst dW;have e_:dl bQ h5 (m-300+55*k):=e_;have fk:iu (4-k) ps:=fk;unfold SK;refine ab.ite (fun hc=>?_) fun hc=>ab.ret ⟨e_.less (by omega),Nat.le_trans fk.1 (by omega),fk.2⟩
 have hc:(k:Int)>0:=of_decide_eq_true hc;have hw:IntKind.i64.wrap ((k:Int)-1)=((k-1:Nat):Int):=by rw[c' (by omega) (by omega)];omega
 refine ab.bind (l3 _ _ e_ (by omega) (by simp)) fun r2 h2=>?_
 refine ab.bind (Qp _ _ h2.1 (by omega) (J2 (by rfl) h2.2)) fun dD h3=>?_
 refine ab.eq (aoV (((ps,()),((dD.2.2.2.2.1.1,(dD.2.2.2.2.1.2.1,(dD.2.2.1,(dD.2.2.2.1,())))),())),()) (4-k) (by omega) fk.ok h3.2.1.ok) ?_
 refine ab.ret ⟨k-1,by omega,by omega,hw,h3.1.less (by omega),?_⟩
 have:=apP fk h3.2.1;exact⟨Nat.le_trans this.1 (by omega),this.2⟩
theorem afC(a)(m:Nat)(h:dl a.2.1.1 a.2.1.2.1 m)(hm:500<=m):ab (w4 a) (fun r=>dl r.2.1.1 r.2.1.2.1 (m-500)/\iu 5 r.2.2.1.1):=by
 unfold w4;refine ab.bind (Qo _ m h (by omega)) fun r1 h1=>?_
 obtain⟨od,⟨u1,⟨(ps:List aK),u2⟩,va⟩⟩:=r1;have hr:iu 4 ps:=h1.2;have m':=hr.1;refine ab.eq (akb (((ps,()),()),()) (hr.ok.yI (by decide))) ?_
 refine ab.bind (ic _ _ h1.1 (by omega)) fun r2 h2=>?_
 have dq:iu 5 ps:=⟨Nat.le_succ_of_le hr.1,hr.2⟩;refine ab.ite (fun _=>?_) fun _=>ab.ite (fun _=>?_) fun _=>ab.ret ⟨h2.1.less (by omega),dq⟩
 ·refine ab.bind (afE _ _ h2.1 (by omega)) fun dD h3=>?_
  refine ab.eq (dy (xs:=ps) (by decide) (by unfold aA;simp;omega)) ?_
  refine ab.ret ⟨h3.1.less (by omega),by show(ps++[_]).length<=5;simp;omega,fun e he=>?_⟩
  have he:e∈ps++[_]:=he;rcases bp.1 he with he|he
  ·exact hr.2 e he
  ·rw[List.mem_singleton.1 he];exact h3.2
 ·refine ab.ite (fun hc=>?_) fun _=>ab.ret ⟨h2.1.less (by omega),dq⟩
  have hc:(ps.length:Int)>0:=of_decide_eq_true hc;refine ab.eq (fO (xs:=ps) (a:=1) (by omega)) ?_
  exact ab.ret ⟨h2.1.less (by omega),by show(ps.drop 1).length<=5;rw[List.length_drop];omega,fun e he=>hr.2 e (List.mem_of_mem_drop he)⟩
def uq(t:List aB)(p:B):Option aB:=match t[bV t p]? with
 |some e=>bif e.path==p then some e else none
 |none=>none
theorem an4{t:List aB}{p:B}{e:aB}(h:uq t p=some e):t[bV t p]? =some e/\e.path=p:=by
 unfold uq at h;cases ay:t[bV t p]? with
 |none=>rw[ay] at h;cases h
 |some x=>
  rw[ay] at h;cases hx:(x.path==p) with
  |false=>simp[hx] at h
  |true=>simp only[hx,ad,bE] at h;subst h;exact⟨rfl,eq_of_beq hx⟩
theorem apG{t:List aB}(ha:f' t){k:Nat}{e:aB}(h:t[k]? =some e):bV t e.path=k:=by
 have h1:=kX (p:=e.path) ha k e h;have h2:Op.bytesLess e.path e.path=false:=wM _;rw[h1] at h2;have h2:¬k<bV t e.path:=of_decide_eq_false h2;rcases Nat.lt_or_ge (bV t e.path) k with h3|h3
 ·exfalso
  have aF:bV t e.path<t.length:=Nat.lt_trans h3 (da h);have bo:=dZ aF;have cp:=kX (p:=e.path) ha (bV t e.path) t[bV t e.path] bo;have iA:Op.bytesLess (t[bV t e.path]).path e.path=true:=by
   have hp:=List.pairwise_iff_getElem.1 ha (bV t e.path) k aF (da h) h3;have:t[k]'(da h)=e:=by
    have:=dZ (da h);rw[h] at this;exact(Option.some.inj this).symm
   rw[this] at hp;exact hp
  rw[iA] at cp;have:=of_decide_eq_true cp.symm;omega
 ·omega
theorem SJ{t:List aB}(ha:f' t){p:B}{e:aB}:uq t p=some e <-> e∈t/\e.path=p:=by
 constructor
 ·intro h;obtain⟨h1,h2⟩:=an4 h;exact⟨eJ h1,h2⟩
 ·rintro⟨h1,rfl⟩;obtain⟨k,hk⟩:=List.mem_iff_getElem?.1 h1;have:=apG ha hk;unfold uq;rw[this,hk];simp
theorem ap5{a b:aB}(h:kR a b=true):a=b:=by
 unfold kR at h;simp only[bC,beq_iff_eq] at h;obtain⟨h1,h2,h3,aF⟩:=h;cases a;cases b;simp only at h1 h2 h3 aF;subst h1 h2 h3 aF;rfl
theorem SC{t:List aB}{k:Nat}{e x:aB}:x∈kc t k e <-> x=e\/x∈t:=by
 constructor
 ·exact GA
 ·unfold kc;intro h;rcases h with rfl|h
  ·simp
  ·have:x∈t.take k++t.drop k:=by rw[List.take_append_drop];exact h
   simp only[bp,List.mem_singleton] at this ⊢;rcases this with h|h
   ·exact .inl (.inl h)
   ·exact .inr h
theorem akC{out D:List aB}{e:aB}(h:ii out e=some D)(x:aB):x∈D <-> x=e\/x∈out:=by
 unfold ii at h;split at h
 ·rename_i q aC;cases hp:(q.path==e.path) with
  |true=>
   rw[hp] at h;cases hc:mT e q with
   |true=>rw[hc] at h;cases h
   |false=>
    rw[hc] at h;cases h;have:kR e q=true:=by
     unfold mT at hc;simp only[Bool.or_eq_false_iff,Bool.not_eq_false'] at hc;exact hc.2
    have:=ap5 this;subst this;constructor
    ·exact .inr
    ·rintro(rfl|h)
     ·exact eJ aC
     ·exact h
  |false=>rw[hp] at h;cases h;exact SC
 ·cases h;exact SC
theorem alJ:∀{es out D:List aB},g_ out es=some D->∀x,x∈D <-> x∈out\/x∈es:=by
 intro es;induction es with
 |nil=>intro out D h x;simp only[g_,bE] at h;subst h;simp
 |cons e r ih=>
  intro out D h x;rw[vw] at h;obtain⟨o1,h1,h2⟩:=Option.bind_eq_some_iff.1 h;rw[ih h2,akC h1,bO];constructor
  ·rintro((h|h)|h)
   ·exact .inr (.inl h)
   ·exact .inl h
   ·exact .inr (.inr h)
  ·rintro(h|h|h)
   ·exact .inl (.inr h)
   ·exact .inl (.inl h)
   ·exact .inr h
theorem aiC:∀{ps:List aK} {out t:List aB},fR out ps=some t->∀x,x∈t <-> x∈out\/∃p,p∈ps/\x∈p.bI:=by
 intro ps;induction ps with
 |nil=>intro out t h x;simp only[fR,bE] at h;subst h;simp
 |cons p r ih=>
  intro out t h x;rw[yW] at h;obtain⟨D,h1,h2⟩:=Option.bind_eq_some_iff.1 h;rw[ih h2,alJ (zQ h1).2];constructor
  ·rintro((h|h)|⟨q,h,an⟩)
   ·exact .inl h
   ·exact .inr ⟨p,ci,h⟩
   ·exact .inr ⟨q,cf _ h,an⟩
  ·rintro(h|⟨q,h,an⟩)
   ·exact .inl (.inl h)
   ·rcases bO.1 h with rfl|h
    ·exact .inl (.inr an)
    ·exact .inr ⟨q,h,an⟩
theorem aiB:∀{ps:List aK} {out t:List aB},dQ out=true->fR out ps=some t->dQ t=true:=by
 intro ps;induction ps with
 |nil=>intro out t aP h;simp only[fR,bE] at h;subst h;exact aP
 |cons p r ih=>
  intro out t aP h;rw[yW] at h;obtain⟨D,h1,h2⟩:=Option.bind_eq_some_iff.1 h;exact ih (zQ h1).1 h2
structure yQ(ps:List aK)(t:List aB):Prop where
 bI:fR [] ps=some t
 arp:ps.all cx=true
 aDl:ps.Pairwise fun p q=>Op.bytesLess p.name q.name=true
section
variable {ps:List aK}{t:List aB}(R:yQ ps t)
include R
theorem yQ.ok:dQ t=true:=aiB (by rfl) R.bI
theorem yQ.aBv{p:aK}(h:p∈ps):iV p.name=true/\dQ p.bI=true:=by
 have:=List.all_eq_true.1 R.arp p h;unfold cx at this;simp only[bC] at this;exact⟨this.1.1.1,this.2⟩
theorem yQ.aBq{p:aK}(h:p∈ps):f' p.bI:=FI (R.aBv h).2
theorem yQ.up{p:aK}(h:p∈ps){path:B}{e:aB}(he:uq p.bI path=some e):uq t path=some e:=by
 obtain⟨aI,aJ⟩:=(SJ (R.aBq h)).1 he;exact(SJ (FI R.ok)).2 ⟨(aiC R.bI e).2 (.inr ⟨p,h,aI⟩),aJ⟩
end
abbrev A1:Shape:=⟨[aO 0 .entry,aO 1 .entry,aj 5],[],26⟩
abbrev Ik:List aR:=[(.ret,⟨[ar 4],[],26⟩),(.exit 0,⟨[],[],26⟩)]
noncomputable def BG(y:A1.J):bP A1 Ik:=
 bif(decide (y.1.2.2.1<(y.1.1.length:Int))) then
(aS y.1.1 y.1.2.2.1).bind fun a=>
(aS y.1.2.1 y.1.2.2.1).bind fun b=>
 bif(!((a.path==b.path)&&((a.kind==b.kind)&&((a.mode==b.mode)&&(a.text==b.text))))) then
 some (.inr (.inl ((false,()),())))
else
 some (.inl ((y.1.1,y.1.2.1,(IntKind.i64.wrap (y.1.2.2.1+(1:Int))),()),()))
else
 some (.inr (.inr ((),())))
noncomputable def I4:A1.J->Option (aG Ik):=bA BG
theorem anj:aV O (ap (codeOf Tryz.f163) 1 58) (aX A1 Ik I4):=bR g0 (by kernel_rfl) ag fun y=>by kernel_rfl
abbrev i163:Shape:=⟨[aO 0 .entry,aO 1 .entry],[],26⟩
abbrev Y5:Shape:=⟨[ar 4],[],26⟩
noncomputable def f163(a:i163.J):Option Y5.J:=
 bif((a.1.1.length:Int) !=(a.1.2.1.length:Int)) then
 some ((false,()),())
else
(I4 ((a.1.1,a.1.2.1,(0:Int),()),())).bind fun b=>
(match b with
|.inl c=>
 some ((c.1.1,()),())
|.inr d=>
 some ((true,()),()))
noncomputable def aaf:aH:=aL af Tryz.f163 i163 Y5 [] f163
theorem as0:aE O 163 aaf:=aM g0 Tryz.func163 (by kernel_rfl) (a7 anj ag) (fun y=>by kernel_rfl) fun a=>by kernel_rfl
theorem aq5{t:bi}{xs:List (den t)}(h:lr (.sl t xs)):xs.length<=maxLen/\∀x,x∈xs->∀d,d∈enc t x->lr d:=by cases h;exact⟨by assumption,by assumption⟩
theorem aj7{xs:List Int}(h:lr (.sl .u8 xs)):∀x,x∈xs->0<=x/\x<=255:=by
 intro x hx;have:=(aq5 h).2 x hx (.int .u8 x) (by simp[enc])
 cases this with
 |int k n hw=>
  simp only[Lit.wf,bC,dY] at hw;have h1:(0:Int)<=x:=hw.1;have h2:x<=(255:Int):=hw.2;exact⟨h1,h2⟩
theorem amA{code:List Int}(h:∀x,x∈code->0<=x/\x<=255):dl (code.take 2000) 0 1000000:=
 ⟨by rw[List.length_take];omega,fun x hx=>h x (List.mem_of_mem_take hx),Int.le_refl _,by decide⟩
theorem FZ{aD:Type}:∀(xs:List aD) (i:Nat),allI (fun _ _=>true) i xs=true:=by
 intro xs;induction xs with
 |nil=>intro i;rfl
 |cons x r ih=>intro i;simp only[allI,ih,Bool.and_self]
theorem akm(a)(h:a.1.1=a.1.2.1)(hl:cw a.1.1.length):f163 a=some ((true,()),()):=by
 obtain⟨⟨xs,bm,u⟩,b7⟩:=a;have h:xs=bm:=h;subst h;have hs:xs.length<=2097152:=hl;have key:I4 ((xs,(xs,((0:Int),()))),())=some (bif allI (fun _ _=>true) 0 xs then .inr ((),()) else .inl ((false,()),())):=by
  refine gv BG xs (fun i=>((xs,(xs,((i:Int),()))),())) _ _ _ (fun i x hx=>?_) ?_
  ·have hi:=da hx;have hw:aA i:=by unfold aA;omega
   simp only[BG,ct hi,ad,cd,hx,Y,beq_self_eq_true,Bool.and_self,bu,ak,b9 hw]
  ·simp only[BG,dL,ak]
 rw[FZ] at key;have hb:((xs.length:Int) !=(xs.length:Int))=false:=by simp
 simp only[f163,hb,ak,key,ad,Y]
abbrev A2:Shape:=⟨[aO 0 .need,aO 1 .need,aj 5],[],26⟩
abbrev Il:List aR:=[(.ret,⟨[ar 4],[],26⟩),(.exit 0,⟨[],[],26⟩)]
noncomputable def BH(y:A2.J):bP A2 Il:=
 bif(decide (y.1.2.2.1<(y.1.1.length:Int))) then
(aS y.1.1 y.1.2.2.1).bind fun a=>
(aS y.1.2.1 y.1.2.2.1).bind fun b=>
 bif(!((a.name==b.name)&&((a.kind==b.kind)&&(a.a6==b.a6)))) then
 some (.inr (.inl ((false,()),())))
else
 some (.inl ((y.1.1,y.1.2.1,(IntKind.i64.wrap (y.1.2.2.1+(1:Int))),()),()))
else
 some (.inr (.inr ((),())))
noncomputable def I5:A2.J->Option (aG Il):=bA BH
theorem ank:aV O (ap (codeOf Tryz.f162) 1 58) (aX A2 Il I5):=bR g0 (by kernel_rfl) ag fun y=>by kernel_rfl
abbrev i162:Shape:=⟨[aO 0 .need,aO 1 .need],[],26⟩
abbrev Y6:Shape:=⟨[ar 4],[],26⟩
noncomputable def f162(a:i162.J):Option Y6.J:=
 bif((a.1.1.length:Int) !=(a.1.2.1.length:Int)) then
 some ((false,()),())
else
(I5 ((a.1.1,a.1.2.1,(0:Int),()),())).bind fun b=>
(match b with
|.inl c=>
 some ((c.1.1,()),())
|.inr d=>
 some ((true,()),()))
noncomputable def aag:aH:=aL af Tryz.f162 i162 Y6 [] f162
theorem z162:aE O 162 aag:=aM g0 Tryz.func162 (by kernel_rfl) (a7 ank ag) (fun y=>by kernel_rfl) fun a=>by kernel_rfl
noncomputable abbrev av1:a8:=[(162,aag),(163,aaf)]
theorem awI:aT O (aZ af av1):=aY ⟨z162,as0,⟨⟩⟩
abbrev i111:Shape:=⟨[ck 0 [ah,ah,br .need,br .entry],ck 1 [ah,ah,br .need,br .entry]],[],31⟩
abbrev ZF:Shape:=⟨[ar 4],[],31⟩
noncomputable def f111(a:i111.J):Option ZF.J:=
 bif(a.1.1.1==a.1.2.1.1) then
 bif(a.1.1.2.1==a.1.2.1.2.1) then
(f162 ((a.1.1.2.2.1,a.1.2.1.2.2.1,()),())).bind fun b=>
 bif b.1.1 then
(f163 ((a.1.1.2.2.2.1,a.1.2.1.2.2.2.1,()),())).bind fun c=>
 some ((c.1.1,()),())
else
 some ((false,()),())
else
 some ((false,()),())
else
 some ((false,()),())
noncomputable def aaI:aH:=aL af Tryz.f111 i111 ZF [] f111
theorem atg:aE O 111 aaI:=aM awI Tryz.func111 (by kernel_rfl) ag (fun y=>by kernel_rfl) fun a=>by kernel_rfl
noncomputable abbrev aAh:a8:=[(111,aaI)]
theorem adY:aT O (aZ af aAh):=aY ⟨atg,⟨⟩⟩
abbrev Ci:Shape:=⟨[aO 0 .pack,aO 1 .pack,aj 5],[],27⟩
abbrev JR:List aR:=[(.ret,⟨[ar 4],[],27⟩),(.exit 0,⟨[],[],27⟩)]
noncomputable def CJ(y:Ci.J):bP Ci JR:=
 bif(decide (y.1.2.2.1<(y.1.1.length:Int))) then
(aS y.1.1 y.1.2.2.1).bind fun a=>
(aS y.1.2.1 y.1.2.2.1).bind fun b=>
(f111 (((a.name,a.a6,a.bl,a.bI,()),(b.name,b.a6,b.bl,b.bI,()),()),())).bind fun c=>
 bif(!c.1.1) then
 some (.inr (.inl ((false,()),())))
else
 some (.inl ((y.1.1,y.1.2.1,(IntKind.i64.wrap (y.1.2.2.1+(1:Int))),()),()))
else
 some (.inr (.inr ((),())))
noncomputable def Kd:Ci.J->Option (aG JR):=bA CJ
theorem apq:aV O (ap (codeOf Tryz.f62) 1 58) (aX Ci JR Kd):=bR adY (by kernel_rfl) ag fun y=>by kernel_rfl
abbrev i62:Shape:=⟨[aO 0 .pack,aO 1 .pack],[],27⟩
abbrev abU:Shape:=⟨[ar 4],[],27⟩
noncomputable def f62(a:i62.J):Option abU.J:=
 bif((a.1.1.length:Int) !=(a.1.2.1.length:Int)) then
 some ((false,()),())
else
(Kd ((a.1.1,a.1.2.1,(0:Int),()),())).bind fun b=>
(match b with
|.inl c=>
 some ((c.1.1,()),())
|.inr d=>
 some ((true,()),()))
noncomputable def ady:aH:=aL af Tryz.f62 i62 abU [] f62
theorem awX:aE O 62 ady:=aM adY Tryz.func62 (by kernel_rfl) (a7 apq ag) (fun y=>by kernel_rfl) fun a=>by kernel_rfl
noncomputable abbrev aAA:a8:=[(62,ady)]
theorem aA2:aT O (aZ af aAA):=aY ⟨awX,⟨⟩⟩
abbrev i32:Shape:=⟨[ck 0 [br .pack],ck 1 [br .pack]],[],10⟩
abbrev acd:Shape:=⟨[ar 4],[],10⟩
noncomputable def f32(a:i32.J):Option acd.J:=
(f62 ((a.1.1.1,a.1.2.1.1,()),())).bind fun b=>
 some ((b.1.1,()),())
noncomputable def ym:aH:=aL af Tryz.f32 i32 acd [] f32
theorem D9:aE O 32 ym:=aM aA2 Tryz.func32 (by kernel_rfl) ag (fun y=>by kernel_rfl) fun a=>by kernel_rfl
theorem air(a)(h:a.1.1=a.1.2.1)(hl:cw a.1.1.length):f162 a=some ((true,()),()):=by
 obtain⟨⟨xs,bm,u⟩,b7⟩:=a;have h:xs=bm:=h;subst h;have hs:xs.length<=2097152:=hl;have key:I5 ((xs,(xs,((0:Int),()))),())=some (bif allI (fun _ _=>true) 0 xs then .inr ((),()) else .inl ((false,()),())):=by
  refine gv BH xs (fun i=>((xs,(xs,((i:Int),()))),())) _ _ _ (fun i x hx=>?_) ?_
  ·have hi:=da hx;have hw:aA i:=by unfold aA;omega
   simp only[BH,ct hi,ad,cd,hx,Y,beq_self_eq_true,Bool.and_self,bu,ak,b9 hw]
  ·simp only[BH,dL,ak]
 rw[FZ] at key;have hb:((xs.length:Int) !=(xs.length:Int))=false:=by simp
 simp only[f162,hb,ak,key,ad,Y]
theorem akn(a)(h:a.1.1.1=a.1.2.1.1)(hl:fu a.1.1.1):f32 a=some ((true,()),()):=by
 obtain⟨⟨⟨xs,od⟩,⟨bm,u1⟩,u⟩,b7⟩:=a;have h:xs=bm:=h;subst h;have hs:xs.length<=2097152:=hl.1;have key:Kd ((xs,(xs,((0:Int),()))),())=some (bif allI (fun _ _=>true) 0 xs then .inr ((),()) else .inl ((false,()),())):=by
  refine gv CJ xs (fun i=>((xs,(xs,((i:Int),()))),())) _ _ _ (fun i x hx=>?_) ?_
  ·have hi:=da hx;have hw:aA i:=by unfold aA;omega
   have qy:=hl.2 x (eJ hx);have e1:=air ((x.bl,(x.bl,())),()) rfl qy.2.2.1.1;have e2:=akm ((x.bI,(x.bI,())),()) rfl qy.2.2.2.1;simp only[CJ,ct hi,ad,cd,hx,Y,f111,beq_self_eq_true,e1,e2,bu,ak,b9 hw]
  ·simp only[CJ,dL,ak]
 rw[FZ] at key;have hb:((xs.length:Int) !=(xs.length:Int))=false:=by simp
 simp only[f32,f62,hb,ak,key,ad,Y]
noncomputable abbrev aAF:a8:=[(58,KY)]
theorem aA6:aT O (aZ af aAF):=aY ⟨WM,⟨⟩⟩
abbrev i26:Shape:=⟨[aO 0 .u8],[],6⟩
abbrev aci:Shape:=⟨[ax 2 2 0],[aw 2 [br .pack]],6⟩
noncomputable def f26(a:i26.J):Option aci.J:=
(w4 (((),()),((a.1.1.take 2000),(0:Int),()),())).bind fun b=>
 some (((),()),(b.2.2.1.1,()),())
noncomputable def adJ:aH:=aL af Tryz.f26 i26 aci [] f26
theorem aw6:aE O 26 adJ:=aM aA6 Tryz.func26 (by kernel_rfl) ag (fun y=>by kernel_rfl) fun a=>by kernel_rfl
abbrev i28:Shape:=⟨[ck 0 [ah,ah],ck 1 [ah,ah]],[],17⟩
abbrev acg:Shape:=⟨[ar 4],[],17⟩
noncomputable def f28(a:i28.J):Option acg.J:=
 bif(a.1.1.1==a.1.2.1.1) then
 some (((a.1.1.2.1==a.1.2.1.2.1),()),())
else
 some ((false,()),())
noncomputable def yo:aH:=aL af Tryz.f28 i28 acg [] f28
theorem z28:aE O 28 yo:=aM g0 Tryz.func28 (by kernel_rfl) ag (fun y=>by kernel_rfl) fun a=>by kernel_rfl
noncomputable abbrev aAi:a8:=[(66,NJ)]
theorem adZ:aT O (aZ af aAi):=aY ⟨abk,⟨⟩⟩
abbrev U9:Shape:=⟨[am 4,am 5,ar 6],[],20⟩
abbrev UT:List aR:=[(.norm,⟨[am 4,ar 18],[],20⟩)]
noncomputable def CK(y:U9.J):Option (aG UT):=
 bif(!(!y.1.2.2.1)) then
 some ((y.1.1,(!(y.1.2.1==([101,110,100,10]:B))),()),())
else
 some ((y.1.1,true,()),())
theorem apr:aV O (ap (codeOf Tryz.f61) 1 28) (aX U9 UT CK):=cm adZ (by kernel_rfl) ag fun y=>by kernel_rfl
abbrev i61:Shape:=⟨[am 0],[],20⟩
abbrev abV:Shape:=⟨[am 2,ar 3],[],20⟩
noncomputable def f61(a:i61.J):Option abV.J:=
(f66 ((a.1.1,()),())).bind fun b=>
(CK ((b.1.1,b.1.2.1,b.1.2.2.1,()),())).bind fun c=>
 bif c.1.2.1 then
 some ((([]:B),false,()),())
else
 some ((c.1.1,true,()),())
noncomputable def adz:aH:=aL af Tryz.f61 i61 abV [] f61
theorem awY:aE O 61 adz:=aM adZ Tryz.func61 (by kernel_rfl) (a7 apr ag) (fun y=>by kernel_rfl) fun a=>by kernel_rfl
noncomputable abbrev aAB:a8:=[(27,yp),(35,NN),(61,adz)]
theorem ad6:aT O (aZ af aAB):=aY ⟨D_,abo,awY,⟨⟩⟩
abbrev Va:Shape:=⟨[ax 1 1 0,ax 2 2 0,ax 3 3 0,ar 4,am 5,ar 6],[aw 1 [ah,ah],bv 5000128 .pack 2 0,aw 2 [.own 5000128],aw 3 [ah,ah]],31⟩
abbrev UW:List aR:=[(.norm,⟨[ax 2 2 0,ax 3 3 0,ar 4,am 5],[bv 5000128 .pack 2 0,aw 2 [.own 5000128],aw 3 [ah,ah]],31⟩)]
noncomputable def Km(y:Va.J):Option (aG UW):=
 bif(!y.1.2.2.2.2.2.1) then
 some (((),(),y.1.2.2.2.1,y.2.1.1,()),y.2.2.1,((),()),(y.2.2.2.2.1.1,y.2.2.2.2.1.2.1,()),())
else
 some (((),(),y.1.2.2.2.1,y.1.2.2.2.2.1,()),y.2.2.1,((),()),(y.2.2.2.2.1.1,y.2.2.2.2.1.2.1,()),())
theorem apA:aV O (ap (codeOf Tryz.f31) 1 14) (aX Va UW Km):=cm ad6 (by kernel_rfl) ag fun y=>by kernel_rfl
abbrev i31:Shape:=⟨[ck 0 [ah,ah]],[],31⟩
abbrev xQ:Shape:=⟨[ax 2 2 0,ax 3 3 0,ar 4],[bv 5000128 .pack 2 0,aw 2 [.own 5000128],aw 3 [ah,ah]],31⟩
noncomputable def f31(a:i31.J):Option xQ.J:=
(f61 ((a.1.1.2.1,()),())).bind fun b=>
(Km (((),(),(),false,b.1.1,b.1.2.1,()),(a.1.1.1,a.1.1.2.1,()),([]:List aK),((),()),(([]:B),([]:B),()),())).bind fun c=>
(f35 ((c.1.2.2.2.1,()),())).bind fun d=>
 bif(!d.1.2.1) then
 some (((),(),false,()),([]:List aK),((),()),(([]:B),([]:B),()),())
else
(f27 (((d.2.1,()),()),())).bind fun e=>
 some (((),(),true,()),d.2.1,((),()),(e.2.1.1,e.2.1.2.1,()),())
noncomputable def yn:aH:=aL af Tryz.f31 i31 xQ [] f31
theorem z31:aE O 31 yn:=aM ad6 Tryz.func31 (by kernel_rfl) (a7 apA ag) (fun y=>by kernel_rfl) fun a=>by kernel_rfl
noncomputable abbrev aBX:a8:=[(14,qE),(26,adJ),(27,yp),(28,yo),(29,ER),(30,sp),(31,yn),(32,ym)]
theorem Fe:aT O (aZ af aBX):=aY ⟨xG,aw6,D_,z28,Ms,uA,z31,D9,⟨⟩⟩
abbrev U7:Shape:=⟨[ar 2,ax 3 3 0,ax 4 4 0],[aw 3 [br .pack],aw 4 [ah,ah]],53⟩
abbrev UR:List aR:=[(.norm,⟨[ar 2,ax 3 3 0,ax 4 4 0,ar 24],[aw 3 [br .pack],aw 4 [ah,ah]],53⟩)]
noncomputable def Wf(y:U7.J):Option (aG UR):=
(f29 (((y.2.1.1,()),()),())).bind fun a=>
(f28 (((y.2.2.1.1,y.2.2.1.2.1,()),(a.2.1.1,a.2.1.2.1,()),()),())).bind fun b=>
 bif(!b.1.1) then
 some ((y.1.1,(),(),true,()),(y.2.1.1,()),(y.2.2.1.1,y.2.2.1.2.1,()),())
else
(f30 (((y.2.1.1,()),()),())).bind fun c=>
 some ((y.1.1,(),(),(!c.1.1),()),(y.2.1.1,()),(y.2.2.1.1,y.2.2.1.2.1,()),())
theorem apn:aV O (ap (codeOf Tryz.f6) 1 124) (aX U7 UR Wf):=cm Fe (by kernel_rfl) ag fun y=>by kernel_rfl
abbrev i6:Shape:=⟨[aO 0 .u8],[],53⟩
abbrev E2:Shape:=⟨[ar 2],[],53⟩
noncomputable def f6(a:i6.J):Option E2.J:=
 bif(decide ((a.1.1.length:Int)>(1048576:Int))) then
 some ((true,()),())
else
(f26 ((a.1.1,()),())).bind fun b=>
(f27 (((b.2.1.1,()),()),())).bind fun c=>
(Wf ((false,(),(),()),(b.2.1.1,()),(c.2.1.1,c.2.1.2.1,()),())).bind fun d=>
 bif d.1.2.2.2.1 then
(f29 (((d.2.1.1,()),()),())).bind fun e=>
(f28 (((d.2.2.1.1,d.2.2.1.2.1,()),(e.2.1.1,e.2.1.2.1,()),()),())).bind fun f=>
 some ((f.1.1,()),())
else
(f31 (((d.2.2.1.1,d.2.2.1.2.1,()),()),())).bind fun g=>
(f14 (((d.2.2.1.1,d.2.2.1.2.1,()),()),())).bind fun h=>
 bif(h.1.1==g.1.2.2.1) then
 bif(!(!g.1.2.2.1)) then
(f32 (((g.2.1,()),(d.2.1.1,()),()),())).bind fun i=>
 bif i.1.1 then
(f28 (((g.2.2.2.1.1,g.2.2.2.1.2.1,()),(d.2.2.1.1,d.2.2.1.2.1,()),()),())).bind fun j=>
 some ((j.1.1,()),())
else
 some ((false,()),())
else
 some ((true,()),())
else
 some ((false,()),())
noncomputable def Ou:aH:=aL af Tryz.f6 i6 E2 [] f6
theorem NX:aE O 6 Ou:=aM Fe Tryz.func6 (by kernel_rfl) (a7 apn ag) (fun y=>by kernel_rfl) fun a=>by kernel_rfl
def gL(s:B):Option B:=match ji s with|some (x,y)=>bif y==gC then some x else none|none=>none
theorem aif(s:B)(hs:aA s.length):f61 ((s,()),())=some ((((gL s).getD [],((gL s).isSome,()))),()):=by
 have e1:=Fw s hs;unfold gL;cases hz:ji s with
 |none=>
  rw[hz] at e1;simp only[f61,e1,Y,CK,Option.isSome_none,bJ,bu,ak,ad];rfl
 |some q=>
  obtain⟨x,y⟩:=q;rw[hz] at e1;have hw:(y==([101,110,100,10]:B))=(y==gC):=rfl;simp only[f61,e1,Y,CK,Option.isSome_some,Option.getD_some,bu,bJ,ad,hw];cases y==gC<;>rfl
abbrev aBR(ps:List aK)(d:B):xQ.J:=(((),((),(true,()))),(ps,(((),()),((d,(([]:B),())),()))))
abbrev adO:xQ.J:=(((),((),(false,()))),(([]:List aK),(((),()),((([]:B),(([]:B),())),()))))
def adN(D:Option (List aK))(d:B):xQ.J:=match D with|some ps=>aBR ps d|none=>adO
theorem aiS{s x y:B}(h:ji s=some (x,y)):x.length<=s.length:=by
 have:=(y9 h).1;rw[this];unfold cS;simp;omega
theorem aiW{s x:B}(h:gL s=some x):x.length<=s.length:=by
 unfold gL at h;cases hz:ji s with
 |none=>rw[hz] at h;cases h
 |some q=>
  obtain⟨a,b⟩:=q;rw[hz] at h;have h:(bif b==gC then some a else none)=some x:=h
  cases hb:b==gC with
  |false=>rw[hb] at h;cases h
  |true=>rw[hb] at h;cases h;exact aiS hz
theorem Pa(d t:B)(aa:d.length<=1000000000)(ay:t.length<=1000000000):∃D:Option (List aK),f31 (((d,(t,())),()),())=some (adN D ((gL t).getD d))/\mG D (nZ ((gL t).getD d)):=by
 have e1:=aif t (by unfold aA;omega)
 have hl:((gL t).getD d).length<=1000000000:=by
  cases h:gL t with
  |none=>exact aa
  |some x=>have:=aiW h;show x.length<=_;omega
 obtain⟨D,e2,h2⟩:=PM ((gL t).getD d) hl;have fin:∀x:B,x=(gL t).getD d->((f35 ((x,()),())).bind fun KI=>
   bif(!KI.1.2.1) then some adO else(f27 (((KI.2.1,()),()),())).bind fun WU=>some (((),((),(true,()))),(KI.2.1,(((),()),((WU.2.1.1,(WU.2.1.2.1,())),())))))=some (adN D ((gL t).getD d)):=by
  intro x hx;subst hx;rw[e2];cases D with
  |none=>rfl
  |some ps=>
   obtain⟨h3,aF,bo⟩:=(h2 ps).1 rfl;obtain⟨hb,hv⟩:=we bo (by have:=(kW h3).2;omega)
   have bz:=PN ps hb hv;rw[h3,aF] at bz;have bz:f27 (((ps,()),()),())=some (((),()),(((gL t).getD d,(([]:B),())),())):=bz;show(f27 (((ps,()),()),())).bind _=_;rw[bz];rfl
 refine⟨D,?_,h2⟩;simp only[f31,e1,Y,Km];cases h:gL t with
 |none=>
  rw[h] at fin;simp only[Option.isSome_none,bJ,ad,Y];exact fin d rfl
 |some x=>
  rw[h] at fin;simp only[Option.isSome_some,bu,ak,Y];exact fin x rfl
theorem ahC:∀{ps qs:List aK},(∀p,p∈ps->(bD p).length<1000000000)->(∀q,q∈qs->(bD q).length<=4000)->ce ps=ce qs->∀p,p∈ps->(bD p).length<=4000:=by
 intro ps;induction ps with
 |nil=>intro qs _ _ _ p hp;cases hp
 |cons p ps ih=>
  intro qs h1 h2 he x hx;have fx:=zA (bD p) (ce ps) (h1 p ci);rw[<-vC,he] at fx;cases qs with
  |nil=>cases fx
  |cons q qs=>
   have aC:=h2 q ci;have z2:=zA (bD q) (ce qs) (by omega)
   rw[<-vC,fx] at z2;simp only[bE,Prod.mk.injEq] at z2;rcases bO.1 hx with rfl|hx
   ·rw[z2.1];exact aC
   ·exact ih (fun p hp=>h1 p (cf _ hp)) (fun q aC=>h2 q (cf _ aC)) z2.2 x hx
theorem akK{ps qs:List aK}{D:Option (List aK)}(hb:fu ps)(hr:eE ps=true)(h:mG D (nZ (ce ps)))(aC:D=some qs):qs=ps:=by
 obtain⟨h1,h2,h3⟩:=(h qs).1 aC;have hk:=(kW hr).1;have hs:=ahC (ps:=ps) (qs:=qs) (fun p hp=>by have:=Af (hb.2 p hp) (hk p hp);omega) (fun q aC=>(h3 q aC).2) h2.symm
 have:=(h ps).2 ⟨hr,rfl,fun p hp=>⟨hk p hp,hs p hp⟩⟩
 rw[aC] at this;exact Option.some.inj this
theorem RL(s t:B):f28 (((s,(t,())),((s,(t,())),())),())=some ((true,()),()):=by
 simp only[f28,beq_self_eq_true,ad]
noncomputable abbrev aAa:a8:=[(73,pi),(74,yk)]
theorem adT:aT O (aZ af aAa):=aY ⟨ql,D7,⟨⟩⟩
abbrev U4:Shape:=⟨[bd 4 3000256,aj 5],[bc 3000256 .str 4 0],41⟩
abbrev UO:List aR:=[(.norm,⟨[bd 4 3000256,aj 5,ar 35],[bc 3000256 .str 4 0],41⟩)]
noncomputable def We(y:U4.J):Option (aG UO):=
 bif(!(decide ((y.2.1.length:Int)<(2:Int)))) then
 bif(!(decide (y.1.2.1<(0:Int)))) then
(bh y.2.1.length (1:Int)).bind fun a=>
(y.2.1[a]?).bind fun b=>
 bif(!((b.length:Int) !=(IntKind.i64.wrap (y.1.2.1+(4:Int))))) then
(bh y.2.1.length (1:Int)).bind fun c=>
(y.2.1[c]?).bind fun d=>
(bq d y.1.2.1 (d.length:Int)).bind fun e=>
 some (((),y.1.2.1,(!(e==([101,110,100,10]:B))),()),y.2.1,())
else
 some (((),y.1.2.1,true,()),y.2.1,())
else
 some (((),y.1.2.1,true,()),y.2.1,())
else
 some (((),y.1.2.1,true,()),y.2.1,())
theorem api:aV O (ap (codeOf Tryz.f80) 1 60) (aX U4 UO We):=cm adT (by kernel_rfl) ag fun y=>by kernel_rfl
abbrev i80:Shape:=⟨[am 0],[],41⟩
abbrev abM:Shape:=⟨[am 2,ar 3],[],41⟩
noncomputable def f80(a:i80.J):Option abM.J:=
(f73 ((a.1.1,(10:Int),(1:Int),()),())).bind fun b=>
(bh b.2.1.length (0:Int)).bind fun c=>
(b.2.1[c]?).bind fun d=>
(f74 ((d,()),())).bind fun e=>
(We (((),e.1.1,()),b.2.1,())).bind fun f=>
 bif f.1.2.2.1 then
 some ((([]:B),false,()),())
else
(bh f.2.1.length (1:Int)).bind fun g=>
(f.2.1[g]?).bind fun h=>
(bq h (0:Int) f.1.2.1).bind fun i=>
 some ((i,true,()),())
noncomputable def adt:aH:=aL af Tryz.f80 i80 abM [] f80
theorem z80:aE O 80 adt:=aM adT Tryz.func80 (by kernel_rfl) (a7 api ag) (fun y=>by kernel_rfl) fun a=>by kernel_rfl
noncomputable abbrev aAs:a8:=[(39,NL),(80,adt)]
theorem ad4:aT O (aZ af aAs):=aY ⟨abm,z80,⟨⟩⟩
abbrev U':Shape:=⟨[ax 1 1 0,ax 2 2 0,ax 3 3 0,am 5,ar 6],[aw 1 [ah,ah],bv 5000128 .pack 2 0,aw 2 [.own 5000128],aw 3 [ah,ah]],31⟩
abbrev UV:List aR:=[(.norm,⟨[ax 2 2 0,ax 3 3 0,am 5],[bv 5000128 .pack 2 0,aw 2 [.own 5000128],aw 3 [ah,ah]],31⟩)]
noncomputable def Wg(y:U'.J):Option (aG UV):=
 bif(!y.1.2.2.2.2.1) then
 some (((),(),y.2.1.1,()),y.2.2.1,((),()),(y.2.2.2.2.1.1,y.2.2.2.2.1.2.1,()),())
else
 some (((),(),y.1.2.2.2.1,()),y.2.2.1,((),()),(y.2.2.2.2.1.1,y.2.2.2.2.1.2.1,()),())
theorem apx:aV O (ap (codeOf Tryz.f42) 1 14) (aX U' UV Wg):=cm ad4 (by kernel_rfl) ag fun y=>by kernel_rfl
abbrev i42:Shape:=⟨[ck 0 [ah,ah]],[],31⟩
abbrev ab6:Shape:=⟨[ax 2 2 0,ax 3 3 0,ar 4],[bv 5000128 .pack 2 0,aw 2 [.own 5000128],aw 3 [ah,ah]],31⟩
noncomputable def f42(a:i42.J):Option ab6.J:=
(f80 ((a.1.1.2.1,()),())).bind fun b=>
(Wg (((),(),(),b.1.1,b.1.2.1,()),(a.1.1.1,a.1.1.2.1,()),([]:List aK),((),()),(([]:B),([]:B),()),())).bind fun c=>
(f39 ((c.1.2.2.1,()),())).bind fun d=>
 bif(!d.1.2.1) then
 some (((),(),false,()),([]:List aK),((),()),(([]:B),([]:B),()),())
else
 some (((),(),true,()),d.2.1,((),()),(c.1.2.2.1,([]:B),()),())
noncomputable def adG:aH:=aL af Tryz.f42 i42 ab6 [] f42
theorem aw4:aE O 42 adG:=aM ad4 Tryz.func42 (by kernel_rfl) (a7 apx ag) (fun y=>by kernel_rfl) fun a=>by kernel_rfl
theorem alD{e:aB}(h:oj e)(he:ls e):(eo e).length<=500:=by
 have h1:=Br h;have aF:e.text.length<=200:=he.2;have h3:e.path.length<=200:=he.1;have h2:=j4 e.text.length (by omega)
 unfold eo;cases e.kind==1<;>cases e.kind==3<;>simp<;>omega
theorem alw{n:bF}(h:EL n):(cL n).length<=410:=by
 have h1:n.name.length<=200:=h.1;have h2:n.a6.length<=200:=h.2;have h3:=Gh n.kind;unfold cL cX;simp;omega
theorem anK{p:aK}(h:so p)(hk:cx p=true):(bD p).length<=15000:=by
 obtain⟨_,_,_,_,_,ay⟩:=nq hk;obtain⟨⟨h1,_⟩,h2,⟨h3,aF⟩,bo,cp⟩:=h;have h1:p.name.length<=200:=h1;have h2:p.a6.length<=200:=h2;have aI:=ny (f:=cL) (xs:=p.bl) (n:=410) fun n hn=>alw (aF n hn)
 have aJ:(dt p.bI).length<=p.bI.length*500:=ny (f:=eo) (xs:=p.bI) (n:=500) fun e he=>alD (qQ ay e he) (cp e he)
 have bS:p.bl.length*410<=3*410:=Nat.mul_le_mul_right _ h3;have cY:p.bI.length*500<=17*500:=Nat.mul_le_mul_right _ bo;unfold bD dJ iG;generalize p.bl.flatMap cL=A at aI ⊢;generalize dt p.bI=bx at aJ ⊢;simp[zP];omega
theorem IJ{ps:List aK}(h:iu 5 ps)(hr:eE ps=true):(ce ps).length<=100000:=by
 have hk:=(kW hr).1;have h1:=ny (f:=fun p=>cS (bD p)) (xs:=ps) (n:=16000) fun p hp=>by
  have:=anK (h.2 p hp) (hk p hp);have:=j4 (bD p).length (by omega)
  show(cS (bD p)).length<=16000;unfold cS;simp;omega
 have aF:ps.length*16000<=5*16000:=Nat.mul_le_mul_right _ h.1;have e:(ce ps).length=(ps.flatMap fun p=>cS (bD p)).length:=rfl
 omega
theorem anR{ps:List aK}(h:iu 5 ps)(hr:eE ps=true):(fE ps).length<=200000:=by
 have:=IJ h hr;have:=j4 (ce ps).length (by omega)
 unfold fE cS;simp[gC];omega
theorem aog{ps:List aK}(h:iu 5 ps):(bif eE ps then ce ps else []).length<=100000:=by
 cases hr:eE ps with
 |false=>exact Nat.zero_le _
 |true=>exact IJ h hr
theorem aoj{m n:Nat}(h:Lib.itoa (m:Int)=Lib.itoa (n:Int)):m=n:=by
 have h1:=wm m;have h2:=wm n;rw[ox,ox] at h;rw[h,h2] at h1;omega
theorem akL(w:B)(hw:w.length<1000000000):gL (cS w++gC)=some w:=by
 unfold gL;rw[zA w gC hw];rfl
theorem aiR(w z:B)(N:Nat)(h:gL ((cS w++gC).take N)=some z):(cS w++gC).take N=cS w++gC:=by
 have hp:(cS w++gC).take N++(cS w++gC).drop N=cS w++gC:=List.take_append_drop N _;generalize(cS w++gC).take N=P at h hp ⊢;generalize(cS w++gC).drop N=R at hp;unfold gL at h;cases hz:ji P with
 |none=>rw[hz] at h;cases h
 |some q=>
  obtain⟨x,y⟩:=q;rw[hz] at h;have h:(bif y==gC then some x else none)=some z:=h
  cases hb:y==gC with
  |false=>rw[hb] at h;cases h
  |true=>
   have hy:y=gC:=eq_of_beq hb;have vf:=(y9 hz).1;subst hy;have c1:=zm x (gC++R);have c2:=zm w gC;rw[<-hp,vf,List.append_assoc,c1] at c2;simp only[bE,Prod.mk.injEq] at c2;have hl:=aoj c2.1;have hR:R.length=0:=by
    have:=congrArg List.length c2.2;simp only[dx] at this;omega
   rw[List.length_eq_zero_iff.1 hR,List.append_nil] at hp;exact hp
noncomputable abbrev aAu:a8:=[(29,ER),(58,KY),(72,KX),(77,Do),(78,jl)]
theorem aAZ:aT O (aZ af aAu):=aY ⟨Ms,WM,WL,KD,jJ,⟨⟩⟩
abbrev i40:Shape:=⟨[aO 0 .u8],[],18⟩
abbrev ab8:Shape:=⟨[ax 2 2 0,ax 3 3 0,aj 4],[aw 2 [ah,ah],aw 3 [br .pack]],18⟩
noncomputable def f40(a:i40.J):Option ab8.J:=
(w3 (((),()),((a.1.1.take 2000),(0:Int),()),())).bind fun b=>
(f29 (((b.2.2.1.1,()),()),())).bind fun c=>
(w4 (((),()),(b.2.1.1,b.2.1.2.1,()),())).bind fun d=>
(gy (((),(400:Int),()),(d.2.1.1,d.2.1.2.1,()),())).bind fun e=>
(ua (((),([((-1):Int),(0:Int),(1:Int),(5:Int),e.1.2.1,(100000:Int)]:List Int),()),(e.2.1.1,e.2.1.2.1,()),())).bind fun f=>
 some (((),(),f.1.2.1,()),(c.2.1.1,c.2.1.2.1,()),(d.2.2.1.1,()),())
noncomputable def EQ:aH:=aL af Tryz.f40 i40 ab8 [] f40
theorem z40:aE O 40 EQ:=aM aAZ Tryz.func40 (by kernel_rfl) ag (fun y=>by kernel_rfl) fun a=>by kernel_rfl
noncomputable abbrev aBV:a8:=[(12,sq),(14,qE),(16,yq),(18,ES),(27,yp),(28,yo),(30,sp),(31,yn),(32,ym),(40,EQ)]
theorem Fb:aT O (aZ af aBV):=aY ⟨z12,xG,D',Mt,D_,z28,uA,z31,D9,z40,⟨⟩⟩
abbrev U1:Shape:=⟨[ar 2,ax 3 3 0,ax 4 4 0,aj 5,ax 6 6 0],[aw 3 [ah,ah],aw 4 [br .pack],aw 6 [ah,ah]],108⟩
abbrev UL:List aR:=[(.norm,⟨[ar 2,ax 3 3 0,ax 4 4 0,aj 5,ax 6 6 0,ar 50],[aw 3 [ah,ah],aw 4 [br .pack],aw 6 [ah,ah]],108⟩)]
noncomputable def Wd(y:U1.J):Option (aG UL):=
(f16 (((y.2.1.1,y.2.1.2.1,()),(y.2.2.1.1,()),y.1.2.2.2.1,()),())).bind fun a=>
(f28 (((y.2.2.2.1.1,y.2.2.2.1.2.1,()),(a.2.1.1,a.2.1.2.1,()),()),())).bind fun b=>
 bif(!b.1.1) then
 some ((y.1.1,(),(),y.1.2.2.2.1,(),true,()),(y.2.1.1,y.2.1.2.1,()),(y.2.2.1.1,()),(y.2.2.2.1.1,y.2.2.2.1.2.1,()),())
else
(f14 (((y.2.1.1,y.2.1.2.1,()),()),())).bind fun c=>
(f12 (((y.2.1.1,y.2.1.2.1,()),()),())).bind fun d=>
 bif(!(c.1.1==d.1.1)) then
 some ((y.1.1,(),(),y.1.2.2.2.1,(),true,()),(y.2.1.1,y.2.1.2.1,()),(y.2.2.1.1,()),(y.2.2.2.1.1,y.2.2.2.1.2.1,()),())
else
(f12 (((y.2.1.1,y.2.1.2.1,()),()),())).bind fun e=>
 bif(!e.1.1) then
 some ((y.1.1,(),(),y.1.2.2.2.1,(),true,()),(y.2.1.1,y.2.1.2.1,()),(y.2.2.1.1,()),(y.2.2.2.1.1,y.2.2.2.1.2.1,()),())
else
(f30 (((y.2.2.1.1,()),()),())).bind fun f=>
 some ((y.1.1,(),(),y.1.2.2.2.1,(),(!f.1.1),()),(y.2.1.1,y.2.1.2.1,()),(y.2.2.1.1,()),(y.2.2.2.1.1,y.2.2.2.1.2.1,()),())
theorem ao8:aV O (ap (codeOf Tryz.f9) 1 124) (aX U1 UL Wd):=cm Fb (by kernel_rfl) ag fun y=>by kernel_rfl
abbrev i9:Shape:=⟨[aO 0 .u8],[],108⟩
abbrev N8:Shape:=⟨[ar 2],[],108⟩
noncomputable def f9(a:i9.J):Option N8.J:=
 bif(decide ((a.1.1.length:Int)>(1048576:Int))) then
 some ((true,()),())
else
(f40 ((a.1.1,()),())).bind fun b=>
(f18 (((b.2.1.1,b.2.1.2.1,()),(b.2.2.1.1,()),b.1.2.2.1,()),())).bind fun c=>
(Wd ((false,(),(),b.1.2.2.1,(),()),(b.2.1.1,b.2.1.2.1,()),(b.2.2.1.1,()),(c.2.1.1,c.2.1.2.1,()),())).bind fun d=>
 bif d.1.2.2.2.2.2.1 then
(f16 (((d.2.1.1,d.2.1.2.1,()),(d.2.2.1.1,()),d.1.2.2.2.1,()),())).bind fun e=>
(f28 (((d.2.2.2.1.1,d.2.2.2.1.2.1,()),(e.2.1.1,e.2.1.2.1,()),()),())).bind fun f=>
 bif f.1.1 then
(f14 (((d.2.1.1,d.2.1.2.1,()),()),())).bind fun g=>
(f12 (((d.2.1.1,d.2.1.2.1,()),()),())).bind fun h=>
 some (((g.1.1==h.1.1),()),())
else
 some ((false,()),())
else
(f31 (((d.2.2.2.1.1,d.2.2.2.1.2.1,()),()),())).bind fun i=>
(f31 (((d.2.1.1,d.2.1.2.1,()),()),())).bind fun j=>
(f18 (((d.2.1.1,d.2.1.2.1,()),(d.2.2.1.1,()),(1000000:Int),()),())).bind fun k=>
 bif(d.2.2.2.1.2.1==k.2.1.2.1) then
 bif(!i.1.2.2.1) then
 some ((true,()),())
else
(f32 (((i.2.1,()),(d.2.2.1.1,()),()),())).bind fun l=>
 bif l.1.1 then
(f27 (((d.2.2.1.1,()),()),())).bind fun m=>
(f28 (((i.2.2.2.1.1,i.2.2.2.1.2.1,()),(m.2.1.1,m.2.1.2.1,()),()),())).bind fun n=>
 some ((n.1.1,()),())
else
 some ((false,()),())
else
 bif i.1.2.2.1 then
(f32 (((i.2.1,()),(j.2.1,()),()),())).bind fun D=>
 bif D.1.1 then
(f28 (((i.2.2.2.1.1,i.2.2.2.1.2.1,()),(d.2.1.1,d.2.1.2.1,()),()),())).bind fun p=>
 some ((p.1.1,()),())
else
 some ((false,()),())
else
 some ((false,()),())
noncomputable def yP:aH:=aL af Tryz.f9 i9 N8 [] f9
theorem z9:aE O 9 yP:=aM Fb Tryz.func9 (by kernel_rfl) (a7 ao8 ag) (fun y=>by kernel_rfl) fun a=>by kernel_rfl
theorem ae8(a)(h:dl (a.1.1.take 2000) 0 1000000):ab (f40 a) (fun r=>(∃oY,iu 5 oY/\r.2.1.1=(bif eE oY then ce oY else [])/\r.2.1.2.1=[])/\iu 5 r.2.2.1.1):=by
 unfold f40;refine ab.bind (Qo _ 1000000 h (by decide)) fun r1 h1=>?_
 obtain⟨od,⟨⟨(b1:List Int),(iS:Int),u1⟩,⟨(oY:List aK),u2⟩,va⟩⟩:=r1;have hr:iu 4 oY:=h1.2;have dq:iu 5 oY:=⟨Nat.le_succ_of_le hr.1,hr.2⟩;refine ab.eq (Qv oY (dq.ok.yI (by decide)) dq.ok.vs) ?_
 refine ab.bind (afC _ _ h1.1 (by decide)) fun r2 h2=>?_
 refine ab.bind (ic _ _ h2.1 (by decide)) fun dD h3=>?_
 refine ab.bind (KF _ _ h3.1 (by decide) (by simp)) fun gp aF=>?_
 exact ab.ret ⟨⟨oY,dq,rfl,rfl⟩,h2.2⟩
noncomputable abbrev aAt:a8:=[(16,yq),(40,EQ),(78,jl),(79,k6)]
theorem aAY:aT O (aZ af aAt):=aY ⟨D',z40,jJ,lT,⟨⟩⟩
abbrev i41:Shape:=⟨[aO 0 .u8],[],28⟩
abbrev ab7:Shape:=⟨[ax 2 2 0],[aw 2 [ah,ah]],28⟩
noncomputable def f41(a:i41.J):Option ab7.J:=
(f40 ((a.1.1,()),())).bind fun b=>
(gy (((),(8:Int),()),((a.1.1.take 2000),(0:Int),()),())).bind fun c=>
 bif(c.1.2.1==(0:Int)) then
(jL (((),([([48,10,101,110,100,10]:B),([49,10,120,101,110,100,10]:B),([101,110,100,10]:B)]:List B),()),(c.2.1.1,c.2.1.2.1,()),())).bind fun d=>
 some (((),()),(b.2.1.1,d.1.2.1,()),())
else
(f16 (((b.2.1.1,b.2.1.2.1,()),(b.2.2.1.1,()),b.1.2.2.1,()),())).bind fun e=>
 some (((),()),(e.2.1.1,e.2.1.2.1,()),())
noncomputable def adH:aH:=aL af Tryz.f41 i41 ab7 [] f41
theorem aw5:aE O 41 adH:=aM aAY Tryz.func41 (by kernel_rfl) ag (fun y=>by kernel_rfl) fun a=>by kernel_rfl
noncomputable abbrev aAN:a8:=[(14,qE),(28,yo),(31,yn),(32,ym),(41,adH),(42,adG),(43,yl)]
theorem EX:aT O (aZ af aAN):=aY ⟨xG,z28,z31,D9,aw5,aw4,D8,⟨⟩⟩
abbrev TH:Shape:=⟨[ax 4 4 0,ax 5 5 0,ar 6,ax 7 7 0,ax 8 8 0,ar 9],[bv 5000256 .pack 4 0,aw 4 [.own 5000256],aw 5 [ah,ah],bv 5000448 .pack 7 0,aw 7 [.own 5000448],aw 8 [ah,ah]],87⟩
abbrev Tl:List aR:=[(.norm,⟨[ax 4 4 0,ax 5 5 0,ar 6,ax 7 7 0,ax 8 8 0,ar 9,ar 48],[bv 5000256 .pack 4 0,aw 4 [.own 5000256],aw 5 [ah,ah],bv 5000448 .pack 7 0,aw 7 [.own 5000448],aw 8 [ah,ah]],87⟩)]
noncomputable def Up(y:TH.J):Option (aG Tl):=
 bif(!(!(y.1.2.2.1==y.1.2.2.2.2.2.1))) then
(f32 (((y.2.1,()),(y.2.2.2.2.1,()),()),())).bind fun a=>
 bif(!(!a.1.1)) then
(f28 (((y.2.2.2.1.1,y.2.2.2.1.2.1,()),(y.2.2.2.2.2.2.1.1,y.2.2.2.2.2.2.1.2.1,()),()),())).bind fun b=>
 bif(!(!b.1.1)) then
 some (((),(),y.1.2.2.1,(),(),y.1.2.2.2.2.2.1,(!y.1.2.2.1),()),y.2.1,((),()),(y.2.2.2.1.1,y.2.2.2.1.2.1,()),y.2.2.2.2.1,((),()),(y.2.2.2.2.2.2.1.1,y.2.2.2.2.2.2.1.2.1,()),())
else
 some (((),(),y.1.2.2.1,(),(),y.1.2.2.2.2.2.1,true,()),y.2.1,((),()),(y.2.2.2.1.1,y.2.2.2.1.2.1,()),y.2.2.2.2.1,((),()),(y.2.2.2.2.2.2.1.1,y.2.2.2.2.2.2.1.2.1,()),())
else
 some (((),(),y.1.2.2.1,(),(),y.1.2.2.2.2.2.1,true,()),y.2.1,((),()),(y.2.2.2.1.1,y.2.2.2.1.2.1,()),y.2.2.2.2.1,((),()),(y.2.2.2.2.2.2.1.1,y.2.2.2.2.2.2.1.2.1,()),())
else
 some (((),(),y.1.2.2.1,(),(),y.1.2.2.2.2.2.1,true,()),y.2.1,((),()),(y.2.2.2.1.1,y.2.2.2.1.2.1,()),y.2.2.2.2.1,((),()),(y.2.2.2.2.2.2.1.1,y.2.2.2.2.2.2.1.2.1,()),())
theorem anG:aV O (ap (codeOf Tryz.f10) 1 252) (aX TH Tl Up):=cm EX (by kernel_rfl) ag fun y=>by kernel_rfl
abbrev i10:Shape:=⟨[aO 0 .u8],[],87⟩
abbrev acr:Shape:=⟨[ar 2],[],87⟩
noncomputable def f10(a:i10.J):Option acr.J:=
 bif(decide ((a.1.1.length:Int)>(1048576:Int))) then
 some ((true,()),())
else
(f41 ((a.1.1,()),())).bind fun b=>
(f31 (((b.2.1.1,b.2.1.2.1,()),()),())).bind fun c=>
(f42 (((b.2.1.1,b.2.1.2.1,()),()),())).bind fun d=>
(Up (((),(),c.1.2.2.1,(),(),d.1.2.2.1,()),c.2.1,((),()),(c.2.2.2.1.1,c.2.2.2.1.2.1,()),d.2.1,((),()),(d.2.2.2.1.1,d.2.2.2.1.2.1,()),())).bind fun e=>
 bif e.1.2.2.2.2.2.2.1 then
 bif(e.1.2.2.1==e.1.2.2.2.2.2.1) then
(f32 (((e.2.1,()),(e.2.2.2.2.1,()),()),())).bind fun f=>
 bif f.1.1 then
(f28 (((e.2.2.2.1.1,e.2.2.2.1.2.1,()),(e.2.2.2.2.2.2.1.1,e.2.2.2.2.2.2.1.2.1,()),()),())).bind fun g=>
 some ((g.1.1,()),())
else
 some ((false,()),())
else
 some ((false,()),())
else
(f31 (((e.2.2.2.1.1,e.2.2.2.1.2.1,()),()),())).bind fun h=>
(f43 (((e.2.1,()),()),())).bind fun i=>
 bif i.1.1 then
(f14 (((e.2.2.2.1.1,e.2.2.2.1.2.1,()),()),())).bind fun j=>
 bif j.1.1 then
 bif h.1.2.2.1 then
(f32 (((h.2.1,()),(e.2.1,()),()),())).bind fun k=>
 bif k.1.1 then
(f28 (((h.2.2.2.1.1,h.2.2.2.1.2.1,()),(e.2.2.2.1.1,e.2.2.2.1.2.1,()),()),())).bind fun l=>
 some ((l.1.1,()),())
else
 some ((false,()),())
else
 some ((false,()),())
else
 some ((false,()),())
else
 some ((false,()),())
noncomputable def oa:aH:=aL af Tryz.f10 i10 acr [] f10
theorem abt:aE O 10 oa:=aM EX Tryz.func10 (by kernel_rfl) (a7 anG ag) (fun y=>by kernel_rfl) fun a=>by kernel_rfl
noncomputable abbrev aBW:a8:=[(12,sq),(16,yq),(18,ES),(27,yp),(28,yo),(29,ER),(30,sp),(31,yn),(32,ym),(40,EQ)]
theorem Fc:aT O (aZ af aBW):=aY ⟨z12,D',Mt,D_,z28,Ms,uA,z31,D9,z40,⟨⟩⟩
abbrev U3:Shape:=⟨[ar 2,ax 3 3 0,ax 4 4 0,aj 5,ax 6 6 0],[aw 3 [ah,ah],aw 4 [br .pack],aw 6 [ah,ah]],84⟩
abbrev UN:List aR:=[(.norm,⟨[ar 2,ax 3 3 0,ax 4 4 0,aj 5,ax 6 6 0,ar 48],[aw 3 [ah,ah],aw 4 [br .pack],aw 6 [ah,ah]],84⟩)]
noncomputable def tC(y:U3.J):Option (aG UN):=
(f16 (((y.2.1.1,y.2.1.2.1,()),(y.2.2.1.1,()),y.1.2.2.2.1,()),())).bind fun a=>
(f28 (((y.2.2.2.1.1,y.2.2.2.1.2.1,()),(a.2.1.1,a.2.1.2.1,()),()),())).bind fun b=>
 bif(!b.1.1) then
 some ((y.1.1,(),(),y.1.2.2.2.1,(),true,()),(y.2.1.1,y.2.1.2.1,()),(y.2.2.1.1,()),(y.2.2.2.1.1,y.2.2.2.1.2.1,()),())
else
(f12 (((y.2.1.1,y.2.1.2.1,()),()),())).bind fun c=>
 bif(!c.1.1) then
 some ((y.1.1,(),(),y.1.2.2.2.1,(),true,()),(y.2.1.1,y.2.1.2.1,()),(y.2.2.1.1,()),(y.2.2.2.1.1,y.2.2.2.1.2.1,()),())
else
(f30 (((y.2.2.1.1,()),()),())).bind fun d=>
 bif(!d.1.1) then
 some ((y.1.1,(),(),y.1.2.2.2.1,(),true,()),(y.2.1.1,y.2.1.2.1,()),(y.2.2.1.1,()),(y.2.2.2.1.1,y.2.2.2.1.2.1,()),())
else
(f29 (((y.2.2.1.1,()),()),())).bind fun e=>
(f12 (((e.2.1.1,e.2.1.2.1,()),()),())).bind fun f=>
 some ((y.1.1,(),(),y.1.2.2.2.1,(),(!f.1.1),()),(y.2.1.1,y.2.1.2.1,()),(y.2.2.1.1,()),(y.2.2.2.1.1,y.2.2.2.1.2.1,()),())
theorem apf:aV O (ap (codeOf Tryz.f8) 1 124) (aX U3 UN tC):=cm Fc (by kernel_rfl) ag fun y=>by kernel_rfl
abbrev i8:Shape:=⟨[aO 0 .u8],[],84⟩
abbrev ael:Shape:=⟨[ar 2],[],84⟩
noncomputable def f8(a:i8.J):Option ael.J:=
 bif(decide ((a.1.1.length:Int)>(1048576:Int))) then
 some ((true,()),())
else
(f40 ((a.1.1,()),())).bind fun b=>
(f18 (((b.2.1.1,b.2.1.2.1,()),(b.2.2.1.1,()),b.1.2.2.1,()),())).bind fun c=>
(tC ((false,(),(),b.1.2.2.1,(),()),(b.2.1.1,b.2.1.2.1,()),(b.2.2.1.1,()),(c.2.1.1,c.2.1.2.1,()),())).bind fun d=>
 bif d.1.2.2.2.2.2.1 then
(f16 (((d.2.1.1,d.2.1.2.1,()),(d.2.2.1.1,()),d.1.2.2.2.1,()),())).bind fun e=>
(f28 (((d.2.2.2.1.1,d.2.2.2.1.2.1,()),(e.2.1.1,e.2.1.2.1,()),()),())).bind fun f=>
 some ((f.1.1,()),())
else
(f31 (((d.2.2.2.1.1,d.2.2.2.1.2.1,()),()),())).bind fun g=>
(f18 (((g.2.2.2.1.1,g.2.2.2.1.2.1,()),(d.2.2.1.1,()),(1000000:Int),()),())).bind fun h=>
(f31 (((h.2.1.1,h.2.1.2.1,()),()),())).bind fun i=>
 bif g.1.2.2.1 then
 bif i.1.2.2.1 then
(f32 (((i.2.1,()),(d.2.2.1.1,()),()),())).bind fun j=>
 bif j.1.1 then
(f27 (((d.2.2.1.1,()),()),())).bind fun k=>
(f28 (((i.2.2.2.1.1,i.2.2.2.1.2.1,()),(k.2.1.1,k.2.1.2.1,()),()),())).bind fun l=>
 some ((l.1.1,()),())
else
 some ((false,()),())
else
 some ((false,()),())
else
 some ((false,()),())
noncomputable def mq:aH:=aL af Tryz.f8 i8 ael [] f8
theorem NW:aE O 8 mq:=aM Fc Tryz.func8 (by kernel_rfl) (a7 apf ag) (fun y=>by kernel_rfl) fun a=>by kernel_rfl
theorem afI(a)(h:∀x,x∈(a.1.1:List Int)->0<=x/\x<=255):ab (f8 a) (fun r=>r.1.1=true):=by
 unfold f8;refine ab.ite (fun _=>ab.ret rfl) fun _=>?_
 refine ab.bind (ae8 _ (amA h)) fun r hr=>?_
 obtain⟨⟨od,u1,(n:Int),u2⟩,⟨⟨(s:B),(t:B),va⟩,⟨(ps:List aK),aeh⟩,aDs⟩⟩:=r;obtain⟨⟨oY,h0,hs,ay⟩,hp⟩:=hr;have ay:t=[]:=ay;subst ay;have hp:iu 5 ps:=hp;have iP:s.length<=100000:=by have hs:s=_:=hs;rw[hs];exact aog h0
 clear hs;have hb:=hp.ok.yI (by decide)
 have hv:=hp.ok.vs;obtain⟨D,e1,aI⟩:=RN s [] (by omega)
 obtain⟨dk,e2,aJ⟩:=Qq s [] (by omega)
 cases aI.w9 aJ;have hk:(D.isSome&&([]:B)==[])=D.isSome:=by cases D<;>rfl
 rw[hk] at e1 e2;have bz:=O' s [] ps n hb hv D.isSome e2;have dn:=ahj s [] ps n hb hv D.isSome e1;have sD:=RL (kB D.isSome s ps n).1 (kB D.isSome s ps n).2;have e5:=vL (((ps,()),()),()) hb hv;have e5:f30 (((ps,()),()),())=some ((eE ps,()),()):=e5;refine ab.eq bz ?_
 cases D with
 |none=>
  simp only[Option.isSome_none] at e1 e2 dn sD;simp only[Option.isSome_none,tC,dn,sD,e1,e2,Y,bu,bJ,ad,ak];exact ab.ret rfl
 |some aBx=>
  simp only[Option.isSome_some] at e1 e2 dn sD;cases hr:eE ps with
  |false=>
   rw[hr] at e5;simp only[Option.isSome_some,tC,dn,sD,e1,e2,e5,Y,bu,bJ,ad,ak];exact ab.ret rfl
  |true=>
   rw[hr] at e5;have hw:=IJ hp hr;have mo:=Qv ps hb hv;rw[hr] at mo;have mo:f29 (((ps,()),()),())=some (((),()),((ce ps,(([]:B),())),())):=mo;obtain⟨o1,mn,pq⟩:=RN (ce ps) [] (by omega)
   cases o1 with
   |none=>
    have mn:f12 (((ce ps,(([]:B),())),()),())=some ((false,()),()):=mn;simp only[Option.isSome_some,tC,dn,sD,e1,e2,e5,mo,mn,Y,bu,bJ,ad,ak];exact ab.ret rfl
   |some qs=>
    cases akK hb hr pq rfl;have mn:f12 (((ce ps,(([]:B),())),()),())=some ((true,()),()):=mn;have dX:=anR hp hr;have fo:kB true s ps n=(s,(fE ps).take (j_ n (fE ps).length)):=by simp only[kB,hr,Bool.and_self,ad]
    rw[fo] at dn sD;simp only[Option.isSome_some,fo,tC,dn,sD,e1,e2,e5,mo,mn,Y,bu,bJ,ad,ak];have htk:=aiR (ce ps);have ayA:cS (ce ps)++gC=fE ps:=rfl;have hR:=akL (ce ps) (by omega)
    rw[ayA] at htk hR;have htk:=htk (N:=j_ n (fE ps).length);have ayY:((fE ps).take (j_ n (fE ps).length)).length<=200000:=by simp;omega
    generalize(fE ps).take (j_ n (fE ps).length)=T at htk ayY;obtain⟨N_,vg,og⟩:=Pa s T (by omega) (by omega)
    obtain⟨X,p5,gr,aDd,ayU⟩:∃(X:B) (p5:List aK),(gL T).getD s=X/\X.length<=200000/\N_=some p5:=by
     cases hz:gL T with
     |none=>
      have hg:(gL T).getD s=s:=by rw[hz];rfl
      rw[hg] at og;cases og.w9 aJ;exact⟨s,aBx,rfl,by omega,rfl⟩
     |some z=>
      have:=htk z hz;rw[this,hR] at hz;cases hz;have hg:(gL T).getD s=ce ps:=by rw[this,hR];rfl
      rw[hg] at og;cases og.w9 pq;exact⟨ce ps,ps,rfl,by omega,rfl⟩
    subst ayU;rw[gr] at vg og;refine ab.eq vg ?_
    obtain⟨N8,sE,aBE⟩:=Qq X [] (by omega)
    cases aBE.w9 og;have sE:f14 (((X,(([]:B),())),()),())=some ((true,()),()):=sE;have qA:=O' X [] ps 1000000 hb hv true sE;have bn:kB true X ps 1000000=(X,fE ps):=by
     simp only[kB,hr,Bool.and_self,ad];rw[List.take_of_length_le (by unfold j_;omega)]
    rw[bn] at qA;refine ab.eq qA ?_
    obtain⟨xR,u5,acy⟩:=Pa X (fE ps) (by omega) (by omega)
    have hg:(gL (fE ps)).getD X=ce ps:=by rw[hR];rfl
    rw[hg] at u5 acy;cases acy.w9 pq;refine ab.eq u5 ?_
    have azt:=akn (((ps,()),((ps,()),())),()) rfl hb;have azs:=RL (ce ps) [];have adf:=PN ps hb hv;rw[hr] at adf;show ab ((f32 (((ps,()),((ps,()),())),())).bind _) _;refine ab.eq azt ?_
    simp only[ad];refine ab.eq adf ?_
    refine ab.eq azs ?_
    exact ab.ret rfl
theorem pure_FnDiskOver:LawOk mq [(false,[.sl .u8])]:=by
 rintro⟨⟨code,u⟩,b7⟩ ⟨h,_⟩;obtain⟨r,hr,aC⟩:=afI ((code,()),()) (aj7 (h (.sl .u8 code) (by simp[fX,ee.mk])))
 obtain⟨⟨b,v⟩,v'⟩:=r;have aC:b=true:=aC;subst aC;exact⟨((true,()),()),hr,rfl⟩
end Go.Proofs
