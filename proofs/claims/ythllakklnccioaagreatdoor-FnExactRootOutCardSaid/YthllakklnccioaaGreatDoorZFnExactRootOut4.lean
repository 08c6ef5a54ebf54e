/- FnExactRootOut: the program's RootOut returns what the reference's returns, for all arguments. (part 5 of 6: JnNPuL, JnNF54, JnNF112, JnNF18v0, JnNF60v0, JnNF26v0, JnNF17v0, JnNF19, JnNF68, JnNF31, JnNPuHa, JnNPuP, JnNPuQ, JnNPuRa, JnNF105, JnNF107, JnNF115, JnNF62, JnNF71, JnNPuR, JnNPuN, JnNF12, JnNF14, Jn) Conditions: none beyond the statement. -/
import Derived.Test.YthllakklnccioaaGreatDoorZFnExactRootOut3
import Derived.Tactics
import Derived.Deep.RegionLaw
import Derived.Shelf.Abstract
import Derived.Test.YthllakklnccioaaGreatDoorProg
import Derived.KernelRfl
set_option maxRecDepth 100000
set_option linter.unusedVariables false
set_option linter.unusedSimpArgs false
namespace Go.Proofs
open Go.Jk
abbrev gr(n:Nat):Prop:=n<=maxLen
abbrev jk(n:Nat):Prop:=n<=1048576
abbrev S3(n:dr):Prop:=gr n.name.length/\gr n.bH.length
abbrev Hf(n:dr):Prop:=jk n.name.length/\jk n.bH.length
abbrev S4(e:aZ):Prop:=gr e.path.length/\gr e.text.length
abbrev Hg(e:aZ):Prop:=jk e.path.length/\jk e.text.length
abbrev F3(l:List dr):Prop:=gr l.length/\∀n,n∈l->S3 n
abbrev PA(l:List dr):Prop:=jk l.length/\∀n,n∈l->Hf n
abbrev F4(l:List aZ):Prop:=gr l.length/\∀n,n∈l->S4 n
abbrev PB(l:List aZ):Prop:=jk l.length/\∀n,n∈l->Hg n
abbrev S2(p:aU):Prop:=gr p.name.length/\gr p.bH.length/\F3 p.bL/\F4 p.b4
abbrev He(p:aU):Prop:=jk p.name.length/\jk p.bH.length/\PA p.bL/\PB p.b4
abbrev uN(l:List aU):Prop:=gr l.length/\∀n,n∈l->S2 n
abbrev pP(l:List aU):Prop:=jk l.length/\∀n,n∈l->He n
theorem ng{l:Int}{n:Nat}(h0:0<=l)(h1:l<=1048576)(hn:gr n):IntKind.i64.wrap (l-(n:Int))=l-n:=by
 unfold gr maxLen at hn;exact ei (by omega) (by omega)
def pt(l r:Int)(p:Prop):Prop:=r<0\/(0<=r/\r<=l/\p)
theorem CZ{aE H bu:Type}(g:H->Option (Sum H bu))(xs:List aE)(st:Nat->Int->H)(no:bu)(nD:Int->bu)(W:aE->Prop)
  (h1:∀i x s,xs[i]? =some x->0<=s->s<=1048576->g (st i s)=some (.inr no)\/∃am,0<=am/\am<=s/\W x/\g (st i s)=some (.inl (st (i+1) am)))
  (h2:∀s,g (st xs.length s)=some (.inr (nD s))) (s:Int) (Z:0<=s) (aI:s<=1048576):
  bK g (st 0 s)=some no\/∃am,0<=am/\am<=s/\(∀x,x∈xs->W x)/\bK g (st 0 s)=some (nD am):=by
 suffices h:∀(r:List aE) (k:Nat) (s:Int),xs.drop k=r->k<=xs.length->0<=s->s<=1048576->bK g (st k s)=some no\/∃am,0<=am/\am<=s/\(∀x,x∈r->W x)/\bK g (st k s)=some (nD am) from
  h xs 0 s rfl (Nat.zero_le _) Z aI
 intro r;induction r with
 |nil=>
  intro k s hr ag Z aI;have:=drop_nil hr;obtain rfl:k=xs.length:=by omega
  exact .inr ⟨s,Z,Int.le_refl _,fun x h=>(by cases h),eO (h2 s)⟩
 |cons x r ih=>
  intro k s hr ag Z aI;obtain⟨c1,c2,c3⟩:=drop_cons hr;rcases h1 k x s c1 Z aI with h|⟨am,aB,ao,bj,b'⟩
  ·exact .inl (eO h)
  ·rw[hD b'];rcases ih (k+1) am c2 (by omega) aB (by omega) with h|⟨s2,q1,q2,dG,lZ⟩
   ·exact .inl h
   ·exact .inr ⟨s2,q1,by omega,fun y aj=>by
     rcases List.mem_cons.1 aj with rfl|aj
     ·exact bj
     ·exact dG y aj,lZ⟩
theorem Yy(a)(h0:0<=a.1.2.1)(h1:a.1.2.1<=1048576)(hm:S3 ⟨a.1.1.1,a.1.1.2.1,a.1.1.2.2.1⟩):∃r:Int,f113 a=some ((r,()),())/\pt a.1.2.1 r (Hf ⟨a.1.1.1,a.1.1.2.1,a.1.1.2.2.1⟩):=by
 obtain⟨⟨⟨(n:ak),k,(v:ak),u⟩,(l:Int),bx⟩,iB⟩:=a;have h0:0<=l:=h0;have h1:l<=1048576:=h1;obtain⟨m1,m2⟩:=hm;have m1:gr n.length:=m1;have m2:gr v.length:=m2;simp only[f113,ng h0 h1 m1];by_cases c:l-(n.length:Int)<0
 ·simp only[c,decide_true,cond_true];exact⟨_,rfl,.inl (by omega)⟩
 ·simp only[c,decide_false,cond_false,ng (l:=l-n.length) (by omega) (by omega) m2]
  by_cases c2:l-(n.length:Int)-(v.length:Int)<0
  ·simp only[c2,decide_true,cond_true];exact⟨_,rfl,.inl (by omega)⟩
  ·simp only[c2,decide_false,cond_false];exact⟨_,rfl,.inr ⟨by omega,(by show l-n.length-v.length<=l;omega),(by show n.length<=1048576;omega),(by show v.length<=1048576;omega)⟩⟩
theorem W5(a)(h0:0<=a.1.2.1)(h1:a.1.2.1<=1048576)(hm:S4 ⟨a.1.1.1,a.1.1.2.1,a.1.1.2.2.1,a.1.1.2.2.2.1⟩):∃r:Int,f114 a=some ((r,()),())/\pt a.1.2.1 r (Hg ⟨a.1.1.1,a.1.1.2.1,a.1.1.2.2.1,a.1.1.2.2.2.1⟩):=by
 obtain⟨⟨⟨(n:ak),k,ao,(v:ak),u⟩,(l:Int),bx⟩,iB⟩:=a;have h0:0<=l:=h0;have h1:l<=1048576:=h1;obtain⟨m1,m2⟩:=hm;have m1:gr n.length:=m1;have m2:gr v.length:=m2;simp only[f114,ng h0 h1 m1];by_cases c:l-(n.length:Int)<0
 ·simp only[c,decide_true,cond_true];exact⟨_,rfl,.inl (by omega)⟩
 ·simp only[c,decide_false,cond_false,ng (l:=l-n.length) (by omega) (by omega) m2]
  by_cases c2:l-(n.length:Int)-(v.length:Int)<0
  ·simp only[c2,decide_true,cond_true];exact⟨_,rfl,.inl (by omega)⟩
  ·simp only[c2,decide_false,cond_false];exact⟨_,rfl,.inr ⟨by omega,(by show l-n.length-v.length<=l;omega),(by show n.length<=1048576;omega),(by show v.length<=1048576;omega)⟩⟩
theorem W4(a)(h0:0<=a.1.2.1)(h1:a.1.2.1<=1048576)(hm:F3 a.1.1):∃r:Int,f69 a=some ((r,()),())/\pt a.1.2.1 r (PA a.1.1):=by
 obtain⟨⟨xs,(l:Int),u⟩,bx⟩:=a;have h0:0<=l:=h0;have h1:l<=1048576:=h1;obtain⟨m1,m2⟩:=hm;have m1:gr xs.length:=m1;simp only[f69,ng h0 h1 m1];by_cases c:l-(xs.length:Int)<0
 ·simp only[c,decide_true,cond_true];exact⟨_,rfl,.inl (by omega)⟩
 ·simp only[c,decide_false,cond_false];have hl:xs.length<=1048576:=by omega
  have key:=CZ xX xs (fun i s=>((xs,(s,((i:Int),()))),())) (.inl (((-1:Int),()),())) (fun s=>.inr ((s,()),())) Hf (fun i x s hx jh s1=>?_) (fun s=>?_) (l-xs.length) (by omega) (by omega)
  ·rcases key with h|⟨am,aB,ao,bj,h⟩
   ·have h:xO ((xs,(l-xs.length,((0:Int),()))),())=_:=h;exact⟨-1,by rw[h];rfl,.inl (by omega)⟩
   ·have h:xO ((xs,(l-xs.length,((0:Int),()))),())=_:=h;exact⟨am,by rw[h];rfl,.inr ⟨aB,(by show am<=l;omega),hl,bj⟩⟩
  ·have hi:=ca hx;have hw:aD i:=by unfold aD;omega
   obtain⟨r,e1,e2⟩:=Yy (((x.name,(x.kind,(x.bH,()))),(s,())),()) jh s1 (m2 x (List.mem_of_getElem? hx));simp only[xX,ce hi,cond_true,bZ,hx,Option.bind_some,e1,b_ hw];rcases e2 with e2|⟨q1,q2,dG⟩
   ·left;simp only[e2,decide_true,cond_true]
   ·have:¬r<0:=by omega
    right;refine⟨r,q1,q2,dG,?_⟩;simp only[this,decide_false,cond_false]
  ·simp only[xX,cX,cond_false]
theorem VS(a)(h0:0<=a.1.2.1)(h1:a.1.2.1<=1048576)(hm:F4 a.1.1):∃r:Int,f70 a=some ((r,()),())/\pt a.1.2.1 r (PB a.1.1):=by
 obtain⟨⟨xs,(l:Int),u⟩,bx⟩:=a;have h0:0<=l:=h0;have h1:l<=1048576:=h1;obtain⟨m1,m2⟩:=hm;have m1:gr xs.length:=m1;simp only[f70,ng h0 h1 m1];by_cases c:l-(xs.length:Int)<0
 ·simp only[c,decide_true,cond_true];exact⟨_,rfl,.inl (by omega)⟩
 ·simp only[c,decide_false,cond_false];have hl:xs.length<=1048576:=by omega
  have key:=CZ xW xs (fun i s=>((xs,(s,((i:Int),()))),())) (.inl (((-1:Int),()),())) (fun s=>.inr ((s,()),())) Hg (fun i x s hx jh s1=>?_) (fun s=>?_) (l-xs.length) (by omega) (by omega)
  ·rcases key with h|⟨am,aB,ao,bj,h⟩
   ·have h:xN ((xs,(l-xs.length,((0:Int),()))),())=_:=h;exact⟨-1,by rw[h];rfl,.inl (by omega)⟩
   ·have h:xN ((xs,(l-xs.length,((0:Int),()))),())=_:=h;exact⟨am,by rw[h];rfl,.inr ⟨aB,(by show am<=l;omega),hl,bj⟩⟩
  ·have hi:=ca hx;have hw:aD i:=by unfold aD;omega
   obtain⟨r,e1,e2⟩:=W5 (((x.path,(x.kind,(x.mode,(x.text,())))),(s,())),()) jh s1 (m2 x (List.mem_of_getElem? hx));simp only[xW,ce hi,cond_true,bZ,hx,Option.bind_some,e1,b_ hw];rcases e2 with e2|⟨q1,q2,dG⟩
   ·left;simp only[e2,decide_true,cond_true]
   ·have:¬r<0:=by omega
    right;refine⟨r,q1,q2,dG,?_⟩;simp only[this,decide_false,cond_false]
  ·simp only[xW,cX,cond_false]
theorem Yx(a)(h0:0<=a.1.2.1)(h1:a.1.2.1<=1048576)(hm:S2 ⟨a.1.1.1,a.1.1.2.1,a.1.1.2.2.1,a.1.1.2.2.2.1⟩):∃r:Int,f32 a=some ((r,()),())/\pt a.1.2.1 r (He ⟨a.1.1.1,a.1.1.2.1,a.1.1.2.2.1,a.1.1.2.2.2.1⟩):=by
 obtain⟨⟨⟨(n:ak),(v:ak),aA,es,u⟩,(l:Int),bx⟩,iB⟩:=a;have h0:0<=l:=h0;have h1:l<=1048576:=h1;obtain⟨m1,m2,m3,m4⟩:=hm;have m1:gr n.length:=m1;have m2:gr v.length:=m2;simp only[f32,ng h0 h1 m1];by_cases c:l-(n.length:Int)<0
 ·simp only[c,decide_true,cond_true];exact⟨_,rfl,.inl (by omega)⟩
 ·simp only[c,decide_false,cond_false,ng (l:=l-n.length) (by omega) (by omega) m2]
  by_cases c2:l-(n.length:Int)-(v.length:Int)<0
  ·simp only[c2,decide_true,cond_true];exact⟨_,rfl,.inl (by omega)⟩
  ·simp only[c2,decide_false,cond_false];obtain⟨r,e1,e2⟩:=W4 ((aA,(l-(n.length:Int)-(v.length:Int),())),()) (by show 0<=l-(n.length:Int)-(v.length:Int);omega) (by show l-(n.length:Int)-(v.length:Int)<=_;omega) m3
   simp only[e1,Option.bind_some];rcases e2 with e2|⟨q1,q2,dG⟩
   ·simp only[e2,decide_true,cond_true];exact⟨_,rfl,.inl (by omega)⟩
   ·have q2:r<=l-(n.length:Int)-(v.length:Int):=q2;have c3:¬r<0:=by omega
    simp only[c3,decide_false,cond_false];obtain⟨r2,bI,dy⟩:=VS ((es,(r,())),()) q1 (by show r<=_;omega) m4
    simp only[bI,Option.bind_some];rcases dy with dy|⟨lZ,qo,ak6⟩
    ·simp only[dy,decide_true,cond_true];exact⟨_,rfl,.inl (by omega)⟩
    ·have qo:r2<=r:=qo;have dU:¬r2<0:=by omega
     simp only[dU,decide_false,cond_false];exact⟨_,rfl,.inr ⟨lZ,(by show r2<=l;omega),(by show n.length<=1048576;omega),(by show v.length<=1048576;omega),dG,ak6⟩⟩
theorem W3(a)(h0:0<=a.1.2.1)(h1:a.1.2.1<=1048576)(hm:uN a.1.1):∃r:Int,f20 a=some ((r,()),())/\pt a.1.2.1 r (pP a.1.1):=by
 obtain⟨⟨xs,(l:Int),u⟩,bx⟩:=a;have h0:0<=l:=h0;have h1:l<=1048576:=h1;obtain⟨m1,m2⟩:=hm;have m1:gr xs.length:=m1;simp only[f20,ng h0 h1 m1];by_cases c:l-(xs.length:Int)<0
 ·simp only[c,decide_true,cond_true];exact⟨_,rfl,.inl (by omega)⟩
 ·simp only[c,decide_false,cond_false];have hl:xs.length<=1048576:=by omega
  have key:=CZ x4 xs (fun i s=>((xs,(s,((i:Int),()))),())) (.inl (((-1:Int),()),())) (fun s=>.inr ((s,()),())) He (fun i x s hx jh s1=>?_) (fun s=>?_) (l-xs.length) (by omega) (by omega)
  ·rcases key with h|⟨am,aB,ao,bj,h⟩
   ·have h:xP ((xs,(l-xs.length,((0:Int),()))),())=_:=h;exact⟨-1,by rw[h];rfl,.inl (by omega)⟩
   ·have h:xP ((xs,(l-xs.length,((0:Int),()))),())=_:=h;exact⟨am,by rw[h];rfl,.inr ⟨aB,(by show am<=l;omega),hl,bj⟩⟩
  ·have hi:=ca hx;have hw:aD i:=by unfold aD;omega
   obtain⟨r,e1,e2⟩:=Yx (((x.name,(x.bH,(x.bL,(x.b4,())))),(s,())),()) jh s1 (m2 x (List.mem_of_getElem? hx));simp only[x4,ce hi,cond_true,bZ,hx,Option.bind_some,e1,b_ hw];rcases e2 with e2|⟨q1,q2,dG⟩
   ·left;simp only[e2,decide_true,cond_true]
   ·have:¬r<0:=by omega
    right;refine⟨r,q1,q2,dG,?_⟩;simp only[this,decide_false,cond_false]
  ·simp only[x4,cX,cond_false]
theorem Yw(a)(h0:0<=a.1.2.1)(h1:a.1.2.1<=1048576)(hm:uN a.1.1.1):∃r:Int,f11 a=some ((r,()),())/\pt a.1.2.1 r (pP a.1.1.1):=by
 obtain⟨⟨⟨xs,u⟩,l,bx⟩,iB⟩:=a;obtain⟨r,e1,e2⟩:=W3 ((xs,(l,())),()) h0 h1 hm;simp only[f11,e1,Option.bind_some];rcases e2 with e2|⟨q1,q2,dG⟩
 ·simp only[e2,decide_true,cond_true];exact⟨_,rfl,.inl (by omega)⟩
 ·have:¬r<0:=by omega
  simp only[this,decide_false,cond_false];exact⟨_,rfl,.inr ⟨q1,q2,dG⟩⟩
theorem BU{aE H bu:Type}(g:H->Option (Sum H bu))(xs:List aE)(z:aE)(st:Nat->List aE->H)(fin:List aE->bu)
  (h1:∀i x a7,xs[i]? =some x->a7.length=xs.length->g (st i a7)=some (.inl (st (i+1) (a7.set i x))))
  (h2:g (st xs.length xs)=some (.inr (fin xs))):bK g (st 0 (List.replicate xs.length z))=some (fin xs):=by
 suffices h:∀(r:List aE) (k:Nat),xs.drop k=r->k<=xs.length->bK g (st k (xs.take k++List.replicate (xs.length-k) z))=some (fin xs) from by
  have:=h xs 0 rfl (Nat.zero_le _);simpa using this
 intro r;induction r with
 |nil=>
  intro k hr ag;have:=drop_nil hr;obtain rfl:k=xs.length:=by omega
  simp only[Nat.sub_self,List.replicate_zero,List.append_nil,List.take_length];exact eO h2
 |cons x r ih=>
  intro k hr ag;obtain⟨c1,c2,c3⟩:=drop_cons hr;have hl:(xs.take k++List.replicate (xs.length-k) z).length=xs.length:=by simp;omega
  rw[hD (h1 k x _ c1 hl)];have e:(xs.take k++List.replicate (xs.length-k) z).set k x=xs.take (k+1)++List.replicate (xs.length-(k+1)) z:=by
   have vu:(xs.take k).length=k:=by simp;omega
   obtain⟨m,hm⟩:∃m,xs.length-k=m+1:=⟨xs.length-k-1,by omega⟩
   rw[List.set_append_right _ _ (by omega),vu,Nat.sub_self,hm,show xs.length-(k+1)=m by omega,List.replicate_succ,List.set_cons_zero,List.take_add_one,c1]
   simp
  rw[e];exact ih (k+1) c2 c3
theorem W2(a)(M:cg a.1.1.length):f72 a=some (((),()),(a.1.1,())):=by
 obtain⟨⟨xs,u⟩,bx⟩:=a;have M:xs.length<=2097152:=M;have key:=BU yT xs (dr.mk [] 0 []) (fun i a7=>((xs,((),((i:Int),()))),(a7,()))) (fun a7=>(((),()),(a7,()))) (fun i x a7 hx hl=>?_) ?_
 ·have key:D_ ((xs,((),((0:Int),()))),(List.replicate xs.length (dr.mk [] 0 []),()))=_:=key;simp only[f72,D3 (show(40:Nat)<=100 by decide) (show aD xs.length by unfold aD;omega),Option.bind_some,key]
 ·have hi:=ca hx;have hw:aD i:=by unfold aD;omega
  have aF:a7[i]? =some a7[i]:=List.getElem?_eq_getElem (by omega)
  simp only[yT,ce hi,cond_true,bZ,hx,Option.bind_some,f116,mb (show i<a7.length by omega),aF,b_ hw]
 ·simp only[yT,cX,cond_false]
theorem VR(a)(M:cg a.1.1.length):f73 a=some (((),()),(a.1.1,())):=by
 obtain⟨⟨xs,u⟩,bx⟩:=a;have M:xs.length<=2097152:=M;have key:=BU yS xs (aZ.mk [] 0 0 []) (fun i a7=>((xs,((),((i:Int),()))),(a7,()))) (fun a7=>(((),()),(a7,()))) (fun i x a7 hx hl=>?_) ?_
 ·have key:D9 ((xs,((),((0:Int),()))),(List.replicate xs.length (aZ.mk [] 0 0 []),()))=_:=key;simp only[f73,D3 (show(48:Nat)<=100 by decide) (show aD xs.length by unfold aD;omega),Option.bind_some,key]
 ·have hi:=ca hx;have hw:aD i:=by unfold aD;omega
  have aF:a7[i]? =some a7[i]:=List.getElem?_eq_getElem (by omega)
  simp only[yS,ce hi,cond_true,bZ,hx,Option.bind_some,f117,mb (show i<a7.length by omega),aF,b_ hw]
 ·simp only[yS,cX,cond_false]
theorem W0(a)(M:eC a.1.1):f22 a=some (((),()),(a.1.1,())):=by
 obtain⟨⟨xs,u⟩,bx⟩:=a;obtain⟨M,hm⟩:=M;have M:xs.length<=2097152:=M;have key:=BU y0 xs (aU.mk [] [] [] []) (fun i a7=>((xs,((),((i:Int),()))),(a7,()))) (fun a7=>(((),()),(a7,()))) (fun i x a7 hx hl=>?_) ?_
 ·have key:Eg ((xs,((),((0:Int),()))),(List.replicate xs.length (aU.mk [] [] [] []),()))=_:=key;simp only[f22,D3 (show(80:Nat)<=100 by decide) (show aD xs.length by unfold aD;omega),Option.bind_some,key]
 ·have hi:=ca hx;have hw:aD i:=by unfold aD;omega
  have aF:a7[i]? =some a7[i]:=List.getElem?_eq_getElem (by omega)
  obtain⟨_,_,bM,jj⟩:=hm x (List.mem_of_getElem? hx);simp only[y0,ce hi,cond_true,bZ,hx,Option.bind_some,f34,W2 ((x.bL,()),()) bM.1,VR ((x.b4,()),()) jj.1,mb (show i<a7.length by omega),aF,b_ hw]
 ·simp only[y0,cX,cond_false]
theorem Yv(a)(M:eC a.1.1.1):f13 a=some (((),()),(a.1.1.1,(((),()),()))):=by
 obtain⟨⟨⟨xs,u⟩,bx⟩,iB⟩:=a;simp only[f13,W0 ((xs,()),()) M,Option.bind_some]
theorem BW{aE:Type}:∀(xs:List aE) (i:Nat),allI (fun _ _=>true) i xs=true:=by
 intro xs;induction xs with
 |nil=>intro i;rfl
 |cons x r ih=>intro i;simp only[allI,ih,Bool.and_self]
theorem tj(a:Int):(a !=a)=false:=by simp
theorem YK(a)(h:a.1.1=a.1.2.1):f125 a=some ((true,()),()):=by
 obtain⟨⟨x,y,u⟩,bx⟩:=a;have h:x=y:=h;subst h;simp only[f125,beq_self_eq_true,Bool.not_true,cond_false,tj]
theorem Xg(a)(h:a.1.1=a.1.2.1):f53 a=some ((true,()),()):=by
 obtain⟨⟨x,y,u⟩,bx⟩:=a;have h:x=y:=h;subst h;simp only[f53,beq_self_eq_true,Bool.not_true,cond_false,tj]
theorem Xf(xs:List dr)(M:cg xs.length):f76 ((xs,(xs,())),())=some ((true,()),()):=by
 have key:D8 ((xs,(xs,((0:Int),()))),())=some (bif allI (fun _ _=>true) 0 xs then .inr ((),()) else .inl ((false,()),())):=by
  refine fz yR xs (fun i=>((xs,(xs,((i:Int),()))),())) _ _ _ (fun i x hx=>?_) ?_
  ·have hi:=ca hx;have hw:aD i:=by unfold aD;omega
   simp only[yR,ce hi,cond_true,bZ,hx,Option.bind_some,YK (((x.name,(x.kind,(x.bH,()))),((x.name,(x.kind,(x.bH,()))),())),()) rfl,Bool.not_true,cond_false,b_ hw]
  ·simp only[yR,cX,cond_false]
 rw[BW] at key;simp only[f76,tj,cond_false,key,cond_true,Option.bind_some]
theorem VY(xs:List aZ)(M:cg xs.length):f15 ((xs,(xs,())),())=some ((true,()),()):=by
 have key:Ei ((xs,(xs,((0:Int),()))),())=some (bif allI (fun _ _=>true) 0 xs then .inr ((),()) else .inl ((false,()),())):=by
  refine fz y1 xs (fun i=>((xs,(xs,((i:Int),()))),())) _ _ _ (fun i x hx=>?_) ?_
  ·have hi:=ca hx;have hw:aD i:=by unfold aD;omega
   simp only[y1,ce hi,cond_true,bZ,hx,Option.bind_some,Xg (((x.path,(x.kind,(x.mode,(x.text,())))),((x.path,(x.kind,(x.mode,(x.text,())))),())),()) rfl,Bool.not_true,cond_false,b_ hw]
  ·simp only[y1,cX,cond_false]
 rw[BW] at key;simp only[f15,tj,cond_false,key,cond_true,Option.bind_some]
theorem YJ(x:aU)(h:qj x):f36 (((x.name,(x.bH,(x.bL,(x.b4,())))),((x.name,(x.bH,(x.bL,(x.b4,())))),())),())=some ((true,()),()):=by
 simp only[f36,beq_self_eq_true,Bool.not_true,cond_false,Xf _ h.2.2.1.1,VY _ h.2.2.2.1,Option.bind_some]
theorem Xe(xs:List aU)(M:eC xs):f25 ((xs,(xs,())),())=some ((true,()),()):=by
 have hl:xs.length<=2097152:=M.1;have key:Ef ((xs,(xs,((0:Int),()))),())=some (bif allI (fun _ _=>true) 0 xs then .inr ((),()) else .inl ((false,()),())):=by
  refine fz yZ xs (fun i=>((xs,(xs,((i:Int),()))),())) _ _ _ (fun i x hx=>?_) ?_
  ·have hi:=ca hx;have hw:aD i:=by unfold aD;omega
   simp only[yZ,ce hi,cond_true,bZ,hx,Option.bind_some,YJ x (M.2 x (List.mem_of_getElem? hx)),Bool.not_true,cond_false,b_ hw]
  ·simp only[yZ,cX,cond_false]
 rw[BW] at key;simp only[f25,tj,cond_false,key,cond_true,Option.bind_some]
theorem Kh(xs:List aU)(M:eC xs):f16 (((xs,()),((xs,()),())),())=some ((true,()),()):=by
 simp only[f16,Xe xs M,Option.bind_some,Bool.not_true,cond_false]
theorem pP.mX{ps:List aU}(h:pP ps):eC ps/\mY ps:=by
 obtain⟨h1,h2⟩:=h;have up:∀{n:Nat},jk n->cg n:=fun h=>Nat.le_trans h (by decide)
 have QT:∀{n:Nat},jk n->n<=2097151:=fun h=>Nat.le_trans h (by decide)
 refine⟨⟨up h1,fun p al=>?_⟩,fun p al=>?_⟩
 ·obtain⟨a,b,c,d⟩:=h2 p al;exact⟨up a,up b,⟨up c.1,fun n hn=>⟨up (c.2 n hn).1,up (c.2 n hn).2⟩⟩,up d.1,fun n hn=>⟨up (d.2 n hn).1,up (d.2 n hn).2⟩⟩
 ·obtain⟨a,b,c,d⟩:=h2 p al;exact⟨QT b,fun n hn=>QT (c.2 n hn).2⟩
theorem qP{s:ak}(h:iF (.str s)):gr s.length:=by cases h;assumption
theorem DK{t:aG}{xs:List (den t)}(h:iF (.sl t xs)):gr xs.length/\∀x,x∈xs->∀d,d∈enc t x->iF d:=by cases h;exact⟨by assumption,by assumption⟩
theorem Yu{xs:List dr}(h:iF (.sl .need xs)):F3 xs:=by
 obtain⟨h1,h2⟩:=DK h;exact⟨h1,fun x hx=>⟨qP (h2 x hx (.str x.name) (by simp[enc])),qP (h2 x hx (.str x.bH) (by simp[enc]))⟩⟩
theorem VQ{xs:List aZ}(h:iF (.sl .entry xs)):F4 xs:=by
 obtain⟨h1,h2⟩:=DK h;exact⟨h1,fun x hx=>⟨qP (h2 x hx (.str x.path) (by simp[enc])),qP (h2 x hx (.str x.text) (by simp[enc]))⟩⟩
theorem Yt{xs:List aU}(h:iF (.sl .pack xs)):uN xs:=by
 obtain⟨h1,h2⟩:=DK h;exact⟨h1,fun x hx=>⟨qP (h2 x hx (.str x.name) (by simp[enc])),qP (h2 x hx (.str x.bH) (by simp[enc])),Yu (h2 x hx (.sl .need x.bL) (by simp[enc])),VQ (h2 x hx (.sl .entry x.b4) (by simp[enc]))⟩⟩
abbrev yB:Shape:=⟨[ah 0,bk 3],[],20⟩
abbrev DV:List be:=[(.exit 0,⟨[bk 3],[],20⟩)]
noncomputable def Eo(y:yB.H):cA yB DV:=
 bif(decide (y.1.1>(0:Int))) then
(rY y.1.1 (10:Int)).bind fun a=>
(nQ (strOf ([(IntKind.u8.wrap (IntKind.i64.wrap ((48:Int)+a)))]:List Int)) y.1.2.1).bind fun b=>
(r3 .i64 y.1.1 (10:Int)).bind fun c=>
 some (.inl ((c,b,()),()))
else
 some (.inr ((y.1.2.1,()),()))
noncomputable def Ec:yB.H->Option (aR DV):=bK Eo
theorem aa0:bl aa (aH (codeOf Tryz.f54) 1 60) (bC yB DV Ec):=cB g0 (by kernel_rfl) aw fun y=>by kernel_rfl
abbrev i54:Shape:=⟨[ah 0],[],20⟩
abbrev Rm:Shape:=⟨[bk 2],[],20⟩
noncomputable def f54(a:i54.H):Option Rm.H:=
 bif(decide (a.1.1<=(0:Int))) then
 some ((([109,48]:ak),()),())
else
(Ec ((a.1.1,([]:ak),()),())).bind fun b=>
(nQ ([109]:ak) b.1.1).bind fun c=>
 some ((c,()),())
noncomputable def qi:a0:=a' az Tryz.f54 i54 Rm [] f54
theorem sr:a4 aa 54 qi:=bb g0 Tryz.func54 (by kernel_rfl) (bG aa0 aw) (fun y=>by kernel_rfl) fun a=>by kernel_rfl
noncomputable abbrev afQ:bz:=[(54,qi)]
theorem QG:a9 aa (bo az afQ):=bB ⟨sr,⟨⟩⟩
abbrev tA:Shape:=⟨[aX 0 .need,ah 1,ah 5],[],42⟩
abbrev CW:List be:=[(.ret,⟨[ah 4],[],42⟩),(.exit 0,⟨[ah 1],[],42⟩)]
noncomputable def tL(y:tA.H):cA tA CW:=
 bif(decide (y.1.2.2.1<(y.1.1.length:Int))) then
(bg y.1.1 y.1.2.2.1).bind fun a=>
(f54 ((y.1.2.1,()),())).bind fun b=>
 bif(!(a.name==b.1.1)) then
 some (.inr (.inl ((((-1):Int),()),())))
else
(bg y.1.1 y.1.2.2.1).bind fun c=>
 bif(c.kind !=(IntKind.i64.wrap (y.1.2.1+(1:Int)))) then
 some (.inr (.inl ((((-1):Int),()),())))
else
(bg y.1.1 y.1.2.2.1).bind fun d=>
(f54 (((IntKind.i64.wrap ((IntKind.i64.wrap (y.1.2.1+(1:Int)))+(1:Int))),()),())).bind fun e=>
 bif(!(d.bH==e.1.1)) then
 some (.inr (.inl ((((-1):Int),()),())))
else
 some (.inl ((y.1.1,(IntKind.i64.wrap ((IntKind.i64.wrap ((IntKind.i64.wrap (y.1.2.1+(1:Int)))+(1:Int)))+(1:Int))),(IntKind.i64.wrap (y.1.2.2.1+(1:Int))),()),()))
else
 some (.inr (.inr ((y.1.2.1,()),())))
noncomputable def Dp:tA.H->Option (aR CW):=bK tL
theorem _N:bl aa (aH (codeOf Tryz.f112) 1 26) (bC tA CW Dp):=cB QG (by kernel_rfl) aw fun y=>by kernel_rfl
abbrev i112:Shape:=⟨[aX 0 .need,ah 1],[],42⟩
abbrev OV:Shape:=⟨[ah 4],[],42⟩
noncomputable def f112(a:i112.H):Option OV.H:=
(Dp ((a.1.1,a.1.2.1,(0:Int),()),())).bind fun b=>
(match b with
|.inl c=>
 some ((c.1.1,()),())
|.inr d=>
 some ((d.1.1,()),()))
noncomputable def Qm:a0:=a' az Tryz.f112 i112 OV [] f112
theorem adK:a4 aa 112 Qm:=bb QG Tryz.func112 (by kernel_rfl) (bG _N aw) (fun y=>by kernel_rfl) fun a=>by kernel_rfl
noncomputable abbrev acO:bz:=[(54,qi)]
theorem NJ:a9 aa (bo az acO):=bB ⟨sr,⟨⟩⟩
abbrev tn:Shape:=⟨[b8 0 3000000,ah 1,ah 5],[cq 3000000 .entry 0 0],43⟩
abbrev B2:List be:=[(.exit 0,⟨[b8 0 3000000,ah 1],[cq 3000000 .entry 0 0],43⟩)]
noncomputable def tv(y:tn.H):cA tn B2:=
 bif(decide (y.1.2.2.1<(y.2.1.length:Int))) then
(f54 ((y.1.2.1,()),())).bind fun a=>
(fa y.2.1.length y.1.2.2.1).bind fun b=>
((y.2.1[b]?).bind fun q=>some (aZ.mk a.1.1 q.kind q.mode q.text)).bind fun c=>
(fa (y.2.1.set b c).length y.1.2.2.1).bind fun d=>
(((y.2.1.set b c)[d]?).bind fun q=>some (aZ.mk q.path (IntKind.i64.wrap (y.1.2.1+(1:Int))) q.mode q.text)).bind fun e=>
(fa ((y.2.1.set b c).set d e).length y.1.2.2.1).bind fun f=>
((((y.2.1.set b c).set d e)[f]?).bind fun q=>some (aZ.mk q.path q.kind (IntKind.i64.wrap ((IntKind.i64.wrap (y.1.2.1+(1:Int)))+(1:Int))) q.text)).bind fun g=>
(f54 (((IntKind.i64.wrap ((IntKind.i64.wrap ((IntKind.i64.wrap (y.1.2.1+(1:Int)))+(1:Int)))+(1:Int))),()),())).bind fun h=>
(fa (((y.2.1.set b c).set d e).set f g).length y.1.2.2.1).bind fun i=>
(((((y.2.1.set b c).set d e).set f g)[i]?).bind fun q=>some (aZ.mk q.path q.kind q.mode h.1.1)).bind fun j=>
 some (.inl (((),(IntKind.i64.wrap ((IntKind.i64.wrap ((IntKind.i64.wrap ((IntKind.i64.wrap (y.1.2.1+(1:Int)))+(1:Int)))+(1:Int)))+(1:Int))),(IntKind.i64.wrap (y.1.2.2.1+(1:Int))),()),((((y.2.1.set b c).set d e).set f g).set i j),()))
else
 some (.inr (((),y.1.2.1,()),y.2.1,()))
noncomputable def Cb:tn.H->Option (aR B2):=bK tv
theorem Zf:bl aa (aH (codeOf Tryz.f18) 1 26) (bC tn B2 Cb):=cB NJ (by kernel_rfl) aw fun y=>by kernel_rfl
abbrev Nm:Shape:=⟨[b8 0 600000,ah 1],[(600000,.row .entry,.same)],43⟩
abbrev M_:Shape:=⟨[b8 0 3000000,ah 4],[cq 3000000 .entry 0 0],43⟩
noncomputable def zs(a:Nm.H):Option M_.H:=
(Cb (((),a.1.2.1,(0:Int),()),a.2.1,())).bind fun b=>
 some (((),b.1.2.1,()),b.2.1,())
noncomputable def NF:a0:=rW az Tryz.f18 Nm M_ [] [0] zs
theorem abU:a4 aa 18 NF:=s_ NJ Tryz.func18 (by kernel_rfl) (bG Zf aw) (fun y=>by kernel_rfl) fun a=>by kernel_rfl
noncomputable abbrev acM:bz:=[(54,qi)]
theorem NH:a9 aa (bo az acM):=bB ⟨sr,⟨⟩⟩
abbrev tk:Shape:=⟨[b8 0 3000000,ah 1,ah 5],[cq 3000000 .need 0 0],36⟩
abbrev B0:List be:=[(.exit 0,⟨[b8 0 3000000,ah 1],[cq 3000000 .need 0 0],36⟩)]
noncomputable def ts(y:tk.H):cA tk B0:=
 bif(decide (y.1.2.2.1<(y.2.1.length:Int))) then
(f54 ((y.1.2.1,()),())).bind fun a=>
(fa y.2.1.length y.1.2.2.1).bind fun b=>
((y.2.1[b]?).bind fun q=>some (dr.mk a.1.1 q.kind q.bH)).bind fun c=>
(fa (y.2.1.set b c).length y.1.2.2.1).bind fun d=>
(((y.2.1.set b c)[d]?).bind fun q=>some (dr.mk q.name (IntKind.i64.wrap (y.1.2.1+(1:Int))) q.bH)).bind fun e=>
(f54 (((IntKind.i64.wrap ((IntKind.i64.wrap (y.1.2.1+(1:Int)))+(1:Int))),()),())).bind fun f=>
(fa ((y.2.1.set b c).set d e).length y.1.2.2.1).bind fun g=>
((((y.2.1.set b c).set d e)[g]?).bind fun q=>some (dr.mk q.name q.kind f.1.1)).bind fun h=>
 some (.inl (((),(IntKind.i64.wrap ((IntKind.i64.wrap ((IntKind.i64.wrap (y.1.2.1+(1:Int)))+(1:Int)))+(1:Int))),(IntKind.i64.wrap (y.1.2.2.1+(1:Int))),()),(((y.2.1.set b c).set d e).set g h),()))
else
 some (.inr (((),y.1.2.1,()),y.2.1,()))
noncomputable def B':tk.H->Option (aR B0):=bK ts
theorem Za:bl aa (aH (codeOf Tryz.f60) 1 26) (bC tk B0 B'):=cB NH (by kernel_rfl) aw fun y=>by kernel_rfl
abbrev Nk:Shape:=⟨[b8 0 600000,ah 1],[(600000,.row .need,.same)],36⟩
abbrev M8:Shape:=⟨[b8 0 3000000,ah 4],[cq 3000000 .need 0 0],36⟩
noncomputable def zq(a:Nk.H):Option M8.H:=
(B' (((),a.1.2.1,(0:Int),()),a.2.1,())).bind fun b=>
 some (((),b.1.2.1,()),b.2.1,())
noncomputable def ND:a0:=rW az Tryz.f60 Nk M8 [] [0] zq
theorem abS:a4 aa 60 ND:=s_ NH Tryz.func60 (by kernel_rfl) (bG Za aw) (fun y=>by kernel_rfl) fun a=>by kernel_rfl
noncomputable abbrev acN:bz:=[(18,NF),(54,qi),(60,ND)]
theorem NI:a9 aa (bo az acN):=bB ⟨abU,sr,abS,⟨⟩⟩
abbrev tl:Shape:=⟨[b8 0 3000000,ah 1,ah 5],[(3000000,.deep .pack,.slot 0 0)],43⟩
abbrev B1:List be:=[(.exit 0,⟨[b8 0 3000000,ah 1],[(3000000,.deep .pack,.slot 0 0)],43⟩)]
noncomputable def tu(y:tl.H):cA tl B1:=
 bif(decide (y.1.2.2.1<(y.2.1.length:Int))) then
(f54 ((y.1.2.1,()),())).bind fun a=>
(fa y.2.1.length y.1.2.2.1).bind fun b=>
((y.2.1[b]?).bind fun q=>some (aU.mk a.1.1 q.bH q.bL q.b4)).bind fun c=>
(f54 (((IntKind.i64.wrap (y.1.2.1+(1:Int))),()),())).bind fun d=>
(fa (y.2.1.set b c).length y.1.2.2.1).bind fun e=>
(((y.2.1.set b c)[e]?).bind fun q=>some (aU.mk q.name d.1.1 q.bL q.b4)).bind fun f=>
(fa ((y.2.1.set b c).set e f).length y.1.2.2.1).bind fun g=>
(((y.2.1.set b c).set e f)[g]?).bind fun h=>
(zq (((),(IntKind.i64.wrap ((IntKind.i64.wrap (y.1.2.1+(1:Int)))+(1:Int))),()),h.bL,())).bind fun i=>
(fa (((y.2.1.set b c).set e f).set g (aU.mk h.name h.bH i.2.1 h.b4)).length y.1.2.2.1).bind fun j=>
((((y.2.1.set b c).set e f).set g (aU.mk h.name h.bH i.2.1 h.b4))[j]?).bind fun k=>
(zs (((),i.1.2.1,()),k.b4,())).bind fun l=>
 some (.inl (((),l.1.2.1,(IntKind.i64.wrap (y.1.2.2.1+(1:Int))),()),((((y.2.1.set b c).set e f).set g (aU.mk h.name h.bH i.2.1 h.b4)).set j (aU.mk k.name k.bH k.bL l.2.1)),()))
else
 some (.inr (((),y.1.2.1,()),y.2.1,()))
noncomputable def Ca:tl.H->Option (aR B1):=bK tu
theorem Zc:bl aa (aH (codeOf Tryz.f26) 1 26) (bC tl B1 Ca):=cB NI (by kernel_rfl) aw fun y=>by kernel_rfl
abbrev Nl:Shape:=⟨[b8 0 600000,ah 1],[(600000,.deep .pack,.same)],43⟩
abbrev M9:Shape:=⟨[b8 0 3000000,ah 4],[(3000000,.deep .pack,.slot 0 0)],43⟩
noncomputable def zr(a:Nl.H):Option M9.H:=
(Ca (((),a.1.2.1,(0:Int),()),a.2.1,())).bind fun b=>
 some (((),b.1.2.1,()),b.2.1,())
noncomputable def NE:a0:=rW az Tryz.f26 Nl M9 [] [0] zr
theorem abT:a4 aa 26 NE:=s_ NI Tryz.func26 (by kernel_rfl) (bG Zc aw) (fun y=>by kernel_rfl) fun a=>by kernel_rfl
noncomputable abbrev acP:bz:=[(26,NE)]
theorem acR:a9 aa (bo az acP):=bB ⟨abT,⟨⟩⟩
abbrev Nn:Shape:=⟨[c5 0 [.own 600000],ah 1],[(600000,.deep .pack,.same)],10⟩
abbrev M':Shape:=⟨[c5 0 [.own 3000000],ah 4],[(3000000,.deep .pack,.slot 0 0)],10⟩
noncomputable def un(a:Nn.H):Option M'.H:=
(zr (((),a.1.2.1,()),a.2.1,())).bind fun b=>
 some ((((),()),b.1.2.1,()),b.2.1,())
noncomputable def NG:a0:=rW az Tryz.f17 Nn M' [] [0] un
theorem abV:a4 aa 17 NG:=s_ acR Tryz.func17 (by kernel_rfl) aw (fun y=>by kernel_rfl) fun a=>by kernel_rfl
noncomputable abbrev akg:bz:=[(54,qi)]
theorem Tk:a9 aa (bo az akg):=bB ⟨sr,⟨⟩⟩
abbrev tS:Shape:=⟨[aX 0 .entry,ah 1,ah 5],[],51⟩
abbrev DY:List be:=[(.ret,⟨[ah 4],[],51⟩),(.exit 0,⟨[ah 1],[],51⟩)]
noncomputable def tY(y:tS.H):cA tS DY:=
 bif(decide (y.1.2.2.1<(y.1.1.length:Int))) then
(bg y.1.1 y.1.2.2.1).bind fun a=>
(f54 ((y.1.2.1,()),())).bind fun b=>
 bif(!(a.path==b.1.1)) then
 some (.inr (.inl ((((-1):Int),()),())))
else
(bg y.1.1 y.1.2.2.1).bind fun c=>
 bif(c.kind !=(IntKind.i64.wrap (y.1.2.1+(1:Int)))) then
 some (.inr (.inl ((((-1):Int),()),())))
else
(bg y.1.1 y.1.2.2.1).bind fun d=>
 bif(d.mode !=(IntKind.i64.wrap ((IntKind.i64.wrap (y.1.2.1+(1:Int)))+(1:Int)))) then
 some (.inr (.inl ((((-1):Int),()),())))
else
(bg y.1.1 y.1.2.2.1).bind fun e=>
(f54 (((IntKind.i64.wrap ((IntKind.i64.wrap ((IntKind.i64.wrap (y.1.2.1+(1:Int)))+(1:Int)))+(1:Int))),()),())).bind fun f=>
 bif(!(e.text==f.1.1)) then
 some (.inr (.inl ((((-1):Int),()),())))
else
 some (.inl ((y.1.1,(IntKind.i64.wrap ((IntKind.i64.wrap ((IntKind.i64.wrap ((IntKind.i64.wrap (y.1.2.1+(1:Int)))+(1:Int)))+(1:Int)))+(1:Int))),(IntKind.i64.wrap (y.1.2.2.1+(1:Int))),()),()))
else
 some (.inr (.inr ((y.1.2.1,()),())))
noncomputable def Eh:tS.H->Option (aR DY):=bK tY
theorem aa5:bl aa (aH (codeOf Tryz.f19) 1 26) (bC tS DY Eh):=cB Tk (by kernel_rfl) aw fun y=>by kernel_rfl
abbrev i19:Shape:=⟨[aX 0 .entry,ah 1],[],51⟩
abbrev RB:Shape:=⟨[ah 4],[],51⟩
noncomputable def f19(a:i19.H):Option RB.H:=
(Eh ((a.1.1,a.1.2.1,(0:Int),()),())).bind fun b=>
(match b with
|.inl c=>
 some ((c.1.1,()),())
|.inr d=>
 some ((d.1.1,()),()))
noncomputable def SX:a0:=a' az Tryz.f19 i19 RB [] f19
theorem agS:a4 aa 19 SX:=bb Tk Tryz.func19 (by kernel_rfl) (bG aa5 aw) (fun y=>by kernel_rfl) fun a=>by kernel_rfl
noncomputable abbrev ajX:bz:=[(19,SX),(54,qi),(112,Qm)]
theorem Tc:a9 aa (bo az ajX):=bB ⟨agS,sr,adK,⟨⟩⟩
abbrev yy:Shape:=⟨[aX 0 .pack,ah 1,ah 5],[],51⟩
abbrev DS:List be:=[(.ret,⟨[ah 4],[],51⟩),(.exit 0,⟨[ah 1],[],51⟩)]
noncomputable def yU(y:yy.H):cA yy DS:=
 bif(decide (y.1.2.2.1<(y.1.1.length:Int))) then
(bg y.1.1 y.1.2.2.1).bind fun a=>
(f54 ((y.1.2.1,()),())).bind fun b=>
 bif(!(a.name==b.1.1)) then
 some (.inr (.inl ((((-1):Int),()),())))
else
(bg y.1.1 y.1.2.2.1).bind fun c=>
(f54 (((IntKind.i64.wrap (y.1.2.1+(1:Int))),()),())).bind fun d=>
 bif(!(c.bH==d.1.1)) then
 some (.inr (.inl ((((-1):Int),()),())))
else
(bg y.1.1 y.1.2.2.1).bind fun e=>
(f112 ((e.bL,(IntKind.i64.wrap ((IntKind.i64.wrap (y.1.2.1+(1:Int)))+(1:Int))),()),())).bind fun f=>
 bif(decide (f.1.1<(0:Int))) then
 some (.inr (.inl ((((-1):Int),()),())))
else
(bg y.1.1 y.1.2.2.1).bind fun g=>
(f19 ((g.b4,f.1.1,()),())).bind fun h=>
 bif(decide (h.1.1<(0:Int))) then
 some (.inr (.inl ((((-1):Int),()),())))
else
 some (.inl ((y.1.1,h.1.1,(IntKind.i64.wrap (y.1.2.2.1+(1:Int))),()),()))
else
 some (.inr (.inr ((y.1.2.1,()),())))
noncomputable def D':yy.H->Option (aR DS):=bK yU
theorem aaX:bl aa (aH (codeOf Tryz.f68) 1 26) (bC yy DS D'):=cB Tc (by kernel_rfl) aw fun y=>by kernel_rfl
abbrev i68:Shape:=⟨[aX 0 .pack,ah 1],[],51⟩
abbrev Rg:Shape:=⟨[ah 4],[],51⟩
noncomputable def f68(a:i68.H):Option Rg.H:=
(D' ((a.1.1,a.1.2.1,(0:Int),()),())).bind fun b=>
(match b with
|.inl c=>
 some ((c.1.1,()),())
|.inr d=>
 some ((d.1.1,()),()))
noncomputable def SE:a0:=a' az Tryz.f68 i68 Rg [] f68
theorem agA:a4 aa 68 SE:=bb Tc Tryz.func68 (by kernel_rfl) (bG aaX aw) (fun y=>by kernel_rfl) fun a=>by kernel_rfl
noncomputable abbrev aka:bz:=[(68,SE)]
theorem akw:a9 aa (bo az aka):=bB ⟨agA,⟨⟩⟩
abbrev i31:Shape:=⟨[c5 0 [cH .pack],ah 1],[],12⟩
abbrev Rv:Shape:=⟨[ah 4],[],12⟩
noncomputable def f31(a:i31.H):Option Rv.H:=
(f68 ((a.1.1.1,a.1.2.1,()),())).bind fun b=>
 bif(decide (b.1.1<(0:Int))) then
 some ((((-1):Int),()),())
else
 some ((b.1.1,()),())
noncomputable def SQ:a0:=a' az Tryz.f31 i31 Rv [] f31
theorem agM:a4 aa 31 SQ:=bb akw Tryz.func31 (by kernel_rfl) aw (fun y=>by kernel_rfl) fun a=>by kernel_rfl
abbrev dv(k:Int):Prop:=k<=2305843009213693952
theorem Uj(m:Int)(s:ak)(hm:0<=m)(hl:m+(s.length:Int)<=2305843009213693952):hB (Eo ((m,(s,())),())) (fun q=>match q with
  |.inl y=>∃(qt:Int) (am:ak),y=((qt,(am,())),())/\qt.toNat<m.toNat/\0<=qt/\qt+(am.length:Int)<=2305843009213693952
  |.inr b=>b.1.1.length<=2305843009213693952):=by
 simp only[Eo];by_cases al:m>0
 ·have aF:r3 .i64 m 10=some (m/10):=aaK rfl hm (by omega) (by decide)
  have hr:rY m 10=some (m%10):=aaJ hm (by decide)
  simp only[al,decide_true,cond_true,hr,aF,Option.bind_some];have hc:=Mz (s:=strOf ([(IntKind.u8.wrap (IntKind.i64.wrap ((48:Int)+m%10)))]:List Int)) (t:=s) (by simp[strOf];omega)
  simp only[hc,Option.bind_some];refine⟨_,rfl,m/10,_,rfl,by omega,by omega,?_⟩
  simp[strOf];omega
 ·simp only[al,decide_false,cond_false];refine⟨_,rfl,?_⟩;show s.length<=2305843009213693952;omega
theorem VI(k:Int)(h0:1<=k)(h1:dv k):hB (f54 ((k,()),())) (fun _=>True):=by
 have hb:hB (Ec ((k,(([]:ak),())),())) (fun r=>r.1.1.length<=2305843009213693952):=by
  refine hB.loop (fun n y=>∃(m:Int) (s:ak),y=((m,(s,())),())/\n=m.toNat/\0<=m/\m+(s.length:Int)<=2305843009213693952) (fun n y aj=>?_) k.toNat _ ⟨k,[],rfl,rfl,by omega,by simpa using h1⟩
  obtain⟨m,s,rfl,rfl,hm,hl⟩:=aj;refine(Uj m s hm hl).mono fun q aF=>?_
  cases q with
  |inl y=>
   obtain⟨qt,am,rfl,aB,ao,bj⟩:=aF;exact⟨qt.toNat,aB,qt,am,rfl,rfl,ao,bj⟩
  |inr b=>exact aF
 simp only[f54];have Y:decide (k<=0)=false:=decide_eq_false (by omega)
 simp only[Y,cond_false];refine hb.bind fun r hr=>?_
 have hr:r.1.1.length<=2305843009213693952:=hr;rw[Mz (show([109]:ak).length+r.1.1.length<=_ by simp;omega),Option.bind_some]
 exact .ret trivial
noncomputable def mt(k:Int):ak:=match f54 ((k,()),()) with
 |some r=>r.1.1
 |none=>[]
theorem kU{k:Int}(h0:1<=k)(h1:dv k):f54 ((k,()),())=some ((mt k,()),()):=by
 obtain⟨⟨⟨s,u⟩,bx⟩,e,_⟩:=VI k h0 h1;unfold mt;rw[e]
theorem Ez{aE:Type}{l xs:List aE}{i:Nat}{c:aE}(hl:l.length=i)(hi:i<xs.length):(l++xs.drop i).set i c=(l++[c])++xs.drop (i+1):=by
 subst hl;rw[List.set_append_right _ _ (Nat.le_refl _),Nat.sub_self,List.drop_eq_getElem_cons hi,List.set_cons_zero];simp
theorem EK{aE:Type}{l xs:List aE}{i:Nat}(hl:l.length=i):(l++xs.drop i)[i]? =xs[i]? :=by
 subst hl;rw[List.getElem?_append_right (Nat.le_refl _),Nat.sub_self];simp
theorem Ch{aE:Type}{l:List aE}{i:Nat}{c:aE}(h:i<l.length):(l.set i c)[i]? =some c:=by simp[h]
noncomputable def uV(k:Int):dr:=⟨mt k,k+1,mt (k+2)⟩
noncomputable def e_(k:Int)(n:Nat):List dr:=(List.range n).map fun(i:Nat)=>uV (k+3*(i:Int))
theorem qM(k:Int)(n:Nat):(e_ k n).length=n:=by simp[e_]
theorem XX(k:Int)(n:Nat):e_ k (n+1)=e_ k n++[uV (k+3*(n:Int))]:=by simp[e_,List.range_succ]
theorem Zt{k:Int}{n i:Nat}(h:i<n):(e_ k n)[i]? =some (uV (k+3*(i:Int))):=by simp[e_,h]
noncomputable def uW(k:Int):aZ:=⟨mt k,k+1,k+2,mt (k+3)⟩
noncomputable def e'(k:Int)(n:Nat):List aZ:=(List.range n).map fun(i:Nat)=>uW (k+4*(i:Int))
theorem qN(k:Int)(n:Nat):(e' k n).length=n:=by simp[e']
theorem XY(k:Int)(n:Nat):e' k (n+1)=e' k n++[uW (k+4*(n:Int))]:=by simp[e',List.range_succ]
theorem Zu{k:Int}{n i:Nat}(h:i<n):(e' k n)[i]? =some (uW (k+4*(i:Int))):=by simp[e',h]
theorem rk{H bu:Type}{g:H->Option (Sum H bu)}(st:Nat->H)(n:Nat){b:bu}(h:∀i,i<n->g (st i)=some (.inl (st (i+1))))(he:g (st n)=some (.inr b)):bK g (st 0)=some b:=by
 suffices key:∀k i,i+k=n->bK g (st i)=some b from key n 0 (by omega)
 intro k;induction k with
 |zero=>
  intro i hi;obtain rfl:i=n:=by omega
  exact eO he
 |succ k ih=>
  intro i hi;rw[hD (h i (by omega))]
  exact ih (i+1) (by omega)
theorem U8(xs:List dr)(k:Int)(h0:1<=k)(M:cg xs.length)(h1:dv (k+3*(xs.length:Int))):zq (((),(k,())),(xs,()))=some (((),(k+3*(xs.length:Int),())),(e_ k xs.length,())):=by
 have key:B' (((),(k,((0:Int),()))),(xs,()))=some (((),(k+3*(xs.length:Int),())),(e_ k xs.length,())):=by
  have:=rk (g:=ts) (fun i=>(((),(k+3*(i:Int),((i:Int),()))),(e_ k i++xs.drop i,()))) xs.length (b:=(((),(k+3*(xs.length:Int),())),(e_ k xs.length,()))) (fun i hi=>?_) ?_
  ·have e:(((),(k+3*((0:Nat):Int),(((0:Nat):Int),()))),(e_ k 0++xs.drop 0,()))=((((),(k,((0:Int),()))),(xs,())):tk.H):=by
    show(((),(k+3*((0:Nat):Int),(((0:Nat):Int),()))),(e_ k 0++xs.drop 0,()))=(((),(k,((0:Int),()))),(xs,()));simp[e_]
   exact(congrArg (bK ts) e.symm).trans this
  ·have hl:(e_ k i++xs.drop i).length=xs.length:=by simp[qM];omega
   have hg:(e_ k i++xs.drop i)[i]? =some xs[i]:=by rw[EK (qM k i)];exact List.getElem?_eq_getElem hi
   have a1:IntKind.i64.wrap (k+3*(i:Int)+1)=k+3*(i:Int)+1:=ei (by omega) (by unfold dv at h1;omega)
   have a2:IntKind.i64.wrap (k+3*(i:Int)+1+1)=k+3*(i:Int)+2:=(ei (by omega) (by unfold dv at h1;omega)).trans (by omega)
   have gO:IntKind.i64.wrap (k+3*(i:Int)+2+1)=k+3*((i+1:Nat):Int):=(ei (by omega) (by unfold dv at h1;omega)).trans (by omega)
   have t1:=kU (k:=k+3*(i:Int)) (by omega) (by unfold dv at h1 ⊢;omega)
   have t2:=kU (k:=k+3*(i:Int)+2) (by omega) (by unfold dv at h1 ⊢;omega)
   have hw:aD i:=by unfold aD;omega
   have M:=Ez (c:=uV (k+3*(i:Int))) (qM k i) hi;rw[<-XX] at M;simp only[ts,hl,ce hi,cond_true,t1,Option.bind_some,mb hi,hg,List.length_set,Ch (show i<(e_ k i++xs.drop i).length by omega),List.set_set,a1,a2,gO,t2,b_ hw]
   refine congrArg some (congrArg Sum.inl ?_);rw[<-M];rfl
  ·have hl:(e_ k xs.length++xs.drop xs.length)=e_ k xs.length:=by simp
   simp only[ts,hl,qM,cX,cond_false]
 simp only[zq,key,Option.bind_some]
theorem UB(xs:List aZ)(k:Int)(h0:1<=k)(M:cg xs.length)(h1:dv (k+4*(xs.length:Int))):zs (((),(k,())),(xs,()))=some (((),(k+4*(xs.length:Int),())),(e' k xs.length,())):=by
 have key:Cb (((),(k,((0:Int),()))),(xs,()))=some (((),(k+4*(xs.length:Int),())),(e' k xs.length,())):=by
  have:=rk (g:=tv) (fun i=>(((),(k+4*(i:Int),((i:Int),()))),(e' k i++xs.drop i,()))) xs.length (b:=(((),(k+4*(xs.length:Int),())),(e' k xs.length,()))) (fun i hi=>?_) ?_
  ·have e:(((),(k+4*((0:Nat):Int),(((0:Nat):Int),()))),(e' k 0++xs.drop 0,()))=((((),(k,((0:Int),()))),(xs,())):tn.H):=by
    show(((),(k+4*((0:Nat):Int),(((0:Nat):Int),()))),(e' k 0++xs.drop 0,()))=(((),(k,((0:Int),()))),(xs,()));simp[e']
   exact(congrArg (bK tv) e.symm).trans this
  ·have hl:(e' k i++xs.drop i).length=xs.length:=by simp[qN];omega
   have hg:(e' k i++xs.drop i)[i]? =some xs[i]:=by rw[EK (qN k i)];exact List.getElem?_eq_getElem hi
   have a1:IntKind.i64.wrap (k+4*(i:Int)+1)=k+4*(i:Int)+1:=ei (by omega) (by unfold dv at h1;omega)
   have a2:IntKind.i64.wrap (k+4*(i:Int)+1+1)=k+4*(i:Int)+2:=(ei (by omega) (by unfold dv at h1;omega)).trans (by omega)
   have gO:IntKind.i64.wrap (k+4*(i:Int)+2+1)=k+4*(i:Int)+3:=(ei (by omega) (by unfold dv at h1;omega)).trans (by omega)
   have v_:IntKind.i64.wrap (k+4*(i:Int)+3+1)=k+4*((i+1:Nat):Int):=(ei (by omega) (by unfold dv at h1;omega)).trans (by omega)
   have t1:=kU (k:=k+4*(i:Int)) (by omega) (by unfold dv at h1 ⊢;omega)
   have t2:=kU (k:=k+4*(i:Int)+3) (by omega) (by unfold dv at h1 ⊢;omega)
   have hw:aD i:=by unfold aD;omega
   have M:=Ez (c:=uW (k+4*(i:Int))) (qN k i) hi;rw[<-XY] at M;simp only[tv,hl,ce hi,cond_true,t1,Option.bind_some,mb hi,hg,List.length_set,Ch (show i<(e' k i++xs.drop i).length by omega),List.set_set,a1,a2,gO,v_,t2,b_ hw]
   refine congrArg some (congrArg Sum.inl ?_);rw[<-M];rfl
  ·have hl:(e' k xs.length++xs.drop xs.length)=e' k xs.length:=by simp
   simp only[tv,hl,qN,cX,cond_false]
 simp only[zs,key,Option.bind_some]
theorem EQ(a:Int):(a !=a)=false:=by simp
theorem Va(n:Nat)(k:Int)(h0:1<=k)(M:cg n)(h1:dv (k+3*(n:Int))):f112 ((e_ k n,(k,())),())=some ((k+3*(n:Int),()),()):=by
 have key:Dp ((e_ k n,(k,((0:Int),()))),())=some (.inr ((k+3*(n:Int),()),())):=by
  have:=rk (g:=tL) (fun i=>((e_ k n,(k+3*(i:Int),((i:Int),()))),())) n (b:=.inr ((k+3*(n:Int),()),())) (fun i hi=>?_) ?_
  ·have e:((e_ k n,(k+3*((0:Nat):Int),(((0:Nat):Int),()))),())=(((e_ k n,(k,((0:Int),()))),()):tA.H):=by
    show((e_ k n,(k+3*((0:Nat):Int),(((0:Nat):Int),()))),())=((e_ k n,(k,((0:Int),()))),());simp
   exact(congrArg (bK tL) e.symm).trans this
  ·have a1:IntKind.i64.wrap (k+3*(i:Int)+1)=k+3*(i:Int)+1:=ei (by omega) (by unfold dv at h1;omega)
   have a2:IntKind.i64.wrap (k+3*(i:Int)+1+1)=k+3*(i:Int)+2:=(ei (by omega) (by unfold dv at h1;omega)).trans (by omega)
   have gO:IntKind.i64.wrap (k+3*(i:Int)+2+1)=k+3*((i+1:Nat):Int):=(ei (by omega) (by unfold dv at h1;omega)).trans (by omega)
   have t1:=kU (k:=k+3*(i:Int)) (by omega) (by unfold dv at h1 ⊢;omega)
   have t2:=kU (k:=k+3*(i:Int)+2) (by omega) (by unfold dv at h1 ⊢;omega)
   have hw:aD i:=by unfold aD;omega
   simp only[tL,qM,ce hi,cond_true,bZ,Zt hi,uV,t1,t2,Option.bind_some,beq_self_eq_true,Bool.not_true,cond_false,a1,a2,gO,EQ,b_ hw]
  ·simp only[tL,qM,cX,cond_false]
 simp only[f112,key,Option.bind_some]
theorem UD(n:Nat)(k:Int)(h0:1<=k)(M:cg n)(h1:dv (k+4*(n:Int))):f19 ((e' k n,(k,())),())=some ((k+4*(n:Int),()),()):=by
 have key:Eh ((e' k n,(k,((0:Int),()))),())=some (.inr ((k+4*(n:Int),()),())):=by
  have:=rk (g:=tY) (fun i=>((e' k n,(k+4*(i:Int),((i:Int),()))),())) n (b:=.inr ((k+4*(n:Int),()),())) (fun i hi=>?_) ?_
  ·have e:((e' k n,(k+4*((0:Nat):Int),(((0:Nat):Int),()))),())=(((e' k n,(k,((0:Int),()))),()):tS.H):=by
    show((e' k n,(k+4*((0:Nat):Int),(((0:Nat):Int),()))),())=((e' k n,(k,((0:Int),()))),());simp
   exact(congrArg (bK tY) e.symm).trans this
  ·have a1:IntKind.i64.wrap (k+4*(i:Int)+1)=k+4*(i:Int)+1:=ei (by omega) (by unfold dv at h1;omega)
   have a2:IntKind.i64.wrap (k+4*(i:Int)+1+1)=k+4*(i:Int)+2:=(ei (by omega) (by unfold dv at h1;omega)).trans (by omega)
   have gO:IntKind.i64.wrap (k+4*(i:Int)+2+1)=k+4*(i:Int)+3:=(ei (by omega) (by unfold dv at h1;omega)).trans (by omega)
   have v_:IntKind.i64.wrap (k+4*(i:Int)+3+1)=k+4*((i+1:Nat):Int):=(ei (by omega) (by unfold dv at h1;omega)).trans (by omega)
   have t1:=kU (k:=k+4*(i:Int)) (by omega) (by unfold dv at h1 ⊢;omega)
   have t2:=kU (k:=k+4*(i:Int)+3) (by omega) (by unfold dv at h1 ⊢;omega)
   have hw:aD i:=by unfold aD;omega
   simp only[tY,qN,ce hi,cond_true,bZ,Zu hi,uW,t1,t2,Option.bind_some,beq_self_eq_true,Bool.not_true,cond_false,a1,a2,gO,v_,EQ,b_ hw]
  ·simp only[tY,qN,cX,cond_false]
 simp only[f19,key,Option.bind_some]
def jf(p:aU):Int:=2+3*(p.bL.length:Int)+4*(p.b4.length:Int)
noncomputable def pS(k:Int)(p:aU):aU:=⟨mt k,mt (k+1),e_ (k+2) p.bL.length,e' (k+2+3*(p.bL.length:Int)) p.b4.length⟩
noncomputable def eZ:Int->List aU->List aU
 |_,[]=>[]
 |k,p::r=>pS k p::eZ (k+jf p) r
def dQ:Int->List aU->Int
 |k,[]=>k
 |k,p::r=>dQ (k+jf p) r
theorem ab0(p:aU):2<=jf p:=by unfold jf;omega
theorem tM:∀(ps:List aU) (k:Int),k<=dQ k ps:=by
 intro ps;induction ps with
 |nil=>intro k;exact Int.le_refl _
 |cons p r ih=>intro k;have h1:=ih (k+jf p);have h2:=ab0 p;show k<=dQ (k+jf p) r;omega
theorem Cs:∀(ps lY:List aU) (k:Int),dQ k (ps++lY)=dQ (dQ k ps) lY:=by
 intro ps;induction ps with
 |nil=>intro lY k;rfl
 |cons p r ih=>intro lY k;exact ih lY _
theorem Zs:∀(ps lY:List aU) (k:Int),eZ k (ps++lY)=eZ k ps++eZ (dQ k ps) lY:=by
 intro ps;induction ps with
 |nil=>intro lY k;rfl
 |cons p r ih=>intro lY k;exact congrArg (pS k p:: ·) (ih lY _)
theorem w6:∀(ps:List aU) (k:Int),(eZ k ps).length=ps.length:=by
 intro ps;induction ps with
 |nil=>intro k;rfl
 |cons p r ih=>intro k;simp[eZ,ih]
theorem Zr:∀{ps:List aU} {k:Int} {i:Nat} {p:aU},ps[i]? =some p->(eZ k ps)[i]? =some (pS (dQ k (ps.take i)) p):=by
 intro ps;induction ps with
 |nil=>intro k i p h;simp at h
 |cons q r ih=>
  intro k i p h;cases i with
  |zero=>
   simp only[List.getElem?_cons_zero,Option.some.injEq] at h;subst h;rfl
  |succ i=>
   simp only[List.getElem?_cons_succ] at h;show(pS k q::eZ (k+jf q) r)[i+1]? =_;rw[List.getElem?_cons_succ,ih h];rfl
theorem aab:∀{ps:List aU} {k:Int},(∀p,p∈ps->cg p.bL.length/\cg p.b4.length)->dQ k ps<=k+16777216*(ps.length:Int):=by
 intro ps;induction ps with
 |nil=>intro k _;show k<=_;simp
 |cons p r ih=>
  intro k h;obtain⟨h1,h2⟩:=h p List.mem_cons_self;have Z:=ih (k:=k+jf p) fun q aF=>h q (List.mem_cons_of_mem _ aF)
  show dQ (k+jf p) r<=_;have h1:p.bL.length<=2097152:=h1;have h2:p.b4.length<=2097152:=h2;unfold jf at*;simp only[List.length_cons];omega
theorem LF{ps:List aU}(hb:eC ps):dv (dQ 1 ps):=by
 have h:=aab (ps:=ps) (k:=1) fun p al=>⟨(hb.2 p al).2.2.1.1,(hb.2 p al).2.2.2.1⟩
 have hl:ps.length<=2097152:=hb.1;unfold dv;omega
theorem DL{aE:Type}{xs:List aE}{i:Nat}{x:aE}(h:xs[i]? =some x):xs.take (i+1)=xs.take i++[x]:=by
 rw[List.take_add_one,h];rfl
theorem J5{ps:List aU}{k:Int}{i:Nat}{p:aU}(h:ps[i]? =some p):dQ k (ps.take i)+jf p<=dQ k ps:=by
 have e:ps=ps.take i++(p::ps.drop (i+1)):=by
  obtain⟨hi,hx⟩:=List.getElem?_eq_some_iff.1 h;rw[<-hx,List.getElem_cons_drop,List.take_append_drop]
 have:dQ k ps=dQ (dQ k (ps.take i)) (p::ps.drop (i+1)):=by
  rw[<-Cs,<-e]
 rw[this];exact tM _ _
theorem U7(xs:List aU)(k:Int)(h0:1<=k)(M:eC xs)(h1:dv (dQ k xs)):zr (((),(k,())),(xs,()))=some (((),(dQ k xs,())),(eZ k xs,())):=by
 have key:Ca (((),(k,((0:Int),()))),(xs,()))=some (((),(dQ k xs,())),(eZ k xs,())):=by
  have:=rk (g:=tu) (fun i=>(((),(dQ k (xs.take i),((i:Int),()))),(eZ k (xs.take i)++xs.drop i,()))) xs.length (b:=(((),(dQ k xs,())),(eZ k xs,()))) (fun i hi=>?_) ?_
  ·have e:(((),(dQ k (xs.take 0),(((0:Nat):Int),()))),(eZ k (xs.take 0)++xs.drop 0,()))=((((),(k,((0:Int),()))),(xs,())):tl.H):=by
    show(((),(dQ k (xs.take 0),(((0:Nat):Int),()))),(eZ k (xs.take 0)++xs.drop 0,()))=(((),(k,((0:Int),()))),(xs,()));simp[eZ,dQ]
   exact(congrArg (bK tu) e.symm).trans this
  ·have hlen:xs.length<=2097152:=M.1;have hx:xs[i]? =some xs[i]:=List.getElem?_eq_getElem hi;obtain⟨_,_,bM,jj⟩:=M.2 xs[i] (List.getElem_mem hi);have hm:=J5 (k:=k) hx;have oP:=tM (xs.take i) k;obtain⟨en,hkk⟩:∃en,dQ k (xs.take i)=en:=⟨_,rfl⟩;have k2:(eZ k (xs.take i)).length=i:=by rw[w6,List.length_take];omega
   have hl:(eZ k (xs.take i)++xs.drop i).length=xs.length:=by simp[k2];omega
   have hg:(eZ k (xs.take i)++xs.drop i)[i]? =some xs[i]:=by rw[EK k2];exact hx
   have mA:=Ez (c:=pS en xs[i]) k2 hi;have air:eZ k (xs.take (i+1))=eZ k (xs.take i)++[pS en xs[i]]:=by rw[DL hx,Zs,hkk];rfl
   have hne:dQ k (xs.take (i+1))=en+jf xs[i]:=by rw[DL hx,Cs,hkk];rfl
   rw[<-air] at mA;rw[hkk] at hm oP;rw[hkk];unfold dv at h1;have c1:(1:Int)<=en:=by omega
   unfold jf at hm hne;have a1:IntKind.i64.wrap (en+1)=en+1:=ei (by omega) (by omega)
   have a2:IntKind.i64.wrap (en+1+1)=en+2:=(ei (by omega) (by omega)).trans (by omega)
   have t1:=kU (k:=en) c1 (by unfold dv;omega)
   have t2:=kU (k:=en+1) (by omega) (by unfold dv;omega)
   have hw:aD i:=by unfold aD;omega
   have q1:=U8 xs[i].bL (en+2) (by omega) bM.1 (by unfold dv;omega)
   have q2:=UB xs[i].b4 (en+2+3*(xs[i].bL.length:Int)) (by omega) jj.1 (by unfold dv;omega)
   simp only[tu,hl,ce hi,cond_true,t1,Option.bind_some,mb hi,hg,List.length_set,Ch (show i<(eZ k (xs.take i)++xs.drop i).length by omega),List.set_set,a1,a2,t2,q1,q2,b_ hw]
   refine congrArg some (congrArg Sum.inl ?_);rw[hne,<-mA];have bI:en+2+3*(xs[i].bL.length:Int)+4*(xs[i].b4.length:Int)=en+(2+3*(xs[i].bL.length:Int)+4*(xs[i].b4.length:Int)):=by omega
   rw[bI];rfl
  ·have e1:xs.take xs.length=xs:=List.take_length;have hl:(eZ k xs++xs.drop xs.length)=eZ k xs:=by simp
   simp only[tu,e1,hl,w6,cX,cond_false]
 simp only[zr,key,Option.bind_some]
theorem I4(xs:List aU)(M:eC xs):un ((((),()),((1:Int),())),(xs,()))=some ((((),()),(dQ 1 xs,())),(eZ 1 xs,())):=by
 simp only[un,U7 xs 1 (Int.le_refl _) M (LF M),Option.bind_some]
theorem U'(xs:List aU)(k:Int)(h0:1<=k)(M:eC xs)(h1:dv (dQ k xs)):f68 ((eZ k xs,(k,())),())=some ((dQ k xs,()),()):=by
 have key:D' ((eZ k xs,(k,((0:Int),()))),())=some (.inr ((dQ k xs,()),())):=by
  have:=rk (g:=yU) (fun i=>((eZ k xs,(dQ k (xs.take i),((i:Int),()))),())) xs.length (b:=.inr ((dQ k xs,()),())) (fun i hi=>?_) ?_
  ·exact this
  ·have hlen:xs.length<=2097152:=M.1;have hx:xs[i]? =some xs[i]:=List.getElem?_eq_getElem hi;obtain⟨_,_,bM,jj⟩:=M.2 xs[i] (List.getElem_mem hi);have hm:=J5 (k:=k) hx;have oP:=tM (xs.take i) k;have R1:=Zr (k:=k) hx;obtain⟨en,hkk⟩:∃en,dQ k (xs.take i)=en:=⟨_,rfl⟩;have hne:dQ k (xs.take (i+1))=en+jf xs[i]:=by rw[DL hx,Cs,hkk];rfl
   rw[hkk] at hm oP R1;rw[hkk];unfold dv at h1;have c1:(1:Int)<=en:=by omega
   unfold jf at hm hne;have a1:IntKind.i64.wrap (en+1)=en+1:=ei (by omega) (by omega)
   have a2:IntKind.i64.wrap (en+1+1)=en+2:=(ei (by omega) (by omega)).trans (by omega)
   have t1:=kU (k:=en) c1 (by unfold dv;omega)
   have t2:=kU (k:=en+1) (by omega) (by unfold dv;omega)
   have hw:aD i:=by unfold aD;omega
   have q1:=Va xs[i].bL.length (en+2) (by omega) bM.1 (by unfold dv;omega)
   have q2:=UD xs[i].b4.length (en+2+3*(xs[i].bL.length:Int)) (by omega) jj.1 (by unfold dv;omega)
   have d1:decide (en+2+3*(xs[i].bL.length:Int)<0)=false:=decide_eq_false (by omega)
   have d2:decide (en+2+3*(xs[i].bL.length:Int)+4*(xs[i].b4.length:Int)<0)=false:=decide_eq_false (by omega)
   simp only[yU,w6,ce hi,cond_true,bZ,R1,pS,t1,t2,Option.bind_some,beq_self_eq_true,Bool.not_true,cond_false,a1,a2,q1,q2,d1,d2,b_ hw];refine congrArg some (congrArg Sum.inl ?_);rw[hne];have bI:en+2+3*(xs[i].bL.length:Int)+4*(xs[i].b4.length:Int)=en+(2+3*(xs[i].bL.length:Int)+4*(xs[i].b4.length:Int)):=by omega
   rw[bI]
  ·have e1:xs.take xs.length=xs:=List.take_length;simp only[yU,w6,cX,cond_false,e1]
 simp only[f68,key,Option.bind_some]
theorem VV(xs:List aU)(M:eC xs):f31 (((eZ 1 xs,()),((1:Int),())),())=some ((dQ 1 xs,()),()):=by
 have Y:decide (dQ 1 xs<0)=false:=decide_eq_false (by have:=tM xs 1;omega)
 simp only[f31,U' xs 1 (Int.le_refl _) M (LF M),Option.bind_some,Y,cond_false]
abbrev dV(s:ak):Prop:=s.length<=200
abbrev ajA(e:aZ):Prop:=dV e.path/\dV e.text
theorem YH(a)(h:cg a.1.1.length):f156 a=some (((),()),(a.1.1,())):=by
 obtain⟨⟨t,u⟩,bx⟩:=a;have h:t.length<=2097152:=h;simp only[f156,hJ (show(48:Nat)<=100 by decide) (show aD (([]:List aZ).length+t.length) by unfold aD;simp;omega),List.nil_append,Option.bind_some]
abbrev S1(p:aU):Prop:=qj p/\p.bH.length<=2097151/\∀n,n∈p.bL->n.bH.length<=2097151
abbrev kk(k:Nat)(ps:List aU):Prop:=ps.length<=k/\∀p,p∈ps->S1 p
theorem kk.mX{k:Nat}{ps:List aU}(h:kk k ps)(ag:k<=2097152):eC ps:=⟨Nat.le_trans h.1 ag,fun p al=>(h.2 p al).1⟩
theorem kk.vs{k:Nat}{ps:List aU}(h:kk k ps):mY ps:=fun p al=>(h.2 p al).2
abbrev ajz(n:dr):Prop:=dV n.name/\dV n.bH
def acf(s:ak):Bool:=!(s==[102,114,101,115,104])&&!(s==[110,111,98,111,100,121,115])
abbrev ajI(s:ak):Prop:=dV s/\acf s=true
abbrev Hh(p:aU):Prop:=ajI p.name/\dV p.bH/\(p.bL.length<=3/\∀n,n∈p.bL->ajz n)/\(p.b4.length<=17/\∀e,e∈p.b4->ajA e)
theorem Hh.ok{p:aU}(h:Hh p):S1 p:=by
 obtain⟨a,b,⟨c1,c2⟩,d1,d2⟩:=h;have up:∀{s:ak},dV s->cg s.length:=fun h=>Nat.le_trans h (by decide)
 exact⟨⟨up a.1,up b,⟨Nat.le_trans c1 (by decide),fun n hn=>⟨up (c2 n hn).1,up (c2 n hn).2⟩⟩,Nat.le_trans d1 (by decide),fun e he=>⟨up (d2 e he).1,up (d2 e he).2⟩⟩,Nat.le_trans b (by decide),fun n hn=>Nat.le_trans (c2 n hn).2 (by decide)⟩
noncomputable abbrev afV:bz:=[(85,Hn)]
theorem agi:a9 aa (bo az afV):=bB ⟨QN,⟨⟩⟩
abbrev i105:Shape:=⟨[c5 0 [cH .pack],aX 1 .pack],[],15⟩
abbrev O1:Shape:=⟨[b7 4 4 0,ah 5],[b6 4 [cH .pack]],15⟩
noncomputable def f105(a:i105.H):Option O1.H:=
(f85 ((a.1.2.1,()),())).bind fun b=>
 bif(b.1.1 !=(0:Int)) then
 some (((),b.1.1,()),(a.1.1.1,()),())
else
 some (((),(0:Int),()),(a.1.2.1,()),())
noncomputable def Qr:a0:=a' az Tryz.f105 i105 O1 [] f105
theorem adP:a4 aa 105 Qr:=bb agi Tryz.func105 (by kernel_rfl) aw (fun y=>by kernel_rfl) fun a=>by kernel_rfl
noncomputable abbrev afU:bz:=[(156,FX)]
theorem agh:a9 aa (bo az afU):=bB ⟨NR,⟨⟩⟩
abbrev i107:Shape:=⟨[c5 0 [bD,bD,cH .need,cH .entry]],[],13⟩
abbrev OZ:Shape:=⟨[b7 2 2 0],[gH 5000130 .need 2 2,gH 5000131 .entry 2 3,b6 2 [bD,bD,.own 5000130,.own 5000131]],13⟩
noncomputable def f107(a:i107.H):Option OZ.H:=
(dB 40 ([]:List dr) a.1.1.2.2.1).bind fun b=>
(f156 ((a.1.1.2.2.2.1,()),())).bind fun c=>
 some (((),()),b,c.2.1,(a.1.1.1,a.1.1.2.1,(),(),()),())
noncomputable def Qp:a0:=a' az Tryz.f107 i107 OZ [] f107
theorem adN:a4 aa 107 Qp:=bb agh Tryz.func107 (by kernel_rfl) aw (fun y=>by kernel_rfl) fun a=>by kernel_rfl
noncomputable abbrev aj1:bz:=[(107,Qp)]
theorem Te:a9 aa (bo az aj1):=bB ⟨adN,⟨⟩⟩
abbrev yA:Shape:=⟨[b7 1 1 0,b7 2 2 0,b7 3 3 0,ah 4],[b6 1 [cH .pack],gH 5000128 .pack 2 0,b6 2 [.own 5000128],gH 5000192 .pack 3 0,b6 3 [.own 5000192]],25⟩
abbrev DU:List be:=[(.exit 0,⟨[b7 2 2 0,b7 3 3 0],[gH 5000128 .pack 2 0,b6 2 [.own 5000128],gH 5000192 .pack 3 0,b6 3 [.own 5000192]],25⟩)]
noncomputable def yW(y:yA.H):cA yA DU:=
 bif(decide (y.1.2.2.2.1<(y.2.1.1.length:Int))) then
(bg y.2.1.1 y.1.2.2.2.1).bind fun a=>
(f107 (((a.name,a.bH,a.bL,a.b4,()),()),())).bind fun b=>
(dB 80 y.2.2.2.2.1 ([(aU.mk b.2.2.2.1.1 b.2.2.2.1.2.1 b.2.1 b.2.2.1)]:List aU)).bind fun c=>
 some (.inl (((),(),(),(IntKind.i64.wrap (y.1.2.2.2.1+(1:Int))),()),(y.2.1.1,()),y.2.2.1,((),()),c,((),()),()))
else
 some (.inr (((),(),()),y.2.2.1,((),()),y.2.2.2.2.1,((),()),()))
noncomputable def Eb:yA.H->Option (aR DU):=bK yW
theorem aaZ:bl aa (aH (codeOf Tryz.f62) 1 58) (bC yA DU Eb):=cB Te (by kernel_rfl) aw fun y=>by kernel_rfl
abbrev i62:Shape:=⟨[c5 0 [cH .pack]],[],25⟩
abbrev Rk:Shape:=⟨[b7 2 2 0],[gH 5000128 .pack 2 0,b6 2 [.own 5000128]],25⟩
noncomputable def f62(a:i62.H):Option Rk.H:=
(Eb (((),(),(),(0:Int),()),(a.1.1.1,()),([]:List aU),((),()),([]:List aU),((),()),())).bind fun b=>
 some (((),()),b.2.2.2.1,((),()),())
noncomputable def SG:a0:=a' az Tryz.f62 i62 Rk [] f62
theorem agC:a4 aa 62 SG:=bb Te Tryz.func62 (by kernel_rfl) (bG aaZ aw) (fun y=>by kernel_rfl) fun a=>by kernel_rfl
theorem W7(a)(hb:eC a.1.1)(hv:mY a.1.1):f85 a=some ((fC a.1.1,()),()):=by
 obtain⟨⟨ps,u⟩,bx⟩:=a;have hl:ps.length<=2097152:=hb.1;have key:yK ((ps,((0:Int),())),())=some (bif allI (sw ps) 0 ps then .inr ((ps,()),()) else .inl (((1:Int),()),())):=by
  refine fz po ps (fun i=>((ps,((i:Int),())),())) _ _ _ (fun i x hx=>?_) ?_
  ·have hi:=ca hx;have hw:aD i:=by unfold aD;omega
   have vD:=hb.2 x (List.mem_of_getElem? hx);simp only[po,ce hi,cond_true,xV,bZ,hx,Option.bind_some];rw[Kj _ vD];simp only[Option.bind_some,sw,zS];cases dY x with
   |false=>rfl
   |true=>
    simp only[Bool.not_true,cond_false,Bool.true_and,mo];cases i with
    |zero=>simp only[beq_self_eq_true,Bool.not_true,cond_false,Option.bind_some,Bool.true_or,cond_true,b_ hw]
    |succ i=>
     have h0:(i+1==0)=false:=rfl;have hS:i<ps.length:=by omega
     obtain⟨q,aF⟩:∃q,ps[i]? =some q:=⟨ps[i],List.getElem?_eq_getElem hS⟩;simp only[h0,Bool.not_false,cond_true,ta (i:=i) (by unfold aD;omega),bZ,aF,hx,Option.bind_some,Bool.false_or,Nat.add_sub_cancel]
     cases Op.bytesLess q.name x.name with
     |false=>rfl
     |true=>simp only[Bool.not_true,cond_false,cond_true,b_ hw]
  ·simp only[po,cX,cond_false]
 rw[Lr] at key;have bp:decide ((ps.length:Int)>5)=!decide (ps.length<=5):=by by_cases h:ps.length<=5<;>simp only[h,decide_true,decide_false,Bool.not_true,Bool.not_false,decide_eq_true_eq,decide_eq_false_iff_not]<;>omega
 simp only[f85,key,Option.bind_some,fC];cases hA:(ps.all dY&&j8 ps) with
 |false=>rfl
 |true=>
  have ag:ps.all dY=true:=by simp only[Bool.and_eq_true] at hA;exact hA.1
  obtain⟨out,aC⟩:=Kd ((ps,()),()) hb ag;have hn:=Jv ((ps,()),()) hb hv;simp only[cond_true,Option.bind_some,aC,bp];cases decide (ps.length<=5) with
  |false=>rfl
  |true=>
   simp only[Bool.not_true,cond_false,hn,Option.bind_some];cases ps.all (fun p=>p.bL.all (hL ps))<;>cases (e9 [] ps).isSome<;>rfl
theorem YC(a)(h:qj ⟨a.1.1.1,a.1.1.2.1,a.1.1.2.2.1,a.1.1.2.2.2.1⟩):f107 a=some (((),()),(a.1.1.2.2.1,(a.1.1.2.2.2.1,((a.1.1.1,(a.1.1.2.1,((),((),())))),())))):=by
 obtain⟨⟨⟨name,bH,bL,b4,u⟩,bx⟩,iB⟩:=a;have h1:bL.length<=2097152:=h.2.2.1.1;have h2:=YH ((b4,()),()) h.2.2.2.1;simp only[f107,hJ (show(40:Nat)<=100 by decide) (show aD (([]:List dr).length+bL.length) by unfold aD;simp;omega),List.nil_append,Option.bind_some,h2]
def dD(ps:List aU)(n:ak):Nat:=(ps.takeWhile fun p=>Op.bytesLess p.name n).length
theorem _R(ps:List aU)(n:ak):dD ps n<=ps.length:=(List.takeWhile_prefix _).length_le
def ub(ps:List aU)(p:aU):List aU:=ps.take (dD ps p.name)++[p]++ps.drop (dD ps p.name)
theorem Z7(a)(hb:eC a.1.2.1)(hv:mY a.1.2.1):f105 a=some (((),(fC a.1.2.1,())),(((bif fC a.1.2.1==0 then a.1.2.1 else a.1.1.1),()),())):=by
 obtain⟨⟨⟨r,ko⟩,list,u⟩,bx⟩:=a;have e:=W7 ((list,()),()) hb hv;simp only[f105,e,Option.bind_some];have z:(fC list !=0)=!(fC list==0):=rfl;rw[z];cases hc:(fC list==0) with
 |false=>rfl
 |true=>
  have hc:fC list=0:=by simpa using hc
  simp only[Bool.not_true,cond_false,cond_true];rw[hc]
def RN(ps:List aU)(p:aU):List aU×Int:=bif dY p then(match ps.find? (fun q=>q.name==p.name) with
 |some _=>(ps,2)
 |none=>(bif fC (ub ps p)==0 then ub ps p else ps,fC (ub ps p))) else(ps,1)
theorem YD(a)(h:eC a.1.1.1):f62 a=some (((),()),(a.1.1.1,(((),()),()))):=by
 obtain⟨⟨⟨ps,ko⟩,u⟩,bx⟩:=a;have hl:ps.length<=2097152:=h.1;have key:=wK (S:=List aU) yW ps (fun i a7=>(((),((),((),((i:Int),())))),((ps,()),(([]:List aU),(((),()),(a7,(((),()),()))))))) (fun x a7=>a7++[x]) (fun a7=>(((),((),())),(([]:List aU),(((),()),(a7,(((),()),())))))) (fun i a7=>a7.length=i) [] rfl (fun i x a7 hx cW=>?_) (fun a7 cW=>?_)
 ·have key:Eb (((),((),((),((0:Int),())))),((ps,()),(([]:List aU),(((),()),(([]:List aU),(((),()),()))))))=_:=key;have e:∀(l a7:List aU),l.foldl (fun s x=>s++[x]) a7=a7++l:=by
   intro l;induction l with
   |nil=>intro a7;simp
   |cons x l ih=>intro a7;simp only[List.foldl_cons];rw[ih];simp
  simp only[f62,key,Option.bind_some];rw[e];rfl
 ·have hi:=ca hx;have hw:aD i:=by unfold aD;omega
  have e2:=YC (((x.name,(x.bH,(x.bL,(x.b4,())))),()),()) (h.2 x (List.mem_of_getElem? hx));have a5:dB 80 a7 [x]=some (a7++[x]):=hJ (by decide) (by unfold aD;simp;omega)
  simp only[yW,ce hi,cond_true,bZ,hx,Option.bind_some,e2,a5,b_ hw];exact⟨trivial,by simp[cW]⟩
 ·simp only[yW,cX,cond_false]
abbrev Sp(k:Nat)(ps:List aU):Prop:=ps.length<=k/\∀p,p∈ps->Hh p
theorem Sp.ok{k:Nat}{ps:List aU}(h:Sp k ps):kk k ps:=⟨h.1,fun p al=>(h.2 p al).ok⟩
def sh(t:List aZ)(p:ak):Option aZ:=match t[bQ t p]? with
 |some e=>bif e.path==p then some e else none
 |none=>none
theorem _8{t:List aZ}{p:ak}{e:aZ}(h:sh t p=some e):t[bQ t p]? =some e/\e.path=p:=by
 unfold sh at h;cases aC:t[bQ t p]? with
 |none=>rw[aC] at h;cases h
 |some x=>
  rw[aC] at h;cases hx:(x.path==p) with
  |false=>simp[hx] at h
  |true=>simp only[hx,cond_true,Option.some.injEq] at h;subst h;exact⟨rfl,eq_of_beq hx⟩
abbrev i12:Shape:=⟨[c5 0 [cH .pack]],[],16⟩
abbrev RF:Shape:=⟨[b8 2 3000128],[cq 3000128 .entry 2 0],16⟩
noncomputable def f12(a:i12.H):Option RF.H:=
(f46 (((a.1.1.1,()),()),())).bind fun b=>
 bif(!b.1.1) then
 some (((),()),([]:List aZ),())
else
(f51 ((a.1.1.1,()),())).bind fun c=>
 some (((),()),c.2.1,())
noncomputable def S0:a0:=a' az Tryz.f12 i12 RF [] f12
abbrev i14:Shape:=⟨[c5 0 [cH .pack]],[],15⟩
abbrev z8:Shape:=⟨[b8 2 3000128],[cq 3000128 .entry 2 0],15⟩
noncomputable def f14(a:i14.H):Option z8.H:=
(f48 (((a.1.1.1,()),()),())).bind fun b=>
 bif(!b.1.1) then
 some (((),()),([]:List aZ),())
else
(f52 ((a.1.1.1,()),())).bind fun c=>
 some (((),()),c.2.1,())
noncomputable def SZ:a0:=a' az Tryz.f14 i14 z8 [] f14
theorem aa8{t:List aZ}(a5:e7 t){k:Nat}{e:aZ}(h:t[k]? =some e):bQ t e.path=k:=by
 have h1:=jp (p:=e.path) a5 k e h;have h2:Op.bytesLess e.path e.path=false:=pq _;rw[h1] at h2;have h2:¬k<bQ t e.path:=of_decide_eq_false h2;rcases Nat.lt_or_ge (bQ t e.path) k with Z|Z
 ·exfalso
  have aI:bQ t e.path<t.length:=Nat.lt_trans Z (ca h);have bp:=List.getElem?_eq_getElem aI;have db:=jp (p:=e.path) a5 (bQ t e.path) t[bQ t e.path] bp;have hy:Op.bytesLess (t[bQ t e.path]).path e.path=true:=by
   have al:=List.pairwise_iff_getElem.1 a5 (bQ t e.path) k aI (ca h) Z;have:t[k]'(ca h)=e:=by
    have:=List.getElem?_eq_getElem (ca h);rw[h] at this;exact(Option.some.inj this).symm
   rw[this] at al;exact al
  rw[hy] at db;have:=of_decide_eq_true db.symm;omega
 ·omega
theorem KT{t:List aZ}(a5:e7 t){p:ak}{e:aZ}:sh t p=some e <-> e∈t/\e.path=p:=by
 constructor
 ·intro h;obtain⟨h1,h2⟩:=_8 h;exact⟨List.mem_of_getElem? h1,h2⟩
 ·rintro⟨h1,rfl⟩;obtain⟨k,ag⟩:=List.mem_iff_getElem?.1 h1;have:=aa8 a5 ag;unfold sh;rw[this,ag];simp
theorem abt{a b:aZ}(h:jJ a b=true):a=b:=by
 unfold jJ at h;simp only[Bool.and_eq_true,beq_iff_eq] at h;obtain⟨h1,h2,Z,aI⟩:=h;cases a;cases b;simp only at h1 h2 Z aI;subst h1 h2 Z aI;rfl
theorem KQ{t:List aZ}{k:Nat}{e x:aZ}:x∈iO t k e <-> x=e\/x∈t:=by
 constructor
 ·exact BK
 ·unfold iO;intro h;rcases h with rfl|h
  ·simp
  ·have:x∈t.take k++t.drop k:=by rw[List.take_append_drop];exact h
   simp only[List.mem_append,List.mem_singleton] at this ⊢;rcases this with h|h
   ·exact .inl (.inl h)
   ·exact .inr h
theorem YY{out D:List aZ}{e:aZ}(h:gW out e=some D)(x:aZ):x∈D <-> x=e\/x∈out:=by
 unfold gW at h;split at h
 ·rename_i q aF;cases al:(q.path==e.path) with
  |true=>
   rw[al] at h;cases hc:lB e q with
   |true=>rw[hc] at h;cases h
   |false=>
    rw[hc] at h;cases h;have:jJ e q=true:=by
     unfold lB at hc;simp only[Bool.or_eq_false_iff,Bool.not_eq_false'] at hc;exact hc.2
    have:=abt this;subst this;constructor
    ·exact .inr
    ·rintro(rfl|h)
     ·exact List.mem_of_getElem? aF
     ·exact h
  |false=>rw[al] at h;cases h;exact KQ
 ·cases h;exact KQ
theorem ZC:∀{es out D:List aZ},gj out es=some D->∀x,x∈D <-> x∈out\/x∈es:=by
 intro es;induction es with
 |nil=>intro out D h x;simp only[gj,Option.some.injEq] at h;subst h;simp
 |cons e r ih=>
  intro out D h x;rw[s9] at h;obtain⟨o1,h1,h2⟩:=Option.bind_eq_some_iff.1 h;rw[ih h2,YY h1,List.mem_cons];constructor
  ·rintro((h|h)|h)
   ·exact .inr (.inl h)
   ·exact .inl h
   ·exact .inr (.inr h)
  ·rintro(h|h|h)
   ·exact .inl (.inr h)
   ·exact .inl (.inl h)
   ·exact .inr h
theorem Xo:∀{ps:List aU} {out t:List aZ},e9 out ps=some t->∀x,x∈t <-> x∈out\/∃p,p∈ps/\x∈p.b4:=by
 intro ps;induction ps with
 |nil=>intro out t h x;simp only[e9,Option.some.injEq] at h;subst h;simp
 |cons p r ih=>
  intro out t h x;rw[wj] at h;obtain⟨D,h1,h2⟩:=Option.bind_eq_some_iff.1 h;rw[ih h2,ZC (wZ h1).2];constructor
  ·rintro((h|h)|⟨q,h,ab⟩)
   ·exact .inl h
   ·exact .inr ⟨p,List.mem_cons_self,h⟩
   ·exact .inr ⟨q,List.mem_cons_of_mem _ h,ab⟩
  ·rintro(h|⟨q,h,ab⟩)
   ·exact .inl (.inl h)
   ·rcases List.mem_cons.1 h with rfl|h
    ·exact .inl (.inr ab)
    ·exact .inr ⟨q,h,ab⟩
theorem Xn:∀{ps:List aU} {out t:List aZ},eA out=true->e9 out ps=some t->eA t=true:=by
 intro ps;induction ps with
 |nil=>intro out t aq h;simp only[e9,Option.some.injEq] at h;subst h;exact aq
 |cons p r ih=>
  intro out t aq h;rw[wj] at h;obtain⟨D,h1,h2⟩:=Option.bind_eq_some_iff.1 h;exact ih (wZ h1).1 h2
structure sX(ps:List aU)(t:List aZ):Prop where
 b4:e9 [] ps=some t
 acd:ps.all dY=true
 ajt:ps.Pairwise fun p q=>Op.bytesLess p.name q.name=true
theorem ab4{ps:List aU}(h:il ps=true):∃t,sX ps t:=by
 unfold il at h;simp only[Bool.and_eq_true] at h;obtain⟨⟨⟨⟨h1,h2⟩,Z⟩,aI⟩,bp⟩:=h;obtain⟨t,aC⟩:=Option.isSome_iff_exists.1 bp;exact⟨t,aC,h1,LI h2⟩
section
variable {ps:List aU}{t:List aZ}(R:sX ps t)
include R
theorem sX.ok:eA t=true:=Xn (by rfl) R.b4
theorem sX.HF{p:aU}(h:p∈ps):kM p.name=true/\eA p.b4=true:=by
 have:=List.all_eq_true.1 R.acd p h;unfold dY at this;simp only[Bool.and_eq_true] at this;exact⟨this.1.1.1,this.2⟩
theorem sX.ak1{p:aU}(h:p∈ps):e7 p.b4:=A' (R.HF h).2
theorem sX.up{p:aU}(h:p∈ps){path:ak}{e:aZ}(he:sh p.b4 path=some e):sh t path=some e:=by
 obtain⟨aB,ao⟩:=(KT (R.ak1 h)).1 he;exact(KT (A' R.ok)).2 ⟨(Xo R.b4 e).2 (.inr ⟨p,h,aB⟩),ao⟩
end
noncomputable abbrev afT:bz:=[(110,F1)]
theorem agf:a9 aa (bo az afT):=bB ⟨NV,⟨⟩⟩
abbrev i109:Shape:=⟨[c5 0 [bD,bD,cH .need,cH .entry],bk 1],[],9⟩
abbrev OY:Shape:=⟨[ah 4],[],9⟩
noncomputable def f109(a:i109.H):Option OY.H:=
(f110 ((a.1.1.1,a.1.2.1,()),())).bind fun b=>
 some ((b.1.1,()),())
noncomputable def Qo:a0:=a' az Tryz.f109 i109 OY [] f109
theorem adM:a4 aa 109 Qo:=bb agf Tryz.func109 (by kernel_rfl) aw (fun y=>by kernel_rfl) fun a=>by kernel_rfl
noncomputable abbrev abJ:bz:=[(109,Qo)]
theorem MY:a9 aa (bo az abJ):=bB ⟨adM,⟨⟩⟩
abbrev wI:Shape:=⟨[aX 0 .pack,bk 1,(2,.ai (.fn 109 [])),ah 8,ah 9,ah 10],[],49⟩
abbrev Bt:List be:=[(.exit 0,⟨[aX 0 .pack,bk 1,(2,.ai (.fn 109 [])),ah 8,ah 9],[],49⟩)]
noncomputable def wT(y:wI.H):cA wI Bt:=
 bif(decide (y.1.2.2.2.2.1<y.1.2.2.2.2.2.1)) then
(ns .u64 (IntKind.u64.wrap (IntKind.i64.wrap (y.1.2.2.2.2.1+y.1.2.2.2.2.2.1))) (1:Int)).bind fun a=>
(bg y.1.1 (IntKind.i64.wrap a)).bind fun b=>
(f109 (((b.name,b.bH,b.bL,b.b4,()),y.1.2.1,()),())).bind fun c=>
 bif(decide (c.1.1<(0:Int))) then
 some (.inl ((y.1.1,y.1.2.1,(),y.1.2.2.2.1,(IntKind.i64.wrap ((IntKind.i64.wrap a)+(1:Int))),y.1.2.2.2.2.2.1,()),()))
else
 some (.inl ((y.1.1,y.1.2.1,(),y.1.2.2.2.1,y.1.2.2.2.2.1,(IntKind.i64.wrap a),()),()))
else
 some (.inr ((y.1.1,y.1.2.1,(),y.1.2.2.2.1,y.1.2.2.2.2.1,()),()))
noncomputable def wM:wI.H->Option (aR Bt):=bK wT
theorem XU:bl aa (aH (codeOf Tryz.f108) 1 60) (bC wI Bt wM):=cB MY (by kernel_rfl) aw fun y=>by kernel_rfl
abbrev Mu:Shape:=⟨[aX 0 .pack,bk 1,(2,.ai (.fn 109 []))],[],49⟩
abbrev Mc:Shape:=⟨[ah 6,a3 7],[],49⟩
noncomputable def y8(a:Mu.H):Option Mc.H:=
(wM ((a.1.1,a.1.2.1,(),(a.1.1.length:Int),(0:Int),(a.1.1.length:Int),()),())).bind fun b=>
 bif(decide (b.1.2.2.2.2.1<b.1.2.2.2.1)) then
(bg b.1.1 b.1.2.2.2.2.1).bind fun c=>
(f109 (((c.name,c.bH,c.bL,c.b4,()),b.1.2.1,()),())).bind fun d=>
 some ((b.1.2.2.2.2.1,(d.1.1==(0:Int)),()),())
else
 some ((b.1.2.2.2.2.1,false,()),())
noncomputable def MR:a0:=a' az Tryz.f108 Mu Mc [] y8
theorem aaB:a4 aa 108 MR:=bb MY Tryz.func108 (by kernel_rfl) (bG XU aw) (fun y=>by kernel_rfl) fun a=>by kernel_rfl
abbrev i176:Shape:=⟨[aX 0 .need],[],8⟩
abbrev E':Shape:=⟨[b8 2 3000128],[cq 3000128 .need 2 0],8⟩
noncomputable def f176(a:i176.H):Option E'.H:=
 nb (t:=.need) a.1.1 (some (((),()),([]:List dr),())) ((dB 40 ([]:List dr) a.1.1).bind fun b=>
 some (((),()),b,()))
noncomputable def P5:a0:=a' az Tryz.f176 i176 E' [] f176
theorem adr:a4 aa 176 P5:=bb g0 Tryz.func176 (by kernel_rfl) aw (fun y=>by kernel_rfl) fun a=>by kernel_rfl
noncomputable abbrev afR:bz:=[(159,FU),(176,P5)]
theorem agd:a9 aa (bo az afR):=bB ⟨NO,adr,⟨⟩⟩
abbrev i111:Shape:=⟨[c5 0 [bD,bD,cH .need,cH .entry]],[],12⟩
abbrev OW:Shape:=⟨[b7 2 2 0],[gH 5000130 .need 2 2,gH 5000131 .entry 2 3,b6 2 [bD,bD,.own 5000130,.own 5000131]],12⟩
noncomputable def f111(a:i111.H):Option OW.H:=
(f176 ((a.1.1.2.2.1,()),())).bind fun b=>
(f159 ((a.1.1.2.2.2.1,()),())).bind fun c=>
 some (((),()),b.2.1,c.2.1,(a.1.1.1,a.1.1.2.1,(),(),()),())
noncomputable def Qn:a0:=a' az Tryz.f111 i111 OW [] f111
theorem adL:a4 aa 111 Qn:=bb agd Tryz.func111 (by kernel_rfl) aw (fun y=>by kernel_rfl) fun a=>by kernel_rfl
noncomputable abbrev aj0:bz:=[(108,MR)]
theorem akp:a9 aa (bo az aj0):=bB ⟨aaB,⟨⟩⟩
abbrev i63:Shape:=⟨[aX 0 .pack,bk 1],[],11⟩
abbrev Rj:Shape:=⟨[ah 4,a3 5],[],11⟩
noncomputable def f63(a:i63.H):Option Rj.H:=
(y8 ((a.1.1,a.1.2.1,(),()),())).bind fun b=>
 some ((b.1.1,b.1.2.1,()),())
noncomputable def SF:a0:=a' az Tryz.f63 i63 Rj [] f63
theorem agB:a4 aa 63 SF:=bb akp Tryz.func63 (by kernel_rfl) aw (fun y=>by kernel_rfl) fun a=>by kernel_rfl
noncomputable abbrev ajY:bz:=[(111,Qn)]
theorem Td:a9 aa (bo jR ajY):=sU ⟨adL,⟨⟩⟩
abbrev yz:Shape:=⟨[b8 3 3000192,aX 6 .pack,ah 7,ah 8],[(3000192,.deep .pack,.slot 3 0)],19⟩
abbrev DT:List be:=[(.exit 0,⟨[b8 3 3000192],[(3000192,.deep .pack,.slot 3 0)],19⟩)]
noncomputable def yV(y:yz.H):cA yz DT:=
 bif(decide (y.1.2.2.2.1<y.1.2.2.1)) then
(bg y.1.2.1 y.1.2.2.2.1).bind fun a=>
(f111 (((a.name,a.bH,a.bL,a.b4,()),()),())).bind fun b=>
(dB 80 y.2.1 ([(aU.mk b.2.2.2.1.1 b.2.2.2.1.2.1 b.2.1 b.2.2.1)]:List aU)).bind fun c=>
 some (.inl (((),y.1.2.1,y.1.2.2.1,(IntKind.i64.wrap (y.1.2.2.2.1+(1:Int))),()),c,()))
else
 some (.inr (((),()),y.2.1,()))
noncomputable def Ea:yz.H->Option (aR DT):=bK yV
theorem aaY:bl aa (aH (codeOf Tryz.f65) 1 58) (bC yz DT Ea):=cB Td (by kernel_rfl) aw fun y=>by kernel_rfl
abbrev i65:Shape:=⟨[aX 0 .pack],[],19⟩
abbrev Rh:Shape:=⟨[b8 2 3000128],[(3000128,.deep .pack,.slot 2 0)],19⟩
noncomputable def f65(a:i65.H):Option Rh.H:=
(Ea (((),a.1.1,(a.1.1.length:Int),(0:Int),()),([]:List aU),())).bind fun b=>
 some (((),()),b.2.1,())
noncomputable def Ho:a0:=a' jR Tryz.f65 i65 Rh [] f65
theorem QO:a4 aa 65 Ho:=bb Td Tryz.func65 (by kernel_rfl) (bG aaY aw) (fun y=>by kernel_rfl) fun a=>by kernel_rfl
noncomputable abbrev ajZ:bz:=[(65,Ho)]
theorem ako:a9 aa (bo jR ajZ):=sU ⟨QO,⟨⟩⟩
abbrev i64:Shape:=⟨[c5 0 [cH .pack]],[],7⟩
abbrev Ri:Shape:=⟨[b7 2 2 0],[(5000128,.deep .pack,.cell 2 0),b6 2 [.own 5000128]],7⟩
noncomputable def f64(a:i64.H):Option Ri.H:=
(f65 ((a.1.1.1,()),())).bind fun b=>
 some (((),()),b.2.1,((),()),())
noncomputable def S64:a0:=a' jR Tryz.f64 i64 Ri [] f64
theorem QP:a4 aa 64 S64:=bb ako Tryz.func64 (by kernel_rfl) aw (fun y=>by kernel_rfl) fun a=>by kernel_rfl
noncomputable abbrev acL:bz:=[(64,S64),(88,Hk)]
theorem acQ:a9 aa (bo jR acL):=sU ⟨QP,QK,⟨⟩⟩
abbrev Nj:Shape:=⟨[b8 0 600000,c5 1 [cH .pack]],[(600000,.deep .pack,.same)],16⟩
abbrev M7:Shape:=⟨[b7 4 4 0,ah 5],[(5000256,.deep .pack,.cell 4 0),b6 4 [.own 5000256]],16⟩
noncomputable def zp(a:Nj.H):Option M7.H:=
(f88 ((a.2.1,()),())).bind fun b=>
 bif(b.1.1 !=(0:Int)) then
(f64 (((a.1.2.1.1,()),()),())).bind fun c=>
 some (((),b.1.1,()),c.2.1,((),()),())
else
 some (((),(0:Int),()),a.2.1,((),()),())
noncomputable def NC:a0:=a' jR Tryz.f66 Nj M7 [] zp
theorem abR:a4 aa 66 NC:=bb acQ Tryz.func66 (by kernel_rfl) aw (fun y=>by kernel_rfl) fun a=>by kernel_rfl
theorem YQ(a)(M:cg a.1.1.length):f176 a=some (((),()),(a.1.1,())):=by
 obtain⟨⟨xs,u⟩,bx⟩:=a;have M:xs.length<=2097152:=M;have h2:(dB 40 ([]:List dr) xs).bind (fun x=>some (((),()),(x,())))=(some (((),()),(xs,())):Option E'.H):=by
  rw[hJ (by decide) (by unfold aD;simp only[List.length_nil];omega)];rfl
 simp only[f176];rw[h2];unfold nb;split
 ·rfl
 ·rename_i h;exact absurd (fun he:xs=[]=>by subst he;rfl) h
theorem Vb(a)(h:qj ⟨a.1.1.1,a.1.1.2.1,a.1.1.2.2.1,a.1.1.2.2.2.1⟩):f111 a=some (((),()),(a.1.1.2.2.1,(a.1.1.2.2.2.1,((a.1.1.1,(a.1.1.2.1,((),((),())))),())))):=by
 obtain⟨⟨⟨name,bH,bL,b4,u⟩,bx⟩,iB⟩:=a;have e1:=YQ ((bL,()),()) h.2.2.1.1;have e2:=Kk ((b4,()),()) h.2.2.2.1;simp only[f111,e1,e2,Option.bind_some]
theorem Ir(a)(h:eC a.1.1):f65 a=some (((),()),(a.1.1,())):=by
 obtain⟨⟨ps,u⟩,bx⟩:=a;have hl:ps.length<=2097152:=h.1;have key:=wK (S:=List aU) yV ps (fun i a7=>(((),(ps,((ps.length:Int),((i:Int),())))),(a7,()))) (fun x a7=>a7++[x]) (fun a7=>(((),()),(a7,()))) (fun i a7=>a7.length=i) [] rfl (fun i x a7 hx cW=>?_) (fun a7 cW=>?_)
 ·have key:Ea (((),(ps,((ps.length:Int),((0:Int),())))),(([]:List aU),()))=_:=key;have e:∀(l a7:List aU),l.foldl (fun s x=>s++[x]) a7=a7++l:=by
   intro l;induction l with
   |nil=>intro a7;simp
   |cons x l ih=>intro a7;simp only[List.foldl_cons];rw[ih];simp
  simp only[f65,key,Option.bind_some];rw[e];rfl
 ·have hi:=ca hx;have hw:aD i:=by unfold aD;omega
  have e2:=Vb (((x.name,(x.bH,(x.bL,(x.b4,())))),()),()) (h.2 x (List.mem_of_getElem? hx));have a5:dB 80 a7 [x]=some (a7++[x]):=hJ (by decide) (by unfold aD;simp;omega)
  simp only[yV,ce hi,cond_true,bZ,hx,Option.bind_some,e2,a5,b_ hw];exact⟨trivial,by simp[cW]⟩
 ·simp only[yV,cX,cond_false]
theorem IC(a)(h:eC a.1.1.1):f64 a=some (((),()),(a.1.1.1,(((),()),()))):=by
 obtain⟨⟨⟨ps,ko⟩,u⟩,bx⟩:=a;have e:=Ir ((ps,()),()) h;simp only[f64,e,Option.bind_some]
abbrev so(ps:List aU):Prop:=ps.Pairwise fun p q=>Op.bytesLess p.name q.name=true
def Ha(p:aU):aZ:=⟨p.name,0,0,[]⟩
theorem aa9(ps:List aU)(n:ak):bQ (ps.map Ha) n=dD ps n:=by
 unfold bQ dD;rw[List.takeWhile_map,List.length_map];rfl
theorem afc{ps:List aU}(h:so ps):e7 (ps.map Ha):=by
 unfold e7;rw[List.pairwise_map];exact h
theorem By{ps:List aU}{n:ak}(a5:so ps)(h:Nat)(p:aU)(al:ps[h]? =some p):Op.bytesLess p.name n=decide (h<dD ps n):=by
 have:=jp (p:=n) (afc a5) h (Ha p) (by rw[List.getElem?_map,al];rfl)
 rw[aa9] at this;exact this
def mB(ps:List aU)(n:ak):Bool:=match ps[dD ps n]? with
 |some q=>q.name==n
 |none=>false
theorem VW(a)(M:cg a.1.1.length)(a5:so a.1.1):f63 a=some (((dD a.1.1 a.1.2.1:Int),(mB a.1.1 a.1.2.1,())),()):=by
 obtain⟨⟨t,p,u⟩,bx⟩:=a;have M:t.length<=2097152:=M;have HM:=_R t p;have hc:∀x:aU,f109 (((x.name,(x.bH,(x.bL,(x.b4,())))),(p,())),())=some ((oG x.name p,()),()):=by
  intro x;have h1:(x.name==x.name)=true:=by simp
  have h2:(p==p)=true:=by simp
  simp only[f109,f110,f175,Option.bind_some,h1,h2,Bool.not_true,cond_false,oG];cases Op.bytesLess x.name p<;>cases (x.name==p)<;>rfl
 have key:∀d i j:Nat,j-i=d->i<=dD t p->dD t p<=j->j<=t.length->
   wM ((t,(p,((),((t.length:Int),((i:Int),((j:Int),())))))),())=
    some (((t,(p,((),((t.length:Int),((dD t p:Int),()))))),())):=by
  intro d;induction d using Nat.strongRecOn with
  |_ d ih=>
   intro i j Y hi hj hl;by_cases hij:i<j
   ·have bU:(i+j)/2<t.length:=by omega
    obtain⟨e,he⟩:∃e,t[(i+j)/2]? =some e:=⟨t[(i+j)/2],List.getElem?_eq_getElem bU⟩;have vj:ns .u64 (IntKind.u64.wrap (IntKind.i64.wrap ((i:Int)+(j:Int)))) 1=some ((((i+j)/2:Nat)):Int):=by
     rw[<-NZ (n:=i+j) (by omega)];rw[Int.natCast_add]
    have u_:IntKind.i64.wrap (((i+j)/2:Nat):Int)=(((i+j)/2:Nat):Int):=ei (by omega) (by omega)
    have kc:=By (n:=p) a5 ((i+j)/2) e he;cases hb:Op.bytesLess e.name p with
    |true=>
     rw[hb] at kc;have aW:(i+j)/2<dD t p:=by simpa using kc.symm
     refine(hD ?_).trans (ih (j-((i+j)/2+1)) (by omega) ((i+j)/2+1) j rfl (by omega) hj hl)
     simp only[wT,ce hij,cond_true,vj,u_,bZ,he,Option.bind_some,hc,xg,hb,b_ (i:=(i+j)/2) (by unfold aD;omega)]
    |false=>
     rw[hb] at kc;have oP:¬(i+j)/2<dD t p:=by simpa using kc.symm
     refine(hD ?_).trans (ih ((i+j)/2-i) (by omega) i ((i+j)/2) rfl hi (by omega) (by omega))
     simp only[wT,ce hij,cond_true,vj,u_,bZ,he,Option.bind_some,hc,xg,hb,cond_false]
   ·have hS:i=dD t p:=by omega
    have aW:decide ((i:Int)<(j:Int))=false:=by simp only[decide_eq_false_iff_not];omega
    refine eO ?_
    simp only[wT,aW,cond_false];rw[hS]
 have mS:wM ((t,(p,((),((t.length:Int),((0:Int),((t.length:Int),())))))),())=_:=key t.length 0 t.length (Nat.sub_zero _) (Nat.zero_le _) HM (Nat.le_refl _);have J:y8 ((t,(p,((),()))),())=some (((dD t p:Int),(mB t p,())),()):=by
  simp only[y8,mS,Option.bind_some,mB,bZ,hc,J9];cases aC:t[dD t p]? with
  |none=>
   have:=List.getElem?_eq_none_iff.1 aC;have:decide ((dD t p:Int)<(t.length:Int))=false:=by simp only[decide_eq_false_iff_not];omega
   rw[this];rfl
  |some e=>rw[ce (ca aC)];rfl
 simp only[f63,J,Option.bind_some]
theorem ZK{ps:List aU}(a5:so ps)(n:ak):ps.find? (fun q=>q.name==n)=bif mB ps n then ps[dD ps n]? else none:=by
 have hu:∀(k:Nat) (q:aU),ps[k]? =some q->q.name=n->k=dD ps n:=by
  intro k q ag aF;have h1:=By (n:=n) a5 k q ag;have h2:Op.bytesLess q.name n=false:=by rw[aF];exact pq _
  rw[h1] at h2;have h2:¬k<dD ps n:=of_decide_eq_false h2;rcases Nat.lt_or_ge (dD ps n) k with Z|Z
  ·have aI:dD ps n<ps.length:=Nat.lt_trans Z (ca ag);have bp:=List.getElem?_eq_getElem aI;have db:=By (n:=n) a5 (dD ps n) ps[dD ps n] bp;have hy:=List.pairwise_iff_getElem.1 a5 (dD ps n) k aI (ca ag) Z;have mT:ps[k]'(ca ag)=q:=by
    have:=List.getElem?_eq_getElem (ca ag);rw[ag] at this;exact(Option.some.inj this).symm
   rw[mT,aF] at hy;rw[hy] at db;have:=of_decide_eq_true db.symm;omega
  ·omega
 cases hf:ps.find? (fun q=>q.name==n) with
 |none=>
  have h0:=List.find?_eq_none.1 hf;unfold mB;cases aF:ps[dD ps n]? with
  |none=>rfl
  |some q=>
   have:=h0 q (List.mem_of_getElem? aF);simp only[Bool.not_eq_true] at this;simp only[this,cond_false]
 |some q=>
  have h1:q.name=n:=by have:=List.find?_some hf;simpa using this
  obtain⟨k,ag⟩:=List.mem_iff_getElem?.1 (List.mem_of_find?_eq_some hf);have:=hu k q ag h1;subst this;unfold mB;simp only[ag,h1,beq_self_eq_true,cond_true]
theorem Yz(a:(List aU×(List aU×Unit)×Unit)×Unit)(hb:eC a.1.1)(hv:mY a.1.1)(hr:eC a.1.2.1.1):zp (((),((a.1.2.1.1,()),())),(a.1.1,()))=some (((),(fC a.1.1,())),((bif fC a.1.1==0 then a.1.1 else a.1.2.1.1),(((),()),()))):=by
 obtain⟨⟨list,⟨r,ko⟩,u⟩,bx⟩:=a;have e:=I3 ((list,()),()) hb hv;have e2:=IC (((r,()),()),()) hr;simp only[zp,e,Option.bind_some];have z:(fC list !=0)=!(fC list==0):=rfl;rw[z];cases hc:(fC list==0) with
 |false=>simp only[Bool.not_false,cond_true,cond_false,e2,Option.bind_some]
 |true=>
  have hc:fC list=0:=by simpa using hc
  simp only[Bool.not_true,cond_false,cond_true];rw[hc]
def RM(ps:List aU)(p:aU):List aU×Int:=bif il ps then RN ps p else([],1)
theorem Wc{ps:List aU}(h:il ps=true):so ps:=by
 obtain⟨t,R⟩:=ab4 h;exact R.ajt
theorem Wb{ps:List aU}(h:il ps=true):ps.length<=5:=by
 unfold il at h;simp only[Bool.and_eq_true,decide_eq_true_eq] at h;exact h.1.1.2
theorem _'{ps:List aU}{n:ak}:ps.find? (fun q=>q.name==n)=none <-> ∀q,q∈ps->q.name≠n:=by
 rw[List.find?_eq_none];constructor
 ·intro h q aF he;exact h q aF (by simpa using he)
 ·intro h q aF he;exact h q aF (by simpa using he)
structure Qs(ps:List aU)(p:aU):Prop where
 ok:il ps=true
 HF:dY p=true
 new:∀q,q∈ps->q.name≠p.name
 code:fC (ub ps p)=0
theorem Qs.out{ps:List aU}{p:aU}(h:Qs ps p):RM ps p=(ub ps p,0):=by
 unfold RM RN;rw[h.ok,h.HF,_'.2 h.new,h.code];rfl
theorem ZR(w:World):Calls aa 67 #[.slice none 0 0,.int .i64 0,.int .i64 0] w fun e w'=>e=.returned (.slice none 0 0)/\w'=w:=by
 go_enter Tryz.func67,Tryz.ntmps67
 go_wp2
 all_goals(go_ret;exact⟨rfl,rfl⟩)
theorem ZQ(g n c i:Nat)(w:World)(hi:i<=n)(hnc:n<=c)(hc63:c<=9223372036854775807):Calls aa 67 #[.slice (some ⟨g,0,none⟩) n c,.int .i64 i,.int .i64 i] w fun e w'=>e=.returned (.slice (some ⟨g,0,none⟩) n c)/\w'=w:=by
 go_enter Tryz.func67,Tryz.ntmps67
 go_wp2
 all_goals(go_ret;exact⟨rfl,rfl⟩)
theorem aad(g n c i j:Nat)(cur:Array Value)(te:TypeId)(w:World)(hij:i<j)(hj:j<=n)(hnc:n<=c)(hc63:c<=9223372036854775807)(hg:w.heap[g]? =some (.cells cur te (0,0)))(hcs:cur.size=c*4)
  (h1c:∀v∈cur.toList.take (n*4),v.oneCell'=true):∃ROW:Array Value,ROW.size=c*4/\ROW.toList.take ((i+(n-j))*4)=cur.toList.take (i*4)++(cur.toList.take (n*4)).drop (j*4)/\
  Calls aa 67 #[.slice (some ⟨g,0,none⟩) n c,.int .i64 i,.int .i64 j] w fun e w'=>e=.returned (.slice (some ⟨g,0,none⟩) (i+(n-j)) c)/\w'.os=w.os/\w'.tape=w.tape/\w'.output=w.output/\w'.heap=(w.setRow g ROW).heap:=by
 have tT:aa.underlying 28=some (.slice 57):=by kernel_rfl
 have hinfo:(aa.info? 57).map (fun i=>(i.zero.map (fun z=>(z.cells.size,z.cells.toList.all fun v=>v.oneCell')),i.size))=some (some (4,true),4):=by kernel_rfl
 obtain⟨i0,hi0,hzz⟩:=Option.map_eq_some_iff.1 hinfo;simp only[Prod.mk.injEq] at hzz;obtain⟨hz0,hzs⟩:=hzz;obtain⟨z,hz,hzc⟩:=Option.map_eq_some_iff.1 hz0;simp only[Prod.mk.injEq] at hzc;obtain⟨hzc,hz1⟩:=hzc;have hz1:∀v∈z.cells,v.oneCell'=true:=fun v hv=>List.all_eq_true.1 hz1 v (by simpa using hv)
 have hzv:∀w,(zeroValue 57).run aa w=.ok z w:=fun w=>by simp[zeroValue,typeInfo,hi0,hz]
 obtain⟨news,hnews⟩:∃news,news=(cur.toList.take (n*4)).drop (j*4):=⟨_,rfl⟩;have hlen:news.length=(n-j)*4:=by rw[hnews];simp only[List.length_drop,List.length_take,Array.length_toList,hcs];rw[Nat.min_eq_left (by omega),Nat.sub_mul]
 have hone:∀v∈news,v.oneCell'=true:=fun v hv=>h1c v (by rw[hnews] at hv;exact List.mem_of_mem_drop hv)
 obtain⟨A,hA,hsrc⟩:∃A:Addr,(if c=j then some (⟨g,0,none⟩:Addr) else some ⟨g,j*4,none⟩)=some A/\∀t u,news[t]? =some u->w.drew.cell? (A.add t)=some u:=by
  by_cases h:c=j
  ·refine⟨⟨g,0,none⟩,by simp[h],fun t u hu=>?_⟩
   have h0:news.length=0:=by rw[hlen];omega
   rw[List.length_eq_zero_iff.1 h0] at hu;simp at hu
  ·refine⟨⟨g,j*4,none⟩,by simp[h],fun t u hu=>?_⟩
   rw[hnews,List.getElem?_drop,List.getElem?_take] at hu;split at hu
   ·rw[Addr.add_lit];show w.cell? _=_;simpa[World.cell?,hg] using hu
   ·cases hu
 obtain⟨cur1,hcur1⟩:∃cur1,cur1=(bd cur.toList (i*4) news).toArray:=⟨_,rfl⟩;have hc1s:cur1.size=c*4:=by rw[hcur1];simp only[bd,List.size_toArray,List.length_append,List.length_drop,List.length_take,Array.length_toList,hcs,hlen];omega
 have hap:∀ty,(Builtin.append_ #[28,28] ty #[.slice (some ⟨g,0,none⟩) i c,.slice (some A) (n-j) (c-j)]).run aa w.drew=.ok (.slice (some ⟨g,0,none⟩) (i+(n-j)) c) (w.drew.setRow g cur1):=fun ty=>by
  rw[hcur1];exact UO w.drew 28 57 ty 4 i0 tT hi0 hzs g i c A (n-j) (c-j) cur te news hg hsrc hlen (by omega) (by rw[hlen];omega) hone
 obtain⟨ROW,hROW⟩:∃ROW,ROW=(bd cur1.toList ((i+(n-j))*4) (Builtin.zeroCells z.cells (n-(i+(n-j)))).toList).toArray:=⟨_,rfl⟩;have hcl:∀ty,(Builtin.clear_ #[28] ty #[.slice (some ⟨g,(i+(n-j))*4,none⟩) (n-(i+(n-j))) (c-(i+(n-j)))]).run aa (w.drew.setRow g cur1)=.ok (.tuple #[]) ((w.drew.setRow g cur1).setRow g ROW):=fun ty=>by
  rw[hROW];exact Vn _ 28 57 ty z tT hzv g ((i+(n-j))*4) (n-(i+(n-j))) _ (by omega) cur1 te (setRow_heap w.drew g cur cur1 te (0,0) hg) (by rw[hzc,hc1s];omega) hz1
 have hzl:∀m,(Builtin.zeroCells z.cells m).size=4*m:=fun m=>by have:=Ij z.cells m;rw[Array.length_toList,hzc] at this;exact this
 have hRs:ROW.size=c*4:=by rw[hROW];simp only[bd,List.size_toArray,List.length_append,List.length_drop,List.length_take,Array.length_toList,hc1s,hzl];omega
 refine⟨ROW,hRs,?_,?_⟩
 ·rw[hROW,hcur1];have hl1:(bd cur.toList (i*4) news).length=c*4:=by have:=hc1s;rw[hcur1] at this;simpa using this
  simp only[bd] at hl1 ⊢;have hcl':cur.toList.length=c*4:=by rw[Array.length_toList,hcs]
  rw[<-hnews];apply List.ext_getElem?;intro q;simp only[List.getElem?_take,List.getElem?_append,List.getElem?_drop,List.length_append,List.length_take,List.length_drop,hlen,hcl'];repeat' split
  all_goals first|rfl|omega|(congr 1;omega)|(symm;apply List.getElem?_eq_none;omega)|(apply List.getElem?_eq_none;omega)
 ·have hE:(w.drew.setRow g cur1).setRow g ROW=w.drew.setRow g ROW:=by rw[setRow_setRow]
  have hb2:¬((i:Int)=(j:Int)):=by omega
  have hin:i<=c:=by omega
  have hjc:j<=c:=by omega
  have hlc:i+(n-j)<=n:=by omega
  have hlc2:n<=c:=hnc;have hne:¬(c=i+(n-j)):=by omega
  obtain⟨W1,hW1⟩:∃W1,W1=w.drew.setRow g cur1:=⟨_,rfl⟩;rw[<-hW1] at hap hcl hE;clear hW1 hROW hcur1 hnews;go_enter Tryz.func67,Tryz.ntmps67
  go_wp2_with fail
  go_region_law (refine Uk rfl _ _ 28 28 rfl (.slice (some ⟨g,0,none⟩) i c) (.slice (some A) (n-j) (c-j)) (by simp[Act.eval,Act.put]) (by simp[Act.eval,Act.put,hA]) (hap _) ?_)
  go_wp2_with (at_builtin;refine T9 _ rfl _ 28 rfl _ rfl (hcl _) ?_)
  go_ret
  exact⟨rfl,rfl,rfl,rfl,rfl⟩
noncomputable def PC:a0:=Cu .pack
theorem acW:a4 aa 67 PC:=WL rfl ⟨ZR,ZQ,aad⟩ (fun vs w=>enters_of Tryz.func67 (by kernel_rfl) rfl _ _)
noncomputable abbrev akb:bz:=[(48,SL),(63,SF),(64,S64),(65,Ho),(66,NC),(67,PC)]
theorem akx:a9 aa (bo jR akb):=sU ⟨agH,agB,QP,QO,abR,acW,⟨⟩⟩
abbrev i30:Shape:=⟨[c5 0 [cH .pack],bk 1],[],36⟩
abbrev Rw:Shape:=⟨[b7 4 4 0,ah 5],[(5000256,.deep .pack,.cell 4 0),b6 4 [.own 5000256]],36⟩
noncomputable def f30(a:i30.H):Option Rw.H:=
(f48 (((a.1.1.1,()),()),())).bind fun b=>
 bif(!b.1.1) then
 some (((),(1:Int),()),([]:List aU),((),()),())
else
(f63 ((a.1.1.1,a.1.2.1,()),())).bind fun c=>
 bif(!c.1.2.1) then
(f64 (((a.1.1.1,()),()),())).bind fun d=>
 some (((),(3:Int),()),d.2.1,((),()),())
else
(f65 ((a.1.1.1,()),())).bind fun e=>
(si e.2.1 c.1.1 (IntKind.i64.wrap (c.1.1+(1:Int)))).bind fun f=>
(zp (((),(a.1.1.1,()),()),f,())).bind fun g=>
 some (((),g.1.2.1,()),g.2.1,((),()),())
noncomputable def SR:a0:=a' jR Tryz.f30 i30 Rw [] f30
theorem agN:a4 aa 30 SR:=bb akx Tryz.func30 (by kernel_rfl) aw (fun y=>by kernel_rfl) fun a=>by kernel_rfl
def jC(ps:List aU)(n:ak):List aU:=ps.filter fun p=>!(p.name==n)
theorem aaG{ps:List aU}{n:ak}{x:aU}:x∈jC ps n <-> x∈ps/\x.name≠n:=by
 unfold jC;rw[List.mem_filter];simp
theorem Z5{ps:List aU}{n:ak}(a5:so ps)(h:mB ps n=true):ps.take (dD ps n)++ps.drop (dD ps n+1)=jC ps n:=by
 unfold mB at h;cases aF:ps[dD ps n]? with
 |none=>rw[aF] at h;cases h
 |some q=>
  rw[aF] at h;have GJ:q.name=n:=by simpa using h
  have oi:ps=ps.take (dD ps n)++(q::ps.drop (dD ps n+1)):=by
   have h1:=List.drop_eq_getElem_cons (ca aF);have h2:ps[dD ps n]'(ca aF)=q:=(List.getElem?_eq_some_iff.1 aF).2;rw[h2] at h1;rw[<-h1,List.take_append_drop]
  have nO:=a5;rw[oi] at nO;obtain⟨a1,a2,gO⟩:=List.pairwise_append.1 nO;obtain⟨v_,TN⟩:=List.pairwise_cons.1 a2;generalize ps.take (dD ps n)=A at*;generalize ps.drop (dD ps n+1)=bu at*;have hA:A.filter (fun p=>!(p.name==n))=A:=by
   rw[List.filter_eq_self];intro x hx;have:=Ny (gO x hx q List.mem_cons_self);rw[GJ] at this;rw[this];rfl
  have fN:bu.filter (fun p=>!(p.name==n))=bu:=by
   rw[List.filter_eq_self];intro x hx;have:=v_ x hx;rw[GJ] at this;cases hc:(x.name==n) with
   |false=>rfl
   |true=>rw[eq_of_beq hc,pq] at this;cases this
  have vn:(!(q.name==n))=false:=by rw[GJ];simp
  have:jC ps n=A++bu:=by
   unfold jC;rw[oi,List.filter_append,List.filter_cons,vn,hA,fN];rfl
  exact this.symm
theorem DJ{k:Nat}{ps:List aU}(n:ak)(h:kk k ps):kk k (jC ps n):=
 ⟨Nat.le_trans List.filter_sublist.length_le h.1,fun x hx=>h.2 x (aaG.1 hx).1⟩
def mx(ps:List aU)(n:ak):List aU×Int:=bif il ps then(match ps.find? (fun q=>q.name==n) with
 |some _=>(bif fC (jC ps n)==0 then jC ps n else ps,fC (jC ps n))
 |none=>(ps,3)) else([],1)
theorem VU(a)(k:Nat)(ag:k<=1999999)(h:kk k a.1.1.1):f30 a=some (((),((mx a.1.1.1 a.1.2.1).2,())),((mx a.1.1.1 a.1.2.1).1,(((),()),()))):=by
 obtain⟨⟨⟨ps,ko⟩,name,u⟩,bx⟩:=a;have h:kk k ps:=h;have hb:eC ps:=h.mX (by omega)
 have l2:=Xc (((ps,()),()),()) hb h.vs;simp only[f30,l2,Option.bind_some,mx];cases hr:il ps with
 |false=>rfl
 |true=>
  have a5:=Wc hr;have hl:=Wb hr;have e2:=IC (((ps,()),()),()) hb;have bI:=VW ((ps,(name,())),()) hb.1 a5;have dy:=Ir ((ps,()),()) hb;simp only[Bool.not_true,cond_false,cond_true,bI,Option.bind_some,ZK a5];cases bU:mB ps name with
  |false=>simp only[Bool.not_false,cond_true,cond_false,e2,Option.bind_some]
  |true=>
   have hw:=DJ name h;have Y:=Z5 a5 bU;have GQ:=bU;unfold mB at GQ;cases aF:ps[dD ps name]? with
   |none=>rw[aF] at GQ;cases GQ
   |some q=>
    have aW:=ca aF;have fw:=Yz ((jC ps name,((ps,()),())),()) (hw.mX (by omega)) hw.vs hb
    have mV:si ps (dD ps name:Int) (((dD ps name+1:Nat)):Int)=some (jC ps name):=by
     unfold si;rw[if_pos ⟨by omega,by omega,by omega⟩,Int.toNat_natCast,Int.toNat_natCast,Y]
    have jE:IntKind.i64.wrap ((dD ps name:Int)+1)=(((dD ps name+1:Nat)):Int):=b_ (by unfold aD;omega)
    simp only[Bool.not_true,cond_false,cond_true,dy,jE,mV,fw,Option.bind_some]
abbrev xK:Shape:=⟨[aX 0 .pack,bk 1,b8 5 3000320,ah 6],[cq 3000320 .pack 5 0],29⟩
abbrev CX:List be:=[(.exit 0,⟨[b8 5 3000320],[cq 3000320 .pack 5 0],29⟩)]
noncomputable def yd(y:xK.H):cA xK CX:=
 bif(decide (y.1.2.2.2.1<(y.1.1.length:Int))) then
(bg y.1.1 y.1.2.2.2.1).bind fun a=>
 bif(!(a.name==y.1.2.1)) then
(bg y.1.1 y.1.2.2.2.1).bind fun b=>
(dB 80 y.2.1 ([b]:List aU)).bind fun c=>
 some (.inl ((y.1.1,y.1.2.1,(),(IntKind.i64.wrap (y.1.2.2.2.1+(1:Int))),()),c,()))
else
 some (.inl ((y.1.1,y.1.2.1,(),(IntKind.i64.wrap (y.1.2.2.2.1+(1:Int))),()),y.2.1,()))
else
 some (.inr (((),()),y.2.1,()))
noncomputable def Dq:xK.H->Option (aR CX):=bK yd
theorem _O:bl aa (aH (codeOf Tryz.f106) 1 58) (bC xK CX Dq):=cB g0 (by kernel_rfl) aw fun y=>by kernel_rfl
abbrev i106:Shape:=⟨[aX 0 .pack,bk 1],[],29⟩
abbrev O0:Shape:=⟨[b8 4 3000256],[cq 3000256 .pack 4 0],29⟩
noncomputable def f106(a:i106.H):Option O0.H:=
(Dq ((a.1.1,a.1.2.1,(),(0:Int),()),([]:List aU),())).bind fun b=>
 some (((),()),b.2.1,())
noncomputable def Qq:a0:=a' az Tryz.f106 i106 O0 [] f106
theorem adO:a4 aa 106 Qq:=bb g0 Tryz.func106 (by kernel_rfl) (bG _O aw) (fun y=>by kernel_rfl) fun a=>by kernel_rfl
theorem U9(a)(hl:a.1.1.length<=2097152):f106 a=some (((),()),(jC a.1.1 a.1.2.1,())):=by
 obtain⟨⟨ps,n,u⟩,bx⟩:=a;have hl:ps.length<=2097152:=hl;have key:=wK (S:=List aU) yd ps (fun i a7=>((ps,(n,((),((i:Int),())))),(a7,()))) (fun x a7=>bif !(x.name==n) then a7++[x] else a7) (fun a7=>(((),()),(a7,()))) (fun i a7=>a7.length<=i) [] (Nat.le_refl _) (fun i x a7 hx cW=>?_) (fun a7 cW=>?_)
 ·have key:Dq ((ps,(n,((),((0:Int),())))),(([]:List aU),()))=_:=key;have e:∀(l a7:List aU),l.foldl (fun s x=>bif !(x.name==n) then s++[x] else s) a7=a7++l.filter (fun p=>!(p.name==n)):=by
   intro l;induction l with
   |nil=>intro a7;simp
   |cons x l ih=>
    intro a7;rw[List.foldl_cons,ih,List.filter_cons];cases (x.name==n)<;>simp
  simp only[f106,key,Option.bind_some];rw[e];rfl
 ·have hi:=ca hx;have hw:aD i:=by unfold aD;omega
  have a5:dB 80 a7 [x]=some (a7++[x]):=hJ (by decide) (by unfold aD;simp;omega)
  simp only[yd,ce hi,cond_true,bZ,hx,Option.bind_some,a5,b_ hw];cases (x.name==n)
  ·exact⟨rfl,by simp;omega⟩
  ·exact⟨rfl,by simp;omega⟩
 ·simp only[yd,cX,cond_false]
noncomputable abbrev aj2:bz:=[(104,F2),(105,Qr),(106,Qq)]
theorem akq:a9 aa (bo az aj2):=bB ⟨NW,adP,adO,⟨⟩⟩
abbrev i61:Shape:=⟨[c5 0 [cH .pack],bk 1],[],20⟩
abbrev Rl:Shape:=⟨[b7 4 4 0,ah 5],[b6 4 [cH .pack]],20⟩
noncomputable def f61(a:i61.H):Option Rl.H:=
(f104 ((a.1.1.1,a.1.2.1,()),())).bind fun b=>
 bif(decide (b.1.1<(0:Int))) then
 some (((),(3:Int),()),(a.1.1.1,()),())
else
(f106 ((a.1.1.1,a.1.2.1,()),())).bind fun c=>
(f105 (((a.1.1.1,()),c.2.1,()),())).bind fun d=>
 some (((),d.1.2.1,()),(d.2.1.1,()),())
noncomputable def SH:a0:=a' az Tryz.f61 i61 Rl [] f61
theorem agD:a4 aa 61 SH:=bb akq Tryz.func61 (by kernel_rfl) aw (fun y=>by kernel_rfl) fun a=>by kernel_rfl
noncomputable abbrev akc:bz:=[(46,SM),(61,SH),(62,SG)]
theorem aky:a9 aa (bo az akc):=bB ⟨agI,agD,agC,⟨⟩⟩
abbrev i29:Shape:=⟨[c5 0 [cH .pack],bk 1],[],16⟩
abbrev Rx:Shape:=⟨[b7 4 4 0,ah 5],[b6 4 [cH .pack]],16⟩
noncomputable def f29(a:i29.H):Option Rx.H:=
(f46 (((a.1.1.1,()),()),())).bind fun b=>
 bif(!b.1.1) then
 some (((),(1:Int),()),(([]:List aU),()),())
else
(f62 (((a.1.1.1,()),()),())).bind fun c=>
(f61 (((c.2.1,()),a.1.2.1,()),())).bind fun d=>
 some (((),d.1.2.1,()),(d.2.1.1,()),())
noncomputable def SS:a0:=a' az Tryz.f29 i29 Rx [] f29
theorem agO:a4 aa 29 SS:=bb aky Tryz.func29 (by kernel_rfl) aw (fun y=>by kernel_rfl) fun a=>by kernel_rfl
noncomputable abbrev alz:bz:=[(11,vQ),(13,AG),(16,SY),(17,NG),(29,SS),(30,SR),(31,SQ)]
theorem sZ:a9 aa (bo az alz):=bB ⟨agW,agV,agT,abV,agO,agN,agM,⟨⟩⟩
abbrev Le:Shape:=⟨[bk 1,b7 2 2 0,b7 6 6 0,ah 7,b7 8 8 0,b7 9 9 0,ah 10],[b6 2 [cH .pack],b6 6 [cH .pack],(5000512,.deep .pack,.cell 8 0),b6 8 [.own 5000512],(5000576,.deep .pack,.cell 9 0),b6 9 [.own 5000576]],104⟩
abbrev K7:List be:=[(.norm,⟨[bk 1,b7 2 2 0,b7 6 6 0,ah 7,b7 8 8 0,b7 9 9 0,ah 10,a3 47],[b6 2 [cH .pack],b6 6 [cH .pack],(5000512,.deep .pack,.cell 8 0),b6 8 [.own 5000512],(5000576,.deep .pack,.cell 9 0),b6 9 [.own 5000576]],104⟩)]
noncomputable def Dt(y:Le.H):Option (aR K7):=
(f16 (((y.2.2.2.2.2.1,()),(y.2.2.1.1,()),()),())).bind fun a=>
 bif(!(!a.1.1)) then
 some ((y.1.1,(),(),y.1.2.2.2.1,(),(),y.1.2.2.2.2.2.2.1,(y.1.2.2.2.2.2.2.1 !=y.1.2.2.2.1),()),(y.2.1.1,()),(y.2.2.1.1,()),y.2.2.2.1,((),()),y.2.2.2.2.2.1,((),()),())
else
 some ((y.1.1,(),(),y.1.2.2.2.1,(),(),y.1.2.2.2.2.2.2.1,true,()),(y.2.1.1,()),(y.2.2.1.1,()),y.2.2.2.1,((),()),y.2.2.2.2.2.1,((),()),())
theorem _j:bl aa (aH (codeOf Tryz.f5) 1 2044) (bC Le K7 Dt):=eh sZ (by kernel_rfl) aw fun y=>by kernel_rfl
abbrev KE:Shape:=⟨[bk 1,b7 2 2 0,b7 6 6 0,ah 7,b7 9 9 0,ah 10,ah 11],[b6 2 [cH .pack],b6 6 [cH .pack],(5000576,.deep .pack,.cell 9 0),b6 9 [.own 5000576]],104⟩
abbrev Ks:List be:=[(.norm,⟨[bk 1,b7 2 2 0,b7 6 6 0,ah 7,b7 9 9 0,a3 68],[b6 2 [cH .pack],b6 6 [cH .pack],(5000576,.deep .pack,.cell 9 0),b6 9 [.own 5000576]],104⟩)]
noncomputable def Cl(y:KE.H):Option (aR Ks):=
 bif(!(decide (y.1.2.2.2.2.2.2.1<(0:Int)))) then
(f16 (((y.2.2.2.1,()),(y.2.2.1.1,()),()),())).bind fun a=>
 bif(!(!a.1.1)) then
 some ((y.1.1,(),(),y.1.2.2.2.1,(),(y.1.2.2.2.2.2.1 !=y.1.2.2.2.1),()),(y.2.1.1,()),(y.2.2.1.1,()),y.2.2.2.1,((),()),())
else
 some ((y.1.1,(),(),y.1.2.2.2.1,(),true,()),(y.2.1.1,()),(y.2.2.1.1,()),y.2.2.2.1,((),()),())
else
 some ((y.1.1,(),(),y.1.2.2.2.1,(),true,()),(y.2.1.1,()),(y.2.2.1.1,()),y.2.2.2.1,((),()),())
theorem Zb:bl aa (aH (codeOf Tryz.f5) 1 32764) (bC KE Ks Cl):=eh sZ (by kernel_rfl) aw fun y=>by kernel_rfl
abbrev Ja:Shape:=⟨[b7 6 6 0,ah 7,b7 9 9 0,ah 12,b7 14 14 0,ah 15],[b6 6 [cH .pack],(5000576,.deep .pack,.cell 9 0),b6 9 [.own 5000576],(5000896,.deep .pack,.cell 14 0),b6 14 [.own 5000896]],104⟩
abbrev I8:List be:=[(.norm,⟨[b7 9 9 0,ah 12,a3 95],[(5000576,.deep .pack,.cell 9 0),b6 9 [.own 5000576]],104⟩)]
noncomputable def Bg(y:Ja.H):Option (aR I8):=
(f16 (((y.2.2.2.2.1,()),(y.2.1.1,()),()),())).bind fun a=>
 bif(!(!a.1.1)) then
 some (((),y.1.2.2.2.1,(y.1.2.2.2.2.2.1 !=y.1.2.1),()),y.2.2.1,((),()),())
else
 some (((),y.1.2.2.2.1,true,()),y.2.2.1,((),()),())
theorem Wh:bl aa (aH (codeOf Tryz.f5) 1 8388604) (bC Ja I8 Bg):=eh sZ (by kernel_rfl) aw fun y=>by kernel_rfl
abbrev i5:Shape:=⟨[c5 0 [cH .pack],bk 1],[],104⟩
abbrev AM:Shape:=⟨[a3 4],[],104⟩
noncomputable def f5(a:i5.H):Option AM.H:=
 bif(decide ((a.1.2.1.length:Int)>(1048576:Int))) then
 some ((true,()),())
else
(f11 (((a.1.1.1,()),(1048576:Int),()),())).bind fun b=>
 bif(decide (b.1.1<(0:Int))) then
 some ((true,()),())
else
(f13 (((a.1.1.1,()),()),())).bind fun c=>
(f29 (((c.2.1,()),a.1.2.1,()),())).bind fun d=>
(f13 (((a.1.1.1,()),()),())).bind fun e=>
(f30 (((e.2.1,()),a.1.2.1,()),())).bind fun f=>
(Dt ((a.1.2.1,(),(),d.1.2.1,(),(),f.1.2.1,()),(a.1.1.1,()),(d.2.1.1,()),e.2.1,((),()),f.2.1,((),()),())).bind fun g=>
 bif g.1.2.2.2.2.2.2.2.1 then
 some ((false,()),())
else
(f13 (((g.2.1.1,()),()),())).bind fun h=>
(f16 (((g.2.2.2.1,()),(h.2.1,()),()),())).bind fun i=>
 bif(!i.1.1) then
 some ((false,()),())
else
(un ((((),()),(1:Int),()),g.2.2.2.1,())).bind fun j=>
(Cl ((g.1.1,(),(),g.1.2.2.2.1,(),g.1.2.2.2.2.2.2.1,j.1.2.1,()),(g.2.1.1,()),(g.2.2.1.1,()),g.2.2.2.2.2.1,((),()),())).bind fun k=>
 bif k.1.2.2.2.2.2.1 then
 some ((false,()),())
else
(un ((((),()),(1:Int),()),k.2.2.2.1,())).bind fun l=>
(f31 (((l.2.1,()),(1:Int),()),())).bind fun m=>
 bif(decide (m.1.1<(0:Int))) then
 some ((false,()),())
else
 bif(m.1.1 !=l.1.2.1) then
 some ((false,()),())
else
(f13 (((k.2.1.1,()),()),())).bind fun n=>
(f30 (((n.2.1,()),k.1.1,()),())).bind fun D=>
(Bg (((),k.1.2.2.2.1,(),l.1.2.1,(),D.1.2.1,()),(k.2.2.1.1,()),l.2.1,((),()),D.2.1,((),()),())).bind fun p=>
 bif p.1.2.2.1 then
 some ((false,()),())
else
(f31 (((p.2.1,()),(1:Int),()),())).bind fun q=>
 bif(decide (q.1.1<(0:Int))) then
 some ((false,()),())
else
 bif(q.1.1 !=p.1.2.1) then
 some ((false,()),())
else
 some ((true,()),())
noncomputable def o8:a0:=a' az Tryz.f5 i5 AM [] f5
theorem akL:a4 aa 5 o8:=bb sZ Tryz.func5 (by kernel_rfl) (bG _j (bG Zb (bG Wh aw))) (fun y=>by kernel_rfl) fun a=>by kernel_rfl
theorem Xk(a)(k:Nat)(ag:k<=1999999)(h:kk k a.1.1.1):f29 a=some (((),((mx a.1.1.1 a.1.2.1).2,())),(((mx a.1.1.1 a.1.2.1).1,()),())):=by
 obtain⟨⟨⟨ps,ko⟩,name,u⟩,bx⟩:=a;have h:kk k ps:=h;have hb:eC ps:=h.mX (by omega)
 have hl:ps.length<=1999999:=Nat.le_trans h.1 ag;have l2:=YM (((ps,()),()),()) hb h.vs;have e1:=YD (((ps,()),()),()) hb;simp only[f29,l2,Option.bind_some,mx];cases hr:il ps with
 |false=>rfl
 |true=>
  simp only[Bool.not_true,cond_false,cond_true,e1,Option.bind_some,f61];rcases Ke ((ps,(name,())),()) (show ps.length<=2097152 by omega) with⟨j,q,g1,g2,g3⟩|⟨g1,g2⟩
  ·have g3:ps.find? (fun p=>p.name==name)=some q:=g3
   have hj:decide ((j:Int)<0)=false:=by simp only[decide_eq_false_iff_not];omega
   have hw:=DJ name h;have dy:=U9 ((ps,(name,())),()) (show ps.length<=2097152 by omega)
   have mV:=Z7 (((ps,()),(jC ps name,())),()) (hw.mX (by omega)) hw.vs
   simp only[g1,Option.bind_some,hj,cond_false,g3,dy,mV]
  ·have g2:ps.find? (fun p=>p.name==name)=none:=g2
   have hj:decide ((-1:Int)<0)=true:=rfl;simp only[g1,Option.bind_some,hj,cond_true,g2]
theorem pP.ahE{ps:List aU}(h:pP ps):kk 1048576 ps:=⟨h.1,fun p al=>⟨h.mX.1.2 p al,h.mX.2 p al⟩⟩
theorem _U{k:Nat}{ps:List aU}{n:ak}(h:kk k ps)(ag:k<=2097152):eC (mx ps n).1:=by
 have h0:=h.mX ag;have h1:=(DJ n h).mX ag;unfold mx;cases il ps with
 |false=>exact⟨Nat.zero_le _,fun p al=>by cases al⟩
 |true=>
  simp only[cond_true];cases ps.find? (fun q=>q.name==n) with
  |none=>exact h0
  |some q=>
   simp only;cases fC (jC ps n)==0 with
   |false=>exact h0
   |true=>exact h1
theorem aaa(ps:List aU):decide (dQ 1 ps<0)=false:=decide_eq_false (by have:=tM ps 1;omega)
theorem T1(ps:List aU)(n:ak)(hm:uN ps):f5 (((ps,()),(n,())),())=some ((true,()),()):=by
 obtain⟨r,e1,e2⟩:=Yw (((ps,()),((1048576:Int),())),()) (show(0:Int)<=1048576 by decide) (show(1048576:Int)<=1048576 by decide) hm
 simp only[f5];cases decide ((n.length:Int)>1048576) with
 |true=>rfl
 |false=>
 simp only[cond_false,e1,Option.bind_some];rcases e2 with e2|⟨q1,q2,dG⟩
 ·simp only[e2,decide_true,cond_true]
 ·have:¬r<0:=by omega
  obtain⟨hb,hv⟩:=dG.mX;have aF:=pP.ahE dG;have s1:=Xk (((ps,()),(n,())),()) 1048576 (by decide) aF
  have s2:=VU (((ps,()),(n,())),()) 1048576 (by decide) aF
  have Az:=_U (n:=n) aF (by decide)
  obtain⟨xs,nG⟩:∃xs,(mx ps n).1=xs:=⟨_,rfl⟩;obtain⟨c,hc⟩:∃c,(mx ps n).2=c:=⟨_,rfl⟩;simp only[nG,hc] at s1 s2;rw[nG] at Az;simp only[this,decide_false,cond_false,Yv (((ps,()),()),()) hb,Option.bind_some,s1,s2,Dt,Cl,Bg,Kh xs Az,Kh ps hb,Bool.not_true,Bool.not_false,cond_true,EQ,I4 ps hb,I4 xs Az,VV xs Az,aaa]
theorem pure_FnExactRootOut:LawOk o8 [(true,[.sl .pack]),(false,[.str])]:=by
 rintro⟨⟨ps,u⟩,⟨n,Tv⟩,bx⟩ ⟨h,_⟩;have hm:uN ps:=Yt (h (.sl .pack ps) (by simp[fh,dn.mk]))
 exact⟨((true,()),()),T1 ps n hm,rfl⟩
end Go.Proofs
