/- FnExactRootTree: the program's RootTree returns what the reference's returns, for all arguments. (part 5 of 6: JnNPuL, JnNF54, JnNF18v0, JnNF60v0, JnNF26v0, JnNF17v0, JnNF19, JnNPuHa, JnNPuP, JnNPuQ, JnNPuRa, JnNPuR, JnNPuN, JnNF12, JnNF14, JnNPuS, JnNF3, JnNPuHb) Conditions: none beyond the statement. -/
import Derived.Test.YthllakklnccioaaGreatDoorZFnExactRootTree3
import Derived.Tactics
import Derived.Deep.RegionLaw
import Derived.Shelf.Abstract
import Derived.Test.YthllakklnccioaaGreatDoorProg
import Derived.KernelRfl
set_option maxRecDepth 100000
set_option linter.unusedVariables false
set_option linter.unusedSimpArgs false
namespace Go.Proofs
open Go.Jk
abbrev gp(n:Nat):Prop:=n<=maxLen
abbrev i_(n:Nat):Prop:=n<=1048576
abbrev Q'(n:dH):Prop:=gp n.name.length/\gp n.bT.length
abbrev Gc(n:dH):Prop:=i_ n.name.length/\i_ n.bT.length
abbrev Ra(e:aX):Prop:=gp e.path.length/\gp e.text.length
abbrev Gd(e:aX):Prop:=i_ e.path.length/\i_ e.text.length
abbrev EZ(l:List dH):Prop:=gp l.length/\∀n,n∈l->Q' n
abbrev N4(l:List dH):Prop:=i_ l.length/\∀n,n∈l->Gc n
abbrev E0(l:List aX):Prop:=gp l.length/\∀n,n∈l->Ra n
abbrev N5(l:List aX):Prop:=i_ l.length/\∀n,n∈l->Gd n
abbrev Q_(p:bE):Prop:=gp p.name.length/\gp p.bT.length/\EZ p.b5/\E0 p.cr
abbrev Gb(p:bE):Prop:=i_ p.name.length/\i_ p.bT.length/\N4 p.b5/\N5 p.cr
abbrev ul(l:List bE):Prop:=gp l.length/\∀n,n∈l->Q_ n
abbrev y9(l:List bE):Prop:=i_ l.length/\∀n,n∈l->Gb n
theorem mN{l:Int}{n:Nat}(aQ:0<=l)(h1:l<=1048576)(hn:gp n):IntKind.i64.wrap (l-(n:Int))=l-n:=by
 unfold gp maxLen at hn;exact e4 (by omega) (by omega)
def oZ(l r:Int)(p:Prop):Prop:=r<0\/(0<=r/\r<=l/\p)
theorem Ca{az H bq:Type}(g:H->Option (Sum H bq))(xs:List az)(st:Nat->Int->H)(no:bq)(nb:Int->bq)(W:az->Prop)
  (h1:∀i x s,xs[i]? =some x->0<=s->s<=1048576->g (st i s)=some (.inr no)\/∃aj,0<=aj/\aj<=s/\W x/\g (st i s)=some (.inl (st (i+1) aj)))
  (h2:∀s,g (st xs.length s)=some (.inr (nb s))) (s:Int) (Z:0<=s) (aH:s<=1048576):
  bP g (st 0 s)=some no\/∃aj,0<=aj/\aj<=s/\(∀x,x∈xs->W x)/\bP g (st 0 s)=some (nb aj):=by
 suffices h:∀(r:List az) (k:Nat) (s:Int),xs.drop k=r->k<=xs.length->0<=s->s<=1048576->bP g (st k s)=some no\/∃aj,0<=aj/\aj<=s/\(∀x,x∈r->W x)/\bP g (st k s)=some (nb aj) from
  h xs 0 s rfl (Nat.zero_le _) Z aH
 intro r;induction r with
 |nil=>
  intro k s hr ag Z aH;have:=drop_nil hr;obtain rfl:k=xs.length:=by omega
  exact .inr ⟨s,Z,Int.le_refl _,fun x h=>(by cases h),eR (h2 s)⟩
 |cons x r ih=>
  intro k s hr ag Z aH;obtain⟨c1,c2,c3⟩:=drop_cons hr;rcases h1 k x s c1 Z aH with h|⟨aj,ay,ao,be,b9⟩
  ·exact .inl (eR h)
  ·rw[h_ b9];rcases ih (k+1) aj c2 (by omega) ay (by omega) with h|⟨s2,q1,q2,dJ,lP⟩
   ·exact .inl h
   ·exact .inr ⟨s2,q1,by omega,fun y ai=>by
     rcases List.mem_cons.1 ai with rfl|ai
     ·exact be
     ·exact dJ y ai,lP⟩
theorem Wl(a)(aQ:0<=a.1.2.1)(h1:a.1.2.1<=1048576)(hm:Q' ⟨a.1.1.1,a.1.1.2.1,a.1.1.2.2.1⟩):∃r:Int,f113 a=some ((r,()),())/\oZ a.1.2.1 r (Gc ⟨a.1.1.1,a.1.1.2.1,a.1.1.2.2.1⟩):=by
 obtain⟨⟨⟨(n:al),k,(v:al),u⟩,(l:Int),bA⟩,hU⟩:=a;have aQ:0<=l:=aQ;have h1:l<=1048576:=h1;obtain⟨m1,m2⟩:=hm;have m1:gp n.length:=m1;have m2:gp v.length:=m2;simp only[f113,mN aQ h1 m1];by_cases c:l-(n.length:Int)<0
 ·simp only[c,decide_true,cond_true];exact⟨_,rfl,.inl (by omega)⟩
 ·simp only[c,decide_false,cond_false,mN (l:=l-n.length) (by omega) (by omega) m2]
  by_cases c2:l-(n.length:Int)-(v.length:Int)<0
  ·simp only[c2,decide_true,cond_true];exact⟨_,rfl,.inl (by omega)⟩
  ·simp only[c2,decide_false,cond_false];exact⟨_,rfl,.inr ⟨by omega,(by show l-n.length-v.length<=l;omega),(by show n.length<=1048576;omega),(by show v.length<=1048576;omega)⟩⟩
theorem UV(a)(aQ:0<=a.1.2.1)(h1:a.1.2.1<=1048576)(hm:Ra ⟨a.1.1.1,a.1.1.2.1,a.1.1.2.2.1,a.1.1.2.2.2.1⟩):∃r:Int,f114 a=some ((r,()),())/\oZ a.1.2.1 r (Gd ⟨a.1.1.1,a.1.1.2.1,a.1.1.2.2.1,a.1.1.2.2.2.1⟩):=by
 obtain⟨⟨⟨(n:al),k,ao,(v:al),u⟩,(l:Int),bA⟩,hU⟩:=a;have aQ:0<=l:=aQ;have h1:l<=1048576:=h1;obtain⟨m1,m2⟩:=hm;have m1:gp n.length:=m1;have m2:gp v.length:=m2;simp only[f114,mN aQ h1 m1];by_cases c:l-(n.length:Int)<0
 ·simp only[c,decide_true,cond_true];exact⟨_,rfl,.inl (by omega)⟩
 ·simp only[c,decide_false,cond_false,mN (l:=l-n.length) (by omega) (by omega) m2]
  by_cases c2:l-(n.length:Int)-(v.length:Int)<0
  ·simp only[c2,decide_true,cond_true];exact⟨_,rfl,.inl (by omega)⟩
  ·simp only[c2,decide_false,cond_false];exact⟨_,rfl,.inr ⟨by omega,(by show l-n.length-v.length<=l;omega),(by show n.length<=1048576;omega),(by show v.length<=1048576;omega)⟩⟩
theorem UU(a)(aQ:0<=a.1.2.1)(h1:a.1.2.1<=1048576)(hm:EZ a.1.1):∃r:Int,f69 a=some ((r,()),())/\oZ a.1.2.1 r (N4 a.1.1):=by
 obtain⟨⟨xs,(l:Int),u⟩,bA⟩:=a;have aQ:0<=l:=aQ;have h1:l<=1048576:=h1;obtain⟨m1,m2⟩:=hm;have m1:gp xs.length:=m1;simp only[f69,mN aQ h1 m1];by_cases c:l-(xs.length:Int)<0
 ·simp only[c,decide_true,cond_true];exact⟨_,rfl,.inl (by omega)⟩
 ·simp only[c,decide_false,cond_false];have hl:xs.length<=1048576:=by omega
  have key:=Ca xk xs (fun i s=>((xs,(s,((i:Int),()))),())) (.inl (((-1:Int),()),())) (fun s=>.inr ((s,()),())) Gc (fun i x s hx iY s1=>?_) (fun s=>?_) (l-xs.length) (by omega) (by omega)
  ·rcases key with h|⟨aj,ay,ao,be,h⟩
   ·have h:xb ((xs,(l-xs.length,((0:Int),()))),())=_:=h;exact⟨-1,by rw[h];rfl,.inl (by omega)⟩
   ·have h:xb ((xs,(l-xs.length,((0:Int),()))),())=_:=h;exact⟨aj,by rw[h];rfl,.inr ⟨ay,(by show aj<=l;omega),hl,be⟩⟩
  ·have hi:=cy hx;have hw:aJ i:=by unfold aJ;omega
   obtain⟨r,e1,e2⟩:=Wl (((x.name,(x.kind,(x.bT,()))),(s,())),()) iY s1 (m2 x (List.mem_of_getElem? hx));simp only[xk,cx hi,cond_true,b_,hx,Option.bind_some,e1,ch hw];rcases e2 with e2|⟨q1,q2,dJ⟩
   ·left;simp only[e2,decide_true,cond_true]
   ·have:¬r<0:=by omega
    right;refine⟨r,q1,q2,dJ,?_⟩;simp only[this,decide_false,cond_false]
  ·simp only[xk,c7,cond_false]
theorem TQ(a)(aQ:0<=a.1.2.1)(h1:a.1.2.1<=1048576)(hm:E0 a.1.1):∃r:Int,f70 a=some ((r,()),())/\oZ a.1.2.1 r (N5 a.1.1):=by
 obtain⟨⟨xs,(l:Int),u⟩,bA⟩:=a;have aQ:0<=l:=aQ;have h1:l<=1048576:=h1;obtain⟨m1,m2⟩:=hm;have m1:gp xs.length:=m1;simp only[f70,mN aQ h1 m1];by_cases c:l-(xs.length:Int)<0
 ·simp only[c,decide_true,cond_true];exact⟨_,rfl,.inl (by omega)⟩
 ·simp only[c,decide_false,cond_false];have hl:xs.length<=1048576:=by omega
  have key:=Ca xj xs (fun i s=>((xs,(s,((i:Int),()))),())) (.inl (((-1:Int),()),())) (fun s=>.inr ((s,()),())) Gd (fun i x s hx iY s1=>?_) (fun s=>?_) (l-xs.length) (by omega) (by omega)
  ·rcases key with h|⟨aj,ay,ao,be,h⟩
   ·have h:w_ ((xs,(l-xs.length,((0:Int),()))),())=_:=h;exact⟨-1,by rw[h];rfl,.inl (by omega)⟩
   ·have h:w_ ((xs,(l-xs.length,((0:Int),()))),())=_:=h;exact⟨aj,by rw[h];rfl,.inr ⟨ay,(by show aj<=l;omega),hl,be⟩⟩
  ·have hi:=cy hx;have hw:aJ i:=by unfold aJ;omega
   obtain⟨r,e1,e2⟩:=UV (((x.path,(x.kind,(x.mode,(x.text,())))),(s,())),()) iY s1 (m2 x (List.mem_of_getElem? hx));simp only[xj,cx hi,cond_true,b_,hx,Option.bind_some,e1,ch hw];rcases e2 with e2|⟨q1,q2,dJ⟩
   ·left;simp only[e2,decide_true,cond_true]
   ·have:¬r<0:=by omega
    right;refine⟨r,q1,q2,dJ,?_⟩;simp only[this,decide_false,cond_false]
  ·simp only[xj,c7,cond_false]
theorem Wk(a)(aQ:0<=a.1.2.1)(h1:a.1.2.1<=1048576)(hm:Q_ ⟨a.1.1.1,a.1.1.2.1,a.1.1.2.2.1,a.1.1.2.2.2.1⟩):∃r:Int,f32 a=some ((r,()),())/\oZ a.1.2.1 r (Gb ⟨a.1.1.1,a.1.1.2.1,a.1.1.2.2.1,a.1.1.2.2.2.1⟩):=by
 obtain⟨⟨⟨(n:al),(v:al),aC,es,u⟩,(l:Int),bA⟩,hU⟩:=a;have aQ:0<=l:=aQ;have h1:l<=1048576:=h1;obtain⟨m1,m2,m3,m4⟩:=hm;have m1:gp n.length:=m1;have m2:gp v.length:=m2;simp only[f32,mN aQ h1 m1];by_cases c:l-(n.length:Int)<0
 ·simp only[c,decide_true,cond_true];exact⟨_,rfl,.inl (by omega)⟩
 ·simp only[c,decide_false,cond_false,mN (l:=l-n.length) (by omega) (by omega) m2]
  by_cases c2:l-(n.length:Int)-(v.length:Int)<0
  ·simp only[c2,decide_true,cond_true];exact⟨_,rfl,.inl (by omega)⟩
  ·simp only[c2,decide_false,cond_false];obtain⟨r,e1,e2⟩:=UU ((aC,(l-(n.length:Int)-(v.length:Int),())),()) (by show 0<=l-(n.length:Int)-(v.length:Int);omega) (by show l-(n.length:Int)-(v.length:Int)<=_;omega) m3
   simp only[e1,Option.bind_some];rcases e2 with e2|⟨q1,q2,dJ⟩
   ·simp only[e2,decide_true,cond_true];exact⟨_,rfl,.inl (by omega)⟩
   ·have q2:r<=l-(n.length:Int)-(v.length:Int):=q2;have c3:¬r<0:=by omega
    simp only[c3,decide_false,cond_false];obtain⟨r2,bK,dW⟩:=TQ ((es,(r,())),()) q1 (by show r<=_;omega) m4
    simp only[bK,Option.bind_some];rcases dW with dW|⟨lP,pT,ahW⟩
    ·simp only[dW,decide_true,cond_true];exact⟨_,rfl,.inl (by omega)⟩
    ·have pT:r2<=r:=pT;have dM:¬r2<0:=by omega
     simp only[dM,decide_false,cond_false];exact⟨_,rfl,.inr ⟨lP,(by show r2<=l;omega),(by show n.length<=1048576;omega),(by show v.length<=1048576;omega),dJ,ahW⟩⟩
theorem UT(a)(aQ:0<=a.1.2.1)(h1:a.1.2.1<=1048576)(hm:ul a.1.1):∃r:Int,f20 a=some ((r,()),())/\oZ a.1.2.1 r (y9 a.1.1):=by
 obtain⟨⟨xs,(l:Int),u⟩,bA⟩:=a;have aQ:0<=l:=aQ;have h1:l<=1048576:=h1;obtain⟨m1,m2⟩:=hm;have m1:gp xs.length:=m1;simp only[f20,mN aQ h1 m1];by_cases c:l-(xs.length:Int)<0
 ·simp only[c,decide_true,cond_true];exact⟨_,rfl,.inl (by omega)⟩
 ·simp only[c,decide_false,cond_false];have hl:xs.length<=1048576:=by omega
  have key:=Ca xr xs (fun i s=>((xs,(s,((i:Int),()))),())) (.inl (((-1:Int),()),())) (fun s=>.inr ((s,()),())) Gb (fun i x s hx iY s1=>?_) (fun s=>?_) (l-xs.length) (by omega) (by omega)
  ·rcases key with h|⟨aj,ay,ao,be,h⟩
   ·have h:xc ((xs,(l-xs.length,((0:Int),()))),())=_:=h;exact⟨-1,by rw[h];rfl,.inl (by omega)⟩
   ·have h:xc ((xs,(l-xs.length,((0:Int),()))),())=_:=h;exact⟨aj,by rw[h];rfl,.inr ⟨ay,(by show aj<=l;omega),hl,be⟩⟩
  ·have hi:=cy hx;have hw:aJ i:=by unfold aJ;omega
   obtain⟨r,e1,e2⟩:=Wk (((x.name,(x.bT,(x.b5,(x.cr,())))),(s,())),()) iY s1 (m2 x (List.mem_of_getElem? hx));simp only[xr,cx hi,cond_true,b_,hx,Option.bind_some,e1,ch hw];rcases e2 with e2|⟨q1,q2,dJ⟩
   ·left;simp only[e2,decide_true,cond_true]
   ·have:¬r<0:=by omega
    right;refine⟨r,q1,q2,dJ,?_⟩;simp only[this,decide_false,cond_false]
  ·simp only[xr,c7,cond_false]
theorem Wj(a)(aQ:0<=a.1.2.1)(h1:a.1.2.1<=1048576)(hm:ul a.1.1.1):∃r:Int,f11 a=some ((r,()),())/\oZ a.1.2.1 r (y9 a.1.1.1):=by
 obtain⟨⟨⟨xs,u⟩,l,bA⟩,hU⟩:=a;obtain⟨r,e1,e2⟩:=UT ((xs,(l,())),()) aQ h1 hm;simp only[f11,e1,Option.bind_some];rcases e2 with e2|⟨q1,q2,dJ⟩
 ·simp only[e2,decide_true,cond_true];exact⟨_,rfl,.inl (by omega)⟩
 ·have:¬r<0:=by omega
  simp only[this,decide_false,cond_false];exact⟨_,rfl,.inr ⟨q1,q2,dJ⟩⟩
theorem A'{az H bq:Type}(g:H->Option (Sum H bq))(xs:List az)(z:az)(st:Nat->List az->H)(fin:List az->bq)
  (h1:∀i x bV,xs[i]? =some x->bV.length=xs.length->g (st i bV)=some (.inl (st (i+1) (bV.set i x))))
  (h2:g (st xs.length xs)=some (.inr (fin xs))):bP g (st 0 (List.replicate xs.length z))=some (fin xs):=by
 suffices h:∀(r:List az) (k:Nat),xs.drop k=r->k<=xs.length->bP g (st k (xs.take k++List.replicate (xs.length-k) z))=some (fin xs) from by
  have:=h xs 0 rfl (Nat.zero_le _);simpa using this
 intro r;induction r with
 |nil=>
  intro k hr ag;have:=drop_nil hr;obtain rfl:k=xs.length:=by omega
  simp only[Nat.sub_self,List.replicate_zero,List.append_nil,List.take_length];exact eR h2
 |cons x r ih=>
  intro k hr ag;obtain⟨c1,c2,c3⟩:=drop_cons hr;have hl:(xs.take k++List.replicate (xs.length-k) z).length=xs.length:=by simp;omega
  rw[h_ (h1 k x _ c1 hl)];have e:(xs.take k++List.replicate (xs.length-k) z).set k x=xs.take (k+1)++List.replicate (xs.length-(k+1)) z:=by
   have uU:(xs.take k).length=k:=by simp;omega
   obtain⟨m,hm⟩:∃m,xs.length-k=m+1:=⟨xs.length-k-1,by omega⟩
   rw[List.set_append_right _ _ (by omega),uU,Nat.sub_self,hm,show xs.length-(k+1)=m by omega,List.replicate_succ,List.set_cons_zero,List.take_add_one,c1]
   simp
  rw[e];exact ih (k+1) c2 c3
theorem US(a)(M:cj a.1.1.length):f72 a=some (((),()),(a.1.1,())):=by
 obtain⟨⟨xs,u⟩,bA⟩:=a;have M:xs.length<=2097152:=M;have key:=A' yc xs (dH.mk [] 0 []) (fun i bV=>((xs,((),((i:Int),()))),(bV,()))) (fun bV=>(((),()),(bV,()))) (fun i x bV hx hl=>?_) ?_
 ·have key:Df ((xs,((),((0:Int),()))),(List.replicate xs.length (dH.mk [] 0 []),()))=_:=key;simp only[f72,C9 (show(40:Nat)<=100 by decide) (show aJ xs.length by unfold aJ;omega),Option.bind_some,key]
 ·have hi:=cy hx;have hw:aJ i:=by unfold aJ;omega
  have aL:bV[i]? =some bV[i]:=List.getElem?_eq_getElem (by omega)
  simp only[yc,cx hi,cond_true,b_,hx,Option.bind_some,f116,l1 (show i<bV.length by omega),aL,ch hw]
 ·simp only[yc,c7,cond_false]
theorem TP(a)(M:cj a.1.1.length):f73 a=some (((),()),(a.1.1,())):=by
 obtain⟨⟨xs,u⟩,bA⟩:=a;have M:xs.length<=2097152:=M;have key:=A' yb xs (aX.mk [] 0 0 []) (fun i bV=>((xs,((),((i:Int),()))),(bV,()))) (fun bV=>(((),()),(bV,()))) (fun i x bV hx hl=>?_) ?_
 ·have key:De ((xs,((),((0:Int),()))),(List.replicate xs.length (aX.mk [] 0 0 []),()))=_:=key;simp only[f73,C9 (show(48:Nat)<=100 by decide) (show aJ xs.length by unfold aJ;omega),Option.bind_some,key]
 ·have hi:=cy hx;have hw:aJ i:=by unfold aJ;omega
  have aL:bV[i]? =some bV[i]:=List.getElem?_eq_getElem (by omega)
  simp only[yb,cx hi,cond_true,b_,hx,Option.bind_some,f117,l1 (show i<bV.length by omega),aL,ch hw]
 ·simp only[yb,c7,cond_false]
theorem UR(a)(M:gh a.1.1):f22 a=some (((),()),(a.1.1,())):=by
 obtain⟨⟨xs,u⟩,bA⟩:=a;obtain⟨M,hm⟩:=M;have M:xs.length<=2097152:=M;have key:=A' yg xs (bE.mk [] [] [] []) (fun i bV=>((xs,((),((i:Int),()))),(bV,()))) (fun bV=>(((),()),(bV,()))) (fun i x bV hx hl=>?_) ?_
 ·have key:Dk ((xs,((),((0:Int),()))),(List.replicate xs.length (bE.mk [] [] [] []),()))=_:=key;simp only[f22,C9 (show(80:Nat)<=100 by decide) (show aJ xs.length by unfold aJ;omega),Option.bind_some,key]
 ·have hi:=cy hx;have hw:aJ i:=by unfold aJ;omega
  have aL:bV[i]? =some bV[i]:=List.getElem?_eq_getElem (by omega)
  obtain⟨_,_,bL,kg⟩:=hm x (List.mem_of_getElem? hx);simp only[yg,cx hi,cond_true,b_,hx,Option.bind_some,f34,US ((x.b5,()),()) bL.1,TP ((x.cr,()),()) kg.1,l1 (show i<bV.length by omega),aL,ch hw]
 ·simp only[yg,c7,cond_false]
theorem Wi(a)(M:gh a.1.1.1):f13 a=some (((),()),(a.1.1.1,(((),()),()))):=by
 obtain⟨⟨⟨xs,u⟩,bA⟩,hU⟩:=a;simp only[f13,UR ((xs,()),()) M,Option.bind_some]
theorem Bb{az:Type}:∀(xs:List az) (i:Nat),allI (fun _ _=>true) i xs=true:=by
 intro xs;induction xs with
 |nil=>intro i;rfl
 |cons x r ih=>intro i;simp only[allI,ih,Bool.and_self]
theorem sS(a:Int):(a !=a)=false:=by simp
theorem Ww(a)(h:a.1.1=a.1.2.1):f125 a=some ((true,()),()):=by
 obtain⟨⟨x,y,u⟩,bA⟩:=a;have h:x=y:=h;subst h;simp only[f125,beq_self_eq_true,Bool.not_true,cond_false,sS]
theorem U7(a)(h:a.1.1=a.1.2.1):f53 a=some ((true,()),()):=by
 obtain⟨⟨x,y,u⟩,bA⟩:=a;have h:x=y:=h;subst h;simp only[f53,beq_self_eq_true,Bool.not_true,cond_false,sS]
theorem U6(xs:List dH)(M:cj xs.length):f76 ((xs,(xs,())),())=some ((true,()),()):=by
 have key:Dd ((xs,(xs,((0:Int),()))),())=some (bif allI (fun _ _=>true) 0 xs then .inr ((),()) else .inl ((false,()),())):=by
  refine fK ya xs (fun i=>((xs,(xs,((i:Int),()))),())) _ _ _ (fun i x hx=>?_) ?_
  ·have hi:=cy hx;have hw:aJ i:=by unfold aJ;omega
   simp only[ya,cx hi,cond_true,b_,hx,Option.bind_some,Ww (((x.name,(x.kind,(x.bT,()))),((x.name,(x.kind,(x.bT,()))),())),()) rfl,Bool.not_true,cond_false,ch hw]
  ·simp only[ya,c7,cond_false]
 rw[Bb] at key;simp only[f76,sS,cond_false,key,cond_true,Option.bind_some]
theorem HZ(xs:List aX)(M:cj xs.length):f15 ((xs,(xs,())),())=some ((true,()),()):=by
 have key:Dm ((xs,(xs,((0:Int),()))),())=some (bif allI (fun _ _=>true) 0 xs then .inr ((),()) else .inl ((false,()),())):=by
  refine fK yh xs (fun i=>((xs,(xs,((i:Int),()))),())) _ _ _ (fun i x hx=>?_) ?_
  ·have hi:=cy hx;have hw:aJ i:=by unfold aJ;omega
   simp only[yh,cx hi,cond_true,b_,hx,Option.bind_some,U7 (((x.path,(x.kind,(x.mode,(x.text,())))),((x.path,(x.kind,(x.mode,(x.text,())))),())),()) rfl,Bool.not_true,cond_false,ch hw]
  ·simp only[yh,c7,cond_false]
 rw[Bb] at key;simp only[f15,sS,cond_false,key,cond_true,Option.bind_some]
theorem Wv(x:bE)(h:vi x):f36 (((x.name,(x.bT,(x.b5,(x.cr,())))),((x.name,(x.bT,(x.b5,(x.cr,())))),())),())=some ((true,()),()):=by
 simp only[f36,beq_self_eq_true,Bool.not_true,cond_false,U6 _ h.2.2.1.1,HZ _ h.2.2.2.1,Option.bind_some]
theorem U5(xs:List bE)(M:gh xs):f25 ((xs,(xs,())),())=some ((true,()),()):=by
 have hl:xs.length<=2097152:=M.1;have key:Dj ((xs,(xs,((0:Int),()))),())=some (bif allI (fun _ _=>true) 0 xs then .inr ((),()) else .inl ((false,()),())):=by
  refine fK yf xs (fun i=>((xs,(xs,((i:Int),()))),())) _ _ _ (fun i x hx=>?_) ?_
  ·have hi:=cy hx;have hw:aJ i:=by unfold aJ;omega
   simp only[yf,cx hi,cond_true,b_,hx,Option.bind_some,Wv x (M.2 x (List.mem_of_getElem? hx)),Bool.not_true,cond_false,ch hw]
  ·simp only[yf,c7,cond_false]
 rw[Bb] at key;simp only[f25,sS,cond_false,key,cond_true,Option.bind_some]
theorem Wu(xs:List bE)(M:gh xs):f16 (((xs,()),((xs,()),())),())=some ((true,()),()):=by
 simp only[f16,U5 xs M,Option.bind_some,Bool.not_true,cond_false]
theorem y9.RT{ps:List bE}(h:y9 ps):gh ps/\nz ps:=by
 obtain⟨h1,h2⟩:=h;have up:∀{n:Nat},i_ n->cj n:=fun h=>Nat.le_trans h (by decide)
 have Ph:∀{n:Nat},i_ n->n<=2097151:=fun h=>Nat.le_trans h (by decide)
 refine⟨⟨up h1,fun p an=>?_⟩,fun p an=>?_⟩
 ·obtain⟨a,b,c,d⟩:=h2 p an;exact⟨up a,up b,⟨up c.1,fun n hn=>⟨up (c.2 n hn).1,up (c.2 n hn).2⟩⟩,up d.1,fun n hn=>⟨up (d.2 n hn).1,up (d.2 n hn).2⟩⟩
 ·obtain⟨a,b,c,d⟩:=h2 p an;exact⟨Ph b,fun n hn=>Ph (c.2 n hn).2⟩
theorem qt{s:al}(h:iu (.str s)):gp s.length:=by cases h;assumption
theorem CT{t:aE}{xs:List (den t)}(h:iu (.sl t xs)):gp xs.length/\∀x,x∈xs->∀d,d∈enc t x->iu d:=by cases h;exact⟨by assumption,by assumption⟩
theorem Wh{xs:List dH}(h:iu (.sl .need xs)):EZ xs:=by
 obtain⟨h1,h2⟩:=CT h;exact⟨h1,fun x hx=>⟨qt (h2 x hx (.str x.name) (by simp[enc])),qt (h2 x hx (.str x.bT) (by simp[enc]))⟩⟩
theorem TO{xs:List aX}(h:iu (.sl .entry xs)):E0 xs:=by
 obtain⟨h1,h2⟩:=CT h;exact⟨h1,fun x hx=>⟨qt (h2 x hx (.str x.path) (by simp[enc])),qt (h2 x hx (.str x.text) (by simp[enc]))⟩⟩
theorem Wg{xs:List bE}(h:iu (.sl .pack xs)):ul xs:=by
 obtain⟨h1,h2⟩:=CT h;exact⟨h1,fun x hx=>⟨qt (h2 x hx (.str x.name) (by simp[enc])),qt (h2 x hx (.str x.bT) (by simp[enc])),Wh (h2 x hx (.sl .need x.b5) (by simp[enc])),TO (h2 x hx (.sl .entry x.cr) (by simp[enc]))⟩⟩
abbrev xW:Shape:=⟨[ak 0,bw 3],[],20⟩
abbrev C0:List bd:=[(.exit 0,⟨[bw 3],[],20⟩)]
noncomputable def Ds(y:xW.H):cI xW C0:=
 bif(decide (y.1.1>(0:Int))) then
(rB y.1.1 (10:Int)).bind fun a=>
(nq (strOf ([(IntKind.u8.wrap (IntKind.i64.wrap ((48:Int)+a)))]:List Int)) y.1.2.1).bind fun b=>
(rD .i64 y.1.1 (10:Int)).bind fun c=>
 some (.inl ((c,b,()),()))
else
 some (.inr ((y.1.2.1,()),()))
noncomputable def Dg:xW.H->Option (aW C0):=bP Ds
theorem Zw:br af (aF (codeOf Tryz.f54) 1 60) (bB xW C0 Dg):=cK g0 (by kernel_rfl) aA fun y=>by kernel_rfl
abbrev i54:Shape:=⟨[ak 0],[],20⟩
abbrev PH:Shape:=⟨[bw 2],[],20⟩
noncomputable def f54(a:i54.H):Option PH.H:=
 bif(decide (a.1.1<=(0:Int))) then
 some ((([109,48]:al),()),())
else
(Dg ((a.1.1,([]:al),()),())).bind fun b=>
(nq ([109]:al) b.1.1).bind fun c=>
 some ((c,()),())
noncomputable def vf:a4:=bi aD Tryz.f54 i54 PH [] f54
theorem ze:a6 af 54 vf:=bk g0 Tryz.func54 (by kernel_rfl) (bJ Zw aA) (fun y=>by kernel_rfl) fun a=>by kernel_rfl
noncomputable abbrev aaa:bF:=[(54,vf)]
theorem Mp:bb af (bz aD aaa):=bC ⟨ze,⟨⟩⟩
abbrev sV:Shape:=⟨[b6 0 3000000,ak 1,ak 5],[cl 3000000 .entry 0 0],43⟩
abbrev Bh:List bd:=[(.exit 0,⟨[b6 0 3000000,ak 1],[cl 3000000 .entry 0 0],43⟩)]
noncomputable def s4(y:sV.H):cI sV Bh:=
 bif(decide (y.1.2.2.1<(y.2.1.length:Int))) then
(f54 ((y.1.2.1,()),())).bind fun a=>
(e8 y.2.1.length y.1.2.2.1).bind fun b=>
((y.2.1[b]?).bind fun q=>some (aX.mk a.1.1 q.kind q.mode q.text)).bind fun c=>
(e8 (y.2.1.set b c).length y.1.2.2.1).bind fun d=>
(((y.2.1.set b c)[d]?).bind fun q=>some (aX.mk q.path (IntKind.i64.wrap (y.1.2.1+(1:Int))) q.mode q.text)).bind fun e=>
(e8 ((y.2.1.set b c).set d e).length y.1.2.2.1).bind fun f=>
((((y.2.1.set b c).set d e)[f]?).bind fun q=>some (aX.mk q.path q.kind (IntKind.i64.wrap ((IntKind.i64.wrap (y.1.2.1+(1:Int)))+(1:Int))) q.text)).bind fun g=>
(f54 (((IntKind.i64.wrap ((IntKind.i64.wrap ((IntKind.i64.wrap (y.1.2.1+(1:Int)))+(1:Int)))+(1:Int))),()),())).bind fun h=>
(e8 (((y.2.1.set b c).set d e).set f g).length y.1.2.2.1).bind fun i=>
(((((y.2.1.set b c).set d e).set f g)[i]?).bind fun q=>some (aX.mk q.path q.kind q.mode h.1.1)).bind fun j=>
 some (.inl (((),(IntKind.i64.wrap ((IntKind.i64.wrap ((IntKind.i64.wrap ((IntKind.i64.wrap (y.1.2.1+(1:Int)))+(1:Int)))+(1:Int)))+(1:Int))),(IntKind.i64.wrap (y.1.2.2.1+(1:Int))),()),((((y.2.1.set b c).set d e).set f g).set i j),()))
else
 some (.inr (((),y.1.2.1,()),y.2.1,()))
noncomputable def Bs:sV.H->Option (aW Bh):=bP s4
theorem W5:br af (aF (codeOf Tryz.f18) 1 26) (bB sV Bh Bs):=cK Mp (by kernel_rfl) aA fun y=>by kernel_rfl
abbrev L6:Shape:=⟨[b6 0 600000,ak 1],[(600000,.row .entry,.same)],43⟩
abbrev LU:Shape:=⟨[b6 0 3000000,ak 4],[cl 3000000 .entry 0 0],43⟩
noncomputable def tN(a:L6.H):Option LU.H:=
(Bs (((),a.1.2.1,(0:Int),()),a.2.1,())).bind fun b=>
 some (((),b.1.2.1,()),b.2.1,())
noncomputable def DU:a4:=rz aD Tryz.f18 L6 LU [] [0] tN
theorem LK:a6 af 18 DU:=sK Mp Tryz.func18 (by kernel_rfl) (bJ W5 aA) (fun y=>by kernel_rfl) fun a=>by kernel_rfl
noncomputable abbrev _9:bF:=[(54,vf)]
theorem Mn:bb af (bz aD _9):=bC ⟨ze,⟨⟩⟩
abbrev sT:Shape:=⟨[b6 0 3000000,ak 1,ak 5],[cl 3000000 .need 0 0],36⟩
abbrev Bf:List bd:=[(.exit 0,⟨[b6 0 3000000,ak 1],[cl 3000000 .need 0 0],36⟩)]
noncomputable def s0(y:sT.H):cI sT Bf:=
 bif(decide (y.1.2.2.1<(y.2.1.length:Int))) then
(f54 ((y.1.2.1,()),())).bind fun a=>
(e8 y.2.1.length y.1.2.2.1).bind fun b=>
((y.2.1[b]?).bind fun q=>some (dH.mk a.1.1 q.kind q.bT)).bind fun c=>
(e8 (y.2.1.set b c).length y.1.2.2.1).bind fun d=>
(((y.2.1.set b c)[d]?).bind fun q=>some (dH.mk q.name (IntKind.i64.wrap (y.1.2.1+(1:Int))) q.bT)).bind fun e=>
(f54 (((IntKind.i64.wrap ((IntKind.i64.wrap (y.1.2.1+(1:Int)))+(1:Int))),()),())).bind fun f=>
(e8 ((y.2.1.set b c).set d e).length y.1.2.2.1).bind fun g=>
((((y.2.1.set b c).set d e)[g]?).bind fun q=>some (dH.mk q.name q.kind f.1.1)).bind fun h=>
 some (.inl (((),(IntKind.i64.wrap ((IntKind.i64.wrap ((IntKind.i64.wrap (y.1.2.1+(1:Int)))+(1:Int)))+(1:Int))),(IntKind.i64.wrap (y.1.2.2.1+(1:Int))),()),(((y.2.1.set b c).set d e).set g h),()))
else
 some (.inr (((),y.1.2.1,()),y.2.1,()))
noncomputable def Bq:sT.H->Option (aW Bf):=bP s0
theorem WZ:br af (aF (codeOf Tryz.f60) 1 26) (bB sT Bf Bq):=cK Mn (by kernel_rfl) aA fun y=>by kernel_rfl
abbrev L4:Shape:=⟨[b6 0 600000,ak 1],[(600000,.row .need,.same)],36⟩
abbrev LR:Shape:=⟨[b6 0 3000000,ak 4],[cl 3000000 .need 0 0],36⟩
noncomputable def yF(a:L4.H):Option LR.H:=
(Bq (((),a.1.2.1,(0:Int),()),a.2.1,())).bind fun b=>
 some (((),b.1.2.1,()),b.2.1,())
noncomputable def Mk:a4:=rz aD Tryz.f60 L4 LR [] [0] yF
theorem _i:a6 af 60 Mk:=sK Mn Tryz.func60 (by kernel_rfl) (bJ WZ aA) (fun y=>by kernel_rfl) fun a=>by kernel_rfl
noncomputable abbrev _':bF:=[(18,DU),(54,vf),(60,Mk)]
theorem Mo:bb af (bz aD _'):=bC ⟨LK,ze,_i,⟨⟩⟩
abbrev sU:Shape:=⟨[b6 0 3000000,ak 1,ak 5],[(3000000,.deep .pack,.slot 0 0)],43⟩
abbrev Bg:List bd:=[(.exit 0,⟨[b6 0 3000000,ak 1],[(3000000,.deep .pack,.slot 0 0)],43⟩)]
noncomputable def s3(y:sU.H):cI sU Bg:=
 bif(decide (y.1.2.2.1<(y.2.1.length:Int))) then
(f54 ((y.1.2.1,()),())).bind fun a=>
(e8 y.2.1.length y.1.2.2.1).bind fun b=>
((y.2.1[b]?).bind fun q=>some (bE.mk a.1.1 q.bT q.b5 q.cr)).bind fun c=>
(f54 (((IntKind.i64.wrap (y.1.2.1+(1:Int))),()),())).bind fun d=>
(e8 (y.2.1.set b c).length y.1.2.2.1).bind fun e=>
(((y.2.1.set b c)[e]?).bind fun q=>some (bE.mk q.name d.1.1 q.b5 q.cr)).bind fun f=>
(e8 ((y.2.1.set b c).set e f).length y.1.2.2.1).bind fun g=>
(((y.2.1.set b c).set e f)[g]?).bind fun h=>
(yF (((),(IntKind.i64.wrap ((IntKind.i64.wrap (y.1.2.1+(1:Int)))+(1:Int))),()),h.b5,())).bind fun i=>
(e8 (((y.2.1.set b c).set e f).set g (bE.mk h.name h.bT i.2.1 h.cr)).length y.1.2.2.1).bind fun j=>
((((y.2.1.set b c).set e f).set g (bE.mk h.name h.bT i.2.1 h.cr))[j]?).bind fun k=>
(tN (((),i.1.2.1,()),k.cr,())).bind fun l=>
 some (.inl (((),l.1.2.1,(IntKind.i64.wrap (y.1.2.2.1+(1:Int))),()),((((y.2.1.set b c).set e f).set g (bE.mk h.name h.bT i.2.1 h.cr)).set j (bE.mk k.name k.bT k.b5 l.2.1)),()))
else
 some (.inr (((),y.1.2.1,()),y.2.1,()))
noncomputable def Br:sU.H->Option (aW Bg):=bP s3
theorem W2:br af (aF (codeOf Tryz.f26) 1 26) (bB sU Bg Br):=cK Mo (by kernel_rfl) aA fun y=>by kernel_rfl
abbrev L5:Shape:=⟨[b6 0 600000,ak 1],[(600000,.deep .pack,.same)],43⟩
abbrev LS:Shape:=⟨[b6 0 3000000,ak 4],[(3000000,.deep .pack,.slot 0 0)],43⟩
noncomputable def yG(a:L5.H):Option LS.H:=
(Br (((),a.1.2.1,(0:Int),()),a.2.1,())).bind fun b=>
 some (((),b.1.2.1,()),b.2.1,())
noncomputable def Ml:a4:=rz aD Tryz.f26 L5 LS [] [0] yG
theorem _j:a6 af 26 Ml:=sK Mo Tryz.func26 (by kernel_rfl) (bJ W2 aA) (fun y=>by kernel_rfl) fun a=>by kernel_rfl
noncomputable abbrev aab:bF:=[(26,Ml)]
theorem aac:bb af (bz aD aab):=bC ⟨_j,⟨⟩⟩
abbrev L7:Shape:=⟨[dw 0 [.own 600000],ak 1],[(600000,.deep .pack,.same)],10⟩
abbrev LV:Shape:=⟨[dw 0 [.own 3000000],ak 4],[(3000000,.deep .pack,.slot 0 0)],10⟩
noncomputable def yH(a:L7.H):Option LV.H:=
(yG (((),a.1.2.1,()),a.2.1,())).bind fun b=>
 some ((((),()),b.1.2.1,()),b.2.1,())
noncomputable def Mm:a4:=rz aD Tryz.f17 L7 LV [] [0] yH
theorem _k:a6 af 17 Mm:=sK aac Tryz.func17 (by kernel_rfl) aA (fun y=>by kernel_rfl) fun a=>by kernel_rfl
noncomputable abbrev ag8:bF:=[(54,vf)]
theorem Rp:bb af (bz aD ag8):=bC ⟨ze,⟨⟩⟩
abbrev to:Shape:=⟨[a0 0 .entry,ak 1,ak 5],[],51⟩
abbrev C3:List bd:=[(.ret,⟨[ak 4],[],51⟩),(.exit 0,⟨[ak 1],[],51⟩)]
noncomputable def tv(y:to.H):cI to C3:=
 bif(decide (y.1.2.2.1<(y.1.1.length:Int))) then
(bl y.1.1 y.1.2.2.1).bind fun a=>
(f54 ((y.1.2.1,()),())).bind fun b=>
 bif(!(a.path==b.1.1)) then
 some (.inr (.inl ((((-1):Int),()),())))
else
(bl y.1.1 y.1.2.2.1).bind fun c=>
 bif(c.kind !=(IntKind.i64.wrap (y.1.2.1+(1:Int)))) then
 some (.inr (.inl ((((-1):Int),()),())))
else
(bl y.1.1 y.1.2.2.1).bind fun d=>
 bif(d.mode !=(IntKind.i64.wrap ((IntKind.i64.wrap (y.1.2.1+(1:Int)))+(1:Int)))) then
 some (.inr (.inl ((((-1):Int),()),())))
else
(bl y.1.1 y.1.2.2.1).bind fun e=>
(f54 (((IntKind.i64.wrap ((IntKind.i64.wrap ((IntKind.i64.wrap (y.1.2.1+(1:Int)))+(1:Int)))+(1:Int))),()),())).bind fun f=>
 bif(!(e.text==f.1.1)) then
 some (.inr (.inl ((((-1):Int),()),())))
else
 some (.inl ((y.1.1,(IntKind.i64.wrap ((IntKind.i64.wrap ((IntKind.i64.wrap ((IntKind.i64.wrap (y.1.2.1+(1:Int)))+(1:Int)))+(1:Int)))+(1:Int))),(IntKind.i64.wrap (y.1.2.2.1+(1:Int))),()),()))
else
 some (.inr (.inr ((y.1.2.1,()),())))
noncomputable def Dl:to.H->Option (aW C3):=bP tv
theorem ZB:br af (aF (codeOf Tryz.f19) 1 26) (bB to C3 Dl):=cK Rp (by kernel_rfl) aA fun y=>by kernel_rfl
abbrev i19:Shape:=⟨[a0 0 .entry,ak 1],[],51⟩
abbrev PT:Shape:=⟨[ak 4],[],51⟩
noncomputable def f19(a:i19.H):Option PT.H:=
(Dl ((a.1.1,a.1.2.1,(0:Int),()),())).bind fun b=>
(match b with
|.inl c=>
 some ((c.1.1,()),())
|.inr d=>
 some ((d.1.1,()),()))
noncomputable def Q7:a4:=bi aD Tryz.f19 i19 PT [] f19
theorem adU:a6 af 19 Q7:=bk Rp Tryz.func19 (by kernel_rfl) (bJ ZB aA) (fun y=>by kernel_rfl) fun a=>by kernel_rfl
abbrev eo(k:Int):Prop:=k<=2305843009213693952
theorem Sp(m:Int)(s:al)(hm:0<=m)(hl:m+(s.length:Int)<=2305843009213693952):hk (Ds ((m,(s,())),())) (fun q=>match q with
  |.inl y=>∃(pX:Int) (aj:al),y=((pX,(aj,())),())/\pX.toNat<m.toNat/\0<=pX/\pX+(aj.length:Int)<=2305843009213693952
  |.inr b=>b.1.1.length<=2305843009213693952):=by
 simp only[Ds];by_cases an:m>0
 ·have aL:rD .i64 m 10=some (m/10):=Zj rfl hm (by omega) (by decide)
  have hr:rB m 10=some (m%10):=Zi hm (by decide)
  simp only[an,decide_true,cond_true,hr,aL,Option.bind_some];have hc:=Lj (s:=strOf ([(IntKind.u8.wrap (IntKind.i64.wrap ((48:Int)+m%10)))]:List Int)) (t:=s) (by simp[strOf];omega)
  simp only[hc,Option.bind_some];refine⟨_,rfl,m/10,_,rfl,by omega,by omega,?_⟩
  simp[strOf];omega
 ·simp only[an,decide_false,cond_false];refine⟨_,rfl,?_⟩;show s.length<=2305843009213693952;omega
theorem TG(k:Int)(aQ:1<=k)(h1:eo k):hk (f54 ((k,()),())) (fun _=>True):=by
 have hb:hk (Dg ((k,(([]:al),())),())) (fun r=>r.1.1.length<=2305843009213693952):=by
  refine hk.loop (fun n y=>∃(m:Int) (s:al),y=((m,(s,())),())/\n=m.toNat/\0<=m/\m+(s.length:Int)<=2305843009213693952) (fun n y ai=>?_) k.toNat _ ⟨k,[],rfl,rfl,by omega,by simpa using h1⟩
  obtain⟨m,s,rfl,rfl,hm,hl⟩:=ai;refine(Sp m s hm hl).mono fun q aL=>?_
  cases q with
  |inl y=>
   obtain⟨pX,aj,rfl,ay,ao,be⟩:=aL;exact⟨pX.toNat,ay,pX,aj,rfl,rfl,ao,be⟩
  |inr b=>exact aL
 simp only[f54];have Y:decide (k<=0)=false:=decide_eq_false (by omega)
 simp only[Y,cond_false];refine hb.bind fun r hr=>?_
 have hr:r.1.1.length<=2305843009213693952:=hr;rw[Lj (show([109]:al).length+r.1.1.length<=_ by simp;omega),Option.bind_some]
 exact .ret trivial
noncomputable def mt(k:Int):al:=match f54 ((k,()),()) with
 |some r=>r.1.1
 |none=>[]
theorem n6{k:Int}(aQ:1<=k)(h1:eo k):f54 ((k,()),())=some ((mt k,()),()):=by
 obtain⟨⟨⟨s,u⟩,bA⟩,e,_⟩:=TG k aQ h1;unfold mt;rw[e]
theorem C5{az:Type}{l xs:List az}{i:Nat}{c:az}(hl:l.length=i)(hi:i<xs.length):(l++xs.drop i).set i c=(l++[c])++xs.drop (i+1):=by
 subst hl;rw[List.set_append_right _ _ (Nat.le_refl _),Nat.sub_self,List.drop_eq_getElem_cons hi,List.set_cons_zero];simp
theorem get_at{az:Type}{l xs:List az}{i:Nat}(hl:l.length=i):(l++xs.drop i)[i]? =xs[i]? :=by
 subst hl;rw[List.getElem?_append_right (Nat.le_refl _),Nat.sub_self];simp
theorem oT{az:Type}{l:List az}{i:Nat}{c:az}(h:i<l.length):(l.set i c)[i]? =some c:=by simp[h]
noncomputable def Fc(k:Int):dH:=⟨mt k,k+1,mt (k+2)⟩
noncomputable def hC(k:Int)(n:Nat):List dH:=(List.range n).map fun(i:Nat)=>Fc (k+3*(i:Int))
theorem wv(k:Int)(n:Nat):(hC k n).length=n:=by simp[hC]
theorem VJ(k:Int)(n:Nat):hC k (n+1)=hC k n++[Fc (k+3*(n:Int))]:=by simp[hC,List.range_succ]
noncomputable def uv(k:Int):aX:=⟨mt k,k+1,k+2,mt (k+3)⟩
noncomputable def e5(k:Int)(n:Nat):List aX:=(List.range n).map fun(i:Nat)=>uv (k+4*(i:Int))
theorem qq(k:Int)(n:Nat):(e5 k n).length=n:=by simp[e5]
theorem VK(k:Int)(n:Nat):e5 k (n+1)=e5 k n++[uv (k+4*(n:Int))]:=by simp[e5,List.range_succ]
theorem Xg{k:Int}{n i:Nat}(h:i<n):(e5 k n)[i]? =some (uv (k+4*(i:Int))):=by simp[e5,h]
theorem wx{H bq:Type}{g:H->Option (Sum H bq)}(st:Nat->H)(n:Nat){b:bq}(h:∀i,i<n->g (st i)=some (.inl (st (i+1))))(he:g (st n)=some (.inr b)):bP g (st 0)=some b:=by
 suffices key:∀k i,i+k=n->bP g (st i)=some b from key n 0 (by omega)
 intro k;induction k with
 |zero=>
  intro i hi;obtain rfl:i=n:=by omega
  exact eR he
 |succ k ih=>
  intro i hi;rw[h_ (h i (by omega))]
  exact ih (i+1) (by omega)
theorem S_(xs:List dH)(k:Int)(aQ:1<=k)(M:cj xs.length)(h1:eo (k+3*(xs.length:Int))):yF (((),(k,())),(xs,()))=some (((),(k+3*(xs.length:Int),())),(hC k xs.length,())):=by
 have key:Bq (((),(k,((0:Int),()))),(xs,()))=some (((),(k+3*(xs.length:Int),())),(hC k xs.length,())):=by
  have:=wx (g:=s0) (fun i=>(((),(k+3*(i:Int),((i:Int),()))),(hC k i++xs.drop i,()))) xs.length (b:=(((),(k+3*(xs.length:Int),())),(hC k xs.length,()))) (fun i hi=>?_) ?_
  ·have e:(((),(k+3*((0:Nat):Int),(((0:Nat):Int),()))),(hC k 0++xs.drop 0,()))=((((),(k,((0:Int),()))),(xs,())):sT.H):=by
    show(((),(k+3*((0:Nat):Int),(((0:Nat):Int),()))),(hC k 0++xs.drop 0,()))=(((),(k,((0:Int),()))),(xs,()));simp[hC]
   exact(congrArg (bP s0) e.symm).trans this
  ·have hl:(hC k i++xs.drop i).length=xs.length:=by simp[wv];omega
   have hg:(hC k i++xs.drop i)[i]? =some xs[i]:=by rw[get_at (wv k i)];exact List.getElem?_eq_getElem hi
   have a1:IntKind.i64.wrap (k+3*(i:Int)+1)=k+3*(i:Int)+1:=e4 (by omega) (by unfold eo at h1;omega)
   have a2:IntKind.i64.wrap (k+3*(i:Int)+1+1)=k+3*(i:Int)+2:=(e4 (by omega) (by unfold eo at h1;omega)).trans (by omega)
   have jE:IntKind.i64.wrap (k+3*(i:Int)+2+1)=k+3*((i+1:Nat):Int):=(e4 (by omega) (by unfold eo at h1;omega)).trans (by omega)
   have t1:=n6 (k:=k+3*(i:Int)) (by omega) (by unfold eo at h1 ⊢;omega)
   have t2:=n6 (k:=k+3*(i:Int)+2) (by omega) (by unfold eo at h1 ⊢;omega)
   have hw:aJ i:=by unfold aJ;omega
   have M:=C5 (c:=Fc (k+3*(i:Int))) (wv k i) hi;rw[<-VJ] at M;simp only[s0,hl,cx hi,cond_true,t1,Option.bind_some,l1 hi,hg,List.length_set,oT (show i<(hC k i++xs.drop i).length by omega),List.set_set,a1,a2,jE,t2,ch hw]
   refine congrArg some (congrArg Sum.inl ?_);rw[<-M];rfl
  ·have hl:(hC k xs.length++xs.drop xs.length)=hC k xs.length:=by simp
   simp only[s0,hl,wv,c7,cond_false]
 simp only[yF,key,Option.bind_some]
theorem Ho(xs:List aX)(k:Int)(aQ:1<=k)(M:cj xs.length)(h1:eo (k+4*(xs.length:Int))):tN (((),(k,())),(xs,()))=some (((),(k+4*(xs.length:Int),())),(e5 k xs.length,())):=by
 have key:Bs (((),(k,((0:Int),()))),(xs,()))=some (((),(k+4*(xs.length:Int),())),(e5 k xs.length,())):=by
  have:=wx (g:=s4) (fun i=>(((),(k+4*(i:Int),((i:Int),()))),(e5 k i++xs.drop i,()))) xs.length (b:=(((),(k+4*(xs.length:Int),())),(e5 k xs.length,()))) (fun i hi=>?_) ?_
  ·have e:(((),(k+4*((0:Nat):Int),(((0:Nat):Int),()))),(e5 k 0++xs.drop 0,()))=((((),(k,((0:Int),()))),(xs,())):sV.H):=by
    show(((),(k+4*((0:Nat):Int),(((0:Nat):Int),()))),(e5 k 0++xs.drop 0,()))=(((),(k,((0:Int),()))),(xs,()));simp[e5]
   exact(congrArg (bP s4) e.symm).trans this
  ·have hl:(e5 k i++xs.drop i).length=xs.length:=by simp[qq];omega
   have hg:(e5 k i++xs.drop i)[i]? =some xs[i]:=by rw[get_at (qq k i)];exact List.getElem?_eq_getElem hi
   have a1:IntKind.i64.wrap (k+4*(i:Int)+1)=k+4*(i:Int)+1:=e4 (by omega) (by unfold eo at h1;omega)
   have a2:IntKind.i64.wrap (k+4*(i:Int)+1+1)=k+4*(i:Int)+2:=(e4 (by omega) (by unfold eo at h1;omega)).trans (by omega)
   have jE:IntKind.i64.wrap (k+4*(i:Int)+2+1)=k+4*(i:Int)+3:=(e4 (by omega) (by unfold eo at h1;omega)).trans (by omega)
   have GZ:IntKind.i64.wrap (k+4*(i:Int)+3+1)=k+4*((i+1:Nat):Int):=(e4 (by omega) (by unfold eo at h1;omega)).trans (by omega)
   have t1:=n6 (k:=k+4*(i:Int)) (by omega) (by unfold eo at h1 ⊢;omega)
   have t2:=n6 (k:=k+4*(i:Int)+3) (by omega) (by unfold eo at h1 ⊢;omega)
   have hw:aJ i:=by unfold aJ;omega
   have M:=C5 (c:=uv (k+4*(i:Int))) (qq k i) hi;rw[<-VK] at M;simp only[s4,hl,cx hi,cond_true,t1,Option.bind_some,l1 hi,hg,List.length_set,oT (show i<(e5 k i++xs.drop i).length by omega),List.set_set,a1,a2,jE,GZ,t2,ch hw]
   refine congrArg some (congrArg Sum.inl ?_);rw[<-M];rfl
  ·have hl:(e5 k xs.length++xs.drop xs.length)=e5 k xs.length:=by simp
   simp only[s4,hl,qq,c7,cond_false]
 simp only[tN,key,Option.bind_some]
theorem JR(a:Int):(a !=a)=false:=by simp
theorem SG(n:Nat)(k:Int)(aQ:1<=k)(M:cj n)(h1:eo (k+4*(n:Int))):f19 ((e5 k n,(k,())),())=some ((k+4*(n:Int),()),()):=by
 have key:Dl ((e5 k n,(k,((0:Int),()))),())=some (.inr ((k+4*(n:Int),()),())):=by
  have:=wx (g:=tv) (fun i=>((e5 k n,(k+4*(i:Int),((i:Int),()))),())) n (b:=.inr ((k+4*(n:Int),()),())) (fun i hi=>?_) ?_
  ·have e:((e5 k n,(k+4*((0:Nat):Int),(((0:Nat):Int),()))),())=(((e5 k n,(k,((0:Int),()))),()):to.H):=by
    show((e5 k n,(k+4*((0:Nat):Int),(((0:Nat):Int),()))),())=((e5 k n,(k,((0:Int),()))),());simp
   exact(congrArg (bP tv) e.symm).trans this
  ·have a1:IntKind.i64.wrap (k+4*(i:Int)+1)=k+4*(i:Int)+1:=e4 (by omega) (by unfold eo at h1;omega)
   have a2:IntKind.i64.wrap (k+4*(i:Int)+1+1)=k+4*(i:Int)+2:=(e4 (by omega) (by unfold eo at h1;omega)).trans (by omega)
   have jE:IntKind.i64.wrap (k+4*(i:Int)+2+1)=k+4*(i:Int)+3:=(e4 (by omega) (by unfold eo at h1;omega)).trans (by omega)
   have GZ:IntKind.i64.wrap (k+4*(i:Int)+3+1)=k+4*((i+1:Nat):Int):=(e4 (by omega) (by unfold eo at h1;omega)).trans (by omega)
   have t1:=n6 (k:=k+4*(i:Int)) (by omega) (by unfold eo at h1 ⊢;omega)
   have t2:=n6 (k:=k+4*(i:Int)+3) (by omega) (by unfold eo at h1 ⊢;omega)
   have hw:aJ i:=by unfold aJ;omega
   simp only[tv,qq,cx hi,cond_true,b_,Xg hi,uv,t1,t2,Option.bind_some,beq_self_eq_true,Bool.not_true,cond_false,a1,a2,jE,GZ,JR,ch hw]
  ·simp only[tv,qq,c7,cond_false]
 simp only[f19,key,Option.bind_some]
def k0(p:bE):Int:=2+3*(p.b5.length:Int)+4*(p.cr.length:Int)
noncomputable def zr(k:Int)(p:bE):bE:=⟨mt k,mt (k+1),hC (k+2) p.b5.length,e5 (k+2+3*(p.b5.length:Int)) p.cr.length⟩
noncomputable def gf:Int->List bE->List bE
 |_,[]=>[]
 |k,p::r=>zr k p::gf (k+k0 p) r
def e6:Int->List bE->Int
 |k,[]=>k
 |k,p::r=>e6 (k+k0 p) r
theorem _p(p:bE):2<=k0 p:=by unfold k0;omega
theorem CN:∀(ps:List bE) (k:Int),k<=e6 k ps:=by
 intro ps;induction ps with
 |nil=>intro k;exact Int.le_refl _
 |cons p r ih=>intro k;have h1:=ih (k+k0 p);have h2:=_p p;show k<=e6 (k+k0 p) r;omega
theorem JM:∀(ps lO:List bE) (k:Int),e6 k (ps++lO)=e6 (e6 k ps) lO:=by
 intro ps;induction ps with
 |nil=>intro lO k;rfl
 |cons p r ih=>intro lO k;exact ih lO _
theorem Xf:∀(ps lO:List bE) (k:Int),gf k (ps++lO)=gf k ps++gf (e6 k ps) lO:=by
 intro ps;induction ps with
 |nil=>intro lO k;rfl
 |cons p r ih=>intro lO k;exact congrArg (zr k p:: ·) (ih lO _)
theorem JE:∀(ps:List bE) (k:Int),(gf k ps).length=ps.length:=by
 intro ps;induction ps with
 |nil=>intro k;rfl
 |cons p r ih=>intro k;simp[gf,ih]
theorem YP:∀{ps:List bE} {k:Int},(∀p,p∈ps->cj p.b5.length/\cj p.cr.length)->e6 k ps<=k+16777216*(ps.length:Int):=by
 intro ps;induction ps with
 |nil=>intro k _;show k<=_;simp
 |cons p r ih=>
  intro k h;obtain⟨h1,h2⟩:=h p List.mem_cons_self;have Z:=ih (k:=k+k0 p) fun q aL=>h q (List.mem_cons_of_mem _ aL)
  show e6 (k+k0 p) r<=_;have h1:p.b5.length<=2097152:=h1;have h2:p.cr.length<=2097152:=h2;unfold k0 at*;simp only[List.length_cons];omega
theorem YO{ps:List bE}(hb:gh ps):eo (e6 1 ps):=by
 have h:=YP (ps:=ps) (k:=1) fun p an=>⟨(hb.2 p an).2.2.1.1,(hb.2 p an).2.2.2.1⟩
 have hl:ps.length<=2097152:=hb.1;unfold eo;omega
theorem JX{az:Type}{xs:List az}{i:Nat}{x:az}(h:xs[i]? =some x):xs.take (i+1)=xs.take i++[x]:=by
 rw[List.take_add_one,h];rfl
theorem V6{ps:List bE}{k:Int}{i:Nat}{p:bE}(h:ps[i]? =some p):e6 k (ps.take i)+k0 p<=e6 k ps:=by
 have e:ps=ps.take i++(p::ps.drop (i+1)):=by
  obtain⟨hi,hx⟩:=List.getElem?_eq_some_iff.1 h;rw[<-hx,List.getElem_cons_drop,List.take_append_drop]
 have:e6 k ps=e6 (e6 k (ps.take i)) (p::ps.drop (i+1)):=by
  rw[<-JM,<-e]
 rw[this];exact CN _ _
theorem S9(xs:List bE)(k:Int)(aQ:1<=k)(M:gh xs)(h1:eo (e6 k xs)):yG (((),(k,())),(xs,()))=some (((),(e6 k xs,())),(gf k xs,())):=by
 have key:Br (((),(k,((0:Int),()))),(xs,()))=some (((),(e6 k xs,())),(gf k xs,())):=by
  have:=wx (g:=s3) (fun i=>(((),(e6 k (xs.take i),((i:Int),()))),(gf k (xs.take i)++xs.drop i,()))) xs.length (b:=(((),(e6 k xs,())),(gf k xs,()))) (fun i hi=>?_) ?_
  ·have e:(((),(e6 k (xs.take 0),(((0:Nat):Int),()))),(gf k (xs.take 0)++xs.drop 0,()))=((((),(k,((0:Int),()))),(xs,())):sU.H):=by
    show(((),(e6 k (xs.take 0),(((0:Nat):Int),()))),(gf k (xs.take 0)++xs.drop 0,()))=(((),(k,((0:Int),()))),(xs,()));simp[gf,e6]
   exact(congrArg (bP s3) e.symm).trans this
  ·have hlen:xs.length<=2097152:=M.1;have hx:xs[i]? =some xs[i]:=List.getElem?_eq_getElem hi;obtain⟨_,_,bL,kg⟩:=M.2 xs[i] (List.getElem_mem hi);have hm:=V6 (k:=k) hx;have uY:=CN (xs.take i) k;obtain⟨iw,hkk⟩:∃iw,e6 k (xs.take i)=iw:=⟨_,rfl⟩;have kU:(gf k (xs.take i)).length=i:=by rw[JE,List.length_take];omega
   have hl:(gf k (xs.take i)++xs.drop i).length=xs.length:=by simp[kU];omega
   have hg:(gf k (xs.take i)++xs.drop i)[i]? =some xs[i]:=by rw[get_at kU];exact hx
   have mi:=C5 (c:=zr iw xs[i]) kU hi;have aft:gf k (xs.take (i+1))=gf k (xs.take i)++[zr iw xs[i]]:=by rw[JX hx,Xf,hkk];rfl
   have hne:e6 k (xs.take (i+1))=iw+k0 xs[i]:=by rw[JX hx,JM,hkk];rfl
   rw[<-aft] at mi;rw[hkk] at hm uY;rw[hkk];unfold eo at h1;have c1:(1:Int)<=iw:=by omega
   unfold k0 at hm hne;have a1:IntKind.i64.wrap (iw+1)=iw+1:=e4 (by omega) (by omega)
   have a2:IntKind.i64.wrap (iw+1+1)=iw+2:=(e4 (by omega) (by omega)).trans (by omega)
   have t1:=n6 (k:=iw) c1 (by unfold eo;omega)
   have t2:=n6 (k:=iw+1) (by omega) (by unfold eo;omega)
   have hw:aJ i:=by unfold aJ;omega
   have q1:=S_ xs[i].b5 (iw+2) (by omega) bL.1 (by unfold eo;omega)
   have q2:=Ho xs[i].cr (iw+2+3*(xs[i].b5.length:Int)) (by omega) kg.1 (by unfold eo;omega)
   simp only[s3,hl,cx hi,cond_true,t1,Option.bind_some,l1 hi,hg,List.length_set,oT (show i<(gf k (xs.take i)++xs.drop i).length by omega),List.set_set,a1,a2,t2,q1,q2,ch hw]
   refine congrArg some (congrArg Sum.inl ?_);rw[hne,<-mi];have bK:iw+2+3*(xs[i].b5.length:Int)+4*(xs[i].cr.length:Int)=iw+(2+3*(xs[i].b5.length:Int)+4*(xs[i].cr.length:Int)):=by omega
   rw[bK];rfl
  ·have e1:xs.take xs.length=xs:=List.take_length;have hl:(gf k xs++xs.drop xs.length)=gf k xs:=by simp
   simp only[s3,e1,hl,JE,c7,cond_false]
 simp only[yG,key,Option.bind_some]
theorem TT(xs:List bE)(M:gh xs):yH ((((),()),((1:Int),())),(xs,()))=some ((((),()),(e6 1 xs,())),(gf 1 xs,())):=by
 simp only[yH,S9 xs 1 (Int.le_refl _) M (YO M),Option.bind_some]
abbrev dN(s:al):Prop:=s.length<=200
abbrev agB(e:aX):Prop:=dN e.path/\dN e.text
abbrev Q9(p:bE):Prop:=vi p/\p.bT.length<=2097151/\∀n,n∈p.b5->n.bT.length<=2097151
abbrev vh(k:Nat)(ps:List bE):Prop:=ps.length<=k/\∀p,p∈ps->Q9 p
theorem vh.RT{k:Nat}{ps:List bE}(h:vh k ps)(ag:k<=2097152):gh ps:=⟨Nat.le_trans h.1 ag,fun p an=>(h.2 p an).1⟩
theorem vh.vs{k:Nat}{ps:List bE}(h:vh k ps):nz ps:=fun p an=>(h.2 p an).2
abbrev agA(n:dH):Prop:=dN n.name/\dN n.bT
def _D(s:al):Bool:=!(s==[102,114,101,115,104])&&!(s==[110,111,98,111,100,121,115])
abbrev agJ(s:al):Prop:=dN s/\_D s=true
abbrev Ge(p:bE):Prop:=agJ p.name/\dN p.bT/\(p.b5.length<=3/\∀n,n∈p.b5->agA n)/\(p.cr.length<=17/\∀e,e∈p.cr->agB e)
theorem Ge.ok{p:bE}(h:Ge p):Q9 p:=by
 obtain⟨a,b,⟨c1,c2⟩,d1,d2⟩:=h;have up:∀{s:al},dN s->cj s.length:=fun h=>Nat.le_trans h (by decide)
 exact⟨⟨up a.1,up b,⟨Nat.le_trans c1 (by decide),fun n hn=>⟨up (c2 n hn).1,up (c2 n hn).2⟩⟩,Nat.le_trans d1 (by decide),fun e he=>⟨up (d2 e he).1,up (d2 e he).2⟩⟩,Nat.le_trans b (by decide),fun n hn=>Nat.le_trans (c2 n hn).2 (by decide)⟩
abbrev QH(k:Nat)(ps:List bE):Prop:=ps.length<=k/\∀p,p∈ps->Ge p
theorem QH.ok{k:Nat}{ps:List bE}(h:QH k ps):vh k ps:=⟨h.1,fun p an=>(h.2 p an).ok⟩
def rN(t:List aX)(p:al):Option aX:=match t[bQ t p]? with
 |some e=>bif e.path==p then some e else none
 |none=>none
theorem YM{t:List aX}{p:al}{e:aX}(h:rN t p=some e):t[bQ t p]? =some e/\e.path=p:=by
 unfold rN at h;cases aB:t[bQ t p]? with
 |none=>rw[aB] at h;cases h
 |some x=>
  rw[aB] at h;cases hx:(x.path==p) with
  |false=>simp[hx] at h
  |true=>simp only[hx,cond_true,Option.some.injEq] at h;subst h;exact⟨rfl,eq_of_beq hx⟩
noncomputable abbrev ahd:bF:=[(46,Q0),(51,Gk)]
theorem ahq:bb af (bz aD ahd):=bC ⟨adN,Pc,⟨⟩⟩
abbrev i12:Shape:=⟨[dw 0 [en .pack]],[],16⟩
abbrev PX:Shape:=⟨[b6 2 3000128],[cl 3000128 .entry 2 0],16⟩
noncomputable def f12(a:i12.H):Option PX.H:=
(f46 (((a.1.1.1,()),()),())).bind fun b=>
 bif(!b.1.1) then
 some (((),()),([]:List aX),())
else
(f51 ((a.1.1.1,()),())).bind fun c=>
 some (((),()),c.2.1,())
noncomputable def z0:a4:=bi aD Tryz.f12 i12 PX [] f12
theorem adY:a6 af 12 z0:=bk ahq Tryz.func12 (by kernel_rfl) aA (fun y=>by kernel_rfl) fun a=>by kernel_rfl
noncomputable abbrev ahb:bF:=[(48,QZ),(52,Gj)]
theorem aho:bb af (bz aD ahb):=bC ⟨adM,Pb,⟨⟩⟩
abbrev i14:Shape:=⟨[dw 0 [en .pack]],[],15⟩
abbrev zo:Shape:=⟨[b6 2 3000128],[cl 3000128 .entry 2 0],15⟩
noncomputable def f14(a:i14.H):Option zo.H:=
(f48 (((a.1.1.1,()),()),())).bind fun b=>
 bif(!b.1.1) then
 some (((),()),([]:List aX),())
else
(f52 ((a.1.1.1,()),())).bind fun c=>
 some (((),()),c.2.1,())
noncomputable def zY:a4:=bi aD Tryz.f14 i14 zo [] f14
theorem adW:a6 af 14 zY:=bk aho Tryz.func14 (by kernel_rfl) aA (fun y=>by kernel_rfl) fun a=>by kernel_rfl
theorem ZE{t:List aX}(a9:fg t){k:Nat}{e:aX}(h:t[k]? =some e):bQ t e.path=k:=by
 have h1:=jI (p:=e.path) a9 k e h;have h2:Op.bytesLess e.path e.path=false:=tw _;rw[h1] at h2;have h2:¬k<bQ t e.path:=of_decide_eq_false h2;rcases Nat.lt_or_ge (bQ t e.path) k with Z|Z
 ·exfalso
  have aH:bQ t e.path<t.length:=Nat.lt_trans Z (cy h);have bp:=List.getElem?_eq_getElem aH;have dm:=jI (p:=e.path) a9 (bQ t e.path) t[bQ t e.path] bp;have ix:Op.bytesLess (t[bQ t e.path]).path e.path=true:=by
   have an:=List.pairwise_iff_getElem.1 a9 (bQ t e.path) k aH (cy h) Z;have:t[k]'(cy h)=e:=by
    have:=List.getElem?_eq_getElem (cy h);rw[h] at this;exact(Option.some.inj this).symm
   rw[this] at an;exact an
  rw[ix] at dm;have:=of_decide_eq_true dm.symm;omega
 ·omega
theorem JJ{t:List aX}(a9:fg t){p:al}{e:aX}:rN t p=some e <-> e∈t/\e.path=p:=by
 constructor
 ·intro h;obtain⟨h1,h2⟩:=YM h;exact⟨List.mem_of_getElem? h1,h2⟩
 ·rintro⟨h1,rfl⟩;obtain⟨k,ag⟩:=List.mem_iff_getElem?.1 h1;have:=ZE a9 ag;unfold rN;rw[this,ag];simp
theorem ZX{a b:aX}(h:jx a b=true):a=b:=by
 unfold jx at h;simp only[Bool.and_eq_true,beq_iff_eq] at h;obtain⟨h1,h2,Z,aH⟩:=h;cases a;cases b;simp only at h1 h2 Z aH;subst h1 h2 Z aH;rfl
theorem JG{t:List aX}{k:Nat}{e x:aX}:x∈iG t k e <-> x=e\/x∈t:=by
 constructor
 ·exact A1
 ·unfold iG;intro h;rcases h with rfl|h
  ·simp
  ·have:x∈t.take k++t.drop k:=by rw[List.take_append_drop];exact h
   simp only[List.mem_append,List.mem_singleton] at this ⊢;rcases this with h|h
   ·exact .inl (.inl h)
   ·exact .inr h
theorem WL{out D:List aX}{e:aX}(h:gQ out e=some D)(x:aX):x∈D <-> x=e\/x∈out:=by
 unfold gQ at h;split at h
 ·rename_i q aL;cases an:(q.path==e.path) with
  |true=>
   rw[an] at h;cases hc:ls e q with
   |true=>rw[hc] at h;cases h
   |false=>
    rw[hc] at h;cases h;have:jx e q=true:=by
     unfold ls at hc;simp only[Bool.or_eq_false_iff,Bool.not_eq_false'] at hc;exact hc.2
    have:=ZX this;subst this;constructor
    ·exact .inr
    ·rintro(rfl|h)
     ·exact List.mem_of_getElem? aL
     ·exact h
  |false=>rw[an] at h;cases h;exact JG
 ·cases h;exact JG
theorem Xo:∀{es out D:List aX},ga out es=some D->∀x,x∈D <-> x∈out\/x∈es:=by
 intro es;induction es with
 |nil=>intro out D h x;simp only[ga,Option.some.injEq] at h;subst h;simp
 |cons e r ih=>
  intro out D h x;rw[sJ] at h;obtain⟨o1,h1,h2⟩:=Option.bind_eq_some_iff.1 h;rw[ih h2,WL h1,List.mem_cons];constructor
  ·rintro((h|h)|h)
   ·exact .inr (.inl h)
   ·exact .inl h
   ·exact .inr (.inr h)
  ·rintro(h|h|h)
   ·exact .inl (.inr h)
   ·exact .inl (.inl h)
   ·exact .inr h
theorem Ir:∀{ps:List bE} {out t:List aX},eK out ps=some t->∀x,x∈t <-> x∈out\/∃p,p∈ps/\x∈p.cr:=by
 intro ps;induction ps with
 |nil=>intro out t h x;simp only[eK,Option.some.injEq] at h;subst h;simp
 |cons p r ih=>
  intro out t h x;rw[vH] at h;obtain⟨D,h1,h2⟩:=Option.bind_eq_some_iff.1 h;rw[ih h2,Xo (wk h1).2];constructor
  ·rintro((h|h)|⟨q,h,aa⟩)
   ·exact .inl h
   ·exact .inr ⟨p,List.mem_cons_self,h⟩
   ·exact .inr ⟨q,List.mem_cons_of_mem _ h,aa⟩
  ·rintro(h|⟨q,h,aa⟩)
   ·exact .inl (.inl h)
   ·rcases List.mem_cons.1 h with rfl|h
    ·exact .inl (.inr aa)
    ·exact .inr ⟨q,h,aa⟩
theorem Vb:∀{ps:List bE} {out t:List aX},er out=true->eK out ps=some t->er t=true:=by
 intro ps;induction ps with
 |nil=>intro out t ar h;simp only[eK,Option.some.injEq] at h;subst h;exact ar
 |cons p r ih=>
  intro out t ar h;rw[vH] at h;obtain⟨D,h1,h2⟩:=Option.bind_eq_some_iff.1 h;exact ih (wk h1).1 h2
structure p_(ps:List bE)(t:List aX):Prop where
 cr:eK [] ps=some t
 DE:ps.all eI=true
 ajZ:ps.Pairwise fun p q=>Op.bytesLess p.name q.name=true
theorem DC{ps:List bE}(h:jN ps=true):∃t,p_ ps t:=by
 unfold jN at h;simp only[Bool.and_eq_true] at h;obtain⟨⟨⟨⟨h1,h2⟩,Z⟩,aH⟩,bp⟩:=h;obtain⟨t,aB⟩:=Option.isSome_iff_exists.1 bp;exact⟨t,aB,h1,Kw h2⟩
section
variable {ps:List bE}{t:List aX}(R:p_ ps t)
include R
theorem p_.ok:er t=true:=Vb (by rfl) R.cr
theorem p_.ahX{p:bE}(h:p∈ps):kA p.name=true/\er p.cr=true:=by
 have:=List.all_eq_true.1 R.DE p h;unfold eI at this;simp only[Bool.and_eq_true] at this;exact⟨this.1.1.1,this.2⟩
theorem p_.ahR{p:bE}(h:p∈ps):fg p.cr:=Au (R.ahX h).2
theorem p_.up{p:bE}(h:p∈ps){path:al}{e:aX}(he:rN p.cr path=some e):rN t path=some e:=by
 obtain⟨ay,ao⟩:=(JJ (R.ahR h)).1 he;exact(JJ (Au R.ok)).2 ⟨(Ir R.cr e).2 (.inr ⟨p,h,ay⟩),ao⟩
end
theorem TW(a)(hb:gh a.1.1.1)(hv:nz a.1.1.1):f12 a=some (((),()),((bif jN a.1.1.1 then(eK [] a.1.1.1).getD [] else []),())):=by
 obtain⟨⟨⟨ps,u⟩,bA⟩,hU⟩:=a;have e1:=Wy (((ps,()),()),()) hb hv;simp only[f12,e1,Option.bind_some];cases hr:jN ps with
 |false=>rfl
 |true=>
  obtain⟨t,R⟩:=DC hr;have e2:=Ip ((ps,()),()) hb R.DE;simp only[Bool.not_true,cond_false,cond_true,e2,Option.bind_some]
theorem Ta(a)(hb:gh a.1.1.1)(hv:nz a.1.1.1):f14 a=some (((),()),((bif jN a.1.1.1 then(eK [] a.1.1.1).getD [] else []),())):=by
 obtain⟨⟨⟨ps,u⟩,bA⟩,hU⟩:=a;have e1:=U3 (((ps,()),()),()) hb hv;simp only[f14,e1,Option.bind_some];cases hr:jN ps with
 |false=>rfl
 |true=>
  obtain⟨t,R⟩:=DC hr;have e2:=Hp ((ps,()),()) hb R.DE;simp only[Bool.not_true,cond_false,cond_true,e2,Option.bind_some]
theorem XU{ps:List bE}{t:List aX}(hb:gh ps)(R:p_ ps t):jY t:=by
 have:=qd R.ok;refine⟨by unfold cj;omega,fun e he=>?_⟩
 rcases(Ir R.cr e).1 he with h|⟨p,an,h⟩
 ·cases h
 ·exact(hb.2 p an).2.2.2.2 e h
noncomputable abbrev G3:bF:=[(11,vg),(12,z0),(13,zZ),(14,zY),(15,so),(16,Q8),(17,Mm),(18,DU),(19,Q7)]
theorem Ae:bb af (bz aD G3):=bC ⟨adZ,adY,adX,adW,Pd,adV,_k,LK,adU,⟨⟩⟩
abbrev Jt:Shape:=⟨[c5 1 1 0,b6 4 3000256,b6 6 3000384,ak 7],[c4 1 [en .pack],cl 3000256 .entry 4 0,cl 3000384 .entry 6 0],69⟩
abbrev Jg:List bd:=[(.norm,⟨[c5 1 1 0,b6 4 3000256,b6 6 3000384,aZ 42],[c4 1 [en .pack],cl 3000256 .entry 4 0,cl 3000384 .entry 6 0],69⟩)]
noncomputable def BC(y:Jt.H):Option (aW Jg):=
 bif(!(decide (y.1.2.2.2.1<(0:Int)))) then
(f15 ((y.2.2.2.1,y.2.2.1,()),())).bind fun a=>
 some (((),(),(),(!a.1.1),()),(y.2.1.1,()),y.2.2.1,y.2.2.2.1,())
else
 some (((),(),(),true,()),(y.2.1.1,()),y.2.2.1,y.2.2.2.1,())
theorem W0:br af (aF (codeOf Tryz.f3) 1 16380) (bB Jt Jg BC):=ep Ae (by kernel_rfl) aA fun y=>by kernel_rfl
abbrev i3:Shape:=⟨[dw 0 [en .pack]],[],69⟩
abbrev o3:Shape:=⟨[aZ 2],[],69⟩
noncomputable def f3(a:i3.H):Option o3.H:=
(f11 (((a.1.1.1,()),(1048576:Int),()),())).bind fun b=>
 bif(decide (b.1.1<(0:Int))) then
 some ((true,()),())
else
(f13 (((a.1.1.1,()),()),())).bind fun c=>
(f12 (((c.2.1,()),()),())).bind fun d=>
(f13 (((a.1.1.1,()),()),())).bind fun e=>
(f14 (((e.2.1,()),()),())).bind fun f=>
(f15 ((f.2.1,d.2.1,()),())).bind fun g=>
 bif(!g.1.1) then
 some ((false,()),())
else
(f13 (((a.1.1.1,()),()),())).bind fun h=>
(f16 (((e.2.1,()),(h.2.1,()),()),())).bind fun i=>
 bif(!i.1.1) then
 some ((false,()),())
else
(yH ((((),()),(1:Int),()),e.2.1,())).bind fun j=>
(BC (((),(),(),j.1.2.1,()),(a.1.1.1,()),d.2.1,f.2.1,())).bind fun k=>
 bif k.1.2.2.2.1 then
 some ((false,()),())
else
(tN (((),(1:Int),()),k.2.2.2.1,())).bind fun l=>
(f19 ((l.2.1,(1:Int),()),())).bind fun m=>
 bif(decide (m.1.1<(0:Int))) then
 some ((false,()),())
else
 bif(m.1.1 !=l.1.2.1) then
 some ((false,()),())
else
(f13 (((k.2.1.1,()),()),())).bind fun n=>
(f14 (((n.2.1,()),()),())).bind fun D=>
(f15 ((D.2.1,k.2.2.1,()),())).bind fun p=>
 bif(!p.1.1) then
 some ((false,()),())
else
(f19 ((l.2.1,(1:Int),()),())).bind fun q=>
 bif(decide (q.1.1<(0:Int))) then
 some ((false,()),())
else
 bif(q.1.1 !=l.1.2.1) then
 some ((false,()),())
else
 some ((true,()),())
noncomputable def gn:a4:=bi aD Tryz.f3 i3 o3 [] f3
theorem Gr:a6 af 3 gn:=bk Ae Tryz.func3 (by kernel_rfl) (bJ W0 aA) (fun y=>by kernel_rfl) fun a=>by kernel_rfl
theorem R8(a)(hm:ul a.1.1.1):f3 a=some ((true,()),()):=by
 obtain⟨⟨⟨ps,u⟩,bA⟩,hU⟩:=a;obtain⟨r,e1,e2⟩:=Wj (((ps,()),((1048576:Int),())),()) (show(0:Int)<=1048576 by decide) (show(1048576:Int)<=1048576 by decide) hm
 simp only[f3,e1,Option.bind_some];rcases e2 with e2|⟨q1,q2,dJ⟩
 ·simp only[e2,decide_true,cond_true]
 ·have:¬r<0:=by omega
  obtain⟨hb,hv⟩:=dJ.RT;obtain⟨t,aB⟩:∃t,(bif jN ps then(eK [] ps).getD [] else [])=t:=⟨_,rfl⟩
  have ov:jY t:=by
   rw[<-aB];cases hr:jN ps with
   |false=>exact⟨Nat.zero_le _,fun e he=>by simp at he⟩
   |true=>
    obtain⟨a7,R⟩:=DC hr;have:=XU hb R;rw[R.cr];exact this
  have s1:=TW (((ps,()),()),()) hb hv;have s2:=Ta (((ps,()),()),()) hb hv;simp only[aB] at s1 s2;have ag:decide (e6 1 ps<0)=false:=decide_eq_false (by have:=CN ps 1;omega)
  have hl:t.length<=2097152:=ov.1;have RJ:eo (1+4*(t.length:Int)):=by unfold eo;omega
  have bW:decide (1+4*(t.length:Int)<0)=false:=decide_eq_false (by omega)
  have m1:=Ho t 1 (Int.le_refl _) ov.1 RJ;have m2:=SG t.length 1 (Int.le_refl _) ov.1 RJ;have eq:=HZ t ov.1;simp only[this,decide_false,cond_false,Wi (((ps,()),()),()) hb,Option.bind_some,s1,s2,eq,Bool.not_true,Wu ps hb,TT ps hb,BC,ag,Bool.not_false,cond_true,m1,m2,bW,JR]
theorem pure_FnExactRootTree:LawOk gn [(true,[.sl .pack])]:=by
 rintro⟨⟨ps,u⟩,bA⟩ ⟨h,_⟩;have hm:ul ps:=Wg (h (.sl .pack ps) (by simp[fe,dj.mk]))
 refine⟨((true,()),()),?_,rfl⟩;exact R8 (((ps,()),()),()) hm
end Go.Proofs
