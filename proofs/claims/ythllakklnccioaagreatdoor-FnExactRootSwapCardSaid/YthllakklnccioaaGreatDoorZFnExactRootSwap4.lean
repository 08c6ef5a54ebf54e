/- FnExactRootSwap: the program's RootSwap returns what the reference's returns, for all arguments. (part 5 of 6: JnNPuL, JnNF54, JnNF112, JnNF18v0, JnNF60v0, JnNF26v0, JnNF17v0, JnNF19, JnNF68, JnNF31, JnNPuHa, JnNPuP, JnNPuQ, JnNPuRa, JnNF105, JnNF107, JnNF115, JnNF62, JnNF71, JnNPuR, JnNPuN, JnNF12, JnNF14, Jn) Conditions: none beyond the statement. -/
import Derived.Test.YthllakklnccioaaGreatDoorZFnExactRootSwap3
import Derived.Tactics
import Derived.Deep.RegionLaw
import Derived.Shelf.Abstract
import Derived.Test.YthllakklnccioaaGreatDoorProg
import Derived.KernelRfl
set_option maxRecDepth 100000
set_option linter.unusedVariables false
set_option linter.unusedSimpArgs false
namespace Go.Proofs
open Go.Jk
abbrev gx(n:Nat):Prop:=n<=maxLen
abbrev iP(n:Nat):Prop:=n<=1048576
abbrev Un(n:dr):Prop:=gx n.name.length/\gx n.a8.length
abbrev Ih(n:dr):Prop:=iP n.name.length/\iP n.a8.length
abbrev Uo(e:a5):Prop:=gx e.path.length/\gx e.text.length
abbrev Ii(e:a5):Prop:=iP e.path.length/\iP e.text.length
abbrev GZ(l:List dr):Prop:=gx l.length/\∀n,n∈l->Un n
abbrev Q0(l:List dr):Prop:=iP l.length/\∀n,n∈l->Ih n
abbrev G0(l:List a5):Prop:=gx l.length/\∀n,n∈l->Uo n
abbrev Q1(l:List a5):Prop:=iP l.length/\∀n,n∈l->Ii n
abbrev Bi(p:aK):Prop:=gx p.name.length/\gx p.a8.length/\GZ p.bb/\G0 p.bu
abbrev s8(p:aK):Prop:=iP p.name.length/\iP p.a8.length/\Q0 p.bb/\Q1 p.bu
abbrev u'(l:List aK):Prop:=gx l.length/\∀n,n∈l->Bi n
abbrev nT(l:List aK):Prop:=iP l.length/\∀n,n∈l->s8 n
theorem ny{l:Int}{n:Nat}(h0:0<=l)(h1:l<=1048576)(hn:gx n):IntKind.i64.wrap (l-(n:Int))=l-n:=by
 unfold gx maxLen at hn;exact ej (by omega) (by omega)
def pO(l r:Int)(p:Prop):Prop:=r<0\/(0<=r/\r<=l/\p)
theorem DI{aD H br:Type}(g:H->Option (Sum H br))(xs:List aD)(st:Nat->Int->H)(no:br)(nU:Int->br)(W:aD->Prop)
  (h1:∀i x s,xs[i]? =some x->0<=s->s<=1048576->g (st i s)=some (.inr no)\/∃am,0<=am/\am<=s/\W x/\g (st i s)=some (.inl (st (i+1) am)))
  (h2:∀s,g (st xs.length s)=some (.inr (nU s))) (s:Int) (aa:0<=s) (aH:s<=1048576):
  bO g (st 0 s)=some no\/∃am,0<=am/\am<=s/\(∀x,x∈xs->W x)/\bO g (st 0 s)=some (nU am):=by
 suffices h:∀(r:List aD) (k:Nat) (s:Int),xs.drop k=r->k<=xs.length->0<=s->s<=1048576->bO g (st k s)=some no\/∃am,0<=am/\am<=s/\(∀x,x∈r->W x)/\bO g (st k s)=some (nU am) from
  h xs 0 s rfl (Nat.zero_le _) aa aH
 intro r;induction r with
 |nil=>
  intro k s hr ag aa aH;have:=drop_nil hr;obtain rfl:k=xs.length:=by omega
  exact .inr ⟨s,aa,Int.le_refl _,fun x h=>(by cases h),eB (h2 s)⟩
 |cons x r ih=>
  intro k s hr ag aa aH;obtain⟨c1,c2,c3⟩:=drop_cons hr;rcases h1 k x s c1 aa aH with h|⟨am,aC,ao,bv,ca⟩
  ·exact .inl (eB h)
  ·rw[hk ca];rcases ih (k+1) am c2 (by omega) aC (by omega) with h|⟨s2,q1,q2,dC,mb⟩
   ·exact .inl h
   ·exact .inr ⟨s2,q1,by omega,fun y ak=>by
     rcases List.mem_cons.1 ak with rfl|ak
     ·exact bv
     ·exact dC y ak,mb⟩
theorem Z8(a)(h0:0<=a.1.2.1)(h1:a.1.2.1<=1048576)(hm:Un ⟨a.1.1.1,a.1.1.2.1,a.1.1.2.2.1⟩):∃r:Int,f113 a=some ((r,()),())/\pO a.1.2.1 r (Ih ⟨a.1.1.1,a.1.1.2.1,a.1.1.2.2.1⟩):=by
 obtain⟨⟨⟨(n:al),k,(v:al),u⟩,(l:Int),bF⟩,iH⟩:=a;have h0:0<=l:=h0;have h1:l<=1048576:=h1;obtain⟨m1,m2⟩:=hm;have m1:gx n.length:=m1;have m2:gx v.length:=m2;simp only[f113,ny h0 h1 m1];by_cases c:l-(n.length:Int)<0
 ·simp only[c,decide_true,cond_true];exact⟨_,rfl,.inl (by omega)⟩
 ·simp only[c,decide_false,cond_false,ny (l:=l-n.length) (by omega) (by omega) m2]
  by_cases c2:l-(n.length:Int)-(v.length:Int)<0
  ·simp only[c2,decide_true,cond_true];exact⟨_,rfl,.inl (by omega)⟩
  ·simp only[c2,decide_false,cond_false];exact⟨_,rfl,.inr ⟨by omega,(by show l-n.length-v.length<=l;omega),(by show n.length<=1048576;omega),(by show v.length<=1048576;omega)⟩⟩
theorem YC(a)(h0:0<=a.1.2.1)(h1:a.1.2.1<=1048576)(hm:Uo ⟨a.1.1.1,a.1.1.2.1,a.1.1.2.2.1,a.1.1.2.2.2.1⟩):∃r:Int,f114 a=some ((r,()),())/\pO a.1.2.1 r (Ii ⟨a.1.1.1,a.1.1.2.1,a.1.1.2.2.1,a.1.1.2.2.2.1⟩):=by
 obtain⟨⟨⟨(n:al),k,ao,(v:al),u⟩,(l:Int),bF⟩,iH⟩:=a;have h0:0<=l:=h0;have h1:l<=1048576:=h1;obtain⟨m1,m2⟩:=hm;have m1:gx n.length:=m1;have m2:gx v.length:=m2;simp only[f114,ny h0 h1 m1];by_cases c:l-(n.length:Int)<0
 ·simp only[c,decide_true,cond_true];exact⟨_,rfl,.inl (by omega)⟩
 ·simp only[c,decide_false,cond_false,ny (l:=l-n.length) (by omega) (by omega) m2]
  by_cases c2:l-(n.length:Int)-(v.length:Int)<0
  ·simp only[c2,decide_true,cond_true];exact⟨_,rfl,.inl (by omega)⟩
  ·simp only[c2,decide_false,cond_false];exact⟨_,rfl,.inr ⟨by omega,(by show l-n.length-v.length<=l;omega),(by show n.length<=1048576;omega),(by show v.length<=1048576;omega)⟩⟩
theorem YB(a)(h0:0<=a.1.2.1)(h1:a.1.2.1<=1048576)(hm:GZ a.1.1):∃r:Int,f69 a=some ((r,()),())/\pO a.1.2.1 r (Q0 a.1.1):=by
 obtain⟨⟨xs,(l:Int),u⟩,bF⟩:=a;have h0:0<=l:=h0;have h1:l<=1048576:=h1;obtain⟨m1,m2⟩:=hm;have m1:gx xs.length:=m1;simp only[f69,ny h0 h1 m1];by_cases c:l-(xs.length:Int)<0
 ·simp only[c,decide_true,cond_true];exact⟨_,rfl,.inl (by omega)⟩
 ·simp only[c,decide_false,cond_false];have hl:xs.length<=1048576:=by omega
  have key:=DI yi xs (fun i s=>((xs,(s,((i:Int),()))),())) (.inl (((-1:Int),()),())) (fun s=>.inr ((s,()),())) Ih (fun i x s hx jr s1=>?_) (fun s=>?_) (l-xs.length) (by omega) (by omega)
  ·rcases key with h|⟨am,aC,ao,bv,h⟩
   ·have h:x_ ((xs,(l-xs.length,((0:Int),()))),())=_:=h;exact⟨-1,by rw[h];rfl,.inl (by omega)⟩
   ·have h:x_ ((xs,(l-xs.length,((0:Int),()))),())=_:=h;exact⟨am,by rw[h];rfl,.inr ⟨aC,(by show am<=l;omega),hl,bv⟩⟩
  ·have hi:=cc hx;have hw:aF i:=by unfold aF;omega
   obtain⟨r,e1,e2⟩:=Z8 (((x.name,(x.kind,(x.a8,()))),(s,())),()) jr s1 (m2 x (List.mem_of_getElem? hx));simp only[yi,ce hi,cond_true,b0,hx,Option.bind_some,e1,b' hw];rcases e2 with e2|⟨q1,q2,dC⟩
   ·left;simp only[e2,decide_true,cond_true]
   ·have:¬r<0:=by omega
    right;refine⟨r,q1,q2,dC,?_⟩;simp only[this,decide_false,cond_false]
  ·simp only[yi,cU,cond_false]
theorem Xm(a)(h0:0<=a.1.2.1)(h1:a.1.2.1<=1048576)(hm:G0 a.1.1):∃r:Int,f70 a=some ((r,()),())/\pO a.1.2.1 r (Q1 a.1.1):=by
 obtain⟨⟨xs,(l:Int),u⟩,bF⟩:=a;have h0:0<=l:=h0;have h1:l<=1048576:=h1;obtain⟨m1,m2⟩:=hm;have m1:gx xs.length:=m1;simp only[f70,ny h0 h1 m1];by_cases c:l-(xs.length:Int)<0
 ·simp only[c,decide_true,cond_true];exact⟨_,rfl,.inl (by omega)⟩
 ·simp only[c,decide_false,cond_false];have hl:xs.length<=1048576:=by omega
  have key:=DI yh xs (fun i s=>((xs,(s,((i:Int),()))),())) (.inl (((-1:Int),()),())) (fun s=>.inr ((s,()),())) Ii (fun i x s hx jr s1=>?_) (fun s=>?_) (l-xs.length) (by omega) (by omega)
  ·rcases key with h|⟨am,aC,ao,bv,h⟩
   ·have h:x9 ((xs,(l-xs.length,((0:Int),()))),())=_:=h;exact⟨-1,by rw[h];rfl,.inl (by omega)⟩
   ·have h:x9 ((xs,(l-xs.length,((0:Int),()))),())=_:=h;exact⟨am,by rw[h];rfl,.inr ⟨aC,(by show am<=l;omega),hl,bv⟩⟩
  ·have hi:=cc hx;have hw:aF i:=by unfold aF;omega
   obtain⟨r,e1,e2⟩:=YC (((x.path,(x.kind,(x.mode,(x.text,())))),(s,())),()) jr s1 (m2 x (List.mem_of_getElem? hx));simp only[yh,ce hi,cond_true,b0,hx,Option.bind_some,e1,b' hw];rcases e2 with e2|⟨q1,q2,dC⟩
   ·left;simp only[e2,decide_true,cond_true]
   ·have:¬r<0:=by omega
    right;refine⟨r,q1,q2,dC,?_⟩;simp only[this,decide_false,cond_false]
  ·simp only[yh,cU,cond_false]
theorem Lr(a)(h0:0<=a.1.2.1)(h1:a.1.2.1<=1048576)(hm:Bi ⟨a.1.1.1,a.1.1.2.1,a.1.1.2.2.1,a.1.1.2.2.2.1⟩):∃r:Int,f32 a=some ((r,()),())/\pO a.1.2.1 r (s8 ⟨a.1.1.1,a.1.1.2.1,a.1.1.2.2.1,a.1.1.2.2.2.1⟩):=by
 obtain⟨⟨⟨(n:al),(v:al),aA,es,u⟩,(l:Int),bF⟩,iH⟩:=a;have h0:0<=l:=h0;have h1:l<=1048576:=h1;obtain⟨m1,m2,m3,m4⟩:=hm;have m1:gx n.length:=m1;have m2:gx v.length:=m2;simp only[f32,ny h0 h1 m1];by_cases c:l-(n.length:Int)<0
 ·simp only[c,decide_true,cond_true];exact⟨_,rfl,.inl (by omega)⟩
 ·simp only[c,decide_false,cond_false,ny (l:=l-n.length) (by omega) (by omega) m2]
  by_cases c2:l-(n.length:Int)-(v.length:Int)<0
  ·simp only[c2,decide_true,cond_true];exact⟨_,rfl,.inl (by omega)⟩
  ·simp only[c2,decide_false,cond_false];obtain⟨r,e1,e2⟩:=YB ((aA,(l-(n.length:Int)-(v.length:Int),())),()) (by show 0<=l-(n.length:Int)-(v.length:Int);omega) (by show l-(n.length:Int)-(v.length:Int)<=_;omega) m3
   simp only[e1,Option.bind_some];rcases e2 with e2|⟨q1,q2,dC⟩
   ·simp only[e2,decide_true,cond_true];exact⟨_,rfl,.inl (by omega)⟩
   ·have q2:r<=l-(n.length:Int)-(v.length:Int):=q2;have c3:¬r<0:=by omega
    simp only[c3,decide_false,cond_false];obtain⟨r2,bK,c_⟩:=Xm ((es,(r,())),()) q1 (by show r<=_;omega) m4
    simp only[bK,Option.bind_some];rcases c_ with c_|⟨mb,qJ,amQ⟩
    ·simp only[c_,decide_true,cond_true];exact⟨_,rfl,.inl (by omega)⟩
    ·have qJ:r2<=r:=qJ;have dV:¬r2<0:=by omega
     simp only[dV,decide_false,cond_false];exact⟨_,rfl,.inr ⟨mb,(by show r2<=l;omega),(by show n.length<=1048576;omega),(by show v.length<=1048576;omega),dC,amQ⟩⟩
theorem YA(a)(h0:0<=a.1.2.1)(h1:a.1.2.1<=1048576)(hm:u' a.1.1):∃r:Int,f20 a=some ((r,()),())/\pO a.1.2.1 r (nT a.1.1):=by
 obtain⟨⟨xs,(l:Int),u⟩,bF⟩:=a;have h0:0<=l:=h0;have h1:l<=1048576:=h1;obtain⟨m1,m2⟩:=hm;have m1:gx xs.length:=m1;simp only[f20,ny h0 h1 m1];by_cases c:l-(xs.length:Int)<0
 ·simp only[c,decide_true,cond_true];exact⟨_,rfl,.inl (by omega)⟩
 ·simp only[c,decide_false,cond_false];have hl:xs.length<=1048576:=by omega
  have key:=DI yp xs (fun i s=>((xs,(s,((i:Int),()))),())) (.inl (((-1:Int),()),())) (fun s=>.inr ((s,()),())) s8 (fun i x s hx jr s1=>?_) (fun s=>?_) (l-xs.length) (by omega) (by omega)
  ·rcases key with h|⟨am,aC,ao,bv,h⟩
   ·have h:x' ((xs,(l-xs.length,((0:Int),()))),())=_:=h;exact⟨-1,by rw[h];rfl,.inl (by omega)⟩
   ·have h:x' ((xs,(l-xs.length,((0:Int),()))),())=_:=h;exact⟨am,by rw[h];rfl,.inr ⟨aC,(by show am<=l;omega),hl,bv⟩⟩
  ·have hi:=cc hx;have hw:aF i:=by unfold aF;omega
   obtain⟨r,e1,e2⟩:=Lr (((x.name,(x.a8,(x.bb,(x.bu,())))),(s,())),()) jr s1 (m2 x (List.mem_of_getElem? hx));simp only[yp,ce hi,cond_true,b0,hx,Option.bind_some,e1,b' hw];rcases e2 with e2|⟨q1,q2,dC⟩
   ·left;simp only[e2,decide_true,cond_true]
   ·have:¬r<0:=by omega
    right;refine⟨r,q1,q2,dC,?_⟩;simp only[this,decide_false,cond_false]
  ·simp only[yp,cU,cond_false]
theorem Z7(a)(h0:0<=a.1.2.1)(h1:a.1.2.1<=1048576)(hm:u' a.1.1.1):∃r:Int,f11 a=some ((r,()),())/\pO a.1.2.1 r (nT a.1.1.1):=by
 obtain⟨⟨⟨xs,u⟩,l,bF⟩,iH⟩:=a;obtain⟨r,e1,e2⟩:=YA ((xs,(l,())),()) h0 h1 hm;simp only[f11,e1,Option.bind_some];rcases e2 with e2|⟨q1,q2,dC⟩
 ·simp only[e2,decide_true,cond_true];exact⟨_,rfl,.inl (by omega)⟩
 ·have:¬r<0:=by omega
  simp only[this,decide_false,cond_false];exact⟨_,rfl,.inr ⟨q1,q2,dC⟩⟩
theorem Cz{aD H br:Type}(g:H->Option (Sum H br))(xs:List aD)(z:aD)(st:Nat->List aD->H)(fin:List aD->br)
  (h1:∀i x bd,xs[i]? =some x->bd.length=xs.length->g (st i bd)=some (.inl (st (i+1) (bd.set i x))))
  (h2:g (st xs.length xs)=some (.inr (fin xs))):bO g (st 0 (List.replicate xs.length z))=some (fin xs):=by
 suffices h:∀(r:List aD) (k:Nat),xs.drop k=r->k<=xs.length->bO g (st k (xs.take k++List.replicate (xs.length-k) z))=some (fin xs) from by
  have:=h xs 0 rfl (Nat.zero_le _);simpa using this
 intro r;induction r with
 |nil=>
  intro k hr ag;have:=drop_nil hr;obtain rfl:k=xs.length:=by omega
  simp only[Nat.sub_self,List.replicate_zero,List.append_nil,List.take_length];exact eB h2
 |cons x r ih=>
  intro k hr ag;obtain⟨c1,c2,c3⟩:=drop_cons hr;have hl:(xs.take k++List.replicate (xs.length-k) z).length=xs.length:=by simp;omega
  rw[hk (h1 k x _ c1 hl)];have e:(xs.take k++List.replicate (xs.length-k) z).set k x=xs.take (k+1)++List.replicate (xs.length-(k+1)) z:=by
   have vP:(xs.take k).length=k:=by simp;omega
   obtain⟨m,hm⟩:∃m,xs.length-k=m+1:=⟨xs.length-k-1,by omega⟩
   rw[List.set_append_right _ _ (by omega),vP,Nat.sub_self,hm,show xs.length-(k+1)=m by omega,List.replicate_succ,List.set_cons_zero,List.take_add_one,c1]
   simp
  rw[e];exact ih (k+1) c2 c3
theorem KE(a)(M:cj a.1.1.length):f72 a=some (((),()),(a.1.1,())):=by
 obtain⟨⟨xs,u⟩,bF⟩:=a;have M:xs.length<=2097152:=M;have key:=Cz zg xs (dr.mk [] 0 []) (fun i bd=>((xs,((),((i:Int),()))),(bd,()))) (fun bd=>(((),()),(bd,()))) (fun i x bd hx hl=>?_) ?_
 ·have key:EU ((xs,((),((0:Int),()))),(List.replicate xs.length (dr.mk [] 0 []),()))=_:=key;simp only[f72,EN (show(40:Nat)<=100 by decide) (show aF xs.length by unfold aF;omega),Option.bind_some,key]
 ·have hi:=cc hx;have hw:aF i:=by unfold aF;omega
  have ay:bd[i]? =some bd[i]:=List.getElem?_eq_getElem (by omega)
  simp only[zg,ce hi,cond_true,b0,hx,Option.bind_some,f116,lu (show i<bd.length by omega),ay,b' hw]
 ·simp only[zg,cU,cond_false]
theorem J'(a)(M:cj a.1.1.length):f73 a=some (((),()),(a.1.1,())):=by
 obtain⟨⟨xs,u⟩,bF⟩:=a;have M:xs.length<=2097152:=M;have key:=Cz zf xs (a5.mk [] 0 0 []) (fun i bd=>((xs,((),((i:Int),()))),(bd,()))) (fun bd=>(((),()),(bd,()))) (fun i x bd hx hl=>?_) ?_
 ·have key:ET ((xs,((),((0:Int),()))),(List.replicate xs.length (a5.mk [] 0 0 []),()))=_:=key;simp only[f73,EN (show(48:Nat)<=100 by decide) (show aF xs.length by unfold aF;omega),Option.bind_some,key]
 ·have hi:=cc hx;have hw:aF i:=by unfold aF;omega
  have ay:bd[i]? =some bd[i]:=List.getElem?_eq_getElem (by omega)
  simp only[zf,ce hi,cond_true,b0,hx,Option.bind_some,f117,lu (show i<bd.length by omega),ay,b' hw]
 ·simp only[zf,cU,cond_false]
theorem Yz(a)(M:eu a.1.1):f22 a=some (((),()),(a.1.1,())):=by
 obtain⟨⟨xs,u⟩,bF⟩:=a;obtain⟨M,hm⟩:=M;have M:xs.length<=2097152:=M;have key:=Cz zn xs (aK.mk [] [] [] []) (fun i bd=>((xs,((),((i:Int),()))),(bd,()))) (fun bd=>(((),()),(bd,()))) (fun i x bd hx hl=>?_) ?_
 ·have key:E2 ((xs,((),((0:Int),()))),(List.replicate xs.length (aK.mk [] [] [] []),()))=_:=key;simp only[f22,EN (show(80:Nat)<=100 by decide) (show aF xs.length by unfold aF;omega),Option.bind_some,key]
 ·have hi:=cc hx;have hw:aF i:=by unfold aF;omega
  have ay:bd[i]? =some bd[i]:=List.getElem?_eq_getElem (by omega)
  obtain⟨_,_,bR,jt⟩:=hm x (List.mem_of_getElem? hx);simp only[zn,ce hi,cond_true,b0,hx,Option.bind_some,f34,KE ((x.bb,()),()) bR.1,J' ((x.bu,()),()) jt.1,lu (show i<bd.length by omega),ay,b' hw]
 ·simp only[zn,cU,cond_false]
theorem Z6(a)(M:eu a.1.1.1):f13 a=some (((),()),(a.1.1.1,(((),()),()))):=by
 obtain⟨⟨⟨xs,u⟩,bF⟩,iH⟩:=a;simp only[f13,Yz ((xs,()),()) M,Option.bind_some]
theorem CB{aD:Type}:∀(xs:List aD) (i:Nat),allI (fun _ _=>true) i xs=true:=by
 intro xs;induction xs with
 |nil=>intro i;rfl
 |cons x r ih=>intro i;simp only[allI,ih,Bool.and_self]
theorem tG(a:Int):(a !=a)=false:=by simp
theorem _h(a)(h:a.1.1=a.1.2.1):f125 a=some ((true,()),()):=by
 obtain⟨⟨x,y,u⟩,bF⟩:=a;have h:x=y:=h;subst h;simp only[f125,beq_self_eq_true,Bool.not_true,cond_false,tG]
theorem YO(a)(h:a.1.1=a.1.2.1):f53 a=some ((true,()),()):=by
 obtain⟨⟨x,y,u⟩,bF⟩:=a;have h:x=y:=h;subst h;simp only[f53,beq_self_eq_true,Bool.not_true,cond_false,tG]
theorem YN(xs:List dr)(M:cj xs.length):f76 ((xs,(xs,())),())=some ((true,()),()):=by
 have key:ES ((xs,(xs,((0:Int),()))),())=some (bif allI (fun _ _=>true) 0 xs then .inr ((),()) else .inl ((false,()),())):=by
  refine fD ze xs (fun i=>((xs,(xs,((i:Int),()))),())) _ _ _ (fun i x hx=>?_) ?_
  ·have hi:=cc hx;have hw:aF i:=by unfold aF;omega
   simp only[ze,ce hi,cond_true,b0,hx,Option.bind_some,_h (((x.name,(x.kind,(x.a8,()))),((x.name,(x.kind,(x.a8,()))),())),()) rfl,Bool.not_true,cond_false,b' hw]
  ·simp only[ze,cU,cond_false]
 rw[CB] at key;simp only[f76,tG,cond_false,key,cond_true,Option.bind_some]
theorem Xq(xs:List a5)(M:cj xs.length):f15 ((xs,(xs,())),())=some ((true,()),()):=by
 have key:E4 ((xs,(xs,((0:Int),()))),())=some (bif allI (fun _ _=>true) 0 xs then .inr ((),()) else .inl ((false,()),())):=by
  refine fD zo xs (fun i=>((xs,(xs,((i:Int),()))),())) _ _ _ (fun i x hx=>?_) ?_
  ·have hi:=cc hx;have hw:aF i:=by unfold aF;omega
   simp only[zo,ce hi,cond_true,b0,hx,Option.bind_some,YO (((x.path,(x.kind,(x.mode,(x.text,())))),((x.path,(x.kind,(x.mode,(x.text,())))),())),()) rfl,Bool.not_true,cond_false,b' hw]
  ·simp only[zo,cU,cond_false]
 rw[CB] at key;simp only[f15,tG,cond_false,key,cond_true,Option.bind_some]
theorem Ly(x:aK)(h:li x):f36 (((x.name,(x.a8,(x.bb,(x.bu,())))),((x.name,(x.a8,(x.bb,(x.bu,())))),())),())=some ((true,()),()):=by
 simp only[f36,beq_self_eq_true,Bool.not_true,cond_false,YN _ h.2.2.1.1,Xq _ h.2.2.2.1,Option.bind_some]
theorem YM(xs:List aK)(M:eu xs):f25 ((xs,(xs,())),())=some ((true,()),()):=by
 have hl:xs.length<=2097152:=M.1;have key:E1 ((xs,(xs,((0:Int),()))),())=some (bif allI (fun _ _=>true) 0 xs then .inr ((),()) else .inl ((false,()),())):=by
  refine fD zm xs (fun i=>((xs,(xs,((i:Int),()))),())) _ _ _ (fun i x hx=>?_) ?_
  ·have hi:=cc hx;have hw:aF i:=by unfold aF;omega
   simp only[zm,ce hi,cond_true,b0,hx,Option.bind_some,Ly x (M.2 x (List.mem_of_getElem? hx)),Bool.not_true,cond_false,b' hw]
  ·simp only[zm,cU,cond_false]
 rw[CB] at key;simp only[f25,tG,cond_false,key,cond_true,Option.bind_some]
theorem Lx(xs:List aK)(M:eu xs):f16 (((xs,()),((xs,()),())),())=some ((true,()),()):=by
 simp only[f16,YM xs M,Option.bind_some,Bool.not_true,cond_false]
theorem nT.lo{ps:List aK}(h:nT ps):eu ps/\ni ps:=by
 obtain⟨h1,h2⟩:=h;have up:∀{n:Nat},iP n->cj n:=fun h=>Nat.le_trans h (by decide)
 have Se:∀{n:Nat},iP n->n<=2097151:=fun h=>Nat.le_trans h (by decide)
 refine⟨⟨up h1,fun p aj=>?_⟩,fun p aj=>?_⟩
 ·obtain⟨a,b,c,d⟩:=h2 p aj;exact⟨up a,up b,⟨up c.1,fun n hn=>⟨up (c.2 n hn).1,up (c.2 n hn).2⟩⟩,up d.1,fun n hn=>⟨up (d.2 n hn).1,up (d.2 n hn).2⟩⟩
 ·obtain⟨a,b,c,d⟩:=h2 p aj;exact⟨Se b,fun n hn=>Se (c.2 n hn).2⟩
theorem oz{s:al}(h:ie (.str s)):gx s.length:=by cases h;assumption
theorem Et{t:aG}{xs:List (den t)}(h:ie (.sl t xs)):gx xs.length/\∀x,x∈xs->∀d,d∈enc t x->ie d:=by cases h;exact⟨by assumption,by assumption⟩
theorem Lq{xs:List dr}(h:ie (.sl .need xs)):GZ xs:=by
 obtain⟨h1,h2⟩:=Et h;exact⟨h1,fun x hx=>⟨oz (h2 x hx (.str x.name) (by simp[enc])),oz (h2 x hx (.str x.a8) (by simp[enc]))⟩⟩
theorem J9{xs:List a5}(h:ie (.sl .entry xs)):G0 xs:=by
 obtain⟨h1,h2⟩:=Et h;exact⟨h1,fun x hx=>⟨oz (h2 x hx (.str x.path) (by simp[enc])),oz (h2 x hx (.str x.text) (by simp[enc]))⟩⟩
theorem Z4{xs:List aK}(h:ie (.sl .pack xs)):u' xs:=by
 obtain⟨h1,h2⟩:=Et h;exact⟨h1,fun x hx=>⟨oz (h2 x hx (.str x.name) (by simp[enc])),oz (h2 x hx (.str x.a8) (by simp[enc])),Lq (h2 x hx (.sl .need x.bb) (by simp[enc])),J9 (h2 x hx (.sl .entry x.bu) (by simp[enc]))⟩⟩
abbrev yZ:Shape:=⟨[ae 0,bx 3],[],20⟩
abbrev EE:List bg:=[(.exit 0,⟨[bx 3],[],20⟩)]
noncomputable def E_(y:yZ.H):cy yZ EE:=
 bif(decide (y.1.1>(0:Int))) then
(sr y.1.1 (10:Int)).bind fun a=>
(n_ (strOf ([(IntKind.u8.wrap (IntKind.i64.wrap ((48:Int)+a)))]:List Int)) y.1.2.1).bind fun b=>
(su .i64 y.1.1 (10:Int)).bind fun c=>
 some (.inl ((c,b,()),()))
else
 some (.inr ((y.1.2.1,()),()))
noncomputable def EY:yZ.H->Option (aQ EE):=bO E_
theorem acJ:bw Z (aI (codeOf Tryz.f54) 1 60) (bJ yZ EE EY):=cD g0 (by kernel_rfl) ar fun y=>by kernel_rfl
abbrev i54:Shape:=⟨[ae 0],[],20⟩
abbrev SN:Shape:=⟨[bx 2],[],20⟩
noncomputable def f54(a:i54.H):Option SN.H:=
 bif(decide (a.1.1<=(0:Int))) then
 some ((([109,48]:al),()),())
else
(EY ((a.1.1,([]:al),()),())).bind fun b=>
(n_ ([109]:al) b.1.1).bind fun c=>
 some ((c,()),())
noncomputable def qD:aU:=ba ap Tryz.f54 i54 SN [] f54
theorem sK:a4 Z 54 qD:=bc g0 Tryz.func54 (by kernel_rfl) (bN acJ ar) (fun y=>by kernel_rfl) fun a=>by kernel_rfl
noncomputable abbrev aht:bq:=[(54,qD)]
theorem R3:a9 Z (bm ap aht):=bz ⟨sK,⟨⟩⟩
abbrev tU:Shape:=⟨[aV 0 .need,ae 1,ae 5],[],42⟩
abbrev DF:List bg:=[(.ret,⟨[ae 4],[],42⟩),(.exit 0,⟨[ae 1],[],42⟩)]
noncomputable def ue(y:tU.H):cy tU DF:=
 bif(decide (y.1.2.2.1<(y.1.1.length:Int))) then
(bl y.1.1 y.1.2.2.1).bind fun a=>
(f54 ((y.1.2.1,()),())).bind fun b=>
 bif(!(a.name==b.1.1)) then
 some (.inr (.inl ((((-1):Int),()),())))
else
(bl y.1.1 y.1.2.2.1).bind fun c=>
 bif(c.kind !=(IntKind.i64.wrap (y.1.2.1+(1:Int)))) then
 some (.inr (.inl ((((-1):Int),()),())))
else
(bl y.1.1 y.1.2.2.1).bind fun d=>
(f54 (((IntKind.i64.wrap ((IntKind.i64.wrap (y.1.2.1+(1:Int)))+(1:Int))),()),())).bind fun e=>
 bif(!(d.a8==e.1.1)) then
 some (.inr (.inl ((((-1):Int),()),())))
else
 some (.inl ((y.1.1,(IntKind.i64.wrap ((IntKind.i64.wrap ((IntKind.i64.wrap (y.1.2.1+(1:Int)))+(1:Int)))+(1:Int))),(IntKind.i64.wrap (y.1.2.2.1+(1:Int))),()),()))
else
 some (.inr (.inr ((y.1.2.1,()),())))
noncomputable def D_:tU.H->Option (aQ DF):=bO ue
theorem abx:bw Z (aI (codeOf Tryz.f112) 1 26) (bJ tU DF D_):=cD R3 (by kernel_rfl) ar fun y=>by kernel_rfl
abbrev i112:Shape:=⟨[aV 0 .need,ae 1],[],42⟩
abbrev Qj:Shape:=⟨[ae 4],[],42⟩
noncomputable def f112(a:i112.H):Option Qj.H:=
(D_ ((a.1.1,a.1.2.1,(0:Int),()),())).bind fun b=>
(match b with
|.inl c=>
 some ((c.1.1,()),())
|.inr d=>
 some ((d.1.1,()),()))
noncomputable def RL:aU:=ba ap Tryz.f112 i112 Qj [] f112
theorem afp:a4 Z 112 RL:=bc R3 Tryz.func112 (by kernel_rfl) (bN abx ar) (fun y=>by kernel_rfl) fun a=>by kernel_rfl
noncomputable abbrev aev:bq:=[(54,qD)]
theorem O6:a9 Z (bm ap aev):=bz ⟨sK,⟨⟩⟩
abbrev tJ:Shape:=⟨[b3 0 3000000,ae 1,ae 5],[ci 3000000 .entry 0 0],43⟩
abbrev CJ:List bg:=[(.exit 0,⟨[b3 0 3000000,ae 1],[ci 3000000 .entry 0 0],43⟩)]
noncomputable def tQ(y:tJ.H):cy tJ CJ:=
 bif(decide (y.1.2.2.1<(y.2.1.length:Int))) then
(f54 ((y.1.2.1,()),())).bind fun a=>
(e_ y.2.1.length y.1.2.2.1).bind fun b=>
((y.2.1[b]?).bind fun q=>some (a5.mk a.1.1 q.kind q.mode q.text)).bind fun c=>
(e_ (y.2.1.set b c).length y.1.2.2.1).bind fun d=>
(((y.2.1.set b c)[d]?).bind fun q=>some (a5.mk q.path (IntKind.i64.wrap (y.1.2.1+(1:Int))) q.mode q.text)).bind fun e=>
(e_ ((y.2.1.set b c).set d e).length y.1.2.2.1).bind fun f=>
((((y.2.1.set b c).set d e)[f]?).bind fun q=>some (a5.mk q.path q.kind (IntKind.i64.wrap ((IntKind.i64.wrap (y.1.2.1+(1:Int)))+(1:Int))) q.text)).bind fun g=>
(f54 (((IntKind.i64.wrap ((IntKind.i64.wrap ((IntKind.i64.wrap (y.1.2.1+(1:Int)))+(1:Int)))+(1:Int))),()),())).bind fun h=>
(e_ (((y.2.1.set b c).set d e).set f g).length y.1.2.2.1).bind fun i=>
(((((y.2.1.set b c).set d e).set f g)[i]?).bind fun q=>some (a5.mk q.path q.kind q.mode h.1.1)).bind fun j=>
 some (.inl (((),(IntKind.i64.wrap ((IntKind.i64.wrap ((IntKind.i64.wrap ((IntKind.i64.wrap (y.1.2.1+(1:Int)))+(1:Int)))+(1:Int)))+(1:Int))),(IntKind.i64.wrap (y.1.2.2.1+(1:Int))),()),((((y.2.1.set b c).set d e).set f g).set i j),()))
else
 some (.inr (((),y.1.2.1,()),y.2.1,()))
noncomputable def CU:tJ.H->Option (aQ CJ):=bO tQ
theorem _R:bw Z (aI (codeOf Tryz.f18) 1 26) (bJ tJ CJ CU):=cD O6 (by kernel_rfl) ar fun y=>by kernel_rfl
abbrev OM:Shape:=⟨[b3 0 600000,ae 1],[(600000,.row .entry,.same)],43⟩
abbrev Oy:Shape:=⟨[b3 0 3000000,ae 4],[ci 3000000 .entry 0 0],43⟩
noncomputable def uJ(a:OM.H):Option Oy.H:=
(CU (((),a.1.2.1,(0:Int),()),a.2.1,())).bind fun b=>
 some (((),b.1.2.1,()),b.2.1,())
noncomputable def FJ:aU:=pY ap Tryz.f18 OM Oy [] [0] uJ
theorem Ok:a4 Z 18 FJ:=qZ O6 Tryz.func18 (by kernel_rfl) (bN _R ar) (fun y=>by kernel_rfl) fun a=>by kernel_rfl
noncomputable abbrev aes:bq:=[(54,qD)]
theorem O4:a9 Z (bm ap aes):=bz ⟨sK,⟨⟩⟩
abbrev tH:Shape:=⟨[b3 0 3000000,ae 1,ae 5],[ci 3000000 .need 0 0],36⟩
abbrev CH:List bg:=[(.exit 0,⟨[b3 0 3000000,ae 1],[ci 3000000 .need 0 0],36⟩)]
noncomputable def tO(y:tH.H):cy tH CH:=
 bif(decide (y.1.2.2.1<(y.2.1.length:Int))) then
(f54 ((y.1.2.1,()),())).bind fun a=>
(e_ y.2.1.length y.1.2.2.1).bind fun b=>
((y.2.1[b]?).bind fun q=>some (dr.mk a.1.1 q.kind q.a8)).bind fun c=>
(e_ (y.2.1.set b c).length y.1.2.2.1).bind fun d=>
(((y.2.1.set b c)[d]?).bind fun q=>some (dr.mk q.name (IntKind.i64.wrap (y.1.2.1+(1:Int))) q.a8)).bind fun e=>
(f54 (((IntKind.i64.wrap ((IntKind.i64.wrap (y.1.2.1+(1:Int)))+(1:Int))),()),())).bind fun f=>
(e_ ((y.2.1.set b c).set d e).length y.1.2.2.1).bind fun g=>
((((y.2.1.set b c).set d e)[g]?).bind fun q=>some (dr.mk q.name q.kind f.1.1)).bind fun h=>
 some (.inl (((),(IntKind.i64.wrap ((IntKind.i64.wrap ((IntKind.i64.wrap (y.1.2.1+(1:Int)))+(1:Int)))+(1:Int))),(IntKind.i64.wrap (y.1.2.2.1+(1:Int))),()),(((y.2.1.set b c).set d e).set g h),()))
else
 some (.inr (((),y.1.2.1,()),y.2.1,()))
noncomputable def CS:tH.H->Option (aQ CH):=bO tO
theorem _N:bw Z (aI (codeOf Tryz.f60) 1 26) (bJ tH CH CS):=cD O4 (by kernel_rfl) ar fun y=>by kernel_rfl
abbrev OJ:Shape:=⟨[b3 0 600000,ae 1],[(600000,.row .need,.same)],36⟩
abbrev Ov:Shape:=⟨[b3 0 3000000,ae 4],[ci 3000000 .need 0 0],36⟩
noncomputable def uH(a:OJ.H):Option Ov.H:=
(CS (((),a.1.2.1,(0:Int),()),a.2.1,())).bind fun b=>
 some (((),b.1.2.1,()),b.2.1,())
noncomputable def FH:aU:=pY ap Tryz.f60 OJ Ov [] [0] uH
theorem Oi:a4 Z 60 FH:=qZ O4 Tryz.func60 (by kernel_rfl) (bN _N ar) (fun y=>by kernel_rfl) fun a=>by kernel_rfl
noncomputable abbrev aeu:bq:=[(18,FJ),(54,qD),(60,FH)]
theorem O5:a9 Z (bm ap aeu):=bz ⟨Ok,sK,Oi,⟨⟩⟩
abbrev tI:Shape:=⟨[b3 0 3000000,ae 1,ae 5],[(3000000,.deep .pack,.slot 0 0)],43⟩
abbrev CI:List bg:=[(.exit 0,⟨[b3 0 3000000,ae 1],[(3000000,.deep .pack,.slot 0 0)],43⟩)]
noncomputable def tP(y:tI.H):cy tI CI:=
 bif(decide (y.1.2.2.1<(y.2.1.length:Int))) then
(f54 ((y.1.2.1,()),())).bind fun a=>
(e_ y.2.1.length y.1.2.2.1).bind fun b=>
((y.2.1[b]?).bind fun q=>some (aK.mk a.1.1 q.a8 q.bb q.bu)).bind fun c=>
(f54 (((IntKind.i64.wrap (y.1.2.1+(1:Int))),()),())).bind fun d=>
(e_ (y.2.1.set b c).length y.1.2.2.1).bind fun e=>
(((y.2.1.set b c)[e]?).bind fun q=>some (aK.mk q.name d.1.1 q.bb q.bu)).bind fun f=>
(e_ ((y.2.1.set b c).set e f).length y.1.2.2.1).bind fun g=>
(((y.2.1.set b c).set e f)[g]?).bind fun h=>
(uH (((),(IntKind.i64.wrap ((IntKind.i64.wrap (y.1.2.1+(1:Int)))+(1:Int))),()),h.bb,())).bind fun i=>
(e_ (((y.2.1.set b c).set e f).set g (aK.mk h.name h.a8 i.2.1 h.bu)).length y.1.2.2.1).bind fun j=>
((((y.2.1.set b c).set e f).set g (aK.mk h.name h.a8 i.2.1 h.bu))[j]?).bind fun k=>
(uJ (((),i.1.2.1,()),k.bu,())).bind fun l=>
 some (.inl (((),l.1.2.1,(IntKind.i64.wrap (y.1.2.2.1+(1:Int))),()),((((y.2.1.set b c).set e f).set g (aK.mk h.name h.a8 i.2.1 h.bu)).set j (aK.mk k.name k.a8 k.bb l.2.1)),()))
else
 some (.inr (((),y.1.2.1,()),y.2.1,()))
noncomputable def CT:tI.H->Option (aQ CI):=bO tP
theorem _O:bw Z (aI (codeOf Tryz.f26) 1 26) (bJ tI CI CT):=cD O5 (by kernel_rfl) ar fun y=>by kernel_rfl
abbrev OL:Shape:=⟨[b3 0 600000,ae 1],[(600000,.deep .pack,.same)],43⟩
abbrev Ox:Shape:=⟨[b3 0 3000000,ae 4],[(3000000,.deep .pack,.slot 0 0)],43⟩
noncomputable def zO(a:OL.H):Option Ox.H:=
(CT (((),a.1.2.1,(0:Int),()),a.2.1,())).bind fun b=>
 some (((),b.1.2.1,()),b.2.1,())
noncomputable def O3:aU:=pY ap Tryz.f26 OL Ox [] [0] zO
theorem adC:a4 Z 26 O3:=qZ O5 Tryz.func26 (by kernel_rfl) (bN _O ar) (fun y=>by kernel_rfl) fun a=>by kernel_rfl
noncomputable abbrev aew:bq:=[(26,O3)]
theorem aez:a9 Z (bm ap aew):=bz ⟨adC,⟨⟩⟩
abbrev ON:Shape:=⟨[cg 0 [.own 600000],ae 1],[(600000,.deep .pack,.same)],10⟩
abbrev Oz:Shape:=⟨[cg 0 [.own 3000000],ae 4],[(3000000,.deep .pack,.slot 0 0)],10⟩
noncomputable def nH(a:ON.H):Option Oz.H:=
(zO (((),a.1.2.1,()),a.2.1,())).bind fun b=>
 some ((((),()),b.1.2.1,()),b.2.1,())
noncomputable def zV:aU:=pY ap Tryz.f17 ON Oz [] [0] nH
theorem Fj:a4 Z 17 zV:=qZ aez Tryz.func17 (by kernel_rfl) ar (fun y=>by kernel_rfl) fun a=>by kernel_rfl
noncomputable abbrev alV:bq:=[(54,qD)]
theorem UG:a9 Z (bm ap alV):=bz ⟨sK,⟨⟩⟩
abbrev uk:Shape:=⟨[aV 0 .entry,ae 1,ae 5],[],51⟩
abbrev EH:List bg:=[(.ret,⟨[ae 4],[],51⟩),(.exit 0,⟨[ae 1],[],51⟩)]
noncomputable def uq(y:uk.H):cy uk EH:=
 bif(decide (y.1.2.2.1<(y.1.1.length:Int))) then
(bl y.1.1 y.1.2.2.1).bind fun a=>
(f54 ((y.1.2.1,()),())).bind fun b=>
 bif(!(a.path==b.1.1)) then
 some (.inr (.inl ((((-1):Int),()),())))
else
(bl y.1.1 y.1.2.2.1).bind fun c=>
 bif(c.kind !=(IntKind.i64.wrap (y.1.2.1+(1:Int)))) then
 some (.inr (.inl ((((-1):Int),()),())))
else
(bl y.1.1 y.1.2.2.1).bind fun d=>
 bif(d.mode !=(IntKind.i64.wrap ((IntKind.i64.wrap (y.1.2.1+(1:Int)))+(1:Int)))) then
 some (.inr (.inl ((((-1):Int),()),())))
else
(bl y.1.1 y.1.2.2.1).bind fun e=>
(f54 (((IntKind.i64.wrap ((IntKind.i64.wrap ((IntKind.i64.wrap (y.1.2.1+(1:Int)))+(1:Int)))+(1:Int))),()),())).bind fun f=>
 bif(!(e.text==f.1.1)) then
 some (.inr (.inl ((((-1):Int),()),())))
else
 some (.inl ((y.1.1,(IntKind.i64.wrap ((IntKind.i64.wrap ((IntKind.i64.wrap ((IntKind.i64.wrap (y.1.2.1+(1:Int)))+(1:Int)))+(1:Int)))+(1:Int))),(IntKind.i64.wrap (y.1.2.2.1+(1:Int))),()),()))
else
 some (.inr (.inr ((y.1.2.1,()),())))
noncomputable def E3:uk.H->Option (aQ EH):=bO uq
theorem acO:bw Z (aI (codeOf Tryz.f19) 1 26) (bJ uk EH E3):=cD UG (by kernel_rfl) ar fun y=>by kernel_rfl
abbrev i19:Shape:=⟨[aV 0 .entry,ae 1],[],51⟩
abbrev S7:Shape:=⟨[ae 4],[],51⟩
noncomputable def f19(a:i19.H):Option S7.H:=
(E3 ((a.1.1,a.1.2.1,(0:Int),()),())).bind fun b=>
(match b with
|.inl c=>
 some ((c.1.1,()),())
|.inr d=>
 some ((d.1.1,()),()))
noncomputable def Uk:aU:=ba ap Tryz.f19 i19 S7 [] f19
theorem aip:a4 Z 19 Uk:=bc UG Tryz.func19 (by kernel_rfl) (bN acO ar) (fun y=>by kernel_rfl) fun a=>by kernel_rfl
noncomputable abbrev aly:bq:=[(19,Uk),(54,qD),(112,RL)]
theorem Uy:a9 Z (bm ap aly):=bz ⟨aip,sK,afp,⟨⟩⟩
abbrev yW:Shape:=⟨[aV 0 .pack,ae 1,ae 5],[],51⟩
abbrev EB:List bg:=[(.ret,⟨[ae 4],[],51⟩),(.exit 0,⟨[ae 1],[],51⟩)]
noncomputable def zh(y:yW.H):cy yW EB:=
 bif(decide (y.1.2.2.1<(y.1.1.length:Int))) then
(bl y.1.1 y.1.2.2.1).bind fun a=>
(f54 ((y.1.2.1,()),())).bind fun b=>
 bif(!(a.name==b.1.1)) then
 some (.inr (.inl ((((-1):Int),()),())))
else
(bl y.1.1 y.1.2.2.1).bind fun c=>
(f54 (((IntKind.i64.wrap (y.1.2.1+(1:Int))),()),())).bind fun d=>
 bif(!(c.a8==d.1.1)) then
 some (.inr (.inl ((((-1):Int),()),())))
else
(bl y.1.1 y.1.2.2.1).bind fun e=>
(f112 ((e.bb,(IntKind.i64.wrap ((IntKind.i64.wrap (y.1.2.1+(1:Int)))+(1:Int))),()),())).bind fun f=>
 bif(decide (f.1.1<(0:Int))) then
 some (.inr (.inl ((((-1):Int),()),())))
else
(bl y.1.1 y.1.2.2.1).bind fun g=>
(f19 ((g.bu,f.1.1,()),())).bind fun h=>
 bif(decide (h.1.1<(0:Int))) then
 some (.inr (.inl ((((-1):Int),()),())))
else
 some (.inl ((y.1.1,h.1.1,(IntKind.i64.wrap (y.1.2.2.1+(1:Int))),()),()))
else
 some (.inr (.inr ((y.1.2.1,()),())))
noncomputable def EV:yW.H->Option (aQ EB):=bO zh
theorem acG:bw Z (aI (codeOf Tryz.f68) 1 26) (bJ yW EB EV):=cD Uy (by kernel_rfl) ar fun y=>by kernel_rfl
abbrev i68:Shape:=⟨[aV 0 .pack,ae 1],[],51⟩
abbrev SH:Shape:=⟨[ae 4],[],51⟩
noncomputable def f68(a:i68.H):Option SH.H:=
(EV ((a.1.1,a.1.2.1,(0:Int),()),())).bind fun b=>
(match b with
|.inl c=>
 some ((c.1.1,()),())
|.inr d=>
 some ((d.1.1,()),()))
noncomputable def T8:aU:=ba ap Tryz.f68 i68 SH [] f68
theorem aib:a4 Z 68 T8:=bc Uy Tryz.func68 (by kernel_rfl) (bN acG ar) (fun y=>by kernel_rfl) fun a=>by kernel_rfl
noncomputable abbrev alP:bq:=[(68,T8)]
theorem ami:a9 Z (bm ap alP):=bz ⟨aib,⟨⟩⟩
abbrev i31:Shape:=⟨[cg 0 [bi .pack],ae 1],[],12⟩
abbrev S1:Shape:=⟨[ae 4],[],12⟩
noncomputable def f31(a:i31.H):Option S1.H:=
(f68 ((a.1.1.1,a.1.2.1,()),())).bind fun b=>
 bif(decide (b.1.1<(0:Int))) then
 some ((((-1):Int),()),())
else
 some ((b.1.1,()),())
noncomputable def Bg:aU:=ba ap Tryz.f31 i31 S1 [] f31
theorem He:a4 Z 31 Bg:=bc ami Tryz.func31 (by kernel_rfl) ar (fun y=>by kernel_rfl) fun a=>by kernel_rfl
abbrev dd(k:Int):Prop:=k<=2305843009213693952
theorem VF(m:Int)(s:al)(hm:0<=m)(hl:m+(s.length:Int)<=2305843009213693952):hK (E_ ((m,(s,())),())) (fun q=>match q with
  |.inl y=>∃(qL:Int) (am:al),y=((qL,(am,())),())/\qL.toNat<m.toNat/\0<=qL/\qL+(am.length:Int)<=2305843009213693952
  |.inr b=>b.1.1.length<=2305843009213693952):=by
 simp only[E_];by_cases aj:m>0
 ·have ay:su .i64 m 10=some (m/10):=acs rfl hm (by omega) (by decide)
  have hr:sr m 10=some (m%10):=acr hm (by decide)
  simp only[aj,decide_true,cond_true,hr,ay,Option.bind_some];have hc:=NS (s:=strOf ([(IntKind.u8.wrap (IntKind.i64.wrap ((48:Int)+m%10)))]:List Int)) (t:=s) (by simp[strOf];omega)
  simp only[hc,Option.bind_some];refine⟨_,rfl,m/10,_,rfl,by omega,by omega,?_⟩
  simp[strOf];omega
 ·simp only[aj,decide_false,cond_false];refine⟨_,rfl,?_⟩;show s.length<=2305843009213693952;omega
theorem Xe(k:Int)(h0:1<=k)(h1:dd k):hK (f54 ((k,()),())) (fun _=>True):=by
 have hb:hK (EY ((k,(([]:al),())),())) (fun r=>r.1.1.length<=2305843009213693952):=by
  refine hK.loop (fun n y=>∃(m:Int) (s:al),y=((m,(s,())),())/\n=m.toNat/\0<=m/\m+(s.length:Int)<=2305843009213693952) (fun n y ak=>?_) k.toNat _ ⟨k,[],rfl,rfl,by omega,by simpa using h1⟩
  obtain⟨m,s,rfl,rfl,hm,hl⟩:=ak;refine(VF m s hm hl).mono fun q ay=>?_
  cases q with
  |inl y=>
   obtain⟨qL,am,rfl,aC,ao,bv⟩:=ay;exact⟨qL.toNat,aC,qL,am,rfl,rfl,ao,bv⟩
  |inr b=>exact ay
 simp only[f54];have Y:decide (k<=0)=false:=decide_eq_false (by omega)
 simp only[Y,cond_false];refine hb.bind fun r hr=>?_
 have hr:r.1.1.length<=2305843009213693952:=hr;rw[NS (show([109]:al).length+r.1.1.length<=_ by simp;omega),Option.bind_some]
 exact .ret trivial
noncomputable def mt(k:Int):al:=match f54 ((k,()),()) with
 |some r=>r.1.1
 |none=>[]
theorem k2{k:Int}(h0:1<=k)(h1:dd k):f54 ((k,()),())=some ((mt k,()),()):=by
 obtain⟨⟨⟨s,u⟩,bF⟩,e,_⟩:=Xe k h0 h1;unfold mt;rw[e]
theorem Fl{aD:Type}{l xs:List aD}{i:Nat}{c:aD}(hl:l.length=i)(hi:i<xs.length):(l++xs.drop i).set i c=(l++[c])++xs.drop (i+1):=by
 subst hl;rw[List.set_append_right _ _ (Nat.le_refl _),Nat.sub_self,List.drop_eq_getElem_cons hi,List.set_cons_zero];simp
theorem Fy{aD:Type}{l xs:List aD}{i:Nat}(hl:l.length=i):(l++xs.drop i)[i]? =xs[i]? :=by
 subst hl;rw[List.getElem?_append_right (Nat.le_refl _),Nat.sub_self];simp
theorem C1{aD:Type}{l:List aD}{i:Nat}{c:aD}(h:i<l.length):(l.set i c)[i]? =some c:=by simp[h]
noncomputable def vl(k:Int):dr:=⟨mt k,k+1,mt (k+2)⟩
noncomputable def e6(k:Int)(n:Nat):List dr:=(List.range n).map fun(i:Nat)=>vl (k+3*(i:Int))
theorem q_(k:Int)(n:Nat):(e6 k n).length=n:=by simp[e6]
theorem Zv(k:Int)(n:Nat):e6 k (n+1)=e6 k n++[vl (k+3*(n:Int))]:=by simp[e6,List.range_succ]
theorem _5{k:Int}{n i:Nat}(h:i<n):(e6 k n)[i]? =some (vl (k+3*(i:Int))):=by simp[e6,h]
noncomputable def vm(k:Int):a5:=⟨mt k,k+1,k+2,mt (k+3)⟩
noncomputable def e7(k:Int)(n:Nat):List a5:=(List.range n).map fun(i:Nat)=>vm (k+4*(i:Int))
theorem q'(k:Int)(n:Nat):(e7 k n).length=n:=by simp[e7]
theorem Zw(k:Int)(n:Nat):e7 k (n+1)=e7 k n++[vm (k+4*(n:Int))]:=by simp[e7,List.range_succ]
theorem _6{k:Int}{n i:Nat}(h:i<n):(e7 k n)[i]? =some (vm (k+4*(i:Int))):=by simp[e7,h]
theorem rL{H br:Type}{g:H->Option (Sum H br)}(st:Nat->H)(n:Nat){b:br}(h:∀i,i<n->g (st i)=some (.inl (st (i+1))))(he:g (st n)=some (.inr b)):bO g (st 0)=some b:=by
 suffices key:∀k i,i+k=n->bO g (st i)=some b from key n 0 (by omega)
 intro k;induction k with
 |zero=>
  intro i hi;obtain rfl:i=n:=by omega
  exact eB he
 |succ k ih=>
  intro i hi;rw[hk (h i (by omega))]
  exact ih (i+1) (by omega)
theorem JI(xs:List dr)(k:Int)(h0:1<=k)(M:cj xs.length)(h1:dd (k+3*(xs.length:Int))):uH (((),(k,())),(xs,()))=some (((),(k+3*(xs.length:Int),())),(e6 k xs.length,())):=by
 have key:CS (((),(k,((0:Int),()))),(xs,()))=some (((),(k+3*(xs.length:Int),())),(e6 k xs.length,())):=by
  have:=rL (g:=tO) (fun i=>(((),(k+3*(i:Int),((i:Int),()))),(e6 k i++xs.drop i,()))) xs.length (b:=(((),(k+3*(xs.length:Int),())),(e6 k xs.length,()))) (fun i hi=>?_) ?_
  ·have e:(((),(k+3*((0:Nat):Int),(((0:Nat):Int),()))),(e6 k 0++xs.drop 0,()))=((((),(k,((0:Int),()))),(xs,())):tH.H):=by
    show(((),(k+3*((0:Nat):Int),(((0:Nat):Int),()))),(e6 k 0++xs.drop 0,()))=(((),(k,((0:Int),()))),(xs,()));simp[e6]
   exact(congrArg (bO tO) e.symm).trans this
  ·have hl:(e6 k i++xs.drop i).length=xs.length:=by simp[q_];omega
   have hg:(e6 k i++xs.drop i)[i]? =some xs[i]:=by rw[Fy (q_ k i)];exact List.getElem?_eq_getElem hi
   have a1:IntKind.i64.wrap (k+3*(i:Int)+1)=k+3*(i:Int)+1:=ej (by omega) (by unfold dd at h1;omega)
   have a2:IntKind.i64.wrap (k+3*(i:Int)+1+1)=k+3*(i:Int)+2:=(ej (by omega) (by unfold dd at h1;omega)).trans (by omega)
   have fr:IntKind.i64.wrap (k+3*(i:Int)+2+1)=k+3*((i+1:Nat):Int):=(ej (by omega) (by unfold dd at h1;omega)).trans (by omega)
   have t1:=k2 (k:=k+3*(i:Int)) (by omega) (by unfold dd at h1 ⊢;omega)
   have t2:=k2 (k:=k+3*(i:Int)+2) (by omega) (by unfold dd at h1 ⊢;omega)
   have hw:aF i:=by unfold aF;omega
   have M:=Fl (c:=vl (k+3*(i:Int))) (q_ k i) hi;rw[<-Zv] at M;simp only[tO,hl,ce hi,cond_true,t1,Option.bind_some,lu hi,hg,List.length_set,C1 (show i<(e6 k i++xs.drop i).length by omega),List.set_set,a1,a2,fr,t2,b' hw]
   refine congrArg some (congrArg Sum.inl ?_);rw[<-M];rfl
  ·have hl:(e6 k xs.length++xs.drop xs.length)=e6 k xs.length:=by simp
   simp only[tO,hl,q_,cU,cond_false]
 simp only[uH,key,Option.bind_some]
theorem Jv(xs:List a5)(k:Int)(h0:1<=k)(M:cj xs.length)(h1:dd (k+4*(xs.length:Int))):uJ (((),(k,())),(xs,()))=some (((),(k+4*(xs.length:Int),())),(e7 k xs.length,())):=by
 have key:CU (((),(k,((0:Int),()))),(xs,()))=some (((),(k+4*(xs.length:Int),())),(e7 k xs.length,())):=by
  have:=rL (g:=tQ) (fun i=>(((),(k+4*(i:Int),((i:Int),()))),(e7 k i++xs.drop i,()))) xs.length (b:=(((),(k+4*(xs.length:Int),())),(e7 k xs.length,()))) (fun i hi=>?_) ?_
  ·have e:(((),(k+4*((0:Nat):Int),(((0:Nat):Int),()))),(e7 k 0++xs.drop 0,()))=((((),(k,((0:Int),()))),(xs,())):tJ.H):=by
    show(((),(k+4*((0:Nat):Int),(((0:Nat):Int),()))),(e7 k 0++xs.drop 0,()))=(((),(k,((0:Int),()))),(xs,()));simp[e7]
   exact(congrArg (bO tQ) e.symm).trans this
  ·have hl:(e7 k i++xs.drop i).length=xs.length:=by simp[q'];omega
   have hg:(e7 k i++xs.drop i)[i]? =some xs[i]:=by rw[Fy (q' k i)];exact List.getElem?_eq_getElem hi
   have a1:IntKind.i64.wrap (k+4*(i:Int)+1)=k+4*(i:Int)+1:=ej (by omega) (by unfold dd at h1;omega)
   have a2:IntKind.i64.wrap (k+4*(i:Int)+1+1)=k+4*(i:Int)+2:=(ej (by omega) (by unfold dd at h1;omega)).trans (by omega)
   have fr:IntKind.i64.wrap (k+4*(i:Int)+2+1)=k+4*(i:Int)+3:=(ej (by omega) (by unfold dd at h1;omega)).trans (by omega)
   have qQ:IntKind.i64.wrap (k+4*(i:Int)+3+1)=k+4*((i+1:Nat):Int):=(ej (by omega) (by unfold dd at h1;omega)).trans (by omega)
   have t1:=k2 (k:=k+4*(i:Int)) (by omega) (by unfold dd at h1 ⊢;omega)
   have t2:=k2 (k:=k+4*(i:Int)+3) (by omega) (by unfold dd at h1 ⊢;omega)
   have hw:aF i:=by unfold aF;omega
   have M:=Fl (c:=vm (k+4*(i:Int))) (q' k i) hi;rw[<-Zw] at M;simp only[tQ,hl,ce hi,cond_true,t1,Option.bind_some,lu hi,hg,List.length_set,C1 (show i<(e7 k i++xs.drop i).length by omega),List.set_set,a1,a2,fr,qQ,t2,b' hw]
   refine congrArg some (congrArg Sum.inl ?_);rw[<-M];rfl
  ·have hl:(e7 k xs.length++xs.drop xs.length)=e7 k xs.length:=by simp
   simp only[tQ,hl,q',cU,cond_false]
 simp only[uJ,key,Option.bind_some]
theorem FE(a:Int):(a !=a)=false:=by simp
theorem WI(n:Nat)(k:Int)(h0:1<=k)(M:cj n)(h1:dd (k+3*(n:Int))):f112 ((e6 k n,(k,())),())=some ((k+3*(n:Int),()),()):=by
 have key:D_ ((e6 k n,(k,((0:Int),()))),())=some (.inr ((k+3*(n:Int),()),())):=by
  have:=rL (g:=ue) (fun i=>((e6 k n,(k+3*(i:Int),((i:Int),()))),())) n (b:=.inr ((k+3*(n:Int),()),())) (fun i hi=>?_) ?_
  ·have e:((e6 k n,(k+3*((0:Nat):Int),(((0:Nat):Int),()))),())=(((e6 k n,(k,((0:Int),()))),()):tU.H):=by
    show((e6 k n,(k+3*((0:Nat):Int),(((0:Nat):Int),()))),())=((e6 k n,(k,((0:Int),()))),());simp
   exact(congrArg (bO ue) e.symm).trans this
  ·have a1:IntKind.i64.wrap (k+3*(i:Int)+1)=k+3*(i:Int)+1:=ej (by omega) (by unfold dd at h1;omega)
   have a2:IntKind.i64.wrap (k+3*(i:Int)+1+1)=k+3*(i:Int)+2:=(ej (by omega) (by unfold dd at h1;omega)).trans (by omega)
   have fr:IntKind.i64.wrap (k+3*(i:Int)+2+1)=k+3*((i+1:Nat):Int):=(ej (by omega) (by unfold dd at h1;omega)).trans (by omega)
   have t1:=k2 (k:=k+3*(i:Int)) (by omega) (by unfold dd at h1 ⊢;omega)
   have t2:=k2 (k:=k+3*(i:Int)+2) (by omega) (by unfold dd at h1 ⊢;omega)
   have hw:aF i:=by unfold aF;omega
   simp only[ue,q_,ce hi,cond_true,b0,_5 hi,vl,t1,t2,Option.bind_some,beq_self_eq_true,Bool.not_true,cond_false,a1,a2,fr,FE,b' hw]
  ·simp only[ue,q_,cU,cond_false]
 simp only[f112,key,Option.bind_some]
theorem V1(n:Nat)(k:Int)(h0:1<=k)(M:cj n)(h1:dd (k+4*(n:Int))):f19 ((e7 k n,(k,())),())=some ((k+4*(n:Int),()),()):=by
 have key:E3 ((e7 k n,(k,((0:Int),()))),())=some (.inr ((k+4*(n:Int),()),())):=by
  have:=rL (g:=uq) (fun i=>((e7 k n,(k+4*(i:Int),((i:Int),()))),())) n (b:=.inr ((k+4*(n:Int),()),())) (fun i hi=>?_) ?_
  ·have e:((e7 k n,(k+4*((0:Nat):Int),(((0:Nat):Int),()))),())=(((e7 k n,(k,((0:Int),()))),()):uk.H):=by
    show((e7 k n,(k+4*((0:Nat):Int),(((0:Nat):Int),()))),())=((e7 k n,(k,((0:Int),()))),());simp
   exact(congrArg (bO uq) e.symm).trans this
  ·have a1:IntKind.i64.wrap (k+4*(i:Int)+1)=k+4*(i:Int)+1:=ej (by omega) (by unfold dd at h1;omega)
   have a2:IntKind.i64.wrap (k+4*(i:Int)+1+1)=k+4*(i:Int)+2:=(ej (by omega) (by unfold dd at h1;omega)).trans (by omega)
   have fr:IntKind.i64.wrap (k+4*(i:Int)+2+1)=k+4*(i:Int)+3:=(ej (by omega) (by unfold dd at h1;omega)).trans (by omega)
   have qQ:IntKind.i64.wrap (k+4*(i:Int)+3+1)=k+4*((i+1:Nat):Int):=(ej (by omega) (by unfold dd at h1;omega)).trans (by omega)
   have t1:=k2 (k:=k+4*(i:Int)) (by omega) (by unfold dd at h1 ⊢;omega)
   have t2:=k2 (k:=k+4*(i:Int)+3) (by omega) (by unfold dd at h1 ⊢;omega)
   have hw:aF i:=by unfold aF;omega
   simp only[uq,q',ce hi,cond_true,b0,_6 hi,vm,t1,t2,Option.bind_some,beq_self_eq_true,Bool.not_true,cond_false,a1,a2,fr,qQ,FE,b' hw]
  ·simp only[uq,q',cU,cond_false]
 simp only[f19,key,Option.bind_some]
def jo(p:aK):Int:=2+3*(p.bb.length:Int)+4*(p.bu.length:Int)
noncomputable def qd(k:Int)(p:aK):aK:=⟨mt k,mt (k+1),e6 (k+2) p.bb.length,e7 (k+2+3*(p.bb.length:Int)) p.bu.length⟩
noncomputable def e5:Int->List aK->List aK
 |_,[]=>[]
 |k,p::r=>qd k p::e5 (k+jo p) r
def dF:Int->List aK->Int
 |k,[]=>k
 |k,p::r=>dF (k+jo p) r
theorem adH(p:aK):2<=jo p:=by unfold jo;omega
theorem rs:∀(ps:List aK) (k:Int),k<=dF k ps:=by
 intro ps;induction ps with
 |nil=>intro k;exact Int.le_refl _
 |cons p r ih=>intro k;have h1:=ih (k+jo p);have h2:=adH p;show k<=dF (k+jo p) r;omega
theorem C':∀(ps ma:List aK) (k:Int),dF k (ps++ma)=dF (dF k ps) ma:=by
 intro ps;induction ps with
 |nil=>intro ma k;rfl
 |cons p r ih=>intro ma k;exact ih ma _
theorem _4:∀(ps ma:List aK) (k:Int),e5 k (ps++ma)=e5 k ps++e5 (dF k ps) ma:=by
 intro ps;induction ps with
 |nil=>intro ma k;rfl
 |cons p r ih=>intro ma k;exact congrArg (qd k p:: ·) (ih ma _)
theorem xp:∀(ps:List aK) (k:Int),(e5 k ps).length=ps.length:=by
 intro ps;induction ps with
 |nil=>intro k;rfl
 |cons p r ih=>intro k;simp[e5,ih]
theorem _3:∀{ps:List aK} {k:Int} {i:Nat} {p:aK},ps[i]? =some p->(e5 k ps)[i]? =some (qd (dF k (ps.take i)) p):=by
 intro ps;induction ps with
 |nil=>intro k i p h;simp at h
 |cons q r ih=>
  intro k i p h;cases i with
  |zero=>
   simp only[List.getElem?_cons_zero,Option.some.injEq] at h;subst h;rfl
  |succ i=>
   simp only[List.getElem?_cons_succ] at h;show(qd k q::e5 (k+jo q) r)[i+1]? =_;rw[List.getElem?_cons_succ,ih h];rfl
theorem MW:∀{ps:List aK} {k:Int},(∀p,p∈ps->cj p.bb.length/\cj p.bu.length)->dF k ps<=k+16777216*(ps.length:Int):=by
 intro ps;induction ps with
 |nil=>intro k _;show k<=_;simp
 |cons p r ih=>
  intro k h;obtain⟨h1,h2⟩:=h p List.mem_cons_self;have aa:=ih (k:=k+jo p) fun q ay=>h q (List.mem_cons_of_mem _ ay)
  show dF (k+jo p) r<=_;have h1:p.bb.length<=2097152:=h1;have h2:p.bu.length<=2097152:=h2;unfold jo at*;simp only[List.length_cons];omega
theorem MV{ps:List aK}(hb:eu ps):dd (dF 1 ps):=by
 have h:=MW (ps:=ps) (k:=1) fun p aj=>⟨(hb.2 p aj).2.2.1.1,(hb.2 p aj).2.2.2.1⟩
 have hl:ps.length<=2097152:=hb.1;unfold dd;omega
theorem Eu{aD:Type}{xs:List aD}{i:Nat}{x:aD}(h:xs[i]? =some x):xs.take (i+1)=xs.take i++[x]:=by
 rw[List.take_add_one,h];rfl
theorem Lf{ps:List aK}{k:Int}{i:Nat}{p:aK}(h:ps[i]? =some p):dF k (ps.take i)+jo p<=dF k ps:=by
 have e:ps=ps.take i++(p::ps.drop (i+1)):=by
  obtain⟨hi,hx⟩:=List.getElem?_eq_some_iff.1 h;rw[<-hx,List.getElem_cons_drop,List.take_append_drop]
 have:dF k ps=dF (dF k (ps.take i)) (p::ps.drop (i+1)):=by
  rw[<-C',<-e]
 rw[this];exact rs _ _
theorem WD(xs:List aK)(k:Int)(h0:1<=k)(M:eu xs)(h1:dd (dF k xs)):zO (((),(k,())),(xs,()))=some (((),(dF k xs,())),(e5 k xs,())):=by
 have key:CT (((),(k,((0:Int),()))),(xs,()))=some (((),(dF k xs,())),(e5 k xs,())):=by
  have:=rL (g:=tP) (fun i=>(((),(dF k (xs.take i),((i:Int),()))),(e5 k (xs.take i)++xs.drop i,()))) xs.length (b:=(((),(dF k xs,())),(e5 k xs,()))) (fun i hi=>?_) ?_
  ·have e:(((),(dF k (xs.take 0),(((0:Nat):Int),()))),(e5 k (xs.take 0)++xs.drop 0,()))=((((),(k,((0:Int),()))),(xs,())):tI.H):=by
    show(((),(dF k (xs.take 0),(((0:Nat):Int),()))),(e5 k (xs.take 0)++xs.drop 0,()))=(((),(k,((0:Int),()))),(xs,()));simp[e5,dF]
   exact(congrArg (bO tP) e.symm).trans this
  ·have hlen:xs.length<=2097152:=M.1;have hx:xs[i]? =some xs[i]:=List.getElem?_eq_getElem hi;obtain⟨_,_,bR,jt⟩:=M.2 xs[i] (List.getElem_mem hi);have hm:=Lf (k:=k) hx;have mW:=rs (xs.take i) k;obtain⟨eo,hkk⟩:∃eo,dF k (xs.take i)=eo:=⟨_,rfl⟩;have kj:(e5 k (xs.take i)).length=i:=by rw[xp,List.length_take];omega
   have hl:(e5 k (xs.take i)++xs.drop i).length=xs.length:=by simp[kj];omega
   have hg:(e5 k (xs.take i)++xs.drop i)[i]? =some xs[i]:=by rw[Fy kj];exact hx
   have k4:=Fl (c:=qd eo xs[i]) kj hi;have ajW:e5 k (xs.take (i+1))=e5 k (xs.take i)++[qd eo xs[i]]:=by rw[Eu hx,_4,hkk];rfl
   have hne:dF k (xs.take (i+1))=eo+jo xs[i]:=by rw[Eu hx,C',hkk];rfl
   rw[<-ajW] at k4;rw[hkk] at hm mW;rw[hkk];unfold dd at h1;have c1:(1:Int)<=eo:=by omega
   unfold jo at hm hne;have a1:IntKind.i64.wrap (eo+1)=eo+1:=ej (by omega) (by omega)
   have a2:IntKind.i64.wrap (eo+1+1)=eo+2:=(ej (by omega) (by omega)).trans (by omega)
   have t1:=k2 (k:=eo) c1 (by unfold dd;omega)
   have t2:=k2 (k:=eo+1) (by omega) (by unfold dd;omega)
   have hw:aF i:=by unfold aF;omega
   have q1:=JI xs[i].bb (eo+2) (by omega) bR.1 (by unfold dd;omega)
   have q2:=Jv xs[i].bu (eo+2+3*(xs[i].bb.length:Int)) (by omega) jt.1 (by unfold dd;omega)
   simp only[tP,hl,ce hi,cond_true,t1,Option.bind_some,lu hi,hg,List.length_set,C1 (show i<(e5 k (xs.take i)++xs.drop i).length by omega),List.set_set,a1,a2,t2,q1,q2,b' hw]
   refine congrArg some (congrArg Sum.inl ?_);rw[hne,<-k4];have bK:eo+2+3*(xs[i].bb.length:Int)+4*(xs[i].bu.length:Int)=eo+(2+3*(xs[i].bb.length:Int)+4*(xs[i].bu.length:Int)):=by omega
   rw[bK];rfl
  ·have e1:xs.take xs.length=xs:=List.take_length;have hl:(e5 k xs++xs.drop xs.length)=e5 k xs:=by simp
   simp only[tP,e1,hl,xp,cU,cond_false]
 simp only[zO,key,Option.bind_some]
theorem Kb(xs:List aK)(M:eu xs):nH ((((),()),((1:Int),())),(xs,()))=some ((((),()),(dF 1 xs,())),(e5 1 xs,())):=by
 simp only[nH,WD xs 1 (Int.le_refl _) M (MV M),Option.bind_some]
theorem WH(xs:List aK)(k:Int)(h0:1<=k)(M:eu xs)(h1:dd (dF k xs)):f68 ((e5 k xs,(k,())),())=some ((dF k xs,()),()):=by
 have key:EV ((e5 k xs,(k,((0:Int),()))),())=some (.inr ((dF k xs,()),())):=by
  have:=rL (g:=zh) (fun i=>((e5 k xs,(dF k (xs.take i),((i:Int),()))),())) xs.length (b:=.inr ((dF k xs,()),())) (fun i hi=>?_) ?_
  ·exact this
  ·have hlen:xs.length<=2097152:=M.1;have hx:xs[i]? =some xs[i]:=List.getElem?_eq_getElem hi;obtain⟨_,_,bR,jt⟩:=M.2 xs[i] (List.getElem_mem hi);have hm:=Lf (k:=k) hx;have mW:=rs (xs.take i) k;have Tv:=_3 (k:=k) hx;obtain⟨eo,hkk⟩:∃eo,dF k (xs.take i)=eo:=⟨_,rfl⟩;have hne:dF k (xs.take (i+1))=eo+jo xs[i]:=by rw[Eu hx,C',hkk];rfl
   rw[hkk] at hm mW Tv;rw[hkk];unfold dd at h1;have c1:(1:Int)<=eo:=by omega
   unfold jo at hm hne;have a1:IntKind.i64.wrap (eo+1)=eo+1:=ej (by omega) (by omega)
   have a2:IntKind.i64.wrap (eo+1+1)=eo+2:=(ej (by omega) (by omega)).trans (by omega)
   have t1:=k2 (k:=eo) c1 (by unfold dd;omega)
   have t2:=k2 (k:=eo+1) (by omega) (by unfold dd;omega)
   have hw:aF i:=by unfold aF;omega
   have q1:=WI xs[i].bb.length (eo+2) (by omega) bR.1 (by unfold dd;omega)
   have q2:=V1 xs[i].bu.length (eo+2+3*(xs[i].bb.length:Int)) (by omega) jt.1 (by unfold dd;omega)
   have d1:decide (eo+2+3*(xs[i].bb.length:Int)<0)=false:=decide_eq_false (by omega)
   have d2:decide (eo+2+3*(xs[i].bb.length:Int)+4*(xs[i].bu.length:Int)<0)=false:=decide_eq_false (by omega)
   simp only[zh,xp,ce hi,cond_true,b0,Tv,qd,t1,t2,Option.bind_some,beq_self_eq_true,Bool.not_true,cond_false,a1,a2,q1,q2,d1,d2,b' hw];refine congrArg some (congrArg Sum.inl ?_);rw[hne];have bK:eo+2+3*(xs[i].bb.length:Int)+4*(xs[i].bu.length:Int)=eo+(2+3*(xs[i].bb.length:Int)+4*(xs[i].bu.length:Int)):=by omega
   rw[bK]
  ·have e1:xs.take xs.length=xs:=List.take_length;simp only[zh,xp,cU,cond_false,e1]
 simp only[f68,key,Option.bind_some]
theorem Xo(xs:List aK)(M:eu xs):f31 (((e5 1 xs,()),((1:Int),())),())=some ((dF 1 xs,()),()):=by
 have Y:decide (dF 1 xs<0)=false:=decide_eq_false (by have:=rs xs 1;omega)
 simp only[f31,WH xs 1 (Int.le_refl _) M (MV M),Option.bind_some,Y,cond_false]
abbrev dW(s:al):Prop:=s.length<=200
abbrev ak7(e:a5):Prop:=dW e.path/\dW e.text
theorem _f(a)(h:cj a.1.1.length):f156 a=some (((),()),(a.1.1,())):=by
 obtain⟨⟨t,u⟩,bF⟩:=a;have h:t.length<=2097152:=h;simp only[f156,gC (show(48:Nat)<=100 by decide) (show aF (([]:List a5).length+t.length) by unfold aF;simp;omega),List.nil_append,Option.bind_some]
abbrev mZ(p:aK):Prop:=li p/\p.a8.length<=2097151/\∀n,n∈p.bb->n.a8.length<=2097151
abbrev jn(k:Nat)(ps:List aK):Prop:=ps.length<=k/\∀p,p∈ps->mZ p
theorem jn.lo{k:Nat}{ps:List aK}(h:jn k ps)(ag:k<=2097152):eu ps:=⟨Nat.le_trans h.1 ag,fun p aj=>(h.2 p aj).1⟩
theorem jn.vs{k:Nat}{ps:List aK}(h:jn k ps):ni ps:=fun p aj=>(h.2 p aj).2
abbrev ak6(n:dr):Prop:=dW n.name/\dW n.a8
def adW(s:al):Bool:=!(s==[102,114,101,115,104])&&!(s==[110,111,98,111,100,121,115])
abbrev alf(s:al):Prop:=dW s/\adW s=true
abbrev Ij(p:aK):Prop:=alf p.name/\dW p.a8/\(p.bb.length<=3/\∀n,n∈p.bb->ak6 n)/\(p.bu.length<=17/\∀e,e∈p.bu->ak7 e)
theorem Ij.ok{p:aK}(h:Ij p):mZ p:=by
 obtain⟨a,b,⟨c1,c2⟩,d1,d2⟩:=h;have up:∀{s:al},dW s->cj s.length:=fun h=>Nat.le_trans h (by decide)
 exact⟨⟨up a.1,up b,⟨Nat.le_trans c1 (by decide),fun n hn=>⟨up (c2 n hn).1,up (c2 n hn).2⟩⟩,Nat.le_trans d1 (by decide),fun e he=>⟨up (d2 e he).1,up (d2 e he).2⟩⟩,Nat.le_trans b (by decide),fun n hn=>Nat.le_trans (c2 n hn).2 (by decide)⟩
noncomputable abbrev ahy:bq:=[(85,Iq)]
theorem ahU:a9 Z (bm ap ahy):=bz ⟨R_,⟨⟩⟩
abbrev i105:Shape:=⟨[cg 0 [bi .pack],aV 1 .pack],[],15⟩
abbrev Qp:Shape:=⟨[bf 4 4 0,ae 5],[be 4 [bi .pack]],15⟩
noncomputable def f105(a:i105.H):Option Qp.H:=
(f85 ((a.1.2.1,()),())).bind fun b=>
 bif(b.1.1 !=(0:Int)) then
 some (((),b.1.1,()),(a.1.1.1,()),())
else
 some (((),(0:Int),()),(a.1.2.1,()),())
noncomputable def Ak:aU:=ba ap Tryz.f105 i105 Qp [] f105
theorem FN:a4 Z 105 Ak:=bc ahU Tryz.func105 (by kernel_rfl) ar (fun y=>by kernel_rfl) fun a=>by kernel_rfl
noncomputable abbrev ahx:bq:=[(156,GO)]
theorem ahT:a9 Z (bm ap ahx):=bz ⟨Pc,⟨⟩⟩
abbrev i107:Shape:=⟨[cg 0 [a6,a6,bi .need,bi .entry]],[],13⟩
abbrev Qn:Shape:=⟨[bf 2 2 0],[eX 5000130 .need 2 2,eX 5000131 .entry 2 3,be 2 [a6,a6,.own 5000130,.own 5000131]],13⟩
noncomputable def f107(a:i107.H):Option Qn.H:=
(dv 40 ([]:List dr) a.1.1.2.2.1).bind fun b=>
(f156 ((a.1.1.2.2.2.1,()),())).bind fun c=>
 some (((),()),b,c.2.1,(a.1.1.1,a.1.1.2.1,(),(),()),())
noncomputable def GX:aU:=ba ap Tryz.f107 i107 Qn [] f107
theorem Pl:a4 Z 107 GX:=bc ahT Tryz.func107 (by kernel_rfl) ar (fun y=>by kernel_rfl) fun a=>by kernel_rfl
noncomputable abbrev ahs:bq:=[(107,GX)]
theorem R1:a9 Z (bm ap ahs):=bz ⟨Pl,⟨⟩⟩
abbrev x4:Shape:=⟨[aV 0 .pack,bf 3 3 0,b3 4 3000256,ae 5],[be 3 [a6,a6,bi .need,bi .entry],ci 3000256 .pack 4 0],35⟩
abbrev DE:List bg:=[(.exit 0,⟨[aV 0 .pack,bf 3 3 0,b3 4 3000256,ae 5],[be 3 [a6,a6,bi .need,bi .entry],ci 3000256 .pack 4 0],35⟩)]
noncomputable def ud(y:x4.H):cy x4 DE:=
 bif(decide (y.1.2.2.2.1<(y.1.1.length:Int))) then
(bl y.1.1 y.1.2.2.2.1).bind fun a=>
 bif(Op.bytesLess a.name y.2.1.1) then
 some (.inl ((y.1.1,(),(),(IntKind.i64.wrap (y.1.2.2.2.1+(1:Int))),()),(y.2.1.1,y.2.1.2.1,y.2.1.2.2.1,y.2.1.2.2.2.1,()),y.2.2.1,()))
else
 some (.inr ((y.1.1,(),(),y.1.2.2.2.1,()),(y.2.1.1,y.2.1.2.1,y.2.1.2.2.1,y.2.1.2.2.2.1,()),y.2.2.1,()))
else
 some (.inr ((y.1.1,(),(),y.1.2.2.2.1,()),(y.2.1.1,y.2.1.2.1,y.2.1.2.2.1,y.2.1.2.2.2.1,()),y.2.2.1,()))
noncomputable def ya:x4.H->Option (aQ DE):=bO ud
theorem abw:bw Z (aI (codeOf Tryz.f115) 1 28) (bJ x4 DE ya):=cD R1 (by kernel_rfl) ar fun y=>by kernel_rfl
abbrev i115:Shape:=⟨[aV 0 .pack,cg 1 [a6,a6,bi .need,bi .entry]],[],35⟩
abbrev Qg:Shape:=⟨[b3 4 3000256],[ci 3000256 .pack 4 0],35⟩
noncomputable def f115(a:i115.H):Option Qg.H:=
(ya ((a.1.1,(),(),(0:Int),()),(a.1.2.1.1,a.1.2.1.2.1,a.1.2.1.2.2.1,a.1.2.1.2.2.2.1,()),([]:List aK),())).bind fun b=>
(dy b.1.1 (0:Int) b.1.2.2.2.1).bind fun c=>
(dv 80 ([]:List aK) c).bind fun d=>
(f107 (((b.2.1.1,b.2.1.2.1,b.2.1.2.2.1,b.2.1.2.2.2.1,()),()),())).bind fun e=>
(dv 80 d ([(aK.mk e.2.2.2.1.1 e.2.2.2.1.2.1 e.2.1 e.2.2.1)]:List aK)).bind fun f=>
(dy b.1.1 b.1.2.2.2.1 (b.1.1.length:Int)).bind fun g=>
(dv 80 f g).bind fun h=>
 some (((),()),h,())
noncomputable def GU:aU:=ba ap Tryz.f115 i115 Qg [] f115
theorem Ph:a4 Z 115 GU:=bc R1 Tryz.func115 (by kernel_rfl) (bN abw ar) (fun y=>by kernel_rfl) fun a=>by kernel_rfl
noncomputable abbrev alC:bq:=[(107,GX)]
theorem UA:a9 Z (bm ap alC):=bz ⟨Pl,⟨⟩⟩
abbrev yY:Shape:=⟨[bf 1 1 0,bf 2 2 0,bf 3 3 0,ae 4],[be 1 [bi .pack],eX 5000128 .pack 2 0,be 2 [.own 5000128],eX 5000192 .pack 3 0,be 3 [.own 5000192]],25⟩
abbrev ED:List bg:=[(.exit 0,⟨[bf 2 2 0,bf 3 3 0],[eX 5000128 .pack 2 0,be 2 [.own 5000128],eX 5000192 .pack 3 0,be 3 [.own 5000192]],25⟩)]
noncomputable def zj(y:yY.H):cy yY ED:=
 bif(decide (y.1.2.2.2.1<(y.2.1.1.length:Int))) then
(bl y.2.1.1 y.1.2.2.2.1).bind fun a=>
(f107 (((a.name,a.a8,a.bb,a.bu,()),()),())).bind fun b=>
(dv 80 y.2.2.2.2.1 ([(aK.mk b.2.2.2.1.1 b.2.2.2.1.2.1 b.2.1 b.2.2.1)]:List aK)).bind fun c=>
 some (.inl (((),(),(),(IntKind.i64.wrap (y.1.2.2.2.1+(1:Int))),()),(y.2.1.1,()),y.2.2.1,((),()),c,((),()),()))
else
 some (.inr (((),(),()),y.2.2.1,((),()),y.2.2.2.2.1,((),()),()))
noncomputable def EX:yY.H->Option (aQ ED):=bO zj
theorem acI:bw Z (aI (codeOf Tryz.f62) 1 58) (bJ yY ED EX):=cD UA (by kernel_rfl) ar fun y=>by kernel_rfl
abbrev i62:Shape:=⟨[cg 0 [bi .pack]],[],25⟩
abbrev SL:Shape:=⟨[bf 2 2 0],[eX 5000128 .pack 2 0,be 2 [.own 5000128]],25⟩
noncomputable def f62(a:i62.H):Option SL.H:=
(EX (((),(),(),(0:Int),()),(a.1.1.1,()),([]:List aK),((),()),([]:List aK),((),()),())).bind fun b=>
 some (((),()),b.2.2.2.1,((),()),())
noncomputable def Ba:aU:=ba ap Tryz.f62 i62 SL [] f62
theorem G_:a4 Z 62 Ba:=bc UA Tryz.func62 (by kernel_rfl) (bN acI ar) (fun y=>by kernel_rfl) fun a=>by kernel_rfl
noncomputable abbrev alv:bq:=[(98,A9),(104,u_),(105,Ak),(115,GU)]
theorem al5:a9 Z (bm ap alv):=bz ⟨G7,zZ,FN,Ph,⟨⟩⟩
abbrev i71:Shape:=⟨[cg 0 [bi .pack],cg 1 [a6,a6,bi .need,bi .entry]],[],27⟩
abbrev SE:Shape:=⟨[bf 4 4 0,ae 5],[be 4 [bi .pack]],27⟩
noncomputable def f71(a:i71.H):Option SE.H:=
(f98 (((a.1.2.1.1,a.1.2.1.2.1,a.1.2.1.2.2.1,a.1.2.1.2.2.2.1,()),()),())).bind fun b=>
 bif(!b.1.1) then
 some (((),(1:Int),()),(a.1.1.1,()),())
else
(f104 ((a.1.1.1,a.1.2.1.1,()),())).bind fun c=>
 bif(decide (c.1.1>=(0:Int))) then
 some (((),(2:Int),()),(a.1.1.1,()),())
else
(f115 ((a.1.1.1,(a.1.2.1.1,a.1.2.1.2.1,a.1.2.1.2.2.1,a.1.2.1.2.2.2.1,()),()),())).bind fun d=>
(f105 (((a.1.1.1,()),d.2.1,()),())).bind fun e=>
 some (((),e.1.2.1,()),(e.2.1.1,()),())
noncomputable def T5:aU:=ba ap Tryz.f71 i71 SE [] f71
theorem ah8:a4 Z 71 T5:=bc al5 Tryz.func71 (by kernel_rfl) ar (fun y=>by kernel_rfl) fun a=>by kernel_rfl
theorem YE(a)(hb:eu a.1.1)(hv:ni a.1.1):f85 a=some ((fG a.1.1,()),()):=by
 obtain⟨⟨ps,u⟩,bF⟩:=a;have hl:ps.length<=2097152:=hb.1;have key:y8 ((ps,((0:Int),())),())=some (bif allI (sO ps) 0 ps then .inr ((ps,()),()) else .inl (((1:Int),()),())):=by
  refine fD pM ps (fun i=>((ps,((i:Int),())),())) _ _ _ (fun i x hx=>?_) ?_
  ·have hi:=cc hx;have hw:aF i:=by unfold aF;omega
   have vX:=hb.2 x (List.mem_of_getElem? hx);simp only[pM,ce hi,cond_true,yg,b0,hx,Option.bind_some];rw[CF _ vX];simp only[Option.bind_some,sO,Af];cases dE x with
   |false=>rfl
   |true=>
    simp only[Bool.not_true,cond_false,Bool.true_and,mE];cases i with
    |zero=>simp only[beq_self_eq_true,Bool.not_true,cond_false,Option.bind_some,Bool.true_or,cond_true,b' hw]
    |succ i=>
     have h0:(i+1==0)=false:=rfl;have hV:i<ps.length:=by omega
     obtain⟨q,ay⟩:∃q,ps[i]? =some q:=⟨ps[i],List.getElem?_eq_getElem hV⟩;simp only[h0,Bool.not_false,cond_true,tz (i:=i) (by unfold aF;omega),b0,ay,hx,Option.bind_some,Bool.false_or,Nat.add_sub_cancel]
     cases Op.bytesLess q.name x.name with
     |false=>rfl
     |true=>simp only[Bool.not_true,cond_false,cond_true,b' hw]
  ·simp only[pM,cU,cond_false]
 rw[MI] at key;have bD:decide ((ps.length:Int)>5)=!decide (ps.length<=5):=by by_cases h:ps.length<=5<;>simp only[h,decide_true,decide_false,Bool.not_true,Bool.not_false,decide_eq_true_eq,decide_eq_false_iff_not]<;>omega
 simp only[f85,key,Option.bind_some,fG];cases hA:(ps.all dE&&kb ps) with
 |false=>rfl
 |true=>
  have ag:ps.all dE=true:=by simp only[Bool.and_eq_true] at hA;exact hA.1
  obtain⟨out,aE⟩:=Ls ((ps,()),()) hb ag;have hn:=KF ((ps,()),()) hb hv;simp only[cond_true,Option.bind_some,aE,bD];cases decide (ps.length<=5) with
  |false=>rfl
  |true=>
   simp only[Bool.not_true,cond_false,hn,Option.bind_some];cases ps.all (fun p=>p.bb.all (hP ps))<;>cases (fe [] ps).isSome<;>rfl
theorem Lt(a)(h:li ⟨a.1.1.1,a.1.1.2.1,a.1.1.2.2.1,a.1.1.2.2.2.1⟩):f107 a=some (((),()),(a.1.1.2.2.1,(a.1.1.2.2.2.1,((a.1.1.1,(a.1.1.2.1,((),((),())))),())))):=by
 obtain⟨⟨⟨name,a8,bb,bu,u⟩,bF⟩,iH⟩:=a;have h1:bb.length<=2097152:=h.2.2.1.1;have h2:=_f ((bu,()),()) h.2.2.2.1;simp only[f107,gC (show(40:Nat)<=100 by decide) (show aF (([]:List dr).length+bb.length) by unfold aF;simp;omega),List.nil_append,Option.bind_some,h2]
def cR(ps:List aK)(n:al):Nat:=(ps.takeWhile fun p=>Op.bytesLess p.name n).length
theorem x8(ps:List aK)(n:al):cR ps n<=ps.length:=(List.takeWhile_prefix _).length_le
def ft(ps:List aK)(p:aK):List aK:=ps.take (cR ps p.name)++[p]++ps.drop (cR ps p.name)
theorem Yv(ps:List aK)(p:aK):(ft ps p).length=ps.length+1:=by
 have:=x8 ps p.name;unfold ft;simp only[List.length_append,List.length_take,List.length_drop,List.length_cons,List.length_nil];omega
theorem KD{ps:List aK}{p x:aK}(h:x∈ft ps p):x=p\/x∈ps:=by
 unfold ft at h;simp only[List.mem_append,List.mem_singleton] at h;rcases h with(h|h)|h
 ·exact .inr (List.mem_of_mem_take h)
 ·exact .inl h
 ·exact .inr (List.mem_of_mem_drop h)
theorem CC{k:Nat}{ps:List aK}{p:aK}(h:jn k ps)(aj:mZ p):jn (k+1) (ft ps p):=
 ⟨by rw[Yv];exact Nat.succ_le_succ h.1,fun x hx=>by
  rcases KD hx with rfl|hx
  ·exact aj
  ·exact h.2 x hx⟩
theorem _a(a)(h1:a.1.1.length<=2097151)(aj:li ⟨a.1.2.1.1,a.1.2.1.2.1,a.1.2.1.2.2.1,a.1.2.1.2.2.2.1⟩):f115 a=some (((),()),(ft a.1.1 ⟨a.1.2.1.1,a.1.2.1.2.1,a.1.2.1.2.2.1,a.1.2.1.2.2.2.1⟩,())):=by
 obtain⟨⟨ps,⟨name,a8,bb,bu,jp⟩,u⟩,bF⟩:=a;have h1:ps.length<=2097151:=h1;have key:∀(r:List aK) (k:Nat),ps.drop k=r->k<=ps.length->ya ((ps,((),((),((k:Int),())))),((name,(a8,(bb,(bu,())))),(([]:List aK),())))=
   some ((ps,((),((),(((k+(r.takeWhile fun p=>Op.bytesLess p.name name).length:Nat):Int),())))),((name,(a8,(bb,(bu,())))),(([]:List aK),()))):=by
  intro r;induction r with
  |nil=>
   intro k hr ag;have:=drop_nil hr;obtain rfl:k=ps.length:=by omega
   refine eB ?_
   simp only[ud,cU,cond_false,List.takeWhile_nil,List.length_nil,Nat.add_zero]
  |cons q r ih=>
   intro k hr ag;obtain⟨c1,c2,c3⟩:=drop_cons hr;have hw:aF k:=by unfold aF;omega
   rw[List.takeWhile_cons];cases ay:Op.bytesLess q.name name with
   |false=>
    refine eB ?_
    simp only[ud,ce c3,cond_true,b0,c1,Option.bind_some,ay,cond_false];rfl
   |true=>
    have step:ud ((ps,((),((),((k:Int),())))),((name,(a8,(bb,(bu,())))),(([]:List aK),())))=some (.inl ((ps,((),((),(((k+1:Nat):Int),())))),((name,(a8,(bb,(bu,())))),(([]:List aK),())))):=by
     simp only[ud,ce c3,cond_true,b0,c1,Option.bind_some,ay,b' hw]
    refine Eq.trans (hk step) (Eq.trans (ih (k+1) c2 c3) ?_);simp only[if_true,List.length_cons];have e:k+1+(r.takeWhile fun p=>Op.bytesLess p.name name).length=k+((r.takeWhile fun p=>Op.bytesLess p.name name).length+1):=by omega
    rw[e]
 have key:=key ps 0 rfl (Nat.zero_le _);rw[Nat.zero_add] at key;have ag:(ps.takeWhile fun p=>Op.bytesLess p.name name).length=cR ps name:=rfl
 rw[ag] at key;have key:ya ((ps,((),((),((0:Int),())))),((name,(a8,(bb,(bu,())))),(([]:List aK),())))=_:=key;have c4:=x8 ps name;have e2:=Lt (((name,(a8,(bb,(bu,())))),()),()) aj;simp only[f115,key,Option.bind_some,pG c4,B' c4,e2];rw[gC (show(80:Nat)<=100 by decide) (by unfold aF;simp;omega)]
 simp only[List.nil_append,Option.bind_some];rw[gC (show(80:Nat)<=100 by decide) (by unfold aF;simp;omega)]
 simp only[Option.bind_some];rw[gC (show(80:Nat)<=100 by decide) (by unfold aF;simp;omega)]
 rfl
theorem aaJ(a)(hb:eu a.1.2.1)(hv:ni a.1.2.1):f105 a=some (((),(fG a.1.2.1,())),(((bif fG a.1.2.1==0 then a.1.2.1 else a.1.1.1),()),())):=by
 obtain⟨⟨⟨r,jp⟩,list,u⟩,bF⟩:=a;have e:=YE ((list,()),()) hb hv;simp only[f105,e,Option.bind_some];have z:(fG list !=0)=!(fG list==0):=rfl;rw[z];cases hc:(fG list==0) with
 |false=>rfl
 |true=>
  have hc:fG list=0:=by simpa using hc
  simp only[Bool.not_true,cond_false,cond_true];rw[hc]
def Th(ps:List aK)(p:aK):List aK×Int:=bif dE p then(match ps.find? (fun q=>q.name==p.name) with
 |some _=>(ps,2)
 |none=>(bif fG (ft ps p)==0 then ft ps p else ps,fG (ft ps p))) else(ps,1)
theorem _b(a)(h:eu a.1.1.1):f62 a=some (((),()),(a.1.1.1,(((),()),()))):=by
 obtain⟨⟨⟨ps,jp⟩,u⟩,bF⟩:=a;have hl:ps.length<=2097152:=h.1;have key:=w4 (S:=List aK) zj ps (fun i bd=>(((),((),((),((i:Int),())))),((ps,()),(([]:List aK),(((),()),(bd,(((),()),()))))))) (fun x bd=>bd++[x]) (fun bd=>(((),((),())),(([]:List aK),(((),()),(bd,(((),()),())))))) (fun i bd=>bd.length=i) [] rfl (fun i x bd hx cZ=>?_) (fun bd cZ=>?_)
 ·have key:EX (((),((),((),((0:Int),())))),((ps,()),(([]:List aK),(((),()),(([]:List aK),(((),()),()))))))=_:=key;have e:∀(l bd:List aK),l.foldl (fun s x=>s++[x]) bd=bd++l:=by
   intro l;induction l with
   |nil=>intro bd;simp
   |cons x l ih=>intro bd;simp only[List.foldl_cons];rw[ih];simp
  simp only[f62,key,Option.bind_some];rw[e];rfl
 ·have hi:=cc hx;have hw:aF i:=by unfold aF;omega
  have e2:=Lt (((x.name,(x.a8,(x.bb,(x.bu,())))),()),()) (h.2 x (List.mem_of_getElem? hx));have a3:dv 80 bd [x]=some (bd++[x]):=gC (by decide) (by unfold aF;simp;omega)
  simp only[zj,ce hi,cond_true,b0,hx,Option.bind_some,e2,a3,b' hw];exact⟨trivial,by simp[cZ]⟩
 ·simp only[zj,cU,cond_false]
abbrev TU(k:Nat)(ps:List aK):Prop:=ps.length<=k/\∀p,p∈ps->Ij p
theorem TU.ok{k:Nat}{ps:List aK}(h:TU k ps):jn k ps:=⟨h.1,fun p aj=>(h.2 p aj).ok⟩
def sE(t:List a5)(p:al):Option a5:=match t[bS t p]? with
 |some e=>bif e.path==p then some e else none
 |none=>none
theorem abQ{t:List a5}{p:al}{e:a5}(h:sE t p=some e):t[bS t p]? =some e/\e.path=p:=by
 unfold sE at h;cases aE:t[bS t p]? with
 |none=>rw[aE] at h;cases h
 |some x=>
  rw[aE] at h;cases hx:(x.path==p) with
  |false=>simp[hx] at h
  |true=>simp only[hx,cond_true,Option.some.injEq] at h;subst h;exact⟨rfl,eq_of_beq hx⟩
abbrev i12:Shape:=⟨[cg 0 [bi .pack]],[],16⟩
abbrev S':Shape:=⟨[b3 2 3000128],[ci 3000128 .entry 2 0],16⟩
noncomputable def f12(a:i12.H):Option S'.H:=
(f46 (((a.1.1.1,()),()),())).bind fun b=>
 bif(!b.1.1) then
 some (((),()),([]:List a5),())
else
(f51 ((a.1.1.1,()),())).bind fun c=>
 some (((),()),c.2.1,())
noncomputable def Um:aU:=ba ap Tryz.f12 i12 S' [] f12
abbrev i14:Shape:=⟨[cg 0 [bi .pack]],[],15⟩
abbrev Az:Shape:=⟨[b3 2 3000128],[ci 3000128 .entry 2 0],15⟩
noncomputable def f14(a:i14.H):Option Az.H:=
(f48 (((a.1.1.1,()),()),())).bind fun b=>
 bif(!b.1.1) then
 some (((),()),([]:List a5),())
else
(f52 ((a.1.1.1,()),())).bind fun c=>
 some (((),()),c.2.1,())
noncomputable def Ul:aU:=ba ap Tryz.f14 i14 Az [] f14
theorem acR{t:List a5}(a3:eW t){k:Nat}{e:a5}(h:t[k]? =some e):bS t e.path=k:=by
 have h1:=jy (p:=e.path) a3 k e h;have h2:Op.bytesLess e.path e.path=false:=oK _;rw[h1] at h2;have h2:¬k<bS t e.path:=of_decide_eq_false h2;rcases Nat.lt_or_ge (bS t e.path) k with aa|aa
 ·exfalso
  have aH:bS t e.path<t.length:=Nat.lt_trans aa (cc h);have bD:=List.getElem?_eq_getElem aH;have di:=jy (p:=e.path) a3 (bS t e.path) t[bS t e.path] bD;have hJ:Op.bytesLess (t[bS t e.path]).path e.path=true:=by
   have aj:=List.pairwise_iff_getElem.1 a3 (bS t e.path) k aH (cc h) aa;have:t[k]'(cc h)=e:=by
    have:=List.getElem?_eq_getElem (cc h);rw[h] at this;exact(Option.some.inj this).symm
   rw[this] at aj;exact aj
  rw[hJ] at di;have:=of_decide_eq_true di.symm;omega
 ·omega
theorem L9{t:List a5}(a3:eW t){p:al}{e:a5}:sE t p=some e <-> e∈t/\e.path=p:=by
 constructor
 ·intro h;obtain⟨h1,h2⟩:=abQ h;exact⟨List.mem_of_getElem? h1,h2⟩
 ·rintro⟨h1,rfl⟩;obtain⟨k,ag⟩:=List.mem_iff_getElem?.1 h1;have:=acR a3 ag;unfold sE;rw[this,ag];simp
theorem ada{a b:a5}(h:jP a b=true):a=b:=by
 unfold jP at h;simp only[Bool.and_eq_true,beq_iff_eq] at h;obtain⟨h1,h2,aa,aH⟩:=h;cases a;cases b;simp only at h1 h2 aa aH;subst h1 h2 aa aH;rfl
theorem L6{t:List a5}{k:Nat}{e x:a5}:x∈h6 t k e <-> x=e\/x∈t:=by
 constructor
 ·exact Co
 ·unfold h6;intro h;rcases h with rfl|h
  ·simp
  ·have:x∈t.take k++t.drop k:=by rw[List.take_append_drop];exact h
   simp only[List.mem_append,List.mem_singleton] at this ⊢;rcases this with h|h
   ·exact .inl (.inl h)
   ·exact .inr h
theorem _x{out D:List a5}{e:a5}(h:g4 out e=some D)(x:a5):x∈D <-> x=e\/x∈out:=by
 unfold g4 at h;split at h
 ·rename_i q ay;cases aj:(q.path==e.path) with
  |true=>
   rw[aj] at h;cases hc:lQ e q with
   |true=>rw[hc] at h;cases h
   |false=>
    rw[hc] at h;cases h;have:jP e q=true:=by
     unfold lQ at hc;simp only[Bool.or_eq_false_iff,Bool.not_eq_false'] at hc;exact hc.2
    have:=ada this;subst this;constructor
    ·exact .inr
    ·rintro(rfl|h)
     ·exact List.mem_of_getElem? ay
     ·exact h
  |false=>rw[aj] at h;cases h;exact L6
 ·cases h;exact L6
theorem aad:∀{es out D:List a5},gn out es=some D->∀x,x∈D <-> x∈out\/x∈es:=by
 intro es;induction es with
 |nil=>intro out D h x;simp only[gn,Option.some.injEq] at h;subst h;simp
 |cons e r ih=>
  intro out D h x;rw[tw] at h;obtain⟨o1,h1,h2⟩:=Option.bind_eq_some_iff.1 h;rw[ih h2,_x h1,List.mem_cons];constructor
  ·rintro((h|h)|h)
   ·exact .inr (.inl h)
   ·exact .inl h
   ·exact .inr (.inr h)
  ·rintro(h|h|h)
   ·exact .inl (.inr h)
   ·exact .inl (.inl h)
   ·exact .inr h
theorem YV:∀{ps:List aK} {out t:List a5},fe out ps=some t->∀x,x∈t <-> x∈out\/∃p,p∈ps/\x∈p.bu:=by
 intro ps;induction ps with
 |nil=>intro out t h x;simp only[fe,Option.some.injEq] at h;subst h;simp
 |cons p r ih=>
  intro out t h x;rw[wH] at h;obtain⟨D,h1,h2⟩:=Option.bind_eq_some_iff.1 h;rw[ih h2,aad (xj h1).2];constructor
  ·rintro((h|h)|⟨q,h,ab⟩)
   ·exact .inl h
   ·exact .inr ⟨p,List.mem_cons_self,h⟩
   ·exact .inr ⟨q,List.mem_cons_of_mem _ h,ab⟩
  ·rintro(h|⟨q,h,ab⟩)
   ·exact .inl (.inl h)
   ·rcases List.mem_cons.1 h with rfl|h
    ·exact .inl (.inr ab)
    ·exact .inr ⟨q,h,ab⟩
theorem YU:∀{ps:List aK} {out t:List a5},eC out=true->fe out ps=some t->eC t=true:=by
 intro ps;induction ps with
 |nil=>intro out t au h;simp only[fe,Option.some.injEq] at h;subst h;exact au
 |cons p r ih=>
  intro out t au h;rw[wH] at h;obtain⟨D,h1,h2⟩:=Option.bind_eq_some_iff.1 h;exact ih (xj h1).1 h2
structure tk(ps:List aK)(t:List a5):Prop where
 bu:fe [] ps=some t
 adU:ps.all dE=true
 ak0:ps.Pairwise fun p q=>Op.bytesLess p.name q.name=true
theorem adL{ps:List aK}(h:is ps=true):∃t,tk ps t:=by
 unfold is at h;simp only[Bool.and_eq_true] at h;obtain⟨⟨⟨⟨h1,h2⟩,aa⟩,aH⟩,bD⟩:=h;obtain⟨t,aE⟩:=Option.isSome_iff_exists.1 bD;exact⟨t,aE,h1,M1 h2⟩
section
variable {ps:List aK}{t:List a5}(R:tk ps t)
include R
theorem tk.ok:eC t=true:=YU (by rfl) R.bu
theorem tk.IJ{p:aK}(h:p∈ps):kU p.name=true/\eC p.bu=true:=by
 have:=List.all_eq_true.1 R.adU p h;unfold dE at this;simp only[Bool.and_eq_true] at this;exact⟨this.1.1.1,this.2⟩
theorem tk.amL{p:aK}(h:p∈ps):eW p.bu:=BQ (R.IJ h).2
theorem tk.up{p:aK}(h:p∈ps){path:al}{e:a5}(he:sE p.bu path=some e):sE t path=some e:=by
 obtain⟨aC,ao⟩:=(L9 (R.amL h)).1 he;exact(L9 (BQ R.ok)).2 ⟨(YV R.bu e).2 (.inr ⟨p,h,aC⟩),ao⟩
end
noncomputable abbrev ahw:bq:=[(110,GW)]
theorem ahS:a9 Z (bm ap ahw):=bz ⟨Pk,⟨⟩⟩
abbrev i109:Shape:=⟨[cg 0 [a6,a6,bi .need,bi .entry],bx 1],[],9⟩
abbrev Qm:Shape:=⟨[ae 4],[],9⟩
noncomputable def f109(a:i109.H):Option Qm.H:=
(f110 ((a.1.1.1,a.1.2.1,()),())).bind fun b=>
 some ((b.1.1,()),())
noncomputable def RM:aU:=ba ap Tryz.f109 i109 Qm [] f109
theorem afq:a4 Z 109 RM:=bc ahS Tryz.func109 (by kernel_rfl) ar (fun y=>by kernel_rfl) fun a=>by kernel_rfl
noncomputable abbrev adt:bq:=[(109,RM)]
theorem Of:a9 Z (bm ap adt):=bz ⟨afq,⟨⟩⟩
abbrev w1:Shape:=⟨[aV 0 .pack,bx 1,(2,.ai (.fn 109 [])),ae 8,ae 9,ae 10],[],49⟩
abbrev B9:List bg:=[(.exit 0,⟨[aV 0 .pack,bx 1,(2,.ai (.fn 109 [])),ae 8,ae 9],[],49⟩)]
noncomputable def xd(y:w1.H):cy w1 B9:=
 bif(decide (y.1.2.2.2.2.1<y.1.2.2.2.2.2.1)) then
(nK .u64 (IntKind.u64.wrap (IntKind.i64.wrap (y.1.2.2.2.2.1+y.1.2.2.2.2.2.1))) (1:Int)).bind fun a=>
(bl y.1.1 (IntKind.i64.wrap a)).bind fun b=>
(f109 (((b.name,b.a8,b.bb,b.bu,()),y.1.2.1,()),())).bind fun c=>
 bif(decide (c.1.1<(0:Int))) then
 some (.inl ((y.1.1,y.1.2.1,(),y.1.2.2.2.1,(IntKind.i64.wrap ((IntKind.i64.wrap a)+(1:Int))),y.1.2.2.2.2.2.1,()),()))
else
 some (.inl ((y.1.1,y.1.2.1,(),y.1.2.2.2.1,y.1.2.2.2.2.1,(IntKind.i64.wrap a),()),()))
else
 some (.inr ((y.1.1,y.1.2.1,(),y.1.2.2.2.1,y.1.2.2.2.2.1,()),()))
noncomputable def w6:w1.H->Option (aQ B9):=bO xd
theorem Zs:bw Z (aI (codeOf Tryz.f108) 1 60) (bJ w1 B9 w6):=cD Of (by kernel_rfl) ar fun y=>by kernel_rfl
abbrev NN:Shape:=⟨[aV 0 .pack,bx 1,(2,.ai (.fn 109 []))],[],49⟩
abbrev Nv:Shape:=⟨[ae 6,aY 7],[],49⟩
noncomputable def zv(a:NN.H):Option Nv.H:=
(w6 ((a.1.1,a.1.2.1,(),(a.1.1.length:Int),(0:Int),(a.1.1.length:Int),()),())).bind fun b=>
 bif(decide (b.1.2.2.2.2.1<b.1.2.2.2.1)) then
(bl b.1.1 b.1.2.2.2.2.1).bind fun c=>
(f109 (((c.name,c.a8,c.bb,c.bu,()),b.1.2.1,()),())).bind fun d=>
 some ((b.1.2.2.2.2.1,(d.1.1==(0:Int)),()),())
else
 some ((b.1.2.2.2.2.1,false,()),())
noncomputable def N_:aU:=ba ap Tryz.f108 NN Nv [] zv
theorem ack:a4 Z 108 N_:=bc Of Tryz.func108 (by kernel_rfl) (bN Zs ar) (fun y=>by kernel_rfl) fun a=>by kernel_rfl
abbrev i176:Shape:=⟨[aV 0 .need],[],8⟩
abbrev F3:Shape:=⟨[b3 2 3000128],[ci 3000128 .need 2 0],8⟩
noncomputable def f176(a:i176.H):Option F3.H:=
 ns (t:=.need) a.1.1 (some (((),()),([]:List dr),())) ((dv 40 ([]:List dr) a.1.1).bind fun b=>
 some (((),()),b,()))
noncomputable def Rt:aU:=ba ap Tryz.f176 i176 F3 [] f176
theorem ae7:a4 Z 176 Rt:=bc g0 Tryz.func176 (by kernel_rfl) ar (fun y=>by kernel_rfl) fun a=>by kernel_rfl
noncomputable abbrev ahu:bq:=[(159,GL),(176,Rt)]
theorem ahQ:a9 Z (bm ap ahu):=bz ⟨O',ae7,⟨⟩⟩
abbrev i111:Shape:=⟨[cg 0 [a6,a6,bi .need,bi .entry]],[],12⟩
abbrev Qk:Shape:=⟨[bf 2 2 0],[eX 5000130 .need 2 2,eX 5000131 .entry 2 3,be 2 [a6,a6,.own 5000130,.own 5000131]],12⟩
noncomputable def f111(a:i111.H):Option Qk.H:=
(f176 ((a.1.1.2.2.1,()),())).bind fun b=>
(f159 ((a.1.1.2.2.2.1,()),())).bind fun c=>
 some (((),()),b.2.1,c.2.1,(a.1.1.1,a.1.1.2.1,(),(),()),())
noncomputable def GV:aU:=ba ap Tryz.f111 i111 Qk [] f111
theorem Pj:a4 Z 111 GV:=bc ahQ Tryz.func111 (by kernel_rfl) ar (fun y=>by kernel_rfl) fun a=>by kernel_rfl
noncomputable abbrev alN:bq:=[(46,Bc),(62,Ba),(71,T5)]
theorem amg:a9 Z (bm ap alN):=bz ⟨Ha,G_,ah8,⟨⟩⟩
abbrev i33:Shape:=⟨[cg 0 [bi .pack],cg 1 [a6,a6,bi .need,bi .entry]],[],16⟩
abbrev SZ:Shape:=⟨[bf 4 4 0,ae 5],[be 4 [bi .pack]],16⟩
noncomputable def f33(a:i33.H):Option SZ.H:=
(f46 (((a.1.1.1,()),()),())).bind fun b=>
 bif(!b.1.1) then
 some (((),(1:Int),()),(([]:List aK),()),())
else
(f62 (((a.1.1.1,()),()),())).bind fun c=>
(f71 (((c.2.1,()),(a.1.2.1.1,a.1.2.1.2.1,a.1.2.1.2.2.1,a.1.2.1.2.2.2.1,()),()),())).bind fun d=>
 some (((),d.1.2.1,()),(d.2.1.1,()),())
noncomputable def Ue:aU:=ba ap Tryz.f33 i33 SZ [] f33
theorem aij:a4 Z 33 Ue:=bc amg Tryz.func33 (by kernel_rfl) ar (fun y=>by kernel_rfl) fun a=>by kernel_rfl
noncomputable abbrev alB:bq:=[(108,N_)]
theorem al7:a9 Z (bm ap alB):=bz ⟨ack,⟨⟩⟩
abbrev i63:Shape:=⟨[aV 0 .pack,bx 1],[],11⟩
abbrev SK:Shape:=⟨[ae 4,aY 5],[],11⟩
noncomputable def f63(a:i63.H):Option SK.H:=
(zv ((a.1.1,a.1.2.1,(),()),())).bind fun b=>
 some ((b.1.1,b.1.2.1,()),())
noncomputable def wc:aU:=ba ap Tryz.f63 i63 SK [] f63
theorem Aq:a4 Z 63 wc:=bc al7 Tryz.func63 (by kernel_rfl) ar (fun y=>by kernel_rfl) fun a=>by kernel_rfl
noncomputable abbrev alz:bq:=[(111,GV)]
theorem Uz:a9 Z (bm hd alz):=od ⟨Pj,⟨⟩⟩
abbrev yX:Shape:=⟨[b3 3 3000192,aV 6 .pack,ae 7,ae 8],[(3000192,.deep .pack,.slot 3 0)],19⟩
abbrev EC:List bg:=[(.exit 0,⟨[b3 3 3000192],[(3000192,.deep .pack,.slot 3 0)],19⟩)]
noncomputable def zi(y:yX.H):cy yX EC:=
 bif(decide (y.1.2.2.2.1<y.1.2.2.1)) then
(bl y.1.2.1 y.1.2.2.2.1).bind fun a=>
(f111 (((a.name,a.a8,a.bb,a.bu,()),()),())).bind fun b=>
(dv 80 y.2.1 ([(aK.mk b.2.2.2.1.1 b.2.2.2.1.2.1 b.2.1 b.2.2.1)]:List aK)).bind fun c=>
 some (.inl (((),y.1.2.1,y.1.2.2.1,(IntKind.i64.wrap (y.1.2.2.2.1+(1:Int))),()),c,()))
else
 some (.inr (((),()),y.2.1,()))
noncomputable def EW:yX.H->Option (aQ EC):=bO zi
theorem acH:bw Z (aI (codeOf Tryz.f65) 1 58) (bJ yX EC EW):=cD Uz (by kernel_rfl) ar fun y=>by kernel_rfl
abbrev i65:Shape:=⟨[aV 0 .pack],[],19⟩
abbrev SI:Shape:=⟨[b3 2 3000128],[(3000128,.deep .pack,.slot 2 0)],19⟩
noncomputable def f65(a:i65.H):Option SI.H:=
(EW (((),a.1.1,(a.1.1.length:Int),(0:Int),()),([]:List aK),())).bind fun b=>
 some (((),()),b.2.1,())
noncomputable def A':aU:=ba hd Tryz.f65 i65 SI [] f65
theorem G9:a4 Z 65 A':=bc Uz Tryz.func65 (by kernel_rfl) (bN acH ar) (fun y=>by kernel_rfl) fun a=>by kernel_rfl
noncomputable abbrev alA:bq:=[(65,A')]
theorem al6:a9 Z (bm hd alA):=od ⟨G9,⟨⟩⟩
abbrev i64:Shape:=⟨[cg 0 [bi .pack]],[],7⟩
abbrev SJ:Shape:=⟨[bf 2 2 0],[(5000128,.deep .pack,.cell 2 0),be 2 [.own 5000128]],7⟩
noncomputable def f64(a:i64.H):Option SJ.H:=
(f65 ((a.1.1.1,()),())).bind fun b=>
 some (((),()),b.2.1,((),()),())
noncomputable def S64:aU:=ba hd Tryz.f64 i64 SJ [] f64
theorem Ap:a4 Z 64 S64:=bc al6 Tryz.func64 (by kernel_rfl) ar (fun y=>by kernel_rfl) fun a=>by kernel_rfl
noncomputable abbrev aer:bq:=[(64,S64),(88,Im)]
theorem aex:a9 Z (bm hd aer):=od ⟨Ap,R7,⟨⟩⟩
abbrev OI:Shape:=⟨[b3 0 600000,cg 1 [bi .pack]],[(600000,.deep .pack,.same)],16⟩
abbrev Ou:Shape:=⟨[bf 4 4 0,ae 5],[(5000256,.deep .pack,.cell 4 0),be 4 [.own 5000256]],16⟩
noncomputable def sh(a:OI.H):Option Ou.H:=
(f88 ((a.2.1,()),())).bind fun b=>
 bif(b.1.1 !=(0:Int)) then
(f64 (((a.1.2.1.1,()),()),())).bind fun c=>
 some (((),b.1.1,()),c.2.1,((),()),())
else
 some (((),(0:Int),()),a.2.1,((),()),())
noncomputable def zU:aU:=ba hd Tryz.f66 OI Ou [] sh
theorem Fi:a4 Z 66 zU:=bc aex Tryz.func66 (by kernel_rfl) ar (fun y=>by kernel_rfl) fun a=>by kernel_rfl
theorem VM(g n c i vb m vc:Nat)(cur vcur:Array Value)(te ve:TypeId)(w:World)(hi:i<n)(hm:0<m)(hroom:n+m<=c)(hc63:c<=9223372036854775807)(hne:vb≠g)
  (hg:w.heap[g]? =some (.cells cur te (0,0))) (hv:w.heap[vb]? =some (.cells vcur ve (0,0))) (hcs:cur.size=c*4) (hvs:m*4<=vcur.size)
  (h1c:∀v∈cur.toList.take (n*4),v.oneCell'=true) (h1v:∀v∈vcur.toList.take (m*4),v.oneCell'=true):
  Calls Z 124 #[.slice (some ⟨g,0,none⟩) n c,.int .i64 i,.slice (some ⟨vb,0,none⟩) m vc] w fun e w'=>
   e=.returned (.slice (some ⟨g,0,none⟩) (n+m) c)/\w'=w.drew.setRow g (a_ (a_ cur.toList ((i+m)*4) ((cur.toList.take (n*4)).drop (i*4))) (i*4) (vcur.toList.take (m*4))).toArray:=by
 have t33:Z.underlying 28=some (.slice 57):=by kernel_rfl
 have hsz:(Z.info? 57).map (·.size)=some 4:=by kernel_rfl
 have hz1:¬((m:Int)=0):=by omega
 have hz2:¬((i:Int)=(n:Int)):=by omega
 have hov:∀off lb cb,(callFunc 179 #[.slice (some ⟨vb,0,none⟩) m vc,.slice (some ⟨g,off,none⟩) lb cb]).run Z w=.ok (.value (.bool false)) w:=fun off lb cb=>by
  rw[run_callFunc_extern Tryz.func179 (by kernel_rfl) (by kernel_rfl) (by kernel_rfl) (e:=Extern.SlicesOverlaps.overlaps #[28,28] #[4]) (by kernel_rfl),
   Lib.run_overlaps_apart w 28 4 57 t33 4 (fun w=>by kernel_rfl) ⟨vb,0,none⟩ ⟨g,off,none⟩ m vc lb cb hne ve te vcur.size cur.size (by simp[World.shape?,hv]) (by simp[World.shape?,hg]) (by omega) (by simp[World.frozen?,hv]) (by simp[World.frozen?,hv])]
  rfl
 have hdl:((cur.toList.take (n*4)).drop (i*4)).length=(n-i)*4:=by simp only[List.length_drop,List.length_take,Array.length_toList,hcs];rw[Nat.min_eq_left (by omega),Nat.sub_mul]
 have hcl:∀j v,(cur.toList.take (n*4))[j]? =some v->w.cell? ⟨g,j,none⟩=some v:=fun j v h=>by
  rw[List.getElem?_take] at h;split at h
  ·simpa[World.cell?,hg] using h
  ·cases h
 have hcv:∀j v,(vcur.toList.take (m*4))[j]? =some v->w.cell? ⟨vb,j,none⟩=some v:=fun j v h=>by
  rw[List.getElem?_take] at h;split at h
  ·simpa[World.cell?,hv] using h
  ·cases h
 have hcp1:∀ty dc sc,(Builtin.copy_ #[28,28] ty #[.slice (some ⟨g,(i+m)*4,none⟩) (n+m-(i+m)) dc,.slice (some ⟨g,i*4,none⟩) (n+m-i) sc]).run Z w.drew=
   .ok (goInt (Nat.min (n+m-i) (n+m-(i+m)))) (w.drew.setRow g (a_ cur.toList ((i+m)*4) ((cur.toList.take (n*4)).drop (i*4))).toArray):=fun ty dc sc=>
  ot w.drew _ _ ty 57 4 g ((i+m)*4) (n+m-(i+m)) dc ⟨g,i*4,none⟩ (n+m-i) sc cur te _ t33 hsz hg (by rw[hdl];simp only[Nat.min_def];split<;>omega)
   (fun j v hj=>by rw[Addr.add_lit];exact hcl (i*4+j) v (by rwa[List.getElem?_drop] at hj)) (by rw[hdl,hcs];omega) (fun v hv=>h1c v (List.mem_of_mem_drop hv))
 obtain⟨cur1,hcur1⟩:∃cur1,cur1=(a_ cur.toList ((i+m)*4) ((cur.toList.take (n*4)).drop (i*4))).toArray:=⟨_,rfl⟩;rw[<-hcur1] at hcp1;have hc1s:cur1.size=c*4:=by rw[hcur1];simp only[a_,List.size_toArray,List.length_append,List.length_drop,List.length_take,Array.length_toList,hcs];omega
 have hcp2:∀(W:World),W.heap=(w.drew.setRow g cur1).heap->∀ty dc,(Builtin.copy_ #[28,28] ty #[.slice (some ⟨g,i*4,none⟩) (n+m-i) dc,.slice (some ⟨vb,0,none⟩) m vc]).run Z W=
   .ok (goInt (Nat.min m (n+m-i))) (W.setRow g (a_ cur1.toList (i*4) (vcur.toList.take (m*4))).toArray):=fun W hW ty dc=>
  ot W _ _ ty 57 4 g (i*4) (n+m-i) dc ⟨vb,0,none⟩ m vc cur1 te _ t33 hsz (by rw[hW];exact setRow_heap w.drew g cur cur1 te (0,0) hg)
   (by simp only[List.length_take,Array.length_toList,Nat.min_def];split<;>split<;>omega)
   (fun j v hj=>by
    have:=hcv j v hj;rw[Addr.add_lit,Nat.zero_add];unfold World.cell? at this ⊢;rw[hW,show(w.drew.setRow g cur1).heap[vb]? =w.heap[vb]? from setRow_other w.drew g vb cur1 hne];exact this) (by simp only[List.length_take,Array.length_toList];omega) h1v
 have hE:w.drew.setRow g (a_ (a_ cur.toList ((i+m)*4) ((cur.toList.take (n*4)).drop (i*4))) (i*4) (vcur.toList.take (m*4))).toArray=(w.drew.setRow g cur1).setRow g (a_ cur1.toList (i*4) (vcur.toList.take (m*4))).toArray:=by
  rw[setRow_setRow,hcur1]
 rw[hE];clear hE hcur1;have hw1:IntKind.i64.wrap ((i:Int)+(m:Int))=(i:Int)+(m:Int):=by rw[IntKind.wrap_i64];omega
 have hb1:(0:Int)<=(i:Int)+(m:Int):=by omega
 have hin:i<=n:=by omega
 have htn:((i:Int)+(m:Int)).toNat=i+m:=by omega
 have hb2:¬(c=i+m):=by omega
 have hb3:(i:Int)<=(n:Int)+(m:Int):=by omega
 have hb4:¬(c=i):=by omega
 go_enter Tryz.func124,Tryz.ntmps124
 go_wp2_with (simp only[hov])
 go_region_law (refine wI rfl _ _ 28 28 rfl (.slice (some ⟨g,(i+m)*4,none⟩) (n+m-(i+m)) (c-(i+m))) (.slice (some ⟨g,i*4,none⟩) (n+m-i) (c-i)) (by simp[Act.eval,Act.put]) (by simp[Act.eval,Act.put]) (hcp1 _ _ _) ?_)
 go_wp2_with (at_builtin;refine wF _ rfl _ _ 28 28 rfl _ _ rfl rfl (hcp2 _ rfl _ _) ?_)
 go_ret
 exact⟨rfl,rfl⟩
theorem VO(xa:Option Addr)(vc:Nat)(w:World):
  Calls Z 124 #[.slice none 0 0,.int .i64 0,.slice xa 0 vc] w fun e w'=>e=.returned (.slice none 0 0)/\w'=w:=by
 go_enter Tryz.func124,Tryz.ntmps124
 go_wp2
 go_ret
 exact⟨rfl,rfl⟩
theorem VN(g n c i:Nat)(xa:Option Addr)(vc:Nat)(w:World)(hi:i<=n)(hnc:n<=c)(hc63:c<=9223372036854775807):
  Calls Z 124 #[.slice (some ⟨g,0,none⟩) n c,.int .i64 i,.slice xa 0 vc] w fun e w'=>e=.returned (.slice (some ⟨g,0,none⟩) n c)/\w'=w:=by
 go_enter Tryz.func124,Tryz.ntmps124
 go_wp2
 all_goals(go_ret;exact⟨rfl,rfl⟩)
theorem Wo(xa:Option Addr)(m vc:Nat)(w:World)(hm:0<m)(v':Value)(W:World)(hr:∀ty,(Builtin.append_ #[28,28] ty #[.slice none 0 0,.slice xa m vc]).run Z w=.ok v' W):
  Calls Z 124 #[.slice none 0 0,.int .i64 0,.slice xa m vc] w fun e w'=>e=.returned v'/\w'=W:=by
 have hz1:¬((m:Int)=0):=by omega
 go_enter Tryz.func124,Tryz.ntmps124
 go_wp2_with (at_builtin;refine qU _ rfl _ _ 28 28 rfl _ _ rfl rfl (hr _) ?_)
 go_ret
 exact⟨rfl,rfl⟩
theorem Wn(g n c:Nat)(xa:Option Addr)(m vc:Nat)(w:World)(hnc:n<=c)(hc63:c<=9223372036854775807)(hm:0<m)(v':Value)(W:World)(hr:∀ty,(Builtin.append_ #[28,28] ty #[.slice (some ⟨g,0,none⟩) n c,.slice xa m vc]).run Z w=.ok v' W):
  Calls Z 124 #[.slice (some ⟨g,0,none⟩) n c,.int .i64 n,.slice xa m vc] w fun e w'=>e=.returned v'/\w'=W:=by
 have hz1:¬((m:Int)=0):=by omega
 go_enter Tryz.func124,Tryz.ntmps124
 go_wp2_with (at_builtin;refine qU _ rfl _ _ 28 28 rfl _ _ rfl rfl (hr _) ?_)
 all_goals(go_ret;exact⟨rfl,rfl⟩)
theorem Wm(g n c i vb m vc:Nat)(cur vcur:Array Value)(te ve:TypeId)(w:World)(hi:i<n)(hm:0<m)(hnc:n<=c)(hroom:c<n+m)(hc63:c<=9223372036854775807)(hbig:(n+m)*80<=140737488355328)
  (hg:w.heap[g]? =some (.cells cur te (0,0))) (hv:w.heap[vb]? =some (.cells vcur ve (0,0))) (hcs:cur.size=c*4) (hvs:m*4<=vcur.size)
  (h1c:∀v∈cur.toList.take (n*4),v.oneCell'=true) (h1v:∀v∈vcur.toList.take (m*4),v.oneCell'=true):
  ∃G ROW,∃W:World,G<=maxLen/\n+m<=G/\ROW.size=G*4/\ROW.toList.take (i*4)=cur.toList.take (i*4)/\W.os=w.os/\W.tape=w.tape/\W.output=w.output/\W.heap=w.heap.push (.cells ROW 57 (0,0))/\
  Calls Z 124 #[.slice (some ⟨g,0,none⟩) n c,.int .i64 i,.slice (some ⟨vb,0,none⟩) m vc] w fun e w'=>
   e=.returned (.slice (some ⟨w.heap.size,0,none⟩) (n+m) G)/\w'.os=w.os/\w'.tape=w.tape/\w'.output=w.output/\
    w'.heap=(W.setRow w.heap.size (a_ (a_ ROW.toList (i*4) (vcur.toList.take (m*4))) ((i+m)*4) ((cur.toList.take (n*4)).drop (i*4))).toArray).heap:=by
 have t33:Z.underlying 28=some (.slice 57):=by kernel_rfl
 have t3:Z.underlying 3=some (.int .i64):=by kernel_rfl
 have hsz:(Z.info? 57).map (·.size)=some 4:=by kernel_rfl
 have hinfo:(Z.info? 57).map (fun i=>(i.zero.map (·.cells.size),i.size,i.bytes))=some (some 4,4,80):=by kernel_rfl
 obtain⟨i0,hi0,hzz⟩:=Option.map_eq_some_iff.1 hinfo;simp only[Prod.mk.injEq] at hzz;obtain⟨hz0,hzs,hzb⟩:=hzz;obtain⟨z,hz,hzc⟩:=Option.map_eq_some_iff.1 hz0;have hz1:¬((m:Int)=0):=by omega
 have hz2:¬((i:Int)=(n:Int)):=by omega
 have hz3:(c:Int)<(n:Int)+(m:Int):=by omega
 have hgw:g<w.heap.size:=(Array.getElem?_eq_some_iff.1 hg).1;have hvw:vb<w.heap.size:=(Array.getElem?_eq_some_iff.1 hv).1;have hkk:(n:Int)+(m:Int)-(i:Int)=((n+m-i:Nat):Int):=by omega
 have hik:i+(n+m-i)=n+m:=by omega
 have hdl:((cur.toList.take (n*4)).drop (i*4)).length=(n-i)*4:=by simp only[List.length_drop,List.length_take,Array.length_toList,hcs];rw[Nat.min_eq_left (by omega),Nat.sub_mul]
 have hcl:∀j v,(cur.toList.take (n*4))[j]? =some v->w.cell? ⟨g,j,none⟩=some v:=fun j v h=>by
  rw[List.getElem?_take] at h;split at h
  ·simpa[World.cell?,hg] using h
  ·cases h
 have hcv:∀j v,(vcur.toList.take (m*4))[j]? =some v->w.cell? ⟨vb,j,none⟩=some v:=fun j v h=>by
  rw[List.getElem?_take] at h;split at h
  ·simpa[World.cell?,hv] using h
  ·cases h
 have hold:(Builtin.firstCells i0.size i (.slice (some ⟨g,0,none⟩) i c)).run Z w.drew=.ok (cur.toList.take (i*4)).toArray w.drew:=by
  rw[hzs];exact run_firstCells_some w.drew 4 i ⟨g,0,none⟩ i c (cur.toList.take (i*4)) (by simp only[List.length_take,Array.length_toList,hcs];omega) (fun j v hj=>by
   rw[Addr.add_lit,Nat.zero_add];refine hcl j v ?_
   rw[List.getElem?_take] at hj ⊢;split at hj
   ·rw[if_pos (by omega)];exact hj
   ·cases hj)
 have hrz:∀ty,(Builtin.append_ #[28,3] ty #[.slice (some ⟨g,0,none⟩) i c,.int .i64 ((n:Int)+(m:Int)-(i:Int))]).run Z w=
   .ok (.slice (some ⟨w.heap.size,0,none⟩) (n+m) (grownCap w (n+m) c 57)) (w.drew.alloc (.cells ((cur.toList.take (i*4)).toArray++Builtin.zeroCells z.cells (n+m-i)++Builtin.zeroCells z.cells (grownCap w (n+m) c 57-(n+m))) 57)):=fun ty=>by
  have h:=Lib.run_append_grow_zeros w 28 3 ty 57 i0 z .i64 .i64 t33 t3 hi0 hz (some ⟨g,0,none⟩) i c (cur.toList.take (i*4)) hold (n+m-i) (by omega) (by omega) (by omega) (by omega) (by rw[hzb];omega) (by rw[hzb,hik];exact growslice_fits hroom hbig)
  rw[hik] at h;rw[hkk];exact h
 obtain⟨G,hG⟩:∃G,G=grownCap w (n+m) c 57:=⟨_,rfl⟩;obtain⟨ROW,hROW⟩:∃ROW:Array Value,ROW=(cur.toList.take (i*4)).toArray++Builtin.zeroCells z.cells (n+m-i)++Builtin.zeroCells z.cells (G-(n+m)):=⟨_,rfl⟩;rw[<-hG] at hrz;rw[<-hROW] at hrz;have hGn:n+m<=G:=by rw[hG];exact grownCap_ge w _ _ _
 have hGm:G<=maxLen:=by rw[hG];exact grownCap_le_maxLen w (n+m) c 57 (by unfold maxLen;omega)
 have hG63:G<=9223372036854775807:=by unfold maxLen at hGm;omega
 have hRl:ROW.size=G*4:=by
  rw[hROW];simp only[Array.size_append,List.size_toArray,size_zeroCells,hzc,List.length_take,Array.length_toList,hcs];omega
 have hRt:ROW.toList.take (i*4)=cur.toList.take (i*4):=by
  rw[hROW];simp only[Array.toList_append,List.append_assoc];have:i*4=(cur.toList.take (i*4)).length:=by simp only[List.length_take,Array.length_toList,hcs];omega
  exact List.take_left' this.symm
 refine⟨G,ROW,w.drew.alloc (.cells ROW 57),hGm,hGn,hRl,hRt,rfl,rfl,rfl,rfl,?_⟩;obtain⟨W1,hW1⟩:∃W1,W1=w.drew.alloc (.cells ROW 57):=⟨_,rfl⟩;rw[<-hW1] at hrz ⊢;have hNew:W1.heap[w.heap.size]? =some (.cells ROW 57 (0,0)):=by rw[hW1];exact heap_alloc_new w.drew _
 have hOld:∀b,b<w.heap.size->W1.heap[b]? =w.heap[b]? :=fun b hb=>by rw[hW1];exact RowKit.Below.heap_alloc w.drew _ b hb
 have hos:W1.os=w.os/\W1.tape=w.tape/\W1.output=w.output:=by rw[hW1];exact⟨rfl,rfl,rfl⟩
 have hgN:g≠w.heap.size:=by omega
 have hvN:vb≠w.heap.size:=by omega
 have hcpA:∀(W:World),W.heap=W1.heap->∀ty dc,(Builtin.copy_ #[28,28] ty #[.slice (some ⟨w.heap.size,i*4,none⟩) (n+m-i) dc,.slice (some ⟨vb,0,none⟩) m vc]).run Z W=
   .ok (goInt (Nat.min m (n+m-i))) (W.setRow w.heap.size (a_ ROW.toList (i*4) (vcur.toList.take (m*4))).toArray):=fun W hW ty dc=>
  ot W _ _ ty 57 4 w.heap.size (i*4) (n+m-i) dc ⟨vb,0,none⟩ m vc ROW 57 _ t33 hsz (by rw[hW];exact hNew)
   (by simp only[List.length_take,Array.length_toList,Nat.min_def];split<;>split<;>omega)
   (fun j v hj=>by
    have:=hcv j v hj;rw[Addr.add_lit,Nat.zero_add];unfold World.cell? at this ⊢;rw[hW,show W1.heap[vb]? =w.heap[vb]? from hOld vb hvw];exact this) (by simp only[List.length_take,Array.length_toList];omega) h1v
 obtain⟨R2,hR2⟩:∃R2,R2=(a_ ROW.toList (i*4) (vcur.toList.take (m*4))).toArray:=⟨_,rfl⟩;have hE:W1.setRow w.heap.size (a_ (a_ ROW.toList (i*4) (vcur.toList.take (m*4))) ((i+m)*4) ((cur.toList.take (n*4)).drop (i*4))).toArray=
   (W1.setRow w.heap.size R2).setRow w.heap.size (a_ R2.toList ((i+m)*4) ((cur.toList.take (n*4)).drop (i*4))).toArray:=by rw[setRow_setRow,hR2]
 rw[hE];have hR2s:R2.size=G*4:=by rw[hR2];simp only[a_,List.size_toArray,List.length_append,List.length_drop,List.length_take,Array.length_toList,hRl];omega
 rw[<-hR2] at hcpA;clear hE hR2;have hcpB:∀(W:World),W.heap=(W1.setRow w.heap.size R2).heap->∀ty dc sc,(Builtin.copy_ #[28,28] ty #[.slice (some ⟨w.heap.size,(i+m)*4,none⟩) (n+m-(i+m)) dc,.slice (some ⟨g,i*4,none⟩) (n-i) sc]).run Z W=
   .ok (goInt (Nat.min (n-i) (n+m-(i+m)))) (W.setRow w.heap.size (a_ R2.toList ((i+m)*4) ((cur.toList.take (n*4)).drop (i*4))).toArray):=fun W hW ty dc sc=>
  ot W _ _ ty 57 4 w.heap.size ((i+m)*4) (n+m-(i+m)) dc ⟨g,i*4,none⟩ (n-i) sc R2 57 _ t33 hsz (by rw[hW];exact setRow_heap W1 w.heap.size ROW R2 57 (0,0) hNew)
   (by rw[hdl];simp only[Nat.min_def];split<;>omega)
   (fun j v hj=>by
    have:=hcl (i*4+j) v (by rwa[List.getElem?_drop] at hj)
    rw[Addr.add_lit];unfold World.cell? at this ⊢;rw[hW,show(W1.setRow w.heap.size R2).heap[g]? =w.heap[g]? from(setRow_other W1 w.heap.size g R2 hgN).trans (hOld g hgw)];exact this) (by rw[hdl,hR2s];omega) (fun v hv=>h1c v (List.mem_of_mem_drop hv))
 have hGi:¬(G=i):=by omega
 have hGim:¬(G=i+m):=by omega
 have hci:¬(c=i):=by omega
 have hw1:IntKind.i64.wrap ((i:Int)+(m:Int))=(i:Int)+(m:Int):=by rw[IntKind.wrap_i64];omega
 have hb1:(0:Int)<=(i:Int)+(m:Int):=by omega
 have hin:i<=n:=by omega
 have htn:((i:Int)+(m:Int)).toNat=i+m:=by omega
 have hb3:(i:Int)<=(n:Int):=by omega
 clear hkk hik hold hROW hG hRl hW1;go_enter Tryz.func124,Tryz.ntmps124
 go_wp2_with (first
  |(at_builtin;refine qU _ rfl _ _ 28 3 rfl _ _ rfl rfl (hrz _) ?_)
  |(at_builtin;refine wF _ rfl _ _ 28 28 rfl _ _ rfl rfl (hcpA _ rfl _ _) ?_))
 go_region_law (refine wI rfl _ _ 28 28 rfl (.slice (some ⟨w.heap.size,(i+m)*4,none⟩) (n+m-(i+m)) (G-(i+m))) (.slice (some ⟨g,i*4,none⟩) (n-i) (c-i)) (by simp[Act.eval,Act.put]) (by simp[Act.eval,Act.put]) (hcpB (W1.setRow w.heap.size R2).drew rfl 3 (G-(i+m)) (c-i)) ?_)
 go_wp2
 go_ret
 exact⟨rfl,hos.1,hos.2.1,hos.2.2,rfl⟩
noncomputable def O2:aU:=CY .pack 80
theorem adB:a4 Z 124 O2:=X3 (t:=.pack) (bt:=80) rfl (by decide) (T:=28) (e:=57) ⟨VO,VN,Wo,Wn,VM,Wm⟩ (fun vs w=>enters_of Tryz.func124 (by kernel_rfl) rfl _ _) (by kernel_rfl) (by kernel_rfl)
noncomputable abbrev alr:bq:=[(63,wc),(65,A'),(111,GV),(124,O2)]
theorem al4:a9 Z (bm hd alr):=od ⟨Aq,G9,Pj,adB,⟨⟩⟩
abbrev i75:Shape:=⟨[aV 0 .pack,cg 1 [a6,a6,bi .need,bi .entry]],[],30⟩
abbrev SA:Shape:=⟨[b3 4 3000256],[(3000256,.deep .pack,.slot 4 0)],30⟩
noncomputable def f75(a:i75.H):Option SA.H:=
(f65 ((a.1.1,()),())).bind fun b=>
(f63 ((b.2.1,a.1.2.1.1,()),())).bind fun c=>
 bif c.1.2.1 then
(f111 (((a.1.2.1.1,a.1.2.1.2.1,a.1.2.1.2.2.1,a.1.2.1.2.2.2.1,()),()),())).bind fun d=>
(e_ b.2.1.length c.1.1).bind fun e=>
((b.2.1[e]?).bind fun _=>some (aK.mk d.2.2.2.1.1 d.2.2.2.1.2.1 d.2.1 d.2.2.1)).bind fun f=>
 some (((),()),(b.2.1.set e f),())
else
(f111 (((a.1.2.1.1,a.1.2.1.2.1,a.1.2.1.2.2.1,a.1.2.1.2.2.2.1,()),()),())).bind fun g=>
(k3 80 b.2.1 c.1.1 ([(aK.mk g.2.2.2.1.1 g.2.2.2.1.2.1 g.2.1 g.2.2.1)]:List aK)).bind fun h=>
 some (((),()),h,())
noncomputable def Is:aU:=ba hd Tryz.f75 i75 SA [] f75
theorem Sa:a4 Z 75 Is:=bc al4 Tryz.func75 (by kernel_rfl) ar (fun y=>by kernel_rfl) fun a=>by kernel_rfl
noncomputable abbrev alL:bq:=[(48,Bb),(63,wc),(64,S64),(66,zU),(74,A_),(75,Is)]
theorem ame:a9 Z (bm hd alL):=od ⟨G',Aq,Ap,Fi,G8,Sa,⟨⟩⟩
abbrev i35:Shape:=⟨[cg 0 [bi .pack],cg 1 [a6,a6,bi .need,bi .entry]],[],36⟩
abbrev SX:Shape:=⟨[bf 4 4 0,ae 5],[(5000256,.deep .pack,.cell 4 0),be 4 [.own 5000256]],36⟩
noncomputable def f35(a:i35.H):Option SX.H:=
(f48 (((a.1.1.1,()),()),())).bind fun b=>
 bif(!b.1.1) then
 some (((),(1:Int),()),([]:List aK),((),()),())
else
(f74 (((a.1.2.1.1,a.1.2.1.2.1,a.1.2.1.2.2.1,a.1.2.1.2.2.2.1,()),()),())).bind fun c=>
 bif(!c.1.1) then
(f64 (((a.1.1.1,()),()),())).bind fun d=>
 some (((),(1:Int),()),d.2.1,((),()),())
else
(f63 ((a.1.1.1,a.1.2.1.1,()),())).bind fun e=>
 bif e.1.2.1 then
(f64 (((a.1.1.1,()),()),())).bind fun f=>
 some (((),(2:Int),()),f.2.1,((),()),())
else
(f75 ((a.1.1.1,(a.1.2.1.1,a.1.2.1.2.1,a.1.2.1.2.2.1,a.1.2.1.2.2.2.1,()),()),())).bind fun g=>
(sh (((),(a.1.1.1,()),()),g.2.1,())).bind fun h=>
 some (((),h.1.2.1,()),h.2.1,((),()),())
noncomputable def Ud:aU:=ba hd Tryz.f35 i35 SX [] f35
theorem aii:a4 Z 35 Ud:=bc ame Tryz.func35 (by kernel_rfl) ar (fun y=>by kernel_rfl) fun a=>by kernel_rfl
theorem _n(a)(M:cj a.1.1.length):f176 a=some (((),()),(a.1.1,())):=by
 obtain⟨⟨xs,u⟩,bF⟩:=a;have M:xs.length<=2097152:=M;have h2:(dv 40 ([]:List dr) xs).bind (fun x=>some (((),()),(x,())))=(some (((),()),(xs,())):Option F3.H):=by
  rw[gC (by decide) (by unfold aF;simp only[List.length_nil];omega)];rfl
 simp only[f176];rw[h2];unfold ns;split
 ·rfl
 ·rename_i h;exact absurd (fun he:xs=[]=>by subst he;rfl) h
theorem JL(a)(h:li ⟨a.1.1.1,a.1.1.2.1,a.1.1.2.2.1,a.1.1.2.2.2.1⟩):f111 a=some (((),()),(a.1.1.2.2.1,(a.1.1.2.2.2.1,((a.1.1.1,(a.1.1.2.1,((),((),())))),())))):=by
 obtain⟨⟨⟨name,a8,bb,bu,u⟩,bF⟩,iH⟩:=a;have e1:=_n ((bb,()),()) h.2.2.1.1;have e2:=LA ((bu,()),()) h.2.2.2.1;simp only[f111,e1,e2,Option.bind_some]
theorem Jw(a)(h:eu a.1.1):f65 a=some (((),()),(a.1.1,())):=by
 obtain⟨⟨ps,u⟩,bF⟩:=a;have hl:ps.length<=2097152:=h.1;have key:=w4 (S:=List aK) zi ps (fun i bd=>(((),(ps,((ps.length:Int),((i:Int),())))),(bd,()))) (fun x bd=>bd++[x]) (fun bd=>(((),()),(bd,()))) (fun i bd=>bd.length=i) [] rfl (fun i x bd hx cZ=>?_) (fun bd cZ=>?_)
 ·have key:EW (((),(ps,((ps.length:Int),((0:Int),())))),(([]:List aK),()))=_:=key;have e:∀(l bd:List aK),l.foldl (fun s x=>s++[x]) bd=bd++l:=by
   intro l;induction l with
   |nil=>intro bd;simp
   |cons x l ih=>intro bd;simp only[List.foldl_cons];rw[ih];simp
  simp only[f65,key,Option.bind_some];rw[e];rfl
 ·have hi:=cc hx;have hw:aF i:=by unfold aF;omega
  have e2:=JL (((x.name,(x.a8,(x.bb,(x.bu,())))),()),()) (h.2 x (List.mem_of_getElem? hx));have a3:dv 80 bd [x]=some (bd++[x]):=gC (by decide) (by unfold aF;simp;omega)
  simp only[zi,ce hi,cond_true,b0,hx,Option.bind_some,e2,a3,b' hw];exact⟨trivial,by simp[cZ]⟩
 ·simp only[zi,cU,cond_false]
theorem JK(a)(h:eu a.1.1.1):f64 a=some (((),()),(a.1.1.1,(((),()),()))):=by
 obtain⟨⟨⟨ps,jp⟩,u⟩,bF⟩:=a;have e:=Jw ((ps,()),()) h;simp only[f64,e,Option.bind_some]
abbrev kc(ps:List aK):Prop:=ps.Pairwise fun p q=>Op.bytesLess p.name q.name=true
def jQ(p:aK):a5:=⟨p.name,0,0,[]⟩
theorem EK(ps:List aK)(n:al):bS (ps.map jQ) n=cR ps n:=by
 unfold bS cR;rw[List.takeWhile_map,List.length_map];rfl
theorem QY{ps:List aK}(h:kc ps):eW (ps.map jQ):=by
 unfold eW;rw[List.pairwise_map];exact h
theorem Cd{ps:List aK}{n:al}(a3:kc ps)(h:Nat)(p:aK)(aj:ps[h]? =some p):Op.bytesLess p.name n=decide (h<cR ps n):=by
 have:=jy (p:=n) (QY a3) h (jQ p) (by rw[List.getElem?_map,aj];rfl)
 rw[EK] at this;exact this
def jb(ps:List aK)(n:al):Bool:=match ps[cR ps n]? with
 |some q=>q.name==n
 |none=>false
theorem Kc(a)(M:cj a.1.1.length)(a3:kc a.1.1):f63 a=some (((cR a.1.1 a.1.2.1:Int),(jb a.1.1 a.1.2.1,())),()):=by
 obtain⟨⟨t,p,u⟩,bF⟩:=a;have M:t.length<=2097152:=M;have IQ:=x8 t p;have hc:∀x:aK,f109 (((x.name,(x.a8,(x.bb,(x.bu,())))),(p,())),())=some ((o5 x.name p,()),()):=by
  intro x;have h1:(x.name==x.name)=true:=by simp
  have h2:(p==p)=true:=by simp
  simp only[f109,f110,f175,Option.bind_some,h1,h2,Bool.not_true,cond_false,o5];cases Op.bytesLess x.name p<;>cases (x.name==p)<;>rfl
 have key:∀d i j:Nat,j-i=d->i<=cR t p->cR t p<=j->j<=t.length->
   w6 ((t,(p,((),((t.length:Int),((i:Int),((j:Int),())))))),())=
    some (((t,(p,((),((t.length:Int),((cR t p:Int),()))))),())):=by
  intro d;induction d using Nat.strongRecOn with
  |_ d ih=>
   intro i j Y hi hj hl;by_cases hij:i<j
   ·have bQ:(i+j)/2<t.length:=by omega
    obtain⟨e,he⟩:∃e,t[(i+j)/2]? =some e:=⟨t[(i+j)/2],List.getElem?_eq_getElem bQ⟩;have vG:nK .u64 (IntKind.u64.wrap (IntKind.i64.wrap ((i:Int)+(j:Int)))) 1=some ((((i+j)/2:Nat)):Int):=by
     rw[<-Pp (n:=i+j) (by omega)];rw[Int.natCast_add]
    have vy:IntKind.i64.wrap (((i+j)/2:Nat):Int)=(((i+j)/2:Nat):Int):=ej (by omega) (by omega)
    have ki:=Cd (n:=p) a3 ((i+j)/2) e he;cases hb:Op.bytesLess e.name p with
    |true=>
     rw[hb] at ki;have aX:(i+j)/2<cR t p:=by simpa using ki.symm
     refine(hk ?_).trans (ih (j-((i+j)/2+1)) (by omega) ((i+j)/2+1) j rfl (by omega) hj hl)
     simp only[xd,ce hij,cond_true,vG,vy,b0,he,Option.bind_some,hc,xB,hb,b' (i:=(i+j)/2) (by unfold aF;omega)]
    |false=>
     rw[hb] at ki;have mW:¬(i+j)/2<cR t p:=by simpa using ki.symm
     refine(hk ?_).trans (ih ((i+j)/2-i) (by omega) i ((i+j)/2) rfl hi (by omega) (by omega))
     simp only[xd,ce hij,cond_true,vG,vy,b0,he,Option.bind_some,hc,xB,hb,cond_false]
   ·have hV:i=cR t p:=by omega
    have aX:decide ((i:Int)<(j:Int))=false:=by simp only[decide_eq_false_iff_not];omega
    refine eB ?_
    simp only[xd,aX,cond_false];rw[hV]
 have nc:w6 ((t,(p,((),((t.length:Int),((0:Int),((t.length:Int),())))))),())=_:=key t.length 0 t.length (Nat.sub_zero _) (Nat.zero_le _) IQ (Nat.le_refl _);have J:zv ((t,(p,((),()))),())=some (((cR t p:Int),(jb t p,())),()):=by
  simp only[zv,nc,Option.bind_some,jb,b0,hc,Lj];cases aE:t[cR t p]? with
  |none=>
   have:=List.getElem?_eq_none_iff.1 aE;have:decide ((cR t p:Int)<(t.length:Int))=false:=by simp only[decide_eq_false_iff_not];omega
   rw[this];rfl
  |some e=>rw[ce (cc aE)];rfl
 simp only[f63,J,Option.bind_some]
theorem aam{ps:List aK}(a3:kc ps)(n:al):ps.find? (fun q=>q.name==n)=bif jb ps n then ps[cR ps n]? else none:=by
 have hu:∀(k:Nat) (q:aK),ps[k]? =some q->q.name=n->k=cR ps n:=by
  intro k q ag ay;have h1:=Cd (n:=n) a3 k q ag;have h2:Op.bytesLess q.name n=false:=by rw[ay];exact oK _
  rw[h1] at h2;have h2:¬k<cR ps n:=of_decide_eq_false h2;rcases Nat.lt_or_ge (cR ps n) k with aa|aa
  ·have aH:cR ps n<ps.length:=Nat.lt_trans aa (cc ag);have bD:=List.getElem?_eq_getElem aH;have di:=Cd (n:=n) a3 (cR ps n) ps[cR ps n] bD;have hJ:=List.pairwise_iff_getElem.1 a3 (cR ps n) k aH (cc ag) aa;have nd:ps[k]'(cc ag)=q:=by
    have:=List.getElem?_eq_getElem (cc ag);rw[ag] at this;exact(Option.some.inj this).symm
   rw[nd,ay] at hJ;rw[hJ] at di;have:=of_decide_eq_true di.symm;omega
  ·omega
 cases hf:ps.find? (fun q=>q.name==n) with
 |none=>
  have h0:=List.find?_eq_none.1 hf;unfold jb;cases ay:ps[cR ps n]? with
  |none=>rfl
  |some q=>
   have:=h0 q (List.mem_of_getElem? ay);simp only[Bool.not_eq_true] at this;simp only[this,cond_false]
 |some q=>
  have h1:q.name=n:=by have:=List.find?_some hf;simpa using this
  obtain⟨k,ag⟩:=List.mem_iff_getElem?.1 (List.mem_of_find?_eq_some hf);have:=hu k q ag h1;subst this;unfold jb;simp only[ag,h1,beq_self_eq_true,cond_true]
theorem WB(a)(hb:eu a.1.1)(hl:a.1.1.length<=2000000)(aj:li ⟨a.1.2.1.1,a.1.2.1.2.1,a.1.2.1.2.2.1,a.1.2.1.2.2.2.1⟩)(a3:kc a.1.1):f75 a=some (((),()),((bif jb a.1.1 a.1.2.1.1 then a.1.1.set (cR a.1.1 a.1.2.1.1) ⟨a.1.2.1.1,a.1.2.1.2.1,a.1.2.1.2.2.1,a.1.2.1.2.2.2.1⟩ else ft a.1.1 ⟨a.1.2.1.1,a.1.2.1.2.1,a.1.2.1.2.2.1,a.1.2.1.2.2.2.1⟩),())):=by
 obtain⟨⟨ps,⟨name,a8,bb,bu,jp⟩,u⟩,bF⟩:=a;have hl:ps.length<=2000000:=hl;have e1:=Jw ((ps,()),()) hb;have e2:=Kc ((ps,(name,())),()) hb.1 a3;have bK:=JL (((name,(a8,(bb,(bu,())))),()),()) aj;have kj:=x8 ps name;simp only[f75,e1,e2,bK,Option.bind_some];cases bQ:jb ps name with
 |true=>
  unfold jb at bQ;cases ay:ps[cR ps name]? with
  |none=>rw[ay] at bQ;cases bQ
  |some q=>simp only[cond_true,lu (cc ay),ay,Option.bind_some]
 |false=>
  have grow:k3 80 ps (cR ps name:Int) [(⟨name,a8,bb,bu⟩:aK)]=some (ft ps ⟨name,a8,bb,bu⟩):=by
   unfold k3;rw[if_pos ⟨by omega,by omega,by unfold room;simp only[List.length_cons,List.length_nil];omega,by unfold maxLen;simp only[List.length_cons,List.length_nil];omega⟩,Int.toNat_natCast]
   rfl
  simp only[cond_false,grow,Option.bind_some]
theorem Z9(a:(List aK×(List aK×Unit)×Unit)×Unit)(hb:eu a.1.1)(hv:ni a.1.1)(hr:eu a.1.2.1.1):sh (((),((a.1.2.1.1,()),())),(a.1.1,()))=some (((),(fG a.1.1,())),((bif fG a.1.1==0 then a.1.1 else a.1.2.1.1),(((),()),()))):=by
 obtain⟨⟨list,⟨r,jp⟩,u⟩,bF⟩:=a;have e:=Ka ((list,()),()) hb hv;have e2:=JK (((r,()),()),()) hr;simp only[sh,e,Option.bind_some];have z:(fG list !=0)=!(fG list==0):=rfl;rw[z];cases hc:(fG list==0) with
 |false=>simp only[Bool.not_false,cond_true,cond_false,e2,Option.bind_some]
 |true=>
  have hc:fG list=0:=by simpa using hc
  simp only[Bool.not_true,cond_false,cond_true];rw[hc]
def Tg(ps:List aK)(p:aK):List aK×Int:=bif is ps then Th ps p else([],1)
theorem XJ{ps:List aK}(h:is ps=true):kc ps:=by
 obtain⟨t,R⟩:=adL h;exact R.ak0
theorem XI{ps:List aK}(h:is ps=true):ps.length<=5:=by
 unfold is at h;simp only[Bool.and_eq_true,decide_eq_true_eq] at h;exact h.1.1.2
theorem MZ{aD:Type}{key:aD->al}:∀{b a:List aD},a.Pairwise (fun x y=>Op.bytesLess (key x) (key y)=true)->b.Pairwise (fun x y=>Op.bytesLess (key x) (key y)=true)->(∀x,x∈a->x∈b)->a.Sublist b:=by
 intro b;induction b with
 |nil=>
  intro a _ _ h;cases a with
  |nil=>exact List.Sublist.refl _
  |cons x r=>exact absurd (h x List.mem_cons_self) (by simp)
 |cons y b ih=>
  intro a a3 hb h;cases a with
  |nil=>exact List.nil_sublist _
  |cons x a=>
   obtain⟨a1,a2⟩:=List.pairwise_cons.1 a3;obtain⟨aT,aJ⟩:=List.pairwise_cons.1 hb;have later:∀z,Op.bytesLess (key y) (key z)=true->z∈y::b->z∈b:=by
    intro z hz hm;rcases List.mem_cons.1 hm with rfl|hm
    ·rw[oK] at hz;cases hz
    ·exact hm
   rcases List.mem_cons.1 (h x List.mem_cons_self) with rfl|hx
   ·exact List.Sublist.cons_cons _ (ih a2 aJ fun z hz=>later z (a1 z hz) (h z (List.mem_cons_of_mem _ hz)))
   ·refine List.Sublist.cons _ (ih a3 aJ fun z hz=>?_)
    rcases List.mem_cons.1 hz with rfl|jL
    ·exact hx
    ·exact later z (rb _ _ _ (aT x hx) (a1 z jL)) (h z hz)
theorem adh{aD:Type}{key:aD->al}{a b:List aD}(a3:a.Pairwise fun x y=>Op.bytesLess (key x) (key y)=true)(hb:b.Pairwise fun x y=>Op.bytesLess (key x) (key y)=true)(h:∀x,x∈a <-> x∈b):a=b:=
 (MZ a3 hb fun x hx=>(h x).1 hx).eq_of_length_le (MZ hb a3 fun x hx=>(h x).2 hx).length_le
theorem abU{ps:List aK}{n:al}:ps.find? (fun q=>q.name==n)=none <-> ∀q,q∈ps->q.name≠n:=by
 rw[List.find?_eq_none];constructor
 ·intro h q ay he;exact h q ay (by simpa using he)
 ·intro h q ay he;exact h q ay (by simpa using he)
theorem Z3{ps:List aK}{p x:aK}:x∈ft ps p <-> x=p\/x∈ps:=by
 constructor
 ·exact KD
 ·unfold ft;intro h;rcases h with rfl|h
  ·simp
  ·have:x∈ps.take (cR ps p.name)++ps.drop (cR ps p.name):=by rw[List.take_append_drop];exact h
   simp only[List.mem_append,List.mem_singleton] at this ⊢;rcases this with h|h
   ·exact .inl (.inl h)
   ·exact .inr h
theorem Yw{ps:List aK}{p:aK}(a3:kc ps)(hn:∀q,q∈ps->q.name≠p.name):kc (ft ps p):=by
 have h1:iy (ps.map jQ) p.name=false:=by
  unfold iy;rw[EK,List.getElem?_map];cases ay:ps[cR ps p.name]? with
  |none=>rfl
  |some q=>
   have:=hn q (List.mem_of_getElem? ay);show((jQ q).path==p.name)=false;simpa[jQ] using this
 have h2:=M0 (e:=jQ p) (QY a3) h1;have aa:h6 (ps.map jQ) (bS (ps.map jQ) (jQ p).path) (jQ p)=(ft ps p).map jQ:=by
  have:bS (ps.map jQ) (jQ p).path=cR ps p.name:=EK ps p.name;rw[this];unfold h6 ft;simp[List.map_take,List.map_drop]
 rw[aa] at h2;unfold eW at h2;rw[List.pairwise_map] at h2;exact h2
structure RN(ps:List aK)(p:aK):Prop where
 ok:is ps=true
 IJ:dE p=true
 new:∀q,q∈ps->q.name≠p.name
 code:fG (ft ps p)=0
theorem RN.out{ps:List aK}{p:aK}(h:RN ps p):Tg ps p=(ft ps p,0):=by
 unfold Tg Th;rw[h.ok,h.IJ,abU.2 h.new,h.code];rfl
theorem aat(w:World):Calls Z 67 #[.slice none 0 0,.int .i64 0,.int .i64 0] w fun e w'=>e=.returned (.slice none 0 0)/\w'=w:=by
 go_enter Tryz.func67,Tryz.ntmps67
 go_wp2
 all_goals(go_ret;exact⟨rfl,rfl⟩)
theorem aas(g n c i:Nat)(w:World)(hi:i<=n)(hnc:n<=c)(hc63:c<=9223372036854775807):Calls Z 67 #[.slice (some ⟨g,0,none⟩) n c,.int .i64 i,.int .i64 i] w fun e w'=>e=.returned (.slice (some ⟨g,0,none⟩) n c)/\w'=w:=by
 go_enter Tryz.func67,Tryz.ntmps67
 go_wp2
 all_goals(go_ret;exact⟨rfl,rfl⟩)
theorem abX(g n c i j:Nat)(cur:Array Value)(te:TypeId)(w:World)(hij:i<j)(hj:j<=n)(hnc:n<=c)(hc63:c<=9223372036854775807)(hg:w.heap[g]? =some (.cells cur te (0,0)))(hcs:cur.size=c*4)
  (h1c:∀v∈cur.toList.take (n*4),v.oneCell'=true):∃ROW:Array Value,ROW.size=c*4/\ROW.toList.take ((i+(n-j))*4)=cur.toList.take (i*4)++(cur.toList.take (n*4)).drop (j*4)/\
  Calls Z 67 #[.slice (some ⟨g,0,none⟩) n c,.int .i64 i,.int .i64 j] w fun e w'=>e=.returned (.slice (some ⟨g,0,none⟩) (i+(n-j)) c)/\w'.os=w.os/\w'.tape=w.tape/\w'.output=w.output/\w'.heap=(w.setRow g ROW).heap:=by
 have tT:Z.underlying 28=some (.slice 57):=by kernel_rfl
 have hinfo:(Z.info? 57).map (fun i=>(i.zero.map (fun z=>(z.cells.size,z.cells.toList.all fun v=>v.oneCell')),i.size))=some (some (4,true),4):=by kernel_rfl
 obtain⟨i0,hi0,hzz⟩:=Option.map_eq_some_iff.1 hinfo;simp only[Prod.mk.injEq] at hzz;obtain⟨hz0,hzs⟩:=hzz;obtain⟨z,hz,hzc⟩:=Option.map_eq_some_iff.1 hz0;simp only[Prod.mk.injEq] at hzc;obtain⟨hzc,hz1⟩:=hzc;have hz1:∀v∈z.cells,v.oneCell'=true:=fun v hv=>List.all_eq_true.1 hz1 v (by simpa using hv)
 have hzv:∀w,(zeroValue 57).run Z w=.ok z w:=fun w=>by simp[zeroValue,typeInfo,hi0,hz]
 obtain⟨news,hnews⟩:∃news,news=(cur.toList.take (n*4)).drop (j*4):=⟨_,rfl⟩;have hlen:news.length=(n-j)*4:=by rw[hnews];simp only[List.length_drop,List.length_take,Array.length_toList,hcs];rw[Nat.min_eq_left (by omega),Nat.sub_mul]
 have hone:∀v∈news,v.oneCell'=true:=fun v hv=>h1c v (by rw[hnews] at hv;exact List.mem_of_mem_drop hv)
 obtain⟨A,hA,hsrc⟩:∃A:Addr,(if c=j then some (⟨g,0,none⟩:Addr) else some ⟨g,j*4,none⟩)=some A/\∀t u,news[t]? =some u->w.drew.cell? (A.add t)=some u:=by
  by_cases h:c=j
  ·refine⟨⟨g,0,none⟩,by simp[h],fun t u hu=>?_⟩
   have h0:news.length=0:=by rw[hlen];omega
   rw[List.length_eq_zero_iff.1 h0] at hu;simp at hu
  ·refine⟨⟨g,j*4,none⟩,by simp[h],fun t u hu=>?_⟩
   rw[hnews,List.getElem?_drop,List.getElem?_take] at hu;split at hu
   ·rw[Addr.add_lit];show w.cell? _=_;simpa[World.cell?,hg] using hu
   ·cases hu
 obtain⟨cur1,hcur1⟩:∃cur1,cur1=(a_ cur.toList (i*4) news).toArray:=⟨_,rfl⟩;have hc1s:cur1.size=c*4:=by rw[hcur1];simp only[a_,List.size_toArray,List.length_append,List.length_drop,List.length_take,Array.length_toList,hcs,hlen];omega
 have hap:∀ty,(Builtin.append_ #[28,28] ty #[.slice (some ⟨g,0,none⟩) i c,.slice (some A) (n-j) (c-j)]).run Z w.drew=.ok (.slice (some ⟨g,0,none⟩) (i+(n-j)) c) (w.drew.setRow g cur1):=fun ty=>by
  rw[hcur1];exact Wc w.drew 28 57 ty 4 i0 tT hi0 hzs g i c A (n-j) (c-j) cur te news hg hsrc hlen (by omega) (by rw[hlen];omega) hone
 obtain⟨ROW,hROW⟩:∃ROW,ROW=(a_ cur1.toList ((i+(n-j))*4) (Builtin.zeroCells z.cells (n-(i+(n-j)))).toList).toArray:=⟨_,rfl⟩;have hcl:∀ty,(Builtin.clear_ #[28] ty #[.slice (some ⟨g,(i+(n-j))*4,none⟩) (n-(i+(n-j))) (c-(i+(n-j)))]).run Z (w.drew.setRow g cur1)=.ok (.tuple #[]) ((w.drew.setRow g cur1).setRow g ROW):=fun ty=>by
  rw[hROW];exact WU _ 28 57 ty z tT hzv g ((i+(n-j))*4) (n-(i+(n-j))) _ (by omega) cur1 te (setRow_heap w.drew g cur cur1 te (0,0) hg) (by rw[hzc,hc1s];omega) hz1
 have hzl:∀m,(Builtin.zeroCells z.cells m).size=4*m:=fun m=>by have:=Jp z.cells m;rw[Array.length_toList,hzc] at this;exact this
 have hRs:ROW.size=c*4:=by rw[hROW];simp only[a_,List.size_toArray,List.length_append,List.length_drop,List.length_take,Array.length_toList,hc1s,hzl];omega
 refine⟨ROW,hRs,?_,?_⟩
 ·rw[hROW,hcur1];have hl1:(a_ cur.toList (i*4) news).length=c*4:=by have:=hc1s;rw[hcur1] at this;simpa using this
  simp only[a_] at hl1 ⊢;have hcl':cur.toList.length=c*4:=by rw[Array.length_toList,hcs]
  rw[<-hnews];apply List.ext_getElem?;intro q;simp only[List.getElem?_take,List.getElem?_append,List.getElem?_drop,List.length_append,List.length_take,List.length_drop,hlen,hcl'];repeat' split
  all_goals first|rfl|omega|(congr 1;omega)|(symm;apply List.getElem?_eq_none;omega)|(apply List.getElem?_eq_none;omega)
 ·have hE:(w.drew.setRow g cur1).setRow g ROW=w.drew.setRow g ROW:=by rw[setRow_setRow]
  have hb2:¬((i:Int)=(j:Int)):=by omega
  have hin:i<=c:=by omega
  have hjc:j<=c:=by omega
  have hlc:i+(n-j)<=n:=by omega
  have hlc2:n<=c:=hnc;have hne:¬(c=i+(n-j)):=by omega
  obtain⟨W1,hW1⟩:∃W1,W1=w.drew.setRow g cur1:=⟨_,rfl⟩;rw[<-hW1] at hap hcl hE;clear hW1 hROW hcur1 hnews;go_enter Tryz.func67,Tryz.ntmps67
  go_wp2_with fail
  go_region_law (refine VG rfl _ _ 28 28 rfl (.slice (some ⟨g,0,none⟩) i c) (.slice (some A) (n-j) (c-j)) (by simp[Act.eval,Act.put]) (by simp[Act.eval,Act.put,hA]) (hap _) ?_)
  go_wp2_with (at_builtin;refine Vu _ rfl _ 28 rfl _ rfl (hcl _) ?_)
  go_ret
  exact⟨rfl,rfl,rfl,rfl,rfl⟩
noncomputable def Q2:aU:=Db .pack
theorem aeE:a4 Z 67 Q2:=Yh rfl ⟨aat,aas,abX⟩ (fun vs w=>enters_of Tryz.func67 (by kernel_rfl) rfl _ _)
noncomputable abbrev alQ:bq:=[(48,Bb),(63,wc),(64,S64),(65,A'),(66,zU),(67,Q2)]
theorem amj:a9 Z (bm hd alQ):=od ⟨G',Aq,Ap,G9,Fi,aeE,⟨⟩⟩
abbrev i30:Shape:=⟨[cg 0 [bi .pack],bx 1],[],36⟩
abbrev S2:Shape:=⟨[bf 4 4 0,ae 5],[(5000256,.deep .pack,.cell 4 0),be 4 [.own 5000256]],36⟩
noncomputable def f30(a:i30.H):Option S2.H:=
(f48 (((a.1.1.1,()),()),())).bind fun b=>
 bif(!b.1.1) then
 some (((),(1:Int),()),([]:List aK),((),()),())
else
(f63 ((a.1.1.1,a.1.2.1,()),())).bind fun c=>
 bif(!c.1.2.1) then
(f64 (((a.1.1.1,()),()),())).bind fun d=>
 some (((),(3:Int),()),d.2.1,((),()),())
else
(f65 ((a.1.1.1,()),())).bind fun e=>
(Ag e.2.1 c.1.1 (IntKind.i64.wrap (c.1.1+(1:Int)))).bind fun f=>
(sh (((),(a.1.1.1,()),()),f,())).bind fun g=>
 some (((),g.1.2.1,()),g.2.1,((),()),())
noncomputable def Uf:aU:=ba hd Tryz.f30 i30 S2 [] f30
theorem aik:a4 Z 30 Uf:=bc amj Tryz.func30 (by kernel_rfl) ar (fun y=>by kernel_rfl) fun a=>by kernel_rfl
def h'(ps:List aK)(n:al):List aK:=ps.filter fun p=>!(p.name==n)
theorem M5{ps:List aK}{n:al}{x:aK}:x∈h' ps n <-> x∈ps/\x.name≠n:=by
 unfold h';rw[List.mem_filter];simp
theorem aaH{ps:List aK}(n:al)(h:kc ps):kc (h' ps n):=List.Pairwise.sublist List.filter_sublist h
theorem aaG{ps:List aK}{n:al}(a3:kc ps)(h:jb ps n=true):ps.take (cR ps n)++ps.drop (cR ps n+1)=h' ps n:=by
 unfold jb at h;cases ay:ps[cR ps n]? with
 |none=>rw[ay] at h;cases h
 |some q=>
  rw[ay] at h;have sU:q.name=n:=by simpa using h
  have mx:ps=ps.take (cR ps n)++(q::ps.drop (cR ps n+1)):=by
   have h1:=List.drop_eq_getElem_cons (cc ay);have h2:ps[cR ps n]'(cc ay)=q:=(List.getElem?_eq_some_iff.1 ay).2;rw[h2] at h1;rw[<-h1,List.take_append_drop]
  have lg:=a3;rw[mx] at lg;obtain⟨a1,a2,fr⟩:=List.pairwise_append.1 lg;obtain⟨qQ,Bw⟩:=List.pairwise_cons.1 a2;generalize ps.take (cR ps n)=A at*;generalize ps.drop (cR ps n+1)=br at*;have hA:A.filter (fun p=>!(p.name==n))=A:=by
   rw[List.filter_eq_self];intro x hx;have:=OY (fr x hx q List.mem_cons_self);rw[sU] at this;rw[this];rfl
  have fS:br.filter (fun p=>!(p.name==n))=br:=by
   rw[List.filter_eq_self];intro x hx;have:=qQ x hx;rw[sU] at this;cases hc:(x.name==n) with
   |false=>rfl
   |true=>rw[eq_of_beq hc,oK] at this;cases this
  have vJ:(!(q.name==n))=false:=by rw[sU];simp
  have:h' ps n=A++br:=by
   unfold h';rw[mx,List.filter_append,List.filter_cons,vJ,hA,fS];rfl
  exact this.symm
theorem yM{k:Nat}{ps:List aK}(n:al)(h:jn k ps):jn k (h' ps n):=
 ⟨Nat.le_trans List.filter_sublist.length_le h.1,fun x hx=>h.2 x (M5.1 hx).1⟩
abbrev x5:Shape:=⟨[aV 0 .pack,bx 1,b3 5 3000320,ae 6],[ci 3000320 .pack 5 0],29⟩
abbrev DG:List bg:=[(.exit 0,⟨[b3 5 3000320],[ci 3000320 .pack 5 0],29⟩)]
noncomputable def yB(y:x5.H):cy x5 DG:=
 bif(decide (y.1.2.2.2.1<(y.1.1.length:Int))) then
(bl y.1.1 y.1.2.2.2.1).bind fun a=>
 bif(!(a.name==y.1.2.1)) then
(bl y.1.1 y.1.2.2.2.1).bind fun b=>
(dv 80 y.2.1 ([b]:List aK)).bind fun c=>
 some (.inl ((y.1.1,y.1.2.1,(),(IntKind.i64.wrap (y.1.2.2.2.1+(1:Int))),()),c,()))
else
 some (.inl ((y.1.1,y.1.2.1,(),(IntKind.i64.wrap (y.1.2.2.2.1+(1:Int))),()),y.2.1,()))
else
 some (.inr (((),()),y.2.1,()))
noncomputable def D':x5.H->Option (aQ DG):=bO yB
theorem aby:bw Z (aI (codeOf Tryz.f106) 1 58) (bJ x5 DG D'):=cD g0 (by kernel_rfl) ar fun y=>by kernel_rfl
abbrev i106:Shape:=⟨[aV 0 .pack,bx 1],[],29⟩
abbrev Qo:Shape:=⟨[b3 4 3000256],[ci 3000256 .pack 4 0],29⟩
noncomputable def f106(a:i106.H):Option Qo.H:=
(D' ((a.1.1,a.1.2.1,(),(0:Int),()),([]:List aK),())).bind fun b=>
 some (((),()),b.2.1,())
noncomputable def GY:aU:=ba ap Tryz.f106 i106 Qo [] f106
theorem Pm:a4 Z 106 GY:=bc g0 Tryz.func106 (by kernel_rfl) (bN aby ar) (fun y=>by kernel_rfl) fun a=>by kernel_rfl
noncomputable abbrev alp:bq:=[(98,A9),(104,u_),(105,Ak),(106,GY),(115,GU),(126,GQ)]
theorem al3:a9 Z (bm ap alp):=bz ⟨G7,zZ,FN,Pm,Ph,Pe,⟨⟩⟩
abbrev i77:Shape:=⟨[cg 0 [bi .pack],cg 1 [a6,a6,bi .need,bi .entry]],[],44⟩
abbrev Sy:Shape:=⟨[bf 4 4 0,ae 5],[be 4 [bi .pack]],44⟩
noncomputable def f77(a:i77.H):Option Sy.H:=
(f104 ((a.1.1.1,a.1.2.1.1,()),())).bind fun b=>
(f98 (((a.1.2.1.1,a.1.2.1.2.1,a.1.2.1.2.2.1,a.1.2.1.2.2.2.1,()),()),())).bind fun c=>
 bif(!c.1.1) then
 some (((),(1:Int),()),(a.1.1.1,()),())
else
 bif(decide (b.1.1<(0:Int))) then
 some (((),(3:Int),()),(a.1.1.1,()),())
else
(bl a.1.1.1 b.1.1).bind fun d=>
(f126 ((d.a8,a.1.2.1.2.1,()),())).bind fun e=>
 bif(decide (e.1.1>=(0:Int))) then
 some (((),(7:Int),()),(a.1.1.1,()),())
else
(f106 ((a.1.1.1,a.1.2.1.1,()),())).bind fun f=>
(f115 ((f.2.1,(a.1.2.1.1,a.1.2.1.2.1,a.1.2.1.2.2.1,a.1.2.1.2.2.2.1,()),()),())).bind fun g=>
(f105 (((a.1.1.1,()),g.2.1,()),())).bind fun h=>
 some (((),h.1.2.1,()),(h.2.1.1,()),())
noncomputable def T1:aU:=ba ap Tryz.f77 i77 Sy [] f77
theorem ah4:a4 Z 77 T1:=bc al3 Tryz.func77 (by kernel_rfl) ar (fun y=>by kernel_rfl) fun a=>by kernel_rfl
noncomputable abbrev alJ:bq:=[(46,Bc),(62,Ba),(77,T1)]
theorem amc:a9 Z (bm ap alJ):=bz ⟨Ha,G_,ah4,⟨⟩⟩
abbrev i38:Shape:=⟨[cg 0 [bi .pack],cg 1 [a6,a6,bi .need,bi .entry]],[],16⟩
abbrev SV:Shape:=⟨[bf 4 4 0,ae 5],[be 4 [bi .pack]],16⟩
noncomputable def f38(a:i38.H):Option SV.H:=
(f46 (((a.1.1.1,()),()),())).bind fun b=>
 bif(!b.1.1) then
 some (((),(1:Int),()),(([]:List aK),()),())
else
(f62 (((a.1.1.1,()),()),())).bind fun c=>
(f77 (((c.2.1,()),(a.1.2.1.1,a.1.2.1.2.1,a.1.2.1.2.2.1,a.1.2.1.2.2.2.1,()),()),())).bind fun d=>
 some (((),d.1.2.1,()),(d.2.1.1,()),())
noncomputable def Uc:aU:=ba ap Tryz.f38 i38 SV [] f38
theorem aih:a4 Z 38 Uc:=bc amc Tryz.func38 (by kernel_rfl) ar (fun y=>by kernel_rfl) fun a=>by kernel_rfl
noncomputable abbrev alI:bq:=[(48,Bb),(63,wc),(64,S64),(66,zU),(74,A_),(75,Is),(78,Ir)]
theorem amb:a9 Z (bm hd alI):=od ⟨G',Aq,Ap,Fi,G8,Sa,R',⟨⟩⟩
abbrev i39:Shape:=⟨[cg 0 [bi .pack],cg 1 [a6,a6,bi .need,bi .entry]],[],49⟩
abbrev SU:Shape:=⟨[bf 4 4 0,ae 5],[(5000256,.deep .pack,.cell 4 0),be 4 [.own 5000256]],49⟩
noncomputable def f39(a:i39.H):Option SU.H:=
(f48 (((a.1.1.1,()),()),())).bind fun b=>
 bif(!b.1.1) then
 some (((),(1:Int),()),([]:List aK),((),()),())
else
(f74 (((a.1.2.1.1,a.1.2.1.2.1,a.1.2.1.2.2.1,a.1.2.1.2.2.2.1,()),()),())).bind fun c=>
 bif(!c.1.1) then
(f64 (((a.1.1.1,()),()),())).bind fun d=>
 some (((),(1:Int),()),d.2.1,((),()),())
else
(f63 ((a.1.1.1,a.1.2.1.1,()),())).bind fun e=>
 bif(!e.1.2.1) then
(f64 (((a.1.1.1,()),()),())).bind fun f=>
 some (((),(3:Int),()),f.2.1,((),()),())
else
(bl a.1.1.1 e.1.1).bind fun g=>
(f78 ((g.a8,a.1.2.1.2.1,()),())).bind fun h=>
 bif(decide (h.1.1>=(0:Int))) then
(f64 (((a.1.1.1,()),()),())).bind fun i=>
 some (((),(7:Int),()),i.2.1,((),()),())
else
(f75 ((a.1.1.1,(a.1.2.1.1,a.1.2.1.2.1,a.1.2.1.2.2.1,a.1.2.1.2.2.2.1,()),()),())).bind fun j=>
(sh (((),(a.1.1.1,()),()),j.2.1,())).bind fun k=>
 some (((),k.1.2.1,()),k.2.1,((),()),())
noncomputable def Ub:aU:=ba hd Tryz.f39 i39 SU [] f39
theorem aig:a4 Z 39 Ub:=bc amb Tryz.func39 (by kernel_rfl) ar (fun y=>by kernel_rfl) fun a=>by kernel_rfl
theorem WE(a)(hl:a.1.1.length<=2097152):f106 a=some (((),()),(h' a.1.1 a.1.2.1,())):=by
 obtain⟨⟨ps,n,u⟩,bF⟩:=a;have hl:ps.length<=2097152:=hl;have key:=w4 (S:=List aK) yB ps (fun i bd=>((ps,(n,((),((i:Int),())))),(bd,()))) (fun x bd=>bif !(x.name==n) then bd++[x] else bd) (fun bd=>(((),()),(bd,()))) (fun i bd=>bd.length<=i) [] (Nat.le_refl _) (fun i x bd hx cZ=>?_) (fun bd cZ=>?_)
 ·have key:D' ((ps,(n,((),((0:Int),())))),(([]:List aK),()))=_:=key;have e:∀(l bd:List aK),l.foldl (fun s x=>bif !(x.name==n) then s++[x] else s) bd=bd++l.filter (fun p=>!(p.name==n)):=by
   intro l;induction l with
   |nil=>intro bd;simp
   |cons x l ih=>
    intro bd;rw[List.foldl_cons,ih,List.filter_cons];cases (x.name==n)<;>simp
  simp only[f106,key,Option.bind_some];rw[e];rfl
 ·have hi:=cc hx;have hw:aF i:=by unfold aF;omega
  have a3:dv 80 bd [x]=some (bd++[x]):=gC (by decide) (by unfold aF;simp;omega)
  simp only[yB,ce hi,cond_true,b0,hx,Option.bind_some,a3,b' hw];cases (x.name==n)
  ·exact⟨rfl,by simp;omega⟩
  ·exact⟨rfl,by simp;omega⟩
 ·simp only[yB,cU,cond_false]
def zC(ps:List aK)(p:aK):List aK×Int:=bif dE p then(match ps.find? (fun q=>q.name==p.name) with
 |some q=>bif decide (lH q.a8 p.a8>=0) then(ps,7) else(bif fG (ft (h' ps p.name) p)==0 then ft (h' ps p.name) p else ps,fG (ft (h' ps p.name) p))
 |none=>(ps,3)) else(ps,1)
def mC(ps:List aK)(p:aK):List aK×Int:=bif is ps then zC ps p else([],1)
theorem Xs(a)(k:Nat)(ag:k<=1999999)(h:jn k a.1.1.1)(aj:mZ ⟨a.1.2.1.1,a.1.2.1.2.1,a.1.2.1.2.2.1,a.1.2.1.2.2.2.1⟩):f38 a=some (((),((mC a.1.1.1 ⟨a.1.2.1.1,a.1.2.1.2.1,a.1.2.1.2.2.1,a.1.2.1.2.2.2.1⟩).2,())),(((mC a.1.1.1 ⟨a.1.2.1.1,a.1.2.1.2.1,a.1.2.1.2.2.1,a.1.2.1.2.2.2.1⟩).1,()),())):=by
 obtain⟨⟨⟨ps,jp⟩,⟨name,a8,bb,bu,u1⟩,u⟩,bF⟩:=a;have h:jn k ps:=h;have aj:mZ ⟨name,a8,bb,bu⟩:=aj;have hb:eu ps:=h.lo (by omega)
 have hl:ps.length<=1999999:=Nat.le_trans h.1 ag;have mf:=_j (((ps,()),()),()) hb h.vs;have e1:=_b (((ps,()),()),()) hb;have e2:=CF (((name,(a8,(bb,(bu,())))),()),()) aj.1;simp only[f38,mf,Option.bind_some,mC];cases hr:is ps with
 |false=>rfl
 |true=>
  simp only[Bool.not_true,cond_false,cond_true,e1,Option.bind_some,f77,zC];rcases Lu ((ps,(name,())),()) (show ps.length<=2097152 by omega) with⟨j,q,g1,g2,g3⟩|⟨g1,g2⟩
  ·have g3:ps.find? (fun p=>p.name==name)=some q:=g3
   have g2:ps[j]? =some q:=g2;have hj:decide ((j:Int)<0)=false:=by simp only[decide_eq_false_iff_not];omega
   have ay:=h.2 q (List.mem_of_getElem? g2);have bK:=Jl ((q.a8,(a8,())),()) ay.2.1 aj.2.1;simp only[g1,e2,Option.bind_some,hj,cond_false,b0,g2,bK,g3];cases dE ⟨name,a8,bb,bu⟩ with
   |false=>rfl
   |true=>
    simp only[Bool.not_true,cond_false,cond_true];cases decide (lH q.a8 a8>=0) with
    |true=>rfl
    |false=>
     have hw:=CC (yM name h) aj;have c_:=WE ((ps,(name,())),()) (show ps.length<=2097152 by omega)
     have qg:(h' ps name).length<=2097151:=by have:=(yM name h).1;omega
     have fh:=_a ((h' ps name,((name,(a8,(bb,(bu,())))),())),()) qg aj.1;have ng:=aaJ (((ps,()),(ft (h' ps name) ⟨name,a8,bb,bu⟩,())),()) (hw.lo (by omega)) hw.vs
     simp only[cond_false,c_,fh,ng,Option.bind_some]
  ·have g2:ps.find? (fun p=>p.name==name)=none:=g2
   have hj:decide ((-1:Int)<0)=true:=rfl;simp only[g1,e2,Option.bind_some,hj,cond_true,g2];cases dE ⟨name,a8,bb,bu⟩<;>rfl
theorem _C{ps:List aK}{p:aK}(a3:kc ps)(h:jb ps p.name=true):ps.set (cR ps p.name) p=ft (h' ps p.name) p:=by
 have Y:=aaG a3 h;unfold jb at h;cases ay:ps[cR ps p.name]? with
 |none=>rw[ay] at h;cases h
 |some q=>
  rw[ay] at h;have sU:q.name=p.name:=by simpa using h
  have aX:=cc ay;have k4:ps.set (cR ps p.name) p=ps.take (cR ps p.name)++(p::ps.drop (cR ps p.name+1)):=by
   rw[List.set_eq_take_append_cons_drop,if_pos aX]
  have mx:ps=ps.take (cR ps p.name)++(q::ps.drop (cR ps p.name+1)):=by
   have h1:=List.drop_eq_getElem_cons aX;have h2:ps[cR ps p.name]'aX=q:=(List.getElem?_eq_some_iff.1 ay).2;rw[h2] at h1;rw[<-h1,List.take_append_drop]
  have lg:=a3;rw[mx] at lg;obtain⟨a1,a2,fr⟩:=List.pairwise_append.1 lg;obtain⟨qQ,Bw⟩:=List.pairwise_cons.1 a2;have agz:kc (ps.take (cR ps p.name)++(p::ps.drop (cR ps p.name+1))):=by
   refine List.pairwise_append.2 ⟨a1,List.pairwise_cons.2 ⟨fun x hx=>?_,Bw⟩,fun x hx y ak=>?_⟩
   ·rw[<-sU];exact qQ x hx
   ·rcases List.mem_cons.1 ak with rfl|ak
    ·rw[<-sU];exact fr x hx q List.mem_cons_self
    ·exact fr x hx y (List.mem_cons_of_mem _ ak)
  rw[k4];refine adh (key:=fun p:aK=>p.name) agz (Yw (aaH _ a3) fun x hx=>(M5.1 hx).2) fun x=>?_
  rw[Z3,<-Y];simp only[List.mem_append,List.mem_cons];constructor
  ·rintro(h|h|h)
   ·exact .inr (.inl h)
   ·exact .inl h
   ·exact .inr (.inr h)
  ·rintro(h|h|h)
   ·exact .inr (.inl h)
   ·exact .inl h
   ·exact .inr (.inr h)
theorem WG(a)(k:Nat)(ag:k<=1999999)(h:jn k a.1.1.1)(aj:mZ ⟨a.1.2.1.1,a.1.2.1.2.1,a.1.2.1.2.2.1,a.1.2.1.2.2.2.1⟩):f39 a=some (((),((mC a.1.1.1 ⟨a.1.2.1.1,a.1.2.1.2.1,a.1.2.1.2.2.1,a.1.2.1.2.2.2.1⟩).2,())),((mC a.1.1.1 ⟨a.1.2.1.1,a.1.2.1.2.1,a.1.2.1.2.2.1,a.1.2.1.2.2.2.1⟩).1,(((),()),()))):=by
 obtain⟨⟨⟨ps,jp⟩,⟨name,a8,bb,bu,u1⟩,u⟩,bF⟩:=a;have h:jn k ps:=h;have aj:mZ ⟨name,a8,bb,bu⟩:=aj;have hb:eu ps:=h.lo (by omega)
 have mf:=YL (((ps,()),()),()) hb h.vs;simp only[f39,mf,Option.bind_some,mC];cases hr:is ps with
 |false=>rfl
 |true=>
  have a3:=XJ hr;have hl:=XI hr;have e1:=KG (((name,(a8,(bb,(bu,())))),()),()) aj.1;have e2:=JK (((ps,()),()),()) hb;have bK:=Kc ((ps,(name,())),()) hb.1 a3;have c_:=WB ((ps,((name,(a8,(bb,(bu,())))),())),()) hb (show ps.length<=2000000 by omega) aj.1 a3
  simp only[Bool.not_true,cond_false,cond_true,e1,Option.bind_some,zC,aam a3];cases dE ⟨name,a8,bb,bu⟩ with
  |false=>simp only[Bool.not_false,cond_true,cond_false,e2,Option.bind_some]
  |true=>
   simp only[Bool.not_true,cond_false,cond_true,bK,Option.bind_some];cases bQ:jb ps name with
   |false=>simp only[Bool.not_false,cond_true,cond_false,e2,Option.bind_some]
   |true=>
    have M:=_C (p:=⟨name,a8,bb,bu⟩) a3 bQ;have HV:=bQ;unfold jb at HV;cases ay:ps[cR ps name]? with
    |none=>rw[ay] at HV;cases HV
    |some q=>
     have ajP:=h.2 q (List.mem_of_getElem? ay);have fh:=Ji ((q.a8,(a8,())),()) ajP.2.1 aj.2.1;have hw:=CC (yM name h) aj;have ng:=Z9 ((ft (h' ps name) ⟨name,a8,bb,bu⟩,((ps,()),())),()) (hw.lo (by omega)) hw.vs hb
     simp only[bQ,cond_true,M] at c_;simp only[Bool.not_true,cond_false,cond_true,b0,ay,Option.bind_some,fh];cases decide (lH q.a8 a8>=0) with
     |true=>simp only[cond_true,e2,Option.bind_some]
     |false=>simp only[cond_false,c_,ng,Option.bind_some]
noncomputable abbrev alD:bq:=[(104,u_),(105,Ak),(106,GY)]
theorem al8:a9 Z (bm ap alD):=bz ⟨zZ,FN,Pm,⟨⟩⟩
abbrev i61:Shape:=⟨[cg 0 [bi .pack],bx 1],[],20⟩
abbrev SM:Shape:=⟨[bf 4 4 0,ae 5],[be 4 [bi .pack]],20⟩
noncomputable def f61(a:i61.H):Option SM.H:=
(f104 ((a.1.1.1,a.1.2.1,()),())).bind fun b=>
 bif(decide (b.1.1<(0:Int))) then
 some (((),(3:Int),()),(a.1.1.1,()),())
else
(f106 ((a.1.1.1,a.1.2.1,()),())).bind fun c=>
(f105 (((a.1.1.1,()),c.2.1,()),())).bind fun d=>
 some (((),d.1.2.1,()),(d.2.1.1,()),())
noncomputable def T9:aU:=ba ap Tryz.f61 i61 SM [] f61
theorem aic:a4 Z 61 T9:=bc al8 Tryz.func61 (by kernel_rfl) ar (fun y=>by kernel_rfl) fun a=>by kernel_rfl
noncomputable abbrev alR:bq:=[(46,Bc),(61,T9),(62,Ba)]
theorem amk:a9 Z (bm ap alR):=bz ⟨Ha,aic,G_,⟨⟩⟩
abbrev i29:Shape:=⟨[cg 0 [bi .pack],bx 1],[],16⟩
abbrev S3:Shape:=⟨[bf 4 4 0,ae 5],[be 4 [bi .pack]],16⟩
noncomputable def f29(a:i29.H):Option S3.H:=
(f46 (((a.1.1.1,()),()),())).bind fun b=>
 bif(!b.1.1) then
 some (((),(1:Int),()),(([]:List aK),()),())
else
(f62 (((a.1.1.1,()),()),())).bind fun c=>
(f61 (((c.2.1,()),a.1.2.1,()),())).bind fun d=>
 some (((),d.1.2.1,()),(d.2.1.1,()),())
noncomputable def Ug:aU:=ba ap Tryz.f29 i29 S3 [] f29
theorem ail:a4 Z 29 Ug:=bc amk Tryz.func29 (by kernel_rfl) ar (fun y=>by kernel_rfl) fun a=>by kernel_rfl
noncomputable abbrev anj:bq:=[(11,qE),(13,s9),(16,Bh),(17,zV),(29,Ug),(30,Uf),(31,Bg)]
theorem Ve:a9 Z (bm ap anj):=bz ⟨Hh,Hg,Hf,Fj,ail,aik,He,⟨⟩⟩
abbrev aaU:Shape:=⟨[bx 1,bf 2 2 0,bf 6 6 0,ae 7,bf 8 8 0,bf 9 9 0,ae 10],[be 2 [bi .pack],be 6 [bi .pack],(5000512,.deep .pack,.cell 8 0),be 8 [.own 5000512],(5000576,.deep .pack,.cell 9 0),be 9 [.own 5000576]],104⟩
abbrev aaQ:List bg:=[(.norm,⟨[bx 1,bf 2 2 0,bf 6 6 0,ae 7,bf 8 8 0,bf 9 9 0,ae 10,aY 47],[be 2 [bi .pack],be 6 [bi .pack],(5000512,.deep .pack,.cell 8 0),be 8 [.own 5000512],(5000576,.deep .pack,.cell 9 0),be 9 [.own 5000576]],104⟩)]
noncomputable def abS(y:aaU.H):Option (aQ aaQ):=
(f16 (((y.2.2.2.2.2.1,()),(y.2.2.1.1,()),()),())).bind fun a=>
 bif(!(!a.1.1)) then
 some ((y.1.1,(),(),y.1.2.2.2.1,(),(),y.1.2.2.2.2.2.2.1,(y.1.2.2.2.2.2.2.1 !=y.1.2.2.2.1),()),(y.2.1.1,()),(y.2.2.1.1,()),y.2.2.2.1,((),()),y.2.2.2.2.2.1,((),()),())
else
 some ((y.1.1,(),(),y.1.2.2.2.1,(),(),y.1.2.2.2.2.2.2.1,true,()),(y.2.1.1,()),(y.2.2.1.1,()),y.2.2.2.1,((),()),y.2.2.2.2.2.1,((),()),())
abbrev _E:Shape:=⟨[bx 1,bf 2 2 0,bf 6 6 0,ae 7,bf 9 9 0,ae 10,ae 11],[be 2 [bi .pack],be 6 [bi .pack],(5000576,.deep .pack,.cell 9 0),be 9 [.own 5000576]],104⟩
abbrev _r:List bg:=[(.norm,⟨[bx 1,bf 2 2 0,bf 6 6 0,ae 7,bf 9 9 0,aY 68],[be 2 [bi .pack],be 6 [bi .pack],(5000576,.deep .pack,.cell 9 0),be 9 [.own 5000576]],104⟩)]
noncomputable def aai(y:_E.H):Option (aQ _r):=
 bif(!(decide (y.1.2.2.2.2.2.2.1<(0:Int)))) then
(f16 (((y.2.2.2.1,()),(y.2.2.1.1,()),()),())).bind fun a=>
 bif(!(!a.1.1)) then
 some ((y.1.1,(),(),y.1.2.2.2.1,(),(y.1.2.2.2.2.2.1 !=y.1.2.2.2.1),()),(y.2.1.1,()),(y.2.2.1.1,()),y.2.2.2.1,((),()),())
else
 some ((y.1.1,(),(),y.1.2.2.2.1,(),true,()),(y.2.1.1,()),(y.2.2.1.1,()),y.2.2.2.1,((),()),())
else
 some ((y.1.1,(),(),y.1.2.2.2.1,(),true,()),(y.2.1.1,()),(y.2.2.1.1,()),y.2.2.2.1,((),()),())
abbrev XD:Shape:=⟨[bf 6 6 0,ae 7,bf 9 9 0,ae 12,bf 14 14 0,ae 15],[be 6 [bi .pack],(5000576,.deep .pack,.cell 9 0),be 9 [.own 5000576],(5000896,.deep .pack,.cell 14 0),be 14 [.own 5000896]],104⟩
abbrev Xw:List bg:=[(.norm,⟨[bf 9 9 0,ae 12,aY 95],[(5000576,.deep .pack,.cell 9 0),be 9 [.own 5000576]],104⟩)]
noncomputable def X9(y:XD.H):Option (aQ Xw):=
(f16 (((y.2.2.2.2.1,()),(y.2.1.1,()),()),())).bind fun a=>
 bif(!(!a.1.1)) then
 some (((),y.1.2.2.2.1,(y.1.2.2.2.2.2.1 !=y.1.2.1),()),y.2.2.1,((),()),())
else
 some (((),y.1.2.2.2.1,true,()),y.2.2.1,((),()),())
abbrev i5:Shape:=⟨[cg 0 [bi .pack],bx 1],[],104⟩
abbrev Bp:Shape:=⟨[aY 4],[],104⟩
noncomputable def f5(a:i5.H):Option Bp.H:=
 bif(decide ((a.1.2.1.length:Int)>(1048576:Int))) then
 some ((true,()),())
else
(f11 (((a.1.1.1,()),(1048576:Int),()),())).bind fun b=>
 bif(decide (b.1.1<(0:Int))) then
 some ((true,()),())
else
(f13 (((a.1.1.1,()),()),())).bind fun c=>
(f29 (((c.2.1,()),a.1.2.1,()),())).bind fun d=>
(f13 (((a.1.1.1,()),()),())).bind fun e=>
(f30 (((e.2.1,()),a.1.2.1,()),())).bind fun f=>
(abS ((a.1.2.1,(),(),d.1.2.1,(),(),f.1.2.1,()),(a.1.1.1,()),(d.2.1.1,()),e.2.1,((),()),f.2.1,((),()),())).bind fun g=>
 bif g.1.2.2.2.2.2.2.2.1 then
 some ((false,()),())
else
(f13 (((g.2.1.1,()),()),())).bind fun h=>
(f16 (((g.2.2.2.1,()),(h.2.1,()),()),())).bind fun i=>
 bif(!i.1.1) then
 some ((false,()),())
else
(nH ((((),()),(1:Int),()),g.2.2.2.1,())).bind fun j=>
(aai ((g.1.1,(),(),g.1.2.2.2.1,(),g.1.2.2.2.2.2.2.1,j.1.2.1,()),(g.2.1.1,()),(g.2.2.1.1,()),g.2.2.2.2.2.1,((),()),())).bind fun k=>
 bif k.1.2.2.2.2.2.1 then
 some ((false,()),())
else
(nH ((((),()),(1:Int),()),k.2.2.2.1,())).bind fun l=>
(f31 (((l.2.1,()),(1:Int),()),())).bind fun m=>
 bif(decide (m.1.1<(0:Int))) then
 some ((false,()),())
else
 bif(m.1.1 !=l.1.2.1) then
 some ((false,()),())
else
(f13 (((k.2.1.1,()),()),())).bind fun n=>
(f30 (((n.2.1,()),k.1.1,()),())).bind fun D=>
(X9 (((),k.1.2.2.2.1,(),l.1.2.1,(),D.1.2.1,()),(k.2.2.1.1,()),l.2.1,((),()),D.2.1,((),()),())).bind fun p=>
 bif p.1.2.2.1 then
 some ((false,()),())
else
(f31 (((p.2.1,()),(1:Int),()),())).bind fun q=>
 bif(decide (q.1.1<(0:Int))) then
 some ((false,()),())
else
 bif(q.1.1 !=p.1.2.1) then
 some ((false,()),())
else
 some ((true,()),())
noncomputable def Bz:aU:=ba ap Tryz.f5 i5 Bp [] f5
theorem nT.Sl{ps:List aK}(h:nT ps):jn 1048576 ps:=⟨h.1,fun p aj=>⟨h.lo.1.2 p aj,h.lo.2 p aj⟩⟩
theorem s8.ai8{p:aK}(h:s8 p):mZ p:=by
 have:=nT.Sl (ps:=[p]) ⟨by unfold iP;simp,fun q ay=>by rw[List.mem_singleton.1 ay];exact h⟩
 exact this.2 p List.mem_cons_self
theorem abV(ps:List aK):decide (dF 1 ps<0)=false:=decide_eq_false (by have:=rs ps 1;omega)
noncomputable abbrev aet:bq:=[(18,FJ),(60,FH)]
theorem aey:a9 Z (bm ap aet):=bz ⟨Ok,Oi,⟨⟩⟩
abbrev OK:Shape:=⟨[cg 0 [a6,a6,.own 600002,.own 600003],ae 1],[(600002,.row .need,.same),(600003,.row .entry,.same)],14⟩
abbrev Ow:Shape:=⟨[cg 0 [a6,a6,.own 3000002,.own 3000003],ae 4],[ci 3000002 .need 0 2,ci 3000003 .entry 0 3],14⟩
noncomputable def uI(a:OK.H):Option Ow.H:=
(uH (((),a.1.2.1,()),a.2.1,())).bind fun b=>
(uJ (((),b.1.2.1,()),a.2.2.1,())).bind fun c=>
 some (((a.1.1.1,a.1.1.2.1,(),(),()),c.1.2.1,()),b.2.1,c.2.1,())
noncomputable def FI:aU:=pY ap Tryz.f37 OK Ow [] [0] uI
theorem Oj:a4 Z 37 FI:=qZ aey Tryz.func37 (by kernel_rfl) ar (fun y=>by kernel_rfl) fun a=>by kernel_rfl
noncomputable abbrev ani:bq:=[(11,qE),(13,s9),(16,Bh),(17,zV),(31,Bg),(32,Bf),(33,Ue),(34,Be),(35,Ud),(36,Bd),(37,FI)]
theorem Vd:a9 Z (bm ap ani):=bz ⟨Hh,Hg,Hf,Fj,He,Hd,aij,Hc,aii,Hb,Oj,⟨⟩⟩
abbrev aaT:Shape:=⟨[bf 2 2 0,bf 3 3 0,bf 6 6 0,ae 7,bf 8 8 0,bf 9 9 0,bf 10 10 0,ae 11],[be 2 [bi .pack],be 3 [a6,a6,bi .need,bi .entry],be 6 [bi .pack],(5000512,.deep .pack,.cell 8 0),be 8 [.own 5000512],eX 5000578 .need 9 2,eX 5000579 .entry 9 3,be 9 [a6,a6,.own 5000578,.own 5000579],(5000640,.deep .pack,.cell 10 0),be 10 [.own 5000640]],119⟩
abbrev aaP:List bg:=[(.norm,⟨[bf 2 2 0,bf 3 3 0,bf 6 6 0,ae 7,bf 8 8 0,bf 9 9 0,bf 10 10 0,ae 11,aY 53],[be 2 [bi .pack],be 3 [a6,a6,bi .need,bi .entry],be 6 [bi .pack],(5000512,.deep .pack,.cell 8 0),be 8 [.own 5000512],eX 5000578 .need 9 2,eX 5000579 .entry 9 3,be 9 [a6,a6,.own 5000578,.own 5000579],(5000640,.deep .pack,.cell 10 0),be 10 [.own 5000640]],119⟩)]
noncomputable def abR(y:aaT.H):Option (aQ aaP):=
(f16 (((y.2.2.2.2.2.2.2.2.2.1,()),(y.2.2.2.1.1,()),()),())).bind fun a=>
 bif(!(!a.1.1)) then
 some (((),(),(),y.1.2.2.2.1,(),(),(),y.1.2.2.2.2.2.2.2.1,(y.1.2.2.2.2.2.2.2.1 !=y.1.2.2.2.1),()),(y.2.1.1,()),(y.2.2.1.1,y.2.2.1.2.1,y.2.2.1.2.2.1,y.2.2.1.2.2.2.1,()),(y.2.2.2.1.1,()),y.2.2.2.2.1,((),()),y.2.2.2.2.2.2.1,y.2.2.2.2.2.2.2.1,(y.2.2.2.2.2.2.2.2.1.1,y.2.2.2.2.2.2.2.2.1.2.1,(),(),()),y.2.2.2.2.2.2.2.2.2.1,((),()),())
else
 some (((),(),(),y.1.2.2.2.1,(),(),(),y.1.2.2.2.2.2.2.2.1,true,()),(y.2.1.1,()),(y.2.2.1.1,y.2.2.1.2.1,y.2.2.1.2.2.1,y.2.2.1.2.2.2.1,()),(y.2.2.2.1.1,()),y.2.2.2.2.1,((),()),y.2.2.2.2.2.2.1,y.2.2.2.2.2.2.2.1,(y.2.2.2.2.2.2.2.2.1.1,y.2.2.2.2.2.2.2.2.1.2.1,(),(),()),y.2.2.2.2.2.2.2.2.2.1,((),()),())
abbrev Y8:Shape:=⟨[bf 2 2 0,bf 3 3 0,bf 6 6 0,ae 7,bf 10 10 0,ae 11,ae 12],[be 2 [bi .pack],be 3 [a6,a6,bi .need,bi .entry],be 6 [bi .pack],(5000640,.deep .pack,.cell 10 0),be 10 [.own 5000640]],119⟩
abbrev YZ:List bg:=[(.norm,⟨[bf 2 2 0,bf 3 3 0,bf 6 6 0,ae 7,bf 10 10 0,aY 82],[be 2 [bi .pack],be 3 [a6,a6,bi .need,bi .entry],be 6 [bi .pack],(5000640,.deep .pack,.cell 10 0),be 10 [.own 5000640]],119⟩)]
noncomputable def ZN(y:Y8.H):Option (aQ YZ):=
 bif(!(decide (y.1.2.2.2.2.2.2.1<(0:Int)))) then
(f16 (((y.2.2.2.2.1,()),(y.2.2.2.1.1,()),()),())).bind fun a=>
 bif(!(!a.1.1)) then
 some (((),(),(),y.1.2.2.2.1,(),(y.1.2.2.2.2.2.1 !=y.1.2.2.2.1),()),(y.2.1.1,()),(y.2.2.1.1,y.2.2.1.2.1,y.2.2.1.2.2.1,y.2.2.1.2.2.2.1,()),(y.2.2.2.1.1,()),y.2.2.2.2.1,((),()),())
else
 some (((),(),(),y.1.2.2.2.1,(),true,()),(y.2.1.1,()),(y.2.2.1.1,y.2.2.1.2.1,y.2.2.1.2.2.1,y.2.2.1.2.2.2.1,()),(y.2.2.2.1.1,()),y.2.2.2.2.1,((),()),())
else
 some (((),(),(),y.1.2.2.2.1,(),true,()),(y.2.1.1,()),(y.2.2.1.1,y.2.2.1.2.1,y.2.2.1.2.2.1,y.2.2.1.2.2.2.1,()),(y.2.2.2.1.1,()),y.2.2.2.2.1,((),()),())
abbrev Wa:Shape:=⟨[bf 6 6 0,ae 7,bf 10 10 0,ae 13,bf 15 15 0,ae 16],[be 6 [bi .pack],(5000640,.deep .pack,.cell 10 0),be 10 [.own 5000640],(5000960,.deep .pack,.cell 15 0),be 15 [.own 5000960]],119⟩
abbrev V4:List bg:=[(.norm,⟨[bf 10 10 0,ae 13,aY 110],[(5000640,.deep .pack,.cell 10 0),be 10 [.own 5000640]],119⟩)]
noncomputable def Wu(y:Wa.H):Option (aQ V4):=
(f16 (((y.2.2.2.2.1,()),(y.2.1.1,()),()),())).bind fun a=>
 bif(!(!a.1.1)) then
 some (((),y.1.2.2.2.1,(y.1.2.2.2.2.2.1 !=y.1.2.1),()),y.2.2.1,((),()),())
else
 some (((),y.1.2.2.2.1,true,()),y.2.2.1,((),()),())
abbrev i6:Shape:=⟨[cg 0 [bi .pack],cg 1 [a6,a6,bi .need,bi .entry]],[],119⟩
abbrev Bo:Shape:=⟨[aY 4],[],119⟩
noncomputable def f6(a:i6.H):Option Bo.H:=
(f11 (((a.1.1.1,()),(1048576:Int),()),())).bind fun b=>
 bif(decide (b.1.1<(0:Int))) then
 some ((true,()),())
else
(f32 (((a.1.2.1.1,a.1.2.1.2.1,a.1.2.1.2.2.1,a.1.2.1.2.2.2.1,()),b.1.1,()),())).bind fun c=>
 bif(decide (c.1.1<(0:Int))) then
 some ((true,()),())
else
(f13 (((a.1.1.1,()),()),())).bind fun d=>
(f34 (((a.1.2.1.1,a.1.2.1.2.1,a.1.2.1.2.2.1,a.1.2.1.2.2.2.1,()),()),())).bind fun e=>
(f33 (((d.2.1,()),(e.2.2.2.1.1,e.2.2.2.1.2.1,e.2.1,e.2.2.1,()),()),())).bind fun f=>
(f13 (((a.1.1.1,()),()),())).bind fun g=>
(f34 (((a.1.2.1.1,a.1.2.1.2.1,a.1.2.1.2.2.1,a.1.2.1.2.2.2.1,()),()),())).bind fun h=>
(f35 (((g.2.1,()),(h.2.2.2.1.1,h.2.2.2.1.2.1,h.2.1,h.2.2.1,()),()),())).bind fun i=>
(abR (((),(),(),f.1.2.1,(),(),(),i.1.2.1,()),(a.1.1.1,()),(a.1.2.1.1,a.1.2.1.2.1,a.1.2.1.2.2.1,a.1.2.1.2.2.2.1,()),(f.2.1.1,()),g.2.1,((),()),h.2.1,h.2.2.1,(h.2.2.2.1.1,h.2.2.2.1.2.1,(),(),()),i.2.1,((),()),())).bind fun j=>
 bif j.1.2.2.2.2.2.2.2.2.1 then
 some ((false,()),())
else
(f13 (((j.2.1.1,()),()),())).bind fun k=>
(f16 (((j.2.2.2.2.1,()),(k.2.1,()),()),())).bind fun l=>
 bif(!l.1.1) then
 some ((false,()),())
else
(f34 (((j.2.2.1.1,j.2.2.1.2.1,j.2.2.1.2.2.1,j.2.2.1.2.2.2.1,()),()),())).bind fun m=>
(f36 (((j.2.2.2.2.2.2.2.2.1.1,j.2.2.2.2.2.2.2.2.1.2.1,j.2.2.2.2.2.2.1,j.2.2.2.2.2.2.2.1,()),(m.2.2.2.1.1,m.2.2.2.1.2.1,m.2.1,m.2.2.1,()),()),())).bind fun n=>
 bif(!n.1.1) then
 some ((false,()),())
else
(nH ((((),()),(1:Int),()),j.2.2.2.2.1,())).bind fun D=>
(uI (((j.2.2.2.2.2.2.2.2.1.1,j.2.2.2.2.2.2.2.2.1.2.1,(),(),()),D.1.2.1,()),j.2.2.2.2.2.2.1,j.2.2.2.2.2.2.2.1,())).bind fun p=>
(ZN (((),(),(),j.1.2.2.2.1,(),j.1.2.2.2.2.2.2.2.1,p.1.2.1,()),(j.2.1.1,()),(j.2.2.1.1,j.2.2.1.2.1,j.2.2.1.2.2.1,j.2.2.1.2.2.2.1,()),(j.2.2.2.1.1,()),j.2.2.2.2.2.2.2.2.2.1,((),()),())).bind fun q=>
 bif q.1.2.2.2.2.2.1 then
 some ((false,()),())
else
(nH ((((),()),(1:Int),()),q.2.2.2.2.1,())).bind fun r=>
(f31 (((r.2.1,()),(1:Int),()),())).bind fun s=>
 bif(decide (s.1.1<(0:Int))) then
 some ((false,()),())
else
 bif(s.1.1 !=r.1.2.1) then
 some ((false,()),())
else
(f13 (((q.2.1.1,()),()),())).bind fun t=>
(f34 (((q.2.2.1.1,q.2.2.1.2.1,q.2.2.1.2.2.1,q.2.2.1.2.2.2.1,()),()),())).bind fun u=>
(f35 (((t.2.1,()),(u.2.2.2.1.1,u.2.2.2.1.2.1,u.2.1,u.2.2.1,()),()),())).bind fun v=>
(Wu (((),q.1.2.2.2.1,(),r.1.2.1,(),v.1.2.1,()),(q.2.2.2.1.1,()),r.2.1,((),()),v.2.1,((),()),())).bind fun w=>
 bif w.1.2.2.1 then
 some ((false,()),())
else
(f31 (((w.2.1,()),(1:Int),()),())).bind fun x=>
 bif(decide (x.1.1<(0:Int))) then
 some ((false,()),())
else
 bif(x.1.1 !=w.1.2.1) then
 some ((false,()),())
else
 some ((true,()),())
noncomputable def U9:aU:=ba ap Tryz.f6 i6 Bo [] f6
noncomputable abbrev anh:bq:=[(11,qE),(13,s9),(16,Bh),(17,zV),(31,Bg),(32,Bf),(34,Be),(36,Bd),(37,FI),(38,Uc),(39,Ub)]
theorem tn:a9 Z (bm ap anh):=bz ⟨Hh,Hg,Hf,Fj,He,Hd,Hc,Hb,Oj,aih,aig,⟨⟩⟩
abbrev Mv:Shape:=⟨[bf 2 2 0,bf 3 3 0,bf 6 6 0,ae 7,bf 8 8 0,bf 9 9 0,bf 10 10 0,ae 11],[be 2 [bi .pack],be 3 [a6,a6,bi .need,bi .entry],be 6 [bi .pack],(5000512,.deep .pack,.cell 8 0),be 8 [.own 5000512],eX 5000578 .need 9 2,eX 5000579 .entry 9 3,be 9 [a6,a6,.own 5000578,.own 5000579],(5000640,.deep .pack,.cell 10 0),be 10 [.own 5000640]],119⟩
abbrev Mm:List bg:=[(.norm,⟨[bf 2 2 0,bf 3 3 0,bf 6 6 0,ae 7,bf 8 8 0,bf 9 9 0,bf 10 10 0,ae 11,aY 53],[be 2 [bi .pack],be 3 [a6,a6,bi .need,bi .entry],be 6 [bi .pack],(5000512,.deep .pack,.cell 8 0),be 8 [.own 5000512],eX 5000578 .need 9 2,eX 5000579 .entry 9 3,be 9 [a6,a6,.own 5000578,.own 5000579],(5000640,.deep .pack,.cell 10 0),be 10 [.own 5000640]],119⟩)]
noncomputable def Ec(y:Mv.H):Option (aQ Mm):=
(f16 (((y.2.2.2.2.2.2.2.2.2.1,()),(y.2.2.2.1.1,()),()),())).bind fun a=>
 bif(!(!a.1.1)) then
 some (((),(),(),y.1.2.2.2.1,(),(),(),y.1.2.2.2.2.2.2.2.1,(y.1.2.2.2.2.2.2.2.1 !=y.1.2.2.2.1),()),(y.2.1.1,()),(y.2.2.1.1,y.2.2.1.2.1,y.2.2.1.2.2.1,y.2.2.1.2.2.2.1,()),(y.2.2.2.1.1,()),y.2.2.2.2.1,((),()),y.2.2.2.2.2.2.1,y.2.2.2.2.2.2.2.1,(y.2.2.2.2.2.2.2.2.1.1,y.2.2.2.2.2.2.2.2.1.2.1,(),(),()),y.2.2.2.2.2.2.2.2.2.1,((),()),())
else
 some (((),(),(),y.1.2.2.2.1,(),(),(),y.1.2.2.2.2.2.2.2.1,true,()),(y.2.1.1,()),(y.2.2.1.1,y.2.2.1.2.1,y.2.2.1.2.2.1,y.2.2.1.2.2.2.1,()),(y.2.2.2.1.1,()),y.2.2.2.2.1,((),()),y.2.2.2.2.2.2.1,y.2.2.2.2.2.2.2.1,(y.2.2.2.2.2.2.2.2.1.1,y.2.2.2.2.2.2.2.2.1.2.1,(),(),()),y.2.2.2.2.2.2.2.2.2.1,((),()),())
theorem aaZ:bw Z (aI (codeOf Tryz.f7) 1 8188) (bJ Mv Mm Ec):=ei tn (by kernel_rfl) ar fun y=>by kernel_rfl
abbrev KS:Shape:=⟨[bf 2 2 0,bf 3 3 0,bf 6 6 0,ae 7,bf 10 10 0,ae 11,ae 12],[be 2 [bi .pack],be 3 [a6,a6,bi .need,bi .entry],be 6 [bi .pack],(5000640,.deep .pack,.cell 10 0),be 10 [.own 5000640]],119⟩
abbrev KI:List bg:=[(.norm,⟨[bf 2 2 0,bf 3 3 0,bf 6 6 0,ae 7,bf 10 10 0,aY 82],[be 2 [bi .pack],be 3 [a6,a6,bi .need,bi .entry],be 6 [bi .pack],(5000640,.deep .pack,.cell 10 0),be 10 [.own 5000640]],119⟩)]
noncomputable def Cq(y:KS.H):Option (aQ KI):=
 bif(!(decide (y.1.2.2.2.2.2.2.1<(0:Int)))) then
(f16 (((y.2.2.2.2.1,()),(y.2.2.2.1.1,()),()),())).bind fun a=>
 bif(!(!a.1.1)) then
 some (((),(),(),y.1.2.2.2.1,(),(y.1.2.2.2.2.2.1 !=y.1.2.2.2.1),()),(y.2.1.1,()),(y.2.2.1.1,y.2.2.1.2.1,y.2.2.1.2.2.1,y.2.2.1.2.2.2.1,()),(y.2.2.2.1.1,()),y.2.2.2.2.1,((),()),())
else
 some (((),(),(),y.1.2.2.2.1,(),true,()),(y.2.1.1,()),(y.2.2.1.1,y.2.2.1.2.1,y.2.2.1.2.2.1,y.2.2.1.2.2.2.1,()),(y.2.2.2.1.1,()),y.2.2.2.2.1,((),()),())
else
 some (((),(),(),y.1.2.2.2.1,(),true,()),(y.2.1.1,()),(y.2.2.1.1,y.2.2.1.2.1,y.2.2.1.2.2.1,y.2.2.1.2.2.2.1,()),(y.2.2.2.1.1,()),y.2.2.2.2.1,((),()),())
theorem Ze:bw Z (aI (codeOf Tryz.f7) 1 524284) (bJ KS KI Cq):=ei tn (by kernel_rfl) ar fun y=>by kernel_rfl
abbrev Jy:Shape:=⟨[bf 6 6 0,ae 7,bf 10 10 0,ae 13,bf 15 15 0,ae 16],[be 6 [bi .pack],(5000640,.deep .pack,.cell 10 0),be 10 [.own 5000640],(5000960,.deep .pack,.cell 15 0),be 15 [.own 5000960]],119⟩
abbrev Jx:List bg:=[(.norm,⟨[bf 10 10 0,ae 13,aY 110],[(5000640,.deep .pack,.cell 10 0),be 10 [.own 5000640]],119⟩)]
noncomputable def BF(y:Jy.H):Option (aQ Jx):=
(f16 (((y.2.2.2.2.1,()),(y.2.1.1,()),()),())).bind fun a=>
 bif(!(!a.1.1)) then
 some (((),y.1.2.2.2.1,(y.1.2.2.2.2.2.1 !=y.1.2.1),()),y.2.2.1,((),()),())
else
 some (((),y.1.2.2.2.1,true,()),y.2.2.1,((),()),())
theorem Wg:bw Z (aI (codeOf Tryz.f7) 1 134217724) (bJ Jy Jx BF):=ei tn (by kernel_rfl) ar fun y=>by kernel_rfl
abbrev i7:Shape:=⟨[cg 0 [bi .pack],cg 1 [a6,a6,bi .need,bi .entry]],[],119⟩
abbrev tf:Shape:=⟨[aY 4],[],119⟩
noncomputable def f7(a:i7.H):Option tf.H:=
(f11 (((a.1.1.1,()),(1048576:Int),()),())).bind fun b=>
 bif(decide (b.1.1<(0:Int))) then
 some ((true,()),())
else
(f32 (((a.1.2.1.1,a.1.2.1.2.1,a.1.2.1.2.2.1,a.1.2.1.2.2.2.1,()),b.1.1,()),())).bind fun c=>
 bif(decide (c.1.1<(0:Int))) then
 some ((true,()),())
else
(f13 (((a.1.1.1,()),()),())).bind fun d=>
(f34 (((a.1.2.1.1,a.1.2.1.2.1,a.1.2.1.2.2.1,a.1.2.1.2.2.2.1,()),()),())).bind fun e=>
(f38 (((d.2.1,()),(e.2.2.2.1.1,e.2.2.2.1.2.1,e.2.1,e.2.2.1,()),()),())).bind fun f=>
(f13 (((a.1.1.1,()),()),())).bind fun g=>
(f34 (((a.1.2.1.1,a.1.2.1.2.1,a.1.2.1.2.2.1,a.1.2.1.2.2.2.1,()),()),())).bind fun h=>
(f39 (((g.2.1,()),(h.2.2.2.1.1,h.2.2.2.1.2.1,h.2.1,h.2.2.1,()),()),())).bind fun i=>
(Ec (((),(),(),f.1.2.1,(),(),(),i.1.2.1,()),(a.1.1.1,()),(a.1.2.1.1,a.1.2.1.2.1,a.1.2.1.2.2.1,a.1.2.1.2.2.2.1,()),(f.2.1.1,()),g.2.1,((),()),h.2.1,h.2.2.1,(h.2.2.2.1.1,h.2.2.2.1.2.1,(),(),()),i.2.1,((),()),())).bind fun j=>
 bif j.1.2.2.2.2.2.2.2.2.1 then
 some ((false,()),())
else
(f13 (((j.2.1.1,()),()),())).bind fun k=>
(f16 (((j.2.2.2.2.1,()),(k.2.1,()),()),())).bind fun l=>
 bif(!l.1.1) then
 some ((false,()),())
else
(f34 (((j.2.2.1.1,j.2.2.1.2.1,j.2.2.1.2.2.1,j.2.2.1.2.2.2.1,()),()),())).bind fun m=>
(f36 (((j.2.2.2.2.2.2.2.2.1.1,j.2.2.2.2.2.2.2.2.1.2.1,j.2.2.2.2.2.2.1,j.2.2.2.2.2.2.2.1,()),(m.2.2.2.1.1,m.2.2.2.1.2.1,m.2.1,m.2.2.1,()),()),())).bind fun n=>
 bif(!n.1.1) then
 some ((false,()),())
else
(nH ((((),()),(1:Int),()),j.2.2.2.2.1,())).bind fun D=>
(uI (((j.2.2.2.2.2.2.2.2.1.1,j.2.2.2.2.2.2.2.2.1.2.1,(),(),()),D.1.2.1,()),j.2.2.2.2.2.2.1,j.2.2.2.2.2.2.2.1,())).bind fun p=>
(Cq (((),(),(),j.1.2.2.2.1,(),j.1.2.2.2.2.2.2.2.1,p.1.2.1,()),(j.2.1.1,()),(j.2.2.1.1,j.2.2.1.2.1,j.2.2.1.2.2.1,j.2.2.1.2.2.2.1,()),(j.2.2.2.1.1,()),j.2.2.2.2.2.2.2.2.2.1,((),()),())).bind fun q=>
 bif q.1.2.2.2.2.2.1 then
 some ((false,()),())
else
(nH ((((),()),(1:Int),()),q.2.2.2.2.1,())).bind fun r=>
(f31 (((r.2.1,()),(1:Int),()),())).bind fun s=>
 bif(decide (s.1.1<(0:Int))) then
 some ((false,()),())
else
 bif(s.1.1 !=r.1.2.1) then
 some ((false,()),())
else
(f13 (((q.2.1.1,()),()),())).bind fun t=>
(f34 (((q.2.2.1.1,q.2.2.1.2.1,q.2.2.1.2.2.1,q.2.2.1.2.2.2.1,()),()),())).bind fun u=>
(f39 (((t.2.1,()),(u.2.2.2.1.1,u.2.2.2.1.2.1,u.2.1,u.2.2.1,()),()),())).bind fun v=>
(BF (((),q.1.2.2.2.1,(),r.1.2.1,(),v.1.2.1,()),(q.2.2.2.1.1,()),r.2.1,((),()),v.2.1,((),()),())).bind fun w=>
 bif w.1.2.2.1 then
 some ((false,()),())
else
(f31 (((w.2.1,()),(1:Int),()),())).bind fun x=>
 bif(decide (x.1.1<(0:Int))) then
 some ((false,()),())
else
 bif(x.1.1 !=w.1.2.1) then
 some ((false,()),())
else
 some ((true,()),())
noncomputable def ol:aU:=ba ap Tryz.f7 i7 tf [] f7
theorem Iy:a4 Z 7 ol:=bc tn Tryz.func7 (by kernel_rfl) (bN aaZ (bN Ze (bN Wg ar))) (fun y=>by kernel_rfl) fun a=>by kernel_rfl
theorem _s{k:Nat}{ps:List aK}{p:aK}(h:jn k ps)(aj:mZ p)(ag:k+1<=2097152):eu (mC ps p).1:=by
 have h0:=h.lo (by omega)
 have h1:=(CC (yM p.name h) aj).lo ag;unfold mC zC;cases is ps with
 |false=>exact⟨Nat.zero_le _,fun p aj=>by cases aj⟩
 |true=>
  simp only[cond_true];cases dE p with
  |false=>exact h0
  |true=>
   simp only[cond_true];cases ps.find? (fun q=>q.name==p.name) with
   |none=>exact h0
   |some q=>
    simp only;cases decide (lH q.a8 p.a8>=0) with
    |true=>exact h0
    |false=>
     simp only[cond_false];cases fG (ft (h' ps p.name) p)==0 with
     |false=>exact h0
     |true=>exact h1
theorem Yy(p:aK)(h:li p):f34 (((p.name,(p.a8,(p.bb,(p.bu,())))),()),())=some (((),()),(p.bb,(p.bu,((p.name,(p.a8,((),((),())))),())))):=by
 simp only[f34,KE ((p.bb,()),()) h.2.2.1.1,J' ((p.bu,()),()) h.2.2.2.1,Option.bind_some]
theorem ZA{ps:List aK}{p:aK}(M:nT ps)(aj:li p):dd (dF 1 ps+3*(p.bb.length:Int)+4*(p.bu.length:Int)):=by
 have h:=MW (ps:=ps) (k:=1) fun q ay=>⟨(M.lo.1.2 q ay).2.2.1.1,(M.lo.1.2 q ay).2.2.2.1⟩
 have hl:ps.length<=1048576:=M.1;have h1:p.bb.length<=2097152:=aj.2.2.1.1;have h2:p.bu.length<=2097152:=aj.2.2.2.1;unfold dd;omega
theorem WC(p:aK)(k:Int)(h0:1<=k)(aj:li p)(h1:dd (k+3*(p.bb.length:Int)+4*(p.bu.length:Int))):
  uI (((p.name,(p.a8,((),((),())))),(k,())),(p.bb,(p.bu,())))=some (((p.name,(p.a8,((),((),())))),(k+3*(p.bb.length:Int)+4*(p.bu.length:Int),())),(e6 k p.bb.length,(e7 (k+3*(p.bb.length:Int)) p.bu.length,()))):=by
 have q1:=JI p.bb k h0 aj.2.2.1.1 (by unfold dd at h1 ⊢;omega)
 have q2:=Jv p.bu (k+3*(p.bb.length:Int)) (by omega) aj.2.2.2.1 h1
 simp only[uI,q1,q2,Option.bind_some]
theorem Vm(ps:List aK)(p:aK)(hm:u' ps)(aj0:Bi p):f7 (((ps,()),((p.name,(p.a8,(p.bb,(p.bu,())))),())),())=some ((true,()),()):=by
 obtain⟨r,e1,e2⟩:=Z7 (((ps,()),((1048576:Int),())),()) (show(0:Int)<=1048576 by decide) (show(1048576:Int)<=1048576 by decide) hm
 simp only[f7,e1,Option.bind_some];rcases e2 with e2|⟨q1,q2,dC⟩
 ·simp only[e2,decide_true,cond_true]
 ·have iK:¬r<0:=by omega
  obtain⟨iN,bK,c_⟩:=Lr (((p.name,(p.a8,(p.bb,(p.bu,())))),(r,())),()) q1 q2 aj0;simp only[iK,decide_false,cond_false,bK,Option.bind_some];rcases c_ with c_|⟨m',m_,p3⟩
  ·simp only[c_,decide_true,cond_true]
  ·have qn:¬iN<0:=by omega
   obtain⟨hb,hv⟩:=dC.lo;have ay:=nT.Sl dC;have aj:mZ p:=s8.ai8 p3;have s1:=Xs (((ps,()),((p.name,(p.a8,(p.bb,(p.bu,())))),())),()) 1048576 (by decide) ay aj
   have s2:=WG (((ps,()),((p.name,(p.a8,(p.bb,(p.bu,())))),())),()) 1048576 (by decide) ay aj
   have A2:=_s (p:=p) ay aj (by decide)
   obtain⟨xs,nX⟩:∃xs,(mC ps p).1=xs:=⟨_,rfl⟩;obtain⟨c,hc⟩:∃c,(mC ps p).2=c:=⟨_,rfl⟩;simp only[nX,hc] at s1 s2;rw[nX] at A2;have mW:=rs ps 1;have aj1:=ZA (p:=p) dC aj.1;have m1:=WC p (dF 1 ps) mW aj.1 aj1;have ag:decide (dF 1 ps+3*(p.bb.length:Int)+4*(p.bu.length:Int)<0)=false:=decide_eq_false (by omega)
   simp only[qn,decide_false,cond_false,Z6 (((ps,()),()),()) hb,Yy p aj.1,Option.bind_some,s1,s2,Ec,Cq,BF,Lx xs A2,Lx ps hb,Ly p aj.1,Bool.not_true,Bool.not_false,cond_true,FE,Kb ps hb,m1,ag,Kb xs A2,Xo xs A2,abV]
theorem Z5{a b:al}{aA:List dr}{es:List a5}(h:∀d,d∈eE [.str,.str,.sl .need,.sl .entry] (a,(b,(aA,(es,()))))->ie d):Bi ⟨a,b,aA,es⟩:=
 ⟨oz (h (.str a) (by simp[eE,da.mk])),oz (h (.str b) (by simp[eE,da.mk])),Lq (h (.sl .need aA) (by simp[eE,da.mk])),J9 (h (.sl .entry es) (by simp[eE,da.mk]))⟩
theorem pure_FnExactRootSwap:LawOk ol [(true,[.sl .pack]),(true,[.str,.str,.sl .need,.sl .entry])]:=by
 rintro⟨⟨ps,u⟩,⟨a,b,aA,es,UR⟩,bF⟩ ⟨h,h2,_⟩;have hm:u' ps:=Z4 (h (.sl .pack ps) (by simp[eE,da.mk]))
 exact⟨((true,()),()),Vm ps ⟨a,b,aA,es⟩ hm (Z5 h2),rfl⟩
end Go.Proofs
