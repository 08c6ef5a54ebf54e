/- FnExactRootIn: the program's RootIn returns what the reference's returns, for all arguments. (part 5 of 6: JnNPuL, JnNF54, JnNF112, JnNF18v0, JnNF60v0, JnNF26v0, JnNF17v0, JnNF19, JnNF68, JnNF31, JnNPuHa, JnNPuP, JnNPuQ, JnNPuRa, JnNF105, JnNF107, JnNF115, JnNF62, JnNF71, JnNPuR, JnNPuN, JnNF12, JnNF14, Jn) Conditions: none beyond the statement. -/
import Derived.Test.YthllakklnccioaaGreatDoorZFnExactRootIn3
import Derived.Tactics
import Derived.Deep.RegionLaw
import Derived.Shelf.Abstract
import Derived.Test.YthllakklnccioaaGreatDoorProg
import Derived.KernelRfl
set_option maxRecDepth 100000
set_option linter.unusedVariables false
set_option linter.unusedSimpArgs false
namespace Go.Proofs
open Go.Jk
abbrev gv(n:Nat):Prop:=n<=maxLen
abbrev iN(n:Nat):Prop:=n<=1048576
abbrev Uh(n:dq):Prop:=gv n.name.length/\gv n.be.length
abbrev Ia(n:dq):Prop:=iN n.name.length/\iN n.be.length
abbrev Ui(e:a4):Prop:=gv e.path.length/\gv e.text.length
abbrev Ib(e:a4):Prop:=iN e.path.length/\iN e.text.length
abbrev GQ(l:List dq):Prop:=gv l.length/\∀n,n∈l->Uh n
abbrev QW(l:List dq):Prop:=iN l.length/\∀n,n∈l->Ia n
abbrev GR(l:List a4):Prop:=gv l.length/\∀n,n∈l->Ui n
abbrev QX(l:List a4):Prop:=iN l.length/\∀n,n∈l->Ib n
abbrev Bc(p:aM):Prop:=gv p.name.length/\gv p.be.length/\GQ p.bb/\GR p.br
abbrev sY(p:aM):Prop:=iN p.name.length/\iN p.be.length/\QW p.bb/\QX p.br
abbrev u9(l:List aM):Prop:=gv l.length/\∀n,n∈l->Bc n
abbrev nM(l:List aM):Prop:=iN l.length/\∀n,n∈l->sY n
theorem np{l:Int}{n:Nat}(h0:0<=l)(h1:l<=1048576)(hn:gv n):IntKind.i64.wrap (l-(n:Int))=l-n:=by
 unfold gv maxLen at hn;exact ei (by omega) (by omega)
def pG(l r:Int)(p:Prop):Prop:=r<0\/(0<=r/\r<=l/\p)
theorem DC{aH H bA:Type}(g:H->Option (Sum H bA))(xs:List aH)(st:Nat->Int->H)(no:bA)(nN:Int->bA)(W:aH->Prop)
  (h1:∀i x s,xs[i]? =some x->0<=s->s<=1048576->g (st i s)=some (.inr no)\/∃am,0<=am/\am<=s/\W x/\g (st i s)=some (.inl (st (i+1) am)))
  (h2:∀s,g (st xs.length s)=some (.inr (nN s))) (s:Int) (aa:0<=s) (aI:s<=1048576):
  bO g (st 0 s)=some no\/∃am,0<=am/\am<=s/\(∀x,x∈xs->W x)/\bO g (st 0 s)=some (nN am):=by
 suffices h:∀(r:List aH) (k:Nat) (s:Int),xs.drop k=r->k<=xs.length->0<=s->s<=1048576->bO g (st k s)=some no\/∃am,0<=am/\am<=s/\(∀x,x∈r->W x)/\bO g (st k s)=some (nN am) from
  h xs 0 s rfl (Nat.zero_le _) aa aI
 intro r;induction r with
 |nil=>
  intro k s hr ag aa aI;have:=drop_nil hr;obtain rfl:k=xs.length:=by omega
  exact .inr ⟨s,aa,Int.le_refl _,fun x h=>(by cases h),eA (h2 s)⟩
 |cons x r ih=>
  intro k s hr ag aa aI;obtain⟨c1,c2,c3⟩:=drop_cons hr;rcases h1 k x s c1 aa aI with h|⟨am,aB,ao,bu,b'⟩
  ·exact .inl (eA h)
  ·rw[hk b'];rcases ih (k+1) am c2 (by omega) aB (by omega) with h|⟨s2,q1,q2,dB,l8⟩
   ·exact .inl h
   ·exact .inr ⟨s2,q1,by omega,fun y ak=>by
     rcases List.mem_cons.1 ak with rfl|ak
     ·exact bu
     ·exact dB y ak,l8⟩
theorem ZW(a)(h0:0<=a.1.2.1)(h1:a.1.2.1<=1048576)(hm:Uh ⟨a.1.1.1,a.1.1.2.1,a.1.1.2.2.1⟩):∃r:Int,f113 a=some ((r,()),())/\pG a.1.2.1 r (Ia ⟨a.1.1.1,a.1.1.2.1,a.1.1.2.2.1⟩):=by
 obtain⟨⟨⟨(n:al),k,(v:al),u⟩,(l:Int),bF⟩,iE⟩:=a;have h0:0<=l:=h0;have h1:l<=1048576:=h1;obtain⟨m1,m2⟩:=hm;have m1:gv n.length:=m1;have m2:gv v.length:=m2;simp only[f113,np h0 h1 m1];by_cases c:l-(n.length:Int)<0
 ·simp only[c,decide_true,cond_true];exact⟨_,rfl,.inl (by omega)⟩
 ·simp only[c,decide_false,cond_false,np (l:=l-n.length) (by omega) (by omega) m2]
  by_cases c2:l-(n.length:Int)-(v.length:Int)<0
  ·simp only[c2,decide_true,cond_true];exact⟨_,rfl,.inl (by omega)⟩
  ·simp only[c2,decide_false,cond_false];exact⟨_,rfl,.inr ⟨by omega,(by show l-n.length-v.length<=l;omega),(by show n.length<=1048576;omega),(by show v.length<=1048576;omega)⟩⟩
theorem Ys(a)(h0:0<=a.1.2.1)(h1:a.1.2.1<=1048576)(hm:Ui ⟨a.1.1.1,a.1.1.2.1,a.1.1.2.2.1,a.1.1.2.2.2.1⟩):∃r:Int,f114 a=some ((r,()),())/\pG a.1.2.1 r (Ib ⟨a.1.1.1,a.1.1.2.1,a.1.1.2.2.1,a.1.1.2.2.2.1⟩):=by
 obtain⟨⟨⟨(n:al),k,ao,(v:al),u⟩,(l:Int),bF⟩,iE⟩:=a;have h0:0<=l:=h0;have h1:l<=1048576:=h1;obtain⟨m1,m2⟩:=hm;have m1:gv n.length:=m1;have m2:gv v.length:=m2;simp only[f114,np h0 h1 m1];by_cases c:l-(n.length:Int)<0
 ·simp only[c,decide_true,cond_true];exact⟨_,rfl,.inl (by omega)⟩
 ·simp only[c,decide_false,cond_false,np (l:=l-n.length) (by omega) (by omega) m2]
  by_cases c2:l-(n.length:Int)-(v.length:Int)<0
  ·simp only[c2,decide_true,cond_true];exact⟨_,rfl,.inl (by omega)⟩
  ·simp only[c2,decide_false,cond_false];exact⟨_,rfl,.inr ⟨by omega,(by show l-n.length-v.length<=l;omega),(by show n.length<=1048576;omega),(by show v.length<=1048576;omega)⟩⟩
theorem Yr(a)(h0:0<=a.1.2.1)(h1:a.1.2.1<=1048576)(hm:GQ a.1.1):∃r:Int,f69 a=some ((r,()),())/\pG a.1.2.1 r (QW a.1.1):=by
 obtain⟨⟨xs,(l:Int),u⟩,bF⟩:=a;have h0:0<=l:=h0;have h1:l<=1048576:=h1;obtain⟨m1,m2⟩:=hm;have m1:gv xs.length:=m1;simp only[f69,np h0 h1 m1];by_cases c:l-(xs.length:Int)<0
 ·simp only[c,decide_true,cond_true];exact⟨_,rfl,.inl (by omega)⟩
 ·simp only[c,decide_false,cond_false];have hl:xs.length<=1048576:=by omega
  have key:=DC yf xs (fun i s=>((xs,(s,((i:Int),()))),())) (.inl (((-1:Int),()),())) (fun s=>.inr ((s,()),())) Ia (fun i x s hx jo s1=>?_) (fun s=>?_) (l-xs.length) (by omega) (by omega)
  ·rcases key with h|⟨am,aB,ao,bu,h⟩
   ·have h:x7 ((xs,(l-xs.length,((0:Int),()))),())=_:=h;exact⟨-1,by rw[h];rfl,.inl (by omega)⟩
   ·have h:x7 ((xs,(l-xs.length,((0:Int),()))),())=_:=h;exact⟨am,by rw[h];rfl,.inr ⟨aB,(by show am<=l;omega),hl,bu⟩⟩
  ·have hi:=cg hx;have hw:aE i:=by unfold aE;omega
   obtain⟨r,e1,e2⟩:=ZW (((x.name,(x.kind,(x.be,()))),(s,())),()) jo s1 (m2 x (List.mem_of_getElem? hx));simp only[yf,ce hi,cond_true,b4,hx,Option.bind_some,e1,ca hw];rcases e2 with e2|⟨q1,q2,dB⟩
   ·left;simp only[e2,decide_true,cond_true]
   ·have:¬r<0:=by omega
    right;refine⟨r,q1,q2,dB,?_⟩;simp only[this,decide_false,cond_false]
  ·simp only[yf,cX,cond_false]
theorem Xd(a)(h0:0<=a.1.2.1)(h1:a.1.2.1<=1048576)(hm:GR a.1.1):∃r:Int,f70 a=some ((r,()),())/\pG a.1.2.1 r (QX a.1.1):=by
 obtain⟨⟨xs,(l:Int),u⟩,bF⟩:=a;have h0:0<=l:=h0;have h1:l<=1048576:=h1;obtain⟨m1,m2⟩:=hm;have m1:gv xs.length:=m1;simp only[f70,np h0 h1 m1];by_cases c:l-(xs.length:Int)<0
 ·simp only[c,decide_true,cond_true];exact⟨_,rfl,.inl (by omega)⟩
 ·simp only[c,decide_false,cond_false];have hl:xs.length<=1048576:=by omega
  have key:=DC ye xs (fun i s=>((xs,(s,((i:Int),()))),())) (.inl (((-1:Int),()),())) (fun s=>.inr ((s,()),())) Ib (fun i x s hx jo s1=>?_) (fun s=>?_) (l-xs.length) (by omega) (by omega)
  ·rcases key with h|⟨am,aB,ao,bu,h⟩
   ·have h:x6 ((xs,(l-xs.length,((0:Int),()))),())=_:=h;exact⟨-1,by rw[h];rfl,.inl (by omega)⟩
   ·have h:x6 ((xs,(l-xs.length,((0:Int),()))),())=_:=h;exact⟨am,by rw[h];rfl,.inr ⟨aB,(by show am<=l;omega),hl,bu⟩⟩
  ·have hi:=cg hx;have hw:aE i:=by unfold aE;omega
   obtain⟨r,e1,e2⟩:=Ys (((x.path,(x.kind,(x.mode,(x.text,())))),(s,())),()) jo s1 (m2 x (List.mem_of_getElem? hx));simp only[ye,ce hi,cond_true,b4,hx,Option.bind_some,e1,ca hw];rcases e2 with e2|⟨q1,q2,dB⟩
   ·left;simp only[e2,decide_true,cond_true]
   ·have:¬r<0:=by omega
    right;refine⟨r,q1,q2,dB,?_⟩;simp only[this,decide_false,cond_false]
  ·simp only[ye,cX,cond_false]
theorem Lo(a)(h0:0<=a.1.2.1)(h1:a.1.2.1<=1048576)(hm:Bc ⟨a.1.1.1,a.1.1.2.1,a.1.1.2.2.1,a.1.1.2.2.2.1⟩):∃r:Int,f32 a=some ((r,()),())/\pG a.1.2.1 r (sY ⟨a.1.1.1,a.1.1.2.1,a.1.1.2.2.1,a.1.1.2.2.2.1⟩):=by
 obtain⟨⟨⟨(n:al),(v:al),az,es,u⟩,(l:Int),bF⟩,iE⟩:=a;have h0:0<=l:=h0;have h1:l<=1048576:=h1;obtain⟨m1,m2,m3,m4⟩:=hm;have m1:gv n.length:=m1;have m2:gv v.length:=m2;simp only[f32,np h0 h1 m1];by_cases c:l-(n.length:Int)<0
 ·simp only[c,decide_true,cond_true];exact⟨_,rfl,.inl (by omega)⟩
 ·simp only[c,decide_false,cond_false,np (l:=l-n.length) (by omega) (by omega) m2]
  by_cases c2:l-(n.length:Int)-(v.length:Int)<0
  ·simp only[c2,decide_true,cond_true];exact⟨_,rfl,.inl (by omega)⟩
  ·simp only[c2,decide_false,cond_false];obtain⟨r,e1,e2⟩:=Yr ((az,(l-(n.length:Int)-(v.length:Int),())),()) (by show 0<=l-(n.length:Int)-(v.length:Int);omega) (by show l-(n.length:Int)-(v.length:Int)<=_;omega) m3
   simp only[e1,Option.bind_some];rcases e2 with e2|⟨q1,q2,dB⟩
   ·simp only[e2,decide_true,cond_true];exact⟨_,rfl,.inl (by omega)⟩
   ·have q2:r<=l-(n.length:Int)-(v.length:Int):=q2;have c3:¬r<0:=by omega
    simp only[c3,decide_false,cond_false];obtain⟨r2,bK,c_⟩:=Xd ((es,(r,())),()) q1 (by show r<=_;omega) m4
    simp only[bK,Option.bind_some];rcases c_ with c_|⟨l8,qB,amG⟩
    ·simp only[c_,decide_true,cond_true];exact⟨_,rfl,.inl (by omega)⟩
    ·have qB:r2<=r:=qB;have dU:¬r2<0:=by omega
     simp only[dU,decide_false,cond_false];exact⟨_,rfl,.inr ⟨l8,(by show r2<=l;omega),(by show n.length<=1048576;omega),(by show v.length<=1048576;omega),dB,amG⟩⟩
theorem Yq(a)(h0:0<=a.1.2.1)(h1:a.1.2.1<=1048576)(hm:u9 a.1.1):∃r:Int,f20 a=some ((r,()),())/\pG a.1.2.1 r (nM a.1.1):=by
 obtain⟨⟨xs,(l:Int),u⟩,bF⟩:=a;have h0:0<=l:=h0;have h1:l<=1048576:=h1;obtain⟨m1,m2⟩:=hm;have m1:gv xs.length:=m1;simp only[f20,np h0 h1 m1];by_cases c:l-(xs.length:Int)<0
 ·simp only[c,decide_true,cond_true];exact⟨_,rfl,.inl (by omega)⟩
 ·simp only[c,decide_false,cond_false];have hl:xs.length<=1048576:=by omega
  have key:=DC ym xs (fun i s=>((xs,(s,((i:Int),()))),())) (.inl (((-1:Int),()),())) (fun s=>.inr ((s,()),())) sY (fun i x s hx jo s1=>?_) (fun s=>?_) (l-xs.length) (by omega) (by omega)
  ·rcases key with h|⟨am,aB,ao,bu,h⟩
   ·have h:x8 ((xs,(l-xs.length,((0:Int),()))),())=_:=h;exact⟨-1,by rw[h];rfl,.inl (by omega)⟩
   ·have h:x8 ((xs,(l-xs.length,((0:Int),()))),())=_:=h;exact⟨am,by rw[h];rfl,.inr ⟨aB,(by show am<=l;omega),hl,bu⟩⟩
  ·have hi:=cg hx;have hw:aE i:=by unfold aE;omega
   obtain⟨r,e1,e2⟩:=Lo (((x.name,(x.be,(x.bb,(x.br,())))),(s,())),()) jo s1 (m2 x (List.mem_of_getElem? hx));simp only[ym,ce hi,cond_true,b4,hx,Option.bind_some,e1,ca hw];rcases e2 with e2|⟨q1,q2,dB⟩
   ·left;simp only[e2,decide_true,cond_true]
   ·have:¬r<0:=by omega
    right;refine⟨r,q1,q2,dB,?_⟩;simp only[this,decide_false,cond_false]
  ·simp only[ym,cX,cond_false]
theorem ZV(a)(h0:0<=a.1.2.1)(h1:a.1.2.1<=1048576)(hm:u9 a.1.1.1):∃r:Int,f11 a=some ((r,()),())/\pG a.1.2.1 r (nM a.1.1.1):=by
 obtain⟨⟨⟨xs,u⟩,l,bF⟩,iE⟩:=a;obtain⟨r,e1,e2⟩:=Yq ((xs,(l,())),()) h0 h1 hm;simp only[f11,e1,Option.bind_some];rcases e2 with e2|⟨q1,q2,dB⟩
 ·simp only[e2,decide_true,cond_true];exact⟨_,rfl,.inl (by omega)⟩
 ·have:¬r<0:=by omega
  simp only[this,decide_false,cond_false];exact⟨_,rfl,.inr ⟨q1,q2,dB⟩⟩
theorem Ct{aH H bA:Type}(g:H->Option (Sum H bA))(xs:List aH)(z:aH)(st:Nat->List aH->H)(fin:List aH->bA)
  (h1:∀i x bv,xs[i]? =some x->bv.length=xs.length->g (st i bv)=some (.inl (st (i+1) (bv.set i x))))
  (h2:g (st xs.length xs)=some (.inr (fin xs))):bO g (st 0 (List.replicate xs.length z))=some (fin xs):=by
 suffices h:∀(r:List aH) (k:Nat),xs.drop k=r->k<=xs.length->bO g (st k (xs.take k++List.replicate (xs.length-k) z))=some (fin xs) from by
  have:=h xs 0 rfl (Nat.zero_le _);simpa using this
 intro r;induction r with
 |nil=>
  intro k hr ag;have:=drop_nil hr;obtain rfl:k=xs.length:=by omega
  simp only[Nat.sub_self,List.replicate_zero,List.append_nil,List.take_length];exact eA h2
 |cons x r ih=>
  intro k hr ag;obtain⟨c1,c2,c3⟩:=drop_cons hr;have hl:(xs.take k++List.replicate (xs.length-k) z).length=xs.length:=by simp;omega
  rw[hk (h1 k x _ c1 hl)];have e:(xs.take k++List.replicate (xs.length-k) z).set k x=xs.take (k+1)++List.replicate (xs.length-(k+1)) z:=by
   have vN:(xs.take k).length=k:=by simp;omega
   obtain⟨m,hm⟩:∃m,xs.length-k=m+1:=⟨xs.length-k-1,by omega⟩
   rw[List.set_append_right _ _ (by omega),vN,Nat.sub_self,hm,show xs.length-(k+1)=m by omega,List.replicate_succ,List.set_cons_zero,List.take_add_one,c1]
   simp
  rw[e];exact ih (k+1) c2 c3
theorem Ky(a)(M:cj a.1.1.length):f72 a=some (((),()),(a.1.1,())):=by
 obtain⟨⟨xs,u⟩,bF⟩:=a;have M:xs.length<=2097152:=M;have key:=Ct zb xs (dq.mk [] 0 []) (fun i bv=>((xs,((),((i:Int),()))),(bv,()))) (fun bv=>(((),()),(bv,()))) (fun i x bv hx hl=>?_) ?_
 ·have key:EM ((xs,((),((0:Int),()))),(List.replicate xs.length (dq.mk [] 0 []),()))=_:=key;simp only[f72,EF (show(40:Nat)<=100 by decide) (show aE xs.length by unfold aE;omega),Option.bind_some,key]
 ·have hi:=cg hx;have hw:aE i:=by unfold aE;omega
  have aD:bv[i]? =some bv[i]:=List.getElem?_eq_getElem (by omega)
  simp only[zb,ce hi,cond_true,b4,hx,Option.bind_some,f116,lo (show i<bv.length by omega),aD,ca hw]
 ·simp only[zb,cX,cond_false]
theorem J6(a)(M:cj a.1.1.length):f73 a=some (((),()),(a.1.1,())):=by
 obtain⟨⟨xs,u⟩,bF⟩:=a;have M:xs.length<=2097152:=M;have key:=Ct za xs (a4.mk [] 0 0 []) (fun i bv=>((xs,((),((i:Int),()))),(bv,()))) (fun bv=>(((),()),(bv,()))) (fun i x bv hx hl=>?_) ?_
 ·have key:EL ((xs,((),((0:Int),()))),(List.replicate xs.length (a4.mk [] 0 0 []),()))=_:=key;simp only[f73,EF (show(48:Nat)<=100 by decide) (show aE xs.length by unfold aE;omega),Option.bind_some,key]
 ·have hi:=cg hx;have hw:aE i:=by unfold aE;omega
  have aD:bv[i]? =some bv[i]:=List.getElem?_eq_getElem (by omega)
  simp only[za,ce hi,cond_true,b4,hx,Option.bind_some,f117,lo (show i<bv.length by omega),aD,ca hw]
 ·simp only[za,cX,cond_false]
theorem Yp(a)(M:et a.1.1):f22 a=some (((),()),(a.1.1,())):=by
 obtain⟨⟨xs,u⟩,bF⟩:=a;obtain⟨M,hm⟩:=M;have M:xs.length<=2097152:=M;have key:=Ct zi xs (aM.mk [] [] [] []) (fun i bv=>((xs,((),((i:Int),()))),(bv,()))) (fun bv=>(((),()),(bv,()))) (fun i x bv hx hl=>?_) ?_
 ·have key:EU ((xs,((),((0:Int),()))),(List.replicate xs.length (aM.mk [] [] [] []),()))=_:=key;simp only[f22,EF (show(80:Nat)<=100 by decide) (show aE xs.length by unfold aE;omega),Option.bind_some,key]
 ·have hi:=cg hx;have hw:aE i:=by unfold aE;omega
  have aD:bv[i]? =some bv[i]:=List.getElem?_eq_getElem (by omega)
  obtain⟨_,_,bQ,jq⟩:=hm x (List.mem_of_getElem? hx);simp only[zi,ce hi,cond_true,b4,hx,Option.bind_some,f34,Ky ((x.bb,()),()) bQ.1,J6 ((x.br,()),()) jq.1,lo (show i<bv.length by omega),aD,ca hw]
 ·simp only[zi,cX,cond_false]
theorem ZU(a)(M:et a.1.1.1):f13 a=some (((),()),(a.1.1.1,(((),()),()))):=by
 obtain⟨⟨⟨xs,u⟩,bF⟩,iE⟩:=a;simp only[f13,Yp ((xs,()),()) M,Option.bind_some]
theorem Cv{aH:Type}:∀(xs:List aH) (i:Nat),allI (fun _ _=>true) i xs=true:=by
 intro xs;induction xs with
 |nil=>intro i;rfl
 |cons x r ih=>intro i;simp only[allI,ih,Bool.and_self]
theorem tC(a:Int):(a !=a)=false:=by simp
theorem Z7(a)(h:a.1.1=a.1.2.1):f125 a=some ((true,()),()):=by
 obtain⟨⟨x,y,u⟩,bF⟩:=a;have h:x=y:=h;subst h;simp only[f125,beq_self_eq_true,Bool.not_true,cond_false,tC]
theorem YF(a)(h:a.1.1=a.1.2.1):f53 a=some ((true,()),()):=by
 obtain⟨⟨x,y,u⟩,bF⟩:=a;have h:x=y:=h;subst h;simp only[f53,beq_self_eq_true,Bool.not_true,cond_false,tC]
theorem YE(xs:List dq)(M:cj xs.length):f76 ((xs,(xs,())),())=some ((true,()),()):=by
 have key:EK ((xs,(xs,((0:Int),()))),())=some (bif allI (fun _ _=>true) 0 xs then .inr ((),()) else .inl ((false,()),())):=by
  refine fB y_ xs (fun i=>((xs,(xs,((i:Int),()))),())) _ _ _ (fun i x hx=>?_) ?_
  ·have hi:=cg hx;have hw:aE i:=by unfold aE;omega
   simp only[y_,ce hi,cond_true,b4,hx,Option.bind_some,Z7 (((x.name,(x.kind,(x.be,()))),((x.name,(x.kind,(x.be,()))),())),()) rfl,Bool.not_true,cond_false,ca hw]
  ·simp only[y_,cX,cond_false]
 rw[Cv] at key;simp only[f76,tC,cond_false,key,cond_true,Option.bind_some]
theorem Xh(xs:List a4)(M:cj xs.length):f15 ((xs,(xs,())),())=some ((true,()),()):=by
 have key:EW ((xs,(xs,((0:Int),()))),())=some (bif allI (fun _ _=>true) 0 xs then .inr ((),()) else .inl ((false,()),())):=by
  refine fB zj xs (fun i=>((xs,(xs,((i:Int),()))),())) _ _ _ (fun i x hx=>?_) ?_
  ·have hi:=cg hx;have hw:aE i:=by unfold aE;omega
   simp only[zj,ce hi,cond_true,b4,hx,Option.bind_some,YF (((x.path,(x.kind,(x.mode,(x.text,())))),((x.path,(x.kind,(x.mode,(x.text,())))),())),()) rfl,Bool.not_true,cond_false,ca hw]
  ·simp only[zj,cX,cond_false]
 rw[Cv] at key;simp only[f15,tC,cond_false,key,cond_true,Option.bind_some]
theorem Lv(x:aM)(h:ld x):f36 (((x.name,(x.be,(x.bb,(x.br,())))),((x.name,(x.be,(x.bb,(x.br,())))),())),())=some ((true,()),()):=by
 simp only[f36,beq_self_eq_true,Bool.not_true,cond_false,YE _ h.2.2.1.1,Xh _ h.2.2.2.1,Option.bind_some]
theorem YD(xs:List aM)(M:et xs):f25 ((xs,(xs,())),())=some ((true,()),()):=by
 have hl:xs.length<=2097152:=M.1;have key:ET ((xs,(xs,((0:Int),()))),())=some (bif allI (fun _ _=>true) 0 xs then .inr ((),()) else .inl ((false,()),())):=by
  refine fB zh xs (fun i=>((xs,(xs,((i:Int),()))),())) _ _ _ (fun i x hx=>?_) ?_
  ·have hi:=cg hx;have hw:aE i:=by unfold aE;omega
   simp only[zh,ce hi,cond_true,b4,hx,Option.bind_some,Lv x (M.2 x (List.mem_of_getElem? hx)),Bool.not_true,cond_false,ca hw]
  ·simp only[zh,cX,cond_false]
 rw[Cv] at key;simp only[f25,tC,cond_false,key,cond_true,Option.bind_some]
theorem Lu(xs:List aM)(M:et xs):f16 (((xs,()),((xs,()),())),())=some ((true,()),()):=by
 simp only[f16,YD xs M,Option.bind_some,Bool.not_true,cond_false]
theorem nM.ma{ps:List aM}(h:nM ps):et ps/\na ps:=by
 obtain⟨h1,h2⟩:=h;have up:∀{n:Nat},iN n->cj n:=fun h=>Nat.le_trans h (by decide)
 have Sa:∀{n:Nat},iN n->n<=2097151:=fun h=>Nat.le_trans h (by decide)
 refine⟨⟨up h1,fun p aj=>?_⟩,fun p aj=>?_⟩
 ·obtain⟨a,b,c,d⟩:=h2 p aj;exact⟨up a,up b,⟨up c.1,fun n hn=>⟨up (c.2 n hn).1,up (c.2 n hn).2⟩⟩,up d.1,fun n hn=>⟨up (d.2 n hn).1,up (d.2 n hn).2⟩⟩
 ·obtain⟨a,b,c,d⟩:=h2 p aj;exact⟨Sa b,fun n hn=>Sa (c.2 n hn).2⟩
theorem oo{s:al}(h:ib (.str s)):gv s.length:=by cases h;assumption
theorem El{t:aF}{xs:List (den t)}(h:ib (.sl t xs)):gv xs.length/\∀x,x∈xs->∀d,d∈enc t x->ib d:=by cases h;exact⟨by assumption,by assumption⟩
theorem Ln{xs:List dq}(h:ib (.sl .need xs)):GQ xs:=by
 obtain⟨h1,h2⟩:=El h;exact⟨h1,fun x hx=>⟨oo (h2 x hx (.str x.name) (by simp[enc])),oo (h2 x hx (.str x.be) (by simp[enc]))⟩⟩
theorem J4{xs:List a4}(h:ib (.sl .entry xs)):GR xs:=by
 obtain⟨h1,h2⟩:=El h;exact⟨h1,fun x hx=>⟨oo (h2 x hx (.str x.path) (by simp[enc])),oo (h2 x hx (.str x.text) (by simp[enc]))⟩⟩
theorem ZS{xs:List aM}(h:ib (.sl .pack xs)):u9 xs:=by
 obtain⟨h1,h2⟩:=El h;exact⟨h1,fun x hx=>⟨oo (h2 x hx (.str x.name) (by simp[enc])),oo (h2 x hx (.str x.be) (by simp[enc])),Ln (h2 x hx (.sl .need x.bb) (by simp[enc])),J4 (h2 x hx (.sl .entry x.br) (by simp[enc]))⟩⟩
abbrev yU:Shape:=⟨[ae 0,bw 3],[],20⟩
abbrev Ex:List bf:=[(.exit 0,⟨[bw 3],[],20⟩)]
noncomputable def E2(y:yU.H):cy yU Ex:=
 bif(decide (y.1.1>(0:Int))) then
(sg y.1.1 (10:Int)).bind fun a=>
(n3 (strOf ([(IntKind.u8.wrap (IntKind.i64.wrap ((48:Int)+a)))]:List Int)) y.1.2.1).bind fun b=>
(si .i64 y.1.1 (10:Int)).bind fun c=>
 some (.inl ((c,b,()),()))
else
 some (.inr ((y.1.2.1,()),()))
noncomputable def EQ:yU.H->Option (aQ Ex):=bO E2
theorem acv:bp Z (aG (codeOf Tryz.f54) 1 60) (bH yU Ex EQ):=cD g0 (by kernel_rfl) ap fun y=>by kernel_rfl
abbrev i54:Shape:=⟨[ae 0],[],20⟩
abbrev SJ:Shape:=⟨[bw 2],[],20⟩
noncomputable def f54(a:i54.H):Option SJ.H:=
 bif(decide (a.1.1<=(0:Int))) then
 some ((([109,48]:al),()),())
else
(EQ ((a.1.1,([]:al),()),())).bind fun b=>
(n3 ([109]:al) b.1.1).bind fun c=>
 some ((c,()),())
noncomputable def qv:aT:=a' aq Tryz.f54 i54 SJ [] f54
theorem sC:a0 Z 54 qv:=ba g0 Tryz.func54 (by kernel_rfl) (bL acv ap) (fun y=>by kernel_rfl) fun a=>by kernel_rfl
noncomputable abbrev ahj:bq:=[(54,qv)]
theorem RY:a7 Z (bl aq ahj):=bx ⟨sC,⟨⟩⟩
abbrev tQ:Shape:=⟨[aV 0 .need,ae 1,ae 5],[],42⟩
abbrev Dz:List bf:=[(.ret,⟨[ae 4],[],42⟩),(.exit 0,⟨[ae 1],[],42⟩)]
noncomputable def ub(y:tQ.H):cy tQ Dz:=
 bif(decide (y.1.2.2.1<(y.1.1.length:Int))) then
(bk y.1.1 y.1.2.2.1).bind fun a=>
(f54 ((y.1.2.1,()),())).bind fun b=>
 bif(!(a.name==b.1.1)) then
 some (.inr (.inl ((((-1):Int),()),())))
else
(bk y.1.1 y.1.2.2.1).bind fun c=>
 bif(c.kind !=(IntKind.i64.wrap (y.1.2.1+(1:Int)))) then
 some (.inr (.inl ((((-1):Int),()),())))
else
(bk y.1.1 y.1.2.2.1).bind fun d=>
(f54 (((IntKind.i64.wrap ((IntKind.i64.wrap (y.1.2.1+(1:Int)))+(1:Int))),()),())).bind fun e=>
 bif(!(d.be==e.1.1)) then
 some (.inr (.inl ((((-1):Int),()),())))
else
 some (.inl ((y.1.1,(IntKind.i64.wrap ((IntKind.i64.wrap ((IntKind.i64.wrap (y.1.2.1+(1:Int)))+(1:Int)))+(1:Int))),(IntKind.i64.wrap (y.1.2.2.1+(1:Int))),()),()))
else
 some (.inr (.inr ((y.1.2.1,()),())))
noncomputable def D4:tQ.H->Option (aQ Dz):=bO ub
theorem abg:bp Z (aG (codeOf Tryz.f112) 1 26) (bH tQ Dz D4):=cD RY (by kernel_rfl) ap fun y=>by kernel_rfl
abbrev i112:Shape:=⟨[aV 0 .need,ae 1],[],42⟩
abbrev Qg:Shape:=⟨[ae 4],[],42⟩
noncomputable def f112(a:i112.H):Option Qg.H:=
(D4 ((a.1.1,a.1.2.1,(0:Int),()),())).bind fun b=>
(match b with
|.inl c=>
 some ((c.1.1,()),())
|.inr d=>
 some ((d.1.1,()),()))
noncomputable def RH:aT:=a' aq Tryz.f112 i112 Qg [] f112
theorem aff:a0 Z 112 RH:=ba RY Tryz.func112 (by kernel_rfl) (bL abg ap) (fun y=>by kernel_rfl) fun a=>by kernel_rfl
noncomputable abbrev ael:bq:=[(54,qv)]
theorem O3:a7 Z (bl aq ael):=bx ⟨sC,⟨⟩⟩
abbrev tF:Shape:=⟨[b2 0 3000000,ae 1,ae 5],[ci 3000000 .entry 0 0],43⟩
abbrev CD:List bf:=[(.exit 0,⟨[b2 0 3000000,ae 1],[ci 3000000 .entry 0 0],43⟩)]
noncomputable def tM(y:tF.H):cy tF CD:=
 bif(decide (y.1.2.2.1<(y.2.1.length:Int))) then
(f54 ((y.1.2.1,()),())).bind fun a=>
(e9 y.2.1.length y.1.2.2.1).bind fun b=>
((y.2.1[b]?).bind fun q=>some (a4.mk a.1.1 q.kind q.mode q.text)).bind fun c=>
(e9 (y.2.1.set b c).length y.1.2.2.1).bind fun d=>
(((y.2.1.set b c)[d]?).bind fun q=>some (a4.mk q.path (IntKind.i64.wrap (y.1.2.1+(1:Int))) q.mode q.text)).bind fun e=>
(e9 ((y.2.1.set b c).set d e).length y.1.2.2.1).bind fun f=>
((((y.2.1.set b c).set d e)[f]?).bind fun q=>some (a4.mk q.path q.kind (IntKind.i64.wrap ((IntKind.i64.wrap (y.1.2.1+(1:Int)))+(1:Int))) q.text)).bind fun g=>
(f54 (((IntKind.i64.wrap ((IntKind.i64.wrap ((IntKind.i64.wrap (y.1.2.1+(1:Int)))+(1:Int)))+(1:Int))),()),())).bind fun h=>
(e9 (((y.2.1.set b c).set d e).set f g).length y.1.2.2.1).bind fun i=>
(((((y.2.1.set b c).set d e).set f g)[i]?).bind fun q=>some (a4.mk q.path q.kind q.mode h.1.1)).bind fun j=>
 some (.inl (((),(IntKind.i64.wrap ((IntKind.i64.wrap ((IntKind.i64.wrap ((IntKind.i64.wrap (y.1.2.1+(1:Int)))+(1:Int)))+(1:Int)))+(1:Int))),(IntKind.i64.wrap (y.1.2.2.1+(1:Int))),()),((((y.2.1.set b c).set d e).set f g).set i j),()))
else
 some (.inr (((),y.1.2.1,()),y.2.1,()))
noncomputable def CO:tF.H->Option (aQ CD):=bO tM
theorem _E:bp Z (aG (codeOf Tryz.f18) 1 26) (bH tF CD CO):=cD O3 (by kernel_rfl) ap fun y=>by kernel_rfl
abbrev OK:Shape:=⟨[b2 0 600000,ae 1],[(600000,.row .entry,.same)],43⟩
abbrev Ow:Shape:=⟨[b2 0 3000000,ae 4],[ci 3000000 .entry 0 0],43⟩
noncomputable def uH(a:OK.H):Option Ow.H:=
(CO (((),a.1.2.1,(0:Int),()),a.2.1,())).bind fun b=>
 some (((),b.1.2.1,()),b.2.1,())
noncomputable def FB:aT:=pQ aq Tryz.f18 OK Ow [] [0] uH
theorem Oi:a0 Z 18 FB:=qQ O3 Tryz.func18 (by kernel_rfl) (bL _E ap) (fun y=>by kernel_rfl) fun a=>by kernel_rfl
noncomputable abbrev aei:bq:=[(54,qv)]
theorem O1:a7 Z (bl aq aei):=bx ⟨sC,⟨⟩⟩
abbrev tD:Shape:=⟨[b2 0 3000000,ae 1,ae 5],[ci 3000000 .need 0 0],36⟩
abbrev CB:List bf:=[(.exit 0,⟨[b2 0 3000000,ae 1],[ci 3000000 .need 0 0],36⟩)]
noncomputable def tK(y:tD.H):cy tD CB:=
 bif(decide (y.1.2.2.1<(y.2.1.length:Int))) then
(f54 ((y.1.2.1,()),())).bind fun a=>
(e9 y.2.1.length y.1.2.2.1).bind fun b=>
((y.2.1[b]?).bind fun q=>some (dq.mk a.1.1 q.kind q.be)).bind fun c=>
(e9 (y.2.1.set b c).length y.1.2.2.1).bind fun d=>
(((y.2.1.set b c)[d]?).bind fun q=>some (dq.mk q.name (IntKind.i64.wrap (y.1.2.1+(1:Int))) q.be)).bind fun e=>
(f54 (((IntKind.i64.wrap ((IntKind.i64.wrap (y.1.2.1+(1:Int)))+(1:Int))),()),())).bind fun f=>
(e9 ((y.2.1.set b c).set d e).length y.1.2.2.1).bind fun g=>
((((y.2.1.set b c).set d e)[g]?).bind fun q=>some (dq.mk q.name q.kind f.1.1)).bind fun h=>
 some (.inl (((),(IntKind.i64.wrap ((IntKind.i64.wrap ((IntKind.i64.wrap (y.1.2.1+(1:Int)))+(1:Int)))+(1:Int))),(IntKind.i64.wrap (y.1.2.2.1+(1:Int))),()),(((y.2.1.set b c).set d e).set g h),()))
else
 some (.inr (((),y.1.2.1,()),y.2.1,()))
noncomputable def CM:tD.H->Option (aQ CB):=bO tK
theorem _A:bp Z (aG (codeOf Tryz.f60) 1 26) (bH tD CB CM):=cD O1 (by kernel_rfl) ap fun y=>by kernel_rfl
abbrev OH:Shape:=⟨[b2 0 600000,ae 1],[(600000,.row .need,.same)],36⟩
abbrev Ot:Shape:=⟨[b2 0 3000000,ae 4],[ci 3000000 .need 0 0],36⟩
noncomputable def uF(a:OH.H):Option Ot.H:=
(CM (((),a.1.2.1,(0:Int),()),a.2.1,())).bind fun b=>
 some (((),b.1.2.1,()),b.2.1,())
noncomputable def Fz:aT:=pQ aq Tryz.f60 OH Ot [] [0] uF
theorem Og:a0 Z 60 Fz:=qQ O1 Tryz.func60 (by kernel_rfl) (bL _A ap) (fun y=>by kernel_rfl) fun a=>by kernel_rfl
noncomputable abbrev aek:bq:=[(18,FB),(54,qv),(60,Fz)]
theorem O2:a7 Z (bl aq aek):=bx ⟨Oi,sC,Og,⟨⟩⟩
abbrev tE:Shape:=⟨[b2 0 3000000,ae 1,ae 5],[(3000000,.deep .pack,.slot 0 0)],43⟩
abbrev CC:List bf:=[(.exit 0,⟨[b2 0 3000000,ae 1],[(3000000,.deep .pack,.slot 0 0)],43⟩)]
noncomputable def tL(y:tE.H):cy tE CC:=
 bif(decide (y.1.2.2.1<(y.2.1.length:Int))) then
(f54 ((y.1.2.1,()),())).bind fun a=>
(e9 y.2.1.length y.1.2.2.1).bind fun b=>
((y.2.1[b]?).bind fun q=>some (aM.mk a.1.1 q.be q.bb q.br)).bind fun c=>
(f54 (((IntKind.i64.wrap (y.1.2.1+(1:Int))),()),())).bind fun d=>
(e9 (y.2.1.set b c).length y.1.2.2.1).bind fun e=>
(((y.2.1.set b c)[e]?).bind fun q=>some (aM.mk q.name d.1.1 q.bb q.br)).bind fun f=>
(e9 ((y.2.1.set b c).set e f).length y.1.2.2.1).bind fun g=>
(((y.2.1.set b c).set e f)[g]?).bind fun h=>
(uF (((),(IntKind.i64.wrap ((IntKind.i64.wrap (y.1.2.1+(1:Int)))+(1:Int))),()),h.bb,())).bind fun i=>
(e9 (((y.2.1.set b c).set e f).set g (aM.mk h.name h.be i.2.1 h.br)).length y.1.2.2.1).bind fun j=>
((((y.2.1.set b c).set e f).set g (aM.mk h.name h.be i.2.1 h.br))[j]?).bind fun k=>
(uH (((),i.1.2.1,()),k.br,())).bind fun l=>
 some (.inl (((),l.1.2.1,(IntKind.i64.wrap (y.1.2.2.1+(1:Int))),()),((((y.2.1.set b c).set e f).set g (aM.mk h.name h.be i.2.1 h.br)).set j (aM.mk k.name k.be k.bb l.2.1)),()))
else
 some (.inr (((),y.1.2.1,()),y.2.1,()))
noncomputable def CN:tE.H->Option (aQ CC):=bO tL
theorem _B:bp Z (aG (codeOf Tryz.f26) 1 26) (bH tE CC CN):=cD O2 (by kernel_rfl) ap fun y=>by kernel_rfl
abbrev OJ:Shape:=⟨[b2 0 600000,ae 1],[(600000,.deep .pack,.same)],43⟩
abbrev Ov:Shape:=⟨[b2 0 3000000,ae 4],[(3000000,.deep .pack,.slot 0 0)],43⟩
noncomputable def zI(a:OJ.H):Option Ov.H:=
(CN (((),a.1.2.1,(0:Int),()),a.2.1,())).bind fun b=>
 some (((),b.1.2.1,()),b.2.1,())
noncomputable def O0:aT:=pQ aq Tryz.f26 OJ Ov [] [0] zI
theorem adr:a0 Z 26 O0:=qQ O2 Tryz.func26 (by kernel_rfl) (bL _B ap) (fun y=>by kernel_rfl) fun a=>by kernel_rfl
noncomputable abbrev aem:bq:=[(26,O0)]
theorem aep:a7 Z (bl aq aem):=bx ⟨adr,⟨⟩⟩
abbrev OL:Shape:=⟨[cf 0 [.own 600000],ae 1],[(600000,.deep .pack,.same)],10⟩
abbrev Ox:Shape:=⟨[cf 0 [.own 3000000],ae 4],[(3000000,.deep .pack,.slot 0 0)],10⟩
noncomputable def nA(a:OL.H):Option Ox.H:=
(zI (((),a.1.2.1,()),a.2.1,())).bind fun b=>
 some ((((),()),b.1.2.1,()),b.2.1,())
noncomputable def zP:aT:=pQ aq Tryz.f17 OL Ox [] [0] nA
theorem Fa:a0 Z 17 zP:=qQ aep Tryz.func17 (by kernel_rfl) ap (fun y=>by kernel_rfl) fun a=>by kernel_rfl
noncomputable abbrev alK:bq:=[(54,qv)]
theorem UA:a7 Z (bl aq alK):=bx ⟨sC,⟨⟩⟩
abbrev uh:Shape:=⟨[aV 0 .entry,ae 1,ae 5],[],51⟩
abbrev EA:List bf:=[(.ret,⟨[ae 4],[],51⟩),(.exit 0,⟨[ae 1],[],51⟩)]
noncomputable def un(y:uh.H):cy uh EA:=
 bif(decide (y.1.2.2.1<(y.1.1.length:Int))) then
(bk y.1.1 y.1.2.2.1).bind fun a=>
(f54 ((y.1.2.1,()),())).bind fun b=>
 bif(!(a.path==b.1.1)) then
 some (.inr (.inl ((((-1):Int),()),())))
else
(bk y.1.1 y.1.2.2.1).bind fun c=>
 bif(c.kind !=(IntKind.i64.wrap (y.1.2.1+(1:Int)))) then
 some (.inr (.inl ((((-1):Int),()),())))
else
(bk y.1.1 y.1.2.2.1).bind fun d=>
 bif(d.mode !=(IntKind.i64.wrap ((IntKind.i64.wrap (y.1.2.1+(1:Int)))+(1:Int)))) then
 some (.inr (.inl ((((-1):Int),()),())))
else
(bk y.1.1 y.1.2.2.1).bind fun e=>
(f54 (((IntKind.i64.wrap ((IntKind.i64.wrap ((IntKind.i64.wrap (y.1.2.1+(1:Int)))+(1:Int)))+(1:Int))),()),())).bind fun f=>
 bif(!(e.text==f.1.1)) then
 some (.inr (.inl ((((-1):Int),()),())))
else
 some (.inl ((y.1.1,(IntKind.i64.wrap ((IntKind.i64.wrap ((IntKind.i64.wrap ((IntKind.i64.wrap (y.1.2.1+(1:Int)))+(1:Int)))+(1:Int)))+(1:Int))),(IntKind.i64.wrap (y.1.2.2.1+(1:Int))),()),()))
else
 some (.inr (.inr ((y.1.2.1,()),())))
noncomputable def EV:uh.H->Option (aQ EA):=bO un
theorem acA:bp Z (aG (codeOf Tryz.f19) 1 26) (bH uh EA EV):=cD UA (by kernel_rfl) ap fun y=>by kernel_rfl
abbrev i19:Shape:=⟨[aV 0 .entry,ae 1],[],51⟩
abbrev S3:Shape:=⟨[ae 4],[],51⟩
noncomputable def f19(a:i19.H):Option S3.H:=
(EV ((a.1.1,a.1.2.1,(0:Int),()),())).bind fun b=>
(match b with
|.inl c=>
 some ((c.1.1,()),())
|.inr d=>
 some ((d.1.1,()),()))
noncomputable def Ue:aT:=a' aq Tryz.f19 i19 S3 [] f19
theorem aif:a0 Z 19 Ue:=ba UA Tryz.func19 (by kernel_rfl) (bL acA ap) (fun y=>by kernel_rfl) fun a=>by kernel_rfl
noncomputable abbrev aln:bq:=[(19,Ue),(54,qv),(112,RH)]
theorem Us:a7 Z (bl aq aln):=bx ⟨aif,sC,aff,⟨⟩⟩
abbrev yR:Shape:=⟨[aV 0 .pack,ae 1,ae 5],[],51⟩
abbrev Eu:List bf:=[(.ret,⟨[ae 4],[],51⟩),(.exit 0,⟨[ae 1],[],51⟩)]
noncomputable def zc(y:yR.H):cy yR Eu:=
 bif(decide (y.1.2.2.1<(y.1.1.length:Int))) then
(bk y.1.1 y.1.2.2.1).bind fun a=>
(f54 ((y.1.2.1,()),())).bind fun b=>
 bif(!(a.name==b.1.1)) then
 some (.inr (.inl ((((-1):Int),()),())))
else
(bk y.1.1 y.1.2.2.1).bind fun c=>
(f54 (((IntKind.i64.wrap (y.1.2.1+(1:Int))),()),())).bind fun d=>
 bif(!(c.be==d.1.1)) then
 some (.inr (.inl ((((-1):Int),()),())))
else
(bk y.1.1 y.1.2.2.1).bind fun e=>
(f112 ((e.bb,(IntKind.i64.wrap ((IntKind.i64.wrap (y.1.2.1+(1:Int)))+(1:Int))),()),())).bind fun f=>
 bif(decide (f.1.1<(0:Int))) then
 some (.inr (.inl ((((-1):Int),()),())))
else
(bk y.1.1 y.1.2.2.1).bind fun g=>
(f19 ((g.br,f.1.1,()),())).bind fun h=>
 bif(decide (h.1.1<(0:Int))) then
 some (.inr (.inl ((((-1):Int),()),())))
else
 some (.inl ((y.1.1,h.1.1,(IntKind.i64.wrap (y.1.2.2.1+(1:Int))),()),()))
else
 some (.inr (.inr ((y.1.2.1,()),())))
noncomputable def EN:yR.H->Option (aQ Eu):=bO zc
theorem acr:bp Z (aG (codeOf Tryz.f68) 1 26) (bH yR Eu EN):=cD Us (by kernel_rfl) ap fun y=>by kernel_rfl
abbrev i68:Shape:=⟨[aV 0 .pack,ae 1],[],51⟩
abbrev SD:Shape:=⟨[ae 4],[],51⟩
noncomputable def f68(a:i68.H):Option SD.H:=
(EN ((a.1.1,a.1.2.1,(0:Int),()),())).bind fun b=>
(match b with
|.inl c=>
 some ((c.1.1,()),())
|.inr d=>
 some ((d.1.1,()),()))
noncomputable def T2:aT:=a' aq Tryz.f68 i68 SD [] f68
theorem ah1:a0 Z 68 T2:=ba Us Tryz.func68 (by kernel_rfl) (bL acr ap) (fun y=>by kernel_rfl) fun a=>by kernel_rfl
noncomputable abbrev alE:bq:=[(68,T2)]
theorem al7:a7 Z (bl aq alE):=bx ⟨ah1,⟨⟩⟩
abbrev i31:Shape:=⟨[cf 0 [bh .pack],ae 1],[],12⟩
abbrev SX:Shape:=⟨[ae 4],[],12⟩
noncomputable def f31(a:i31.H):Option SX.H:=
(f68 ((a.1.1.1,a.1.2.1,()),())).bind fun b=>
 bif(decide (b.1.1<(0:Int))) then
 some ((((-1):Int),()),())
else
 some ((b.1.1,()),())
noncomputable def Ba:aT:=a' aq Tryz.f31 i31 SX [] f31
theorem G8:a0 Z 31 Ba:=ba al7 Tryz.func31 (by kernel_rfl) ap (fun y=>by kernel_rfl) fun a=>by kernel_rfl
abbrev db(k:Int):Prop:=k<=2305843009213693952
theorem VA(m:Int)(s:al)(hm:0<=m)(hl:m+(s.length:Int)<=2305843009213693952):hK (E2 ((m,(s,())),())) (fun q=>match q with
  |.inl y=>∃(qD:Int) (am:al),y=((qD,(am,())),())/\qD.toNat<m.toNat/\0<=qD/\qD+(am.length:Int)<=2305843009213693952
  |.inr b=>b.1.1.length<=2305843009213693952):=by
 simp only[E2];by_cases aj:m>0
 ·have aD:si .i64 m 10=some (m/10):=ace rfl hm (by omega) (by decide)
  have hr:sg m 10=some (m%10):=acd hm (by decide)
  simp only[aj,decide_true,cond_true,hr,aD,Option.bind_some];have hc:=NQ (s:=strOf ([(IntKind.u8.wrap (IntKind.i64.wrap ((48:Int)+m%10)))]:List Int)) (t:=s) (by simp[strOf];omega)
  simp only[hc,Option.bind_some];refine⟨_,rfl,m/10,_,rfl,by omega,by omega,?_⟩
  simp[strOf];omega
 ·simp only[aj,decide_false,cond_false];refine⟨_,rfl,?_⟩;show s.length<=2305843009213693952;omega
theorem W7(k:Int)(h0:1<=k)(h1:db k):hK (f54 ((k,()),())) (fun _=>True):=by
 have hb:hK (EQ ((k,(([]:al),())),())) (fun r=>r.1.1.length<=2305843009213693952):=by
  refine hK.loop (fun n y=>∃(m:Int) (s:al),y=((m,(s,())),())/\n=m.toNat/\0<=m/\m+(s.length:Int)<=2305843009213693952) (fun n y ak=>?_) k.toNat _ ⟨k,[],rfl,rfl,by omega,by simpa using h1⟩
  obtain⟨m,s,rfl,rfl,hm,hl⟩:=ak;refine(VA m s hm hl).mono fun q aD=>?_
  cases q with
  |inl y=>
   obtain⟨qD,am,rfl,aB,ao,bu⟩:=aD;exact⟨qD.toNat,aB,qD,am,rfl,rfl,ao,bu⟩
  |inr b=>exact aD
 simp only[f54];have Y:decide (k<=0)=false:=decide_eq_false (by omega)
 simp only[Y,cond_false];refine hb.bind fun r hr=>?_
 have hr:r.1.1.length<=2305843009213693952:=hr;rw[NQ (show([109]:al).length+r.1.1.length<=_ by simp;omega),Option.bind_some]
 exact .ret trivial
noncomputable def mt(k:Int):al:=match f54 ((k,()),()) with
 |some r=>r.1.1
 |none=>[]
theorem kZ{k:Int}(h0:1<=k)(h1:db k):f54 ((k,()),())=some ((mt k,()),()):=by
 obtain⟨⟨⟨s,u⟩,bF⟩,e,_⟩:=W7 k h0 h1;unfold mt;rw[e]
theorem Fc{aH:Type}{l xs:List aH}{i:Nat}{c:aH}(hl:l.length=i)(hi:i<xs.length):(l++xs.drop i).set i c=(l++[c])++xs.drop (i+1):=by
 subst hl;rw[List.set_append_right _ _ (Nat.le_refl _),Nat.sub_self,List.drop_eq_getElem_cons hi,List.set_cons_zero];simp
theorem Fp{aH:Type}{l xs:List aH}{i:Nat}(hl:l.length=i):(l++xs.drop i)[i]? =xs[i]? :=by
 subst hl;rw[List.getElem?_append_right (Nat.le_refl _),Nat.sub_self];simp
theorem CV{aH:Type}{l:List aH}{i:Nat}{c:aH}(h:i<l.length):(l.set i c)[i]? =some c:=by simp[h]
noncomputable def vj(k:Int):dq:=⟨mt k,k+1,mt (k+2)⟩
noncomputable def e5(k:Int)(n:Nat):List dq:=(List.range n).map fun(i:Nat)=>vj (k+3*(i:Int))
theorem qY(k:Int)(n:Nat):(e5 k n).length=n:=by simp[e5]
theorem Zl(k:Int)(n:Nat):e5 k (n+1)=e5 k n++[vj (k+3*(n:Int))]:=by simp[e5,List.range_succ]
theorem _S{k:Int}{n i:Nat}(h:i<n):(e5 k n)[i]? =some (vj (k+3*(i:Int))):=by simp[e5,h]
noncomputable def vk(k:Int):a4:=⟨mt k,k+1,k+2,mt (k+3)⟩
noncomputable def e6(k:Int)(n:Nat):List a4:=(List.range n).map fun(i:Nat)=>vk (k+4*(i:Int))
theorem qZ(k:Int)(n:Nat):(e6 k n).length=n:=by simp[e6]
theorem Zm(k:Int)(n:Nat):e6 k (n+1)=e6 k n++[vk (k+4*(n:Int))]:=by simp[e6,List.range_succ]
theorem _T{k:Int}{n i:Nat}(h:i<n):(e6 k n)[i]? =some (vk (k+4*(i:Int))):=by simp[e6,h]
theorem rB{H bA:Type}{g:H->Option (Sum H bA)}(st:Nat->H)(n:Nat){b:bA}(h:∀i,i<n->g (st i)=some (.inl (st (i+1))))(he:g (st n)=some (.inr b)):bO g (st 0)=some b:=by
 suffices key:∀k i,i+k=n->bO g (st i)=some b from key n 0 (by omega)
 intro k;induction k with
 |zero=>
  intro i hi;obtain rfl:i=n:=by omega
  exact eA he
 |succ k ih=>
  intro i hi;rw[hk (h i (by omega))]
  exact ih (i+1) (by omega)
theorem JD(xs:List dq)(k:Int)(h0:1<=k)(M:cj xs.length)(h1:db (k+3*(xs.length:Int))):uF (((),(k,())),(xs,()))=some (((),(k+3*(xs.length:Int),())),(e5 k xs.length,())):=by
 have key:CM (((),(k,((0:Int),()))),(xs,()))=some (((),(k+3*(xs.length:Int),())),(e5 k xs.length,())):=by
  have:=rB (g:=tK) (fun i=>(((),(k+3*(i:Int),((i:Int),()))),(e5 k i++xs.drop i,()))) xs.length (b:=(((),(k+3*(xs.length:Int),())),(e5 k xs.length,()))) (fun i hi=>?_) ?_
  ·have e:(((),(k+3*((0:Nat):Int),(((0:Nat):Int),()))),(e5 k 0++xs.drop 0,()))=((((),(k,((0:Int),()))),(xs,())):tD.H):=by
    show(((),(k+3*((0:Nat):Int),(((0:Nat):Int),()))),(e5 k 0++xs.drop 0,()))=(((),(k,((0:Int),()))),(xs,()));simp[e5]
   exact(congrArg (bO tK) e.symm).trans this
  ·have hl:(e5 k i++xs.drop i).length=xs.length:=by simp[qY];omega
   have hg:(e5 k i++xs.drop i)[i]? =some xs[i]:=by rw[Fp (qY k i)];exact List.getElem?_eq_getElem hi
   have a1:IntKind.i64.wrap (k+3*(i:Int)+1)=k+3*(i:Int)+1:=ei (by omega) (by unfold db at h1;omega)
   have a2:IntKind.i64.wrap (k+3*(i:Int)+1+1)=k+3*(i:Int)+2:=(ei (by omega) (by unfold db at h1;omega)).trans (by omega)
   have gQ:IntKind.i64.wrap (k+3*(i:Int)+2+1)=k+3*((i+1:Nat):Int):=(ei (by omega) (by unfold db at h1;omega)).trans (by omega)
   have t1:=kZ (k:=k+3*(i:Int)) (by omega) (by unfold db at h1 ⊢;omega)
   have t2:=kZ (k:=k+3*(i:Int)+2) (by omega) (by unfold db at h1 ⊢;omega)
   have hw:aE i:=by unfold aE;omega
   have M:=Fc (c:=vj (k+3*(i:Int))) (qY k i) hi;rw[<-Zl] at M;simp only[tK,hl,ce hi,cond_true,t1,Option.bind_some,lo hi,hg,List.length_set,CV (show i<(e5 k i++xs.drop i).length by omega),List.set_set,a1,a2,gQ,t2,ca hw]
   refine congrArg some (congrArg Sum.inl ?_);rw[<-M];rfl
  ·have hl:(e5 k xs.length++xs.drop xs.length)=e5 k xs.length:=by simp
   simp only[tK,hl,qY,cX,cond_false]
 simp only[uF,key,Option.bind_some]
theorem Jn(xs:List a4)(k:Int)(h0:1<=k)(M:cj xs.length)(h1:db (k+4*(xs.length:Int))):uH (((),(k,())),(xs,()))=some (((),(k+4*(xs.length:Int),())),(e6 k xs.length,())):=by
 have key:CO (((),(k,((0:Int),()))),(xs,()))=some (((),(k+4*(xs.length:Int),())),(e6 k xs.length,())):=by
  have:=rB (g:=tM) (fun i=>(((),(k+4*(i:Int),((i:Int),()))),(e6 k i++xs.drop i,()))) xs.length (b:=(((),(k+4*(xs.length:Int),())),(e6 k xs.length,()))) (fun i hi=>?_) ?_
  ·have e:(((),(k+4*((0:Nat):Int),(((0:Nat):Int),()))),(e6 k 0++xs.drop 0,()))=((((),(k,((0:Int),()))),(xs,())):tF.H):=by
    show(((),(k+4*((0:Nat):Int),(((0:Nat):Int),()))),(e6 k 0++xs.drop 0,()))=(((),(k,((0:Int),()))),(xs,()));simp[e6]
   exact(congrArg (bO tM) e.symm).trans this
  ·have hl:(e6 k i++xs.drop i).length=xs.length:=by simp[qZ];omega
   have hg:(e6 k i++xs.drop i)[i]? =some xs[i]:=by rw[Fp (qZ k i)];exact List.getElem?_eq_getElem hi
   have a1:IntKind.i64.wrap (k+4*(i:Int)+1)=k+4*(i:Int)+1:=ei (by omega) (by unfold db at h1;omega)
   have a2:IntKind.i64.wrap (k+4*(i:Int)+1+1)=k+4*(i:Int)+2:=(ei (by omega) (by unfold db at h1;omega)).trans (by omega)
   have gQ:IntKind.i64.wrap (k+4*(i:Int)+2+1)=k+4*(i:Int)+3:=(ei (by omega) (by unfold db at h1;omega)).trans (by omega)
   have IZ:IntKind.i64.wrap (k+4*(i:Int)+3+1)=k+4*((i+1:Nat):Int):=(ei (by omega) (by unfold db at h1;omega)).trans (by omega)
   have t1:=kZ (k:=k+4*(i:Int)) (by omega) (by unfold db at h1 ⊢;omega)
   have t2:=kZ (k:=k+4*(i:Int)+3) (by omega) (by unfold db at h1 ⊢;omega)
   have hw:aE i:=by unfold aE;omega
   have M:=Fc (c:=vk (k+4*(i:Int))) (qZ k i) hi;rw[<-Zm] at M;simp only[tM,hl,ce hi,cond_true,t1,Option.bind_some,lo hi,hg,List.length_set,CV (show i<(e6 k i++xs.drop i).length by omega),List.set_set,a1,a2,gQ,IZ,t2,ca hw]
   refine congrArg some (congrArg Sum.inl ?_);rw[<-M];rfl
  ·have hl:(e6 k xs.length++xs.drop xs.length)=e6 k xs.length:=by simp
   simp only[tM,hl,qZ,cX,cond_false]
 simp only[uH,key,Option.bind_some]
theorem Fw(a:Int):(a !=a)=false:=by simp
theorem Wz(n:Nat)(k:Int)(h0:1<=k)(M:cj n)(h1:db (k+3*(n:Int))):f112 ((e5 k n,(k,())),())=some ((k+3*(n:Int),()),()):=by
 have key:D4 ((e5 k n,(k,((0:Int),()))),())=some (.inr ((k+3*(n:Int),()),())):=by
  have:=rB (g:=ub) (fun i=>((e5 k n,(k+3*(i:Int),((i:Int),()))),())) n (b:=.inr ((k+3*(n:Int),()),())) (fun i hi=>?_) ?_
  ·have e:((e5 k n,(k+3*((0:Nat):Int),(((0:Nat):Int),()))),())=(((e5 k n,(k,((0:Int),()))),()):tQ.H):=by
    show((e5 k n,(k+3*((0:Nat):Int),(((0:Nat):Int),()))),())=((e5 k n,(k,((0:Int),()))),());simp
   exact(congrArg (bO ub) e.symm).trans this
  ·have a1:IntKind.i64.wrap (k+3*(i:Int)+1)=k+3*(i:Int)+1:=ei (by omega) (by unfold db at h1;omega)
   have a2:IntKind.i64.wrap (k+3*(i:Int)+1+1)=k+3*(i:Int)+2:=(ei (by omega) (by unfold db at h1;omega)).trans (by omega)
   have gQ:IntKind.i64.wrap (k+3*(i:Int)+2+1)=k+3*((i+1:Nat):Int):=(ei (by omega) (by unfold db at h1;omega)).trans (by omega)
   have t1:=kZ (k:=k+3*(i:Int)) (by omega) (by unfold db at h1 ⊢;omega)
   have t2:=kZ (k:=k+3*(i:Int)+2) (by omega) (by unfold db at h1 ⊢;omega)
   have hw:aE i:=by unfold aE;omega
   simp only[ub,qY,ce hi,cond_true,b4,_S hi,vj,t1,t2,Option.bind_some,beq_self_eq_true,Bool.not_true,cond_false,a1,a2,gQ,Fw,ca hw]
  ·simp only[ub,qY,cX,cond_false]
 simp only[f112,key,Option.bind_some]
theorem VW(n:Nat)(k:Int)(h0:1<=k)(M:cj n)(h1:db (k+4*(n:Int))):f19 ((e6 k n,(k,())),())=some ((k+4*(n:Int),()),()):=by
 have key:EV ((e6 k n,(k,((0:Int),()))),())=some (.inr ((k+4*(n:Int),()),())):=by
  have:=rB (g:=un) (fun i=>((e6 k n,(k+4*(i:Int),((i:Int),()))),())) n (b:=.inr ((k+4*(n:Int),()),())) (fun i hi=>?_) ?_
  ·have e:((e6 k n,(k+4*((0:Nat):Int),(((0:Nat):Int),()))),())=(((e6 k n,(k,((0:Int),()))),()):uh.H):=by
    show((e6 k n,(k+4*((0:Nat):Int),(((0:Nat):Int),()))),())=((e6 k n,(k,((0:Int),()))),());simp
   exact(congrArg (bO un) e.symm).trans this
  ·have a1:IntKind.i64.wrap (k+4*(i:Int)+1)=k+4*(i:Int)+1:=ei (by omega) (by unfold db at h1;omega)
   have a2:IntKind.i64.wrap (k+4*(i:Int)+1+1)=k+4*(i:Int)+2:=(ei (by omega) (by unfold db at h1;omega)).trans (by omega)
   have gQ:IntKind.i64.wrap (k+4*(i:Int)+2+1)=k+4*(i:Int)+3:=(ei (by omega) (by unfold db at h1;omega)).trans (by omega)
   have IZ:IntKind.i64.wrap (k+4*(i:Int)+3+1)=k+4*((i+1:Nat):Int):=(ei (by omega) (by unfold db at h1;omega)).trans (by omega)
   have t1:=kZ (k:=k+4*(i:Int)) (by omega) (by unfold db at h1 ⊢;omega)
   have t2:=kZ (k:=k+4*(i:Int)+3) (by omega) (by unfold db at h1 ⊢;omega)
   have hw:aE i:=by unfold aE;omega
   simp only[un,qZ,ce hi,cond_true,b4,_T hi,vk,t1,t2,Option.bind_some,beq_self_eq_true,Bool.not_true,cond_false,a1,a2,gQ,IZ,Fw,ca hw]
  ·simp only[un,qZ,cX,cond_false]
 simp only[f19,key,Option.bind_some]
def jm(p:aM):Int:=2+3*(p.bb.length:Int)+4*(p.br.length:Int)
noncomputable def p2(k:Int)(p:aM):aM:=⟨mt k,mt (k+1),e5 (k+2) p.bb.length,e6 (k+2+3*(p.bb.length:Int)) p.br.length⟩
noncomputable def e4:Int->List aM->List aM
 |_,[]=>[]
 |k,p::r=>p2 k p::e4 (k+jm p) r
def dD:Int->List aM->Int
 |k,[]=>k
 |k,p::r=>dD (k+jm p) r
theorem adw(p:aM):2<=jm p:=by unfold jm;omega
theorem rf:∀(ps:List aM) (k:Int),k<=dD k ps:=by
 intro ps;induction ps with
 |nil=>intro k;exact Int.le_refl _
 |cons p r ih=>intro k;have h1:=ih (k+jm p);have h2:=adw p;show k<=dD (k+jm p) r;omega
theorem C5:∀(ps l7:List aM) (k:Int),dD k (ps++l7)=dD (dD k ps) l7:=by
 intro ps;induction ps with
 |nil=>intro l7 k;rfl
 |cons p r ih=>intro l7 k;exact ih l7 _
theorem _R:∀(ps l7:List aM) (k:Int),e4 k (ps++l7)=e4 k ps++e4 (dD k ps) l7:=by
 intro ps;induction ps with
 |nil=>intro l7 k;rfl
 |cons p r ih=>intro l7 k;exact congrArg (p2 k p:: ·) (ih l7 _)
theorem xm:∀(ps:List aM) (k:Int),(e4 k ps).length=ps.length:=by
 intro ps;induction ps with
 |nil=>intro k;rfl
 |cons p r ih=>intro k;simp[e4,ih]
theorem _Q:∀{ps:List aM} {k:Int} {i:Nat} {p:aM},ps[i]? =some p->(e4 k ps)[i]? =some (p2 (dD k (ps.take i)) p):=by
 intro ps;induction ps with
 |nil=>intro k i p h;simp at h
 |cons q r ih=>
  intro k i p h;cases i with
  |zero=>
   simp only[List.getElem?_cons_zero,Option.some.injEq] at h;subst h;rfl
  |succ i=>
   simp only[List.getElem?_cons_succ] at h;show(p2 k q::e4 (k+jm q) r)[i+1]? =_;rw[List.getElem?_cons_succ,ih h];rfl
theorem MX:∀{ps:List aM} {k:Int},(∀p,p∈ps->cj p.bb.length/\cj p.br.length)->dD k ps<=k+16777216*(ps.length:Int):=by
 intro ps;induction ps with
 |nil=>intro k _;show k<=_;simp
 |cons p r ih=>
  intro k h;obtain⟨h1,h2⟩:=h p List.mem_cons_self;have aa:=ih (k:=k+jm p) fun q aD=>h q (List.mem_cons_of_mem _ aD)
  show dD (k+jm p) r<=_;have h1:p.bb.length<=2097152:=h1;have h2:p.br.length<=2097152:=h2;unfold jm at*;simp only[List.length_cons];omega
theorem MW{ps:List aM}(hb:et ps):db (dD 1 ps):=by
 have h:=MX (ps:=ps) (k:=1) fun p aj=>⟨(hb.2 p aj).2.2.1.1,(hb.2 p aj).2.2.2.1⟩
 have hl:ps.length<=2097152:=hb.1;unfold db;omega
theorem Em{aH:Type}{xs:List aH}{i:Nat}{x:aH}(h:xs[i]? =some x):xs.take (i+1)=xs.take i++[x]:=by
 rw[List.take_add_one,h];rfl
theorem Lc{ps:List aM}{k:Int}{i:Nat}{p:aM}(h:ps[i]? =some p):dD k (ps.take i)+jm p<=dD k ps:=by
 have e:ps=ps.take i++(p::ps.drop (i+1)):=by
  obtain⟨hi,hx⟩:=List.getElem?_eq_some_iff.1 h;rw[<-hx,List.getElem_cons_drop,List.take_append_drop]
 have:dD k ps=dD (dD k (ps.take i)) (p::ps.drop (i+1)):=by
  rw[<-C5,<-e]
 rw[this];exact rf _ _
theorem Ww(xs:List aM)(k:Int)(h0:1<=k)(M:et xs)(h1:db (dD k xs)):zI (((),(k,())),(xs,()))=some (((),(dD k xs,())),(e4 k xs,())):=by
 have key:CN (((),(k,((0:Int),()))),(xs,()))=some (((),(dD k xs,())),(e4 k xs,())):=by
  have:=rB (g:=tL) (fun i=>(((),(dD k (xs.take i),((i:Int),()))),(e4 k (xs.take i)++xs.drop i,()))) xs.length (b:=(((),(dD k xs,())),(e4 k xs,()))) (fun i hi=>?_) ?_
  ·have e:(((),(dD k (xs.take 0),(((0:Nat):Int),()))),(e4 k (xs.take 0)++xs.drop 0,()))=((((),(k,((0:Int),()))),(xs,())):tE.H):=by
    show(((),(dD k (xs.take 0),(((0:Nat):Int),()))),(e4 k (xs.take 0)++xs.drop 0,()))=(((),(k,((0:Int),()))),(xs,()));simp[e4,dD]
   exact(congrArg (bO tL) e.symm).trans this
  ·have hlen:xs.length<=2097152:=M.1;have hx:xs[i]? =some xs[i]:=List.getElem?_eq_getElem hi;obtain⟨_,_,bQ,jq⟩:=M.2 xs[i] (List.getElem_mem hi);have hm:=Lc (k:=k) hx;have mR:=rf (xs.take i) k;obtain⟨en,hkk⟩:∃en,dD k (xs.take i)=en:=⟨_,rfl⟩;have kf:(e4 k (xs.take i)).length=i:=by rw[xm,List.length_take];omega
   have hl:(e4 k (xs.take i)++xs.drop i).length=xs.length:=by simp[kf];omega
   have hg:(e4 k (xs.take i)++xs.drop i)[i]? =some xs[i]:=by rw[Fp kf];exact hx
   have mH:=Fc (c:=p2 en xs[i]) kf hi;have ajL:e4 k (xs.take (i+1))=e4 k (xs.take i)++[p2 en xs[i]]:=by rw[Em hx,_R,hkk];rfl
   have hne:dD k (xs.take (i+1))=en+jm xs[i]:=by rw[Em hx,C5,hkk];rfl
   rw[<-ajL] at mH;rw[hkk] at hm mR;rw[hkk];unfold db at h1;have c1:(1:Int)<=en:=by omega
   unfold jm at hm hne;have a1:IntKind.i64.wrap (en+1)=en+1:=ei (by omega) (by omega)
   have a2:IntKind.i64.wrap (en+1+1)=en+2:=(ei (by omega) (by omega)).trans (by omega)
   have t1:=kZ (k:=en) c1 (by unfold db;omega)
   have t2:=kZ (k:=en+1) (by omega) (by unfold db;omega)
   have hw:aE i:=by unfold aE;omega
   have q1:=JD xs[i].bb (en+2) (by omega) bQ.1 (by unfold db;omega)
   have q2:=Jn xs[i].br (en+2+3*(xs[i].bb.length:Int)) (by omega) jq.1 (by unfold db;omega)
   simp only[tL,hl,ce hi,cond_true,t1,Option.bind_some,lo hi,hg,List.length_set,CV (show i<(e4 k (xs.take i)++xs.drop i).length by omega),List.set_set,a1,a2,t2,q1,q2,ca hw]
   refine congrArg some (congrArg Sum.inl ?_);rw[hne,<-mH];have bK:en+2+3*(xs[i].bb.length:Int)+4*(xs[i].br.length:Int)=en+(2+3*(xs[i].bb.length:Int)+4*(xs[i].br.length:Int)):=by omega
   rw[bK];rfl
  ·have e1:xs.take xs.length=xs:=List.take_length;have hl:(e4 k xs++xs.drop xs.length)=e4 k xs:=by simp
   simp only[tL,e1,hl,xm,cX,cond_false]
 simp only[zI,key,Option.bind_some]
theorem J8(xs:List aM)(M:et xs):nA ((((),()),((1:Int),())),(xs,()))=some ((((),()),(dD 1 xs,())),(e4 1 xs,())):=by
 simp only[nA,Ww xs 1 (Int.le_refl _) M (MW M),Option.bind_some]
theorem Wy(xs:List aM)(k:Int)(h0:1<=k)(M:et xs)(h1:db (dD k xs)):f68 ((e4 k xs,(k,())),())=some ((dD k xs,()),()):=by
 have key:EN ((e4 k xs,(k,((0:Int),()))),())=some (.inr ((dD k xs,()),())):=by
  have:=rB (g:=zc) (fun i=>((e4 k xs,(dD k (xs.take i),((i:Int),()))),())) xs.length (b:=.inr ((dD k xs,()),())) (fun i hi=>?_) ?_
  ·exact this
  ·have hlen:xs.length<=2097152:=M.1;have hx:xs[i]? =some xs[i]:=List.getElem?_eq_getElem hi;obtain⟨_,_,bQ,jq⟩:=M.2 xs[i] (List.getElem_mem hi);have hm:=Lc (k:=k) hx;have mR:=rf (xs.take i) k;have Tp:=_Q (k:=k) hx;obtain⟨en,hkk⟩:∃en,dD k (xs.take i)=en:=⟨_,rfl⟩;have hne:dD k (xs.take (i+1))=en+jm xs[i]:=by rw[Em hx,C5,hkk];rfl
   rw[hkk] at hm mR Tp;rw[hkk];unfold db at h1;have c1:(1:Int)<=en:=by omega
   unfold jm at hm hne;have a1:IntKind.i64.wrap (en+1)=en+1:=ei (by omega) (by omega)
   have a2:IntKind.i64.wrap (en+1+1)=en+2:=(ei (by omega) (by omega)).trans (by omega)
   have t1:=kZ (k:=en) c1 (by unfold db;omega)
   have t2:=kZ (k:=en+1) (by omega) (by unfold db;omega)
   have hw:aE i:=by unfold aE;omega
   have q1:=Wz xs[i].bb.length (en+2) (by omega) bQ.1 (by unfold db;omega)
   have q2:=VW xs[i].br.length (en+2+3*(xs[i].bb.length:Int)) (by omega) jq.1 (by unfold db;omega)
   have d1:decide (en+2+3*(xs[i].bb.length:Int)<0)=false:=decide_eq_false (by omega)
   have d2:decide (en+2+3*(xs[i].bb.length:Int)+4*(xs[i].br.length:Int)<0)=false:=decide_eq_false (by omega)
   simp only[zc,xm,ce hi,cond_true,b4,Tp,p2,t1,t2,Option.bind_some,beq_self_eq_true,Bool.not_true,cond_false,a1,a2,q1,q2,d1,d2,ca hw];refine congrArg some (congrArg Sum.inl ?_);rw[hne];have bK:en+2+3*(xs[i].bb.length:Int)+4*(xs[i].br.length:Int)=en+(2+3*(xs[i].bb.length:Int)+4*(xs[i].br.length:Int)):=by omega
   rw[bK]
  ·have e1:xs.take xs.length=xs:=List.take_length;simp only[zc,xm,cX,cond_false,e1]
 simp only[f68,key,Option.bind_some]
theorem Xf(xs:List aM)(M:et xs):f31 (((e4 1 xs,()),((1:Int),())),())=some ((dD 1 xs,()),()):=by
 have Y:decide (dD 1 xs<0)=false:=decide_eq_false (by have:=rf xs 1;omega)
 simp only[f31,Wy xs 1 (Int.le_refl _) M (MW M),Option.bind_some,Y,cond_false]
abbrev dV(s:al):Prop:=s.length<=200
abbrev akW(e:a4):Prop:=dV e.path/\dV e.text
theorem Z5(a)(h:cj a.1.1.length):f156 a=some (((),()),(a.1.1,())):=by
 obtain⟨⟨t,u⟩,bF⟩:=a;have h:t.length<=2097152:=h;simp only[f156,gW (show(48:Nat)<=100 by decide) (show aE (([]:List a4).length+t.length) by unfold aE;simp;omega),List.nil_append,Option.bind_some]
abbrev kq(p:aM):Prop:=ld p/\p.be.length<=2097151/\∀n,n∈p.bb->n.be.length<=2097151
abbrev g8(k:Nat)(ps:List aM):Prop:=ps.length<=k/\∀p,p∈ps->kq p
theorem g8.ma{k:Nat}{ps:List aM}(h:g8 k ps)(ag:k<=2097152):et ps:=⟨Nat.le_trans h.1 ag,fun p aj=>(h.2 p aj).1⟩
theorem g8.vs{k:Nat}{ps:List aM}(h:g8 k ps):na ps:=fun p aj=>(h.2 p aj).2
abbrev akV(n:dq):Prop:=dV n.name/\dV n.be
def adL(s:al):Bool:=!(s==[102,114,101,115,104])&&!(s==[110,111,98,111,100,121,115])
abbrev ak4(s:al):Prop:=dV s/\adL s=true
abbrev Ic(p:aM):Prop:=ak4 p.name/\dV p.be/\(p.bb.length<=3/\∀n,n∈p.bb->akV n)/\(p.br.length<=17/\∀e,e∈p.br->akW e)
theorem Ic.ok{p:aM}(h:Ic p):kq p:=by
 obtain⟨a,b,⟨c1,c2⟩,d1,d2⟩:=h;have up:∀{s:al},dV s->cj s.length:=fun h=>Nat.le_trans h (by decide)
 exact⟨⟨up a.1,up b,⟨Nat.le_trans c1 (by decide),fun n hn=>⟨up (c2 n hn).1,up (c2 n hn).2⟩⟩,Nat.le_trans d1 (by decide),fun e he=>⟨up (d2 e he).1,up (d2 e he).2⟩⟩,Nat.le_trans b (by decide),fun n hn=>Nat.le_trans (c2 n hn).2 (by decide)⟩
noncomputable abbrev aho:bq:=[(85,Ij)]
theorem ahK:a7 Z (bl aq aho):=bx ⟨R6,⟨⟩⟩
abbrev i105:Shape:=⟨[cf 0 [bh .pack],aV 1 .pack],[],15⟩
abbrev Qm:Shape:=⟨[bd 4 4 0,ae 5],[bc 4 [bh .pack]],15⟩
noncomputable def f105(a:i105.H):Option Qm.H:=
(f85 ((a.1.2.1,()),())).bind fun b=>
 bif(b.1.1 !=(0:Int)) then
 some (((),b.1.1,()),(a.1.1.1,()),())
else
 some (((),(0:Int),()),(a.1.2.1,()),())
noncomputable def Ae:aT:=a' aq Tryz.f105 i105 Qm [] f105
theorem FF:a0 Z 105 Ae:=ba ahK Tryz.func105 (by kernel_rfl) ap (fun y=>by kernel_rfl) fun a=>by kernel_rfl
noncomputable abbrev ahn:bq:=[(156,GG)]
theorem ahJ:a7 Z (bl aq ahn):=bx ⟨O',⟨⟩⟩
abbrev i107:Shape:=⟨[cf 0 [a5,a5,bh .need,bh .entry]],[],13⟩
abbrev Qk:Shape:=⟨[bd 2 2 0],[eW 5000130 .need 2 2,eW 5000131 .entry 2 3,bc 2 [a5,a5,.own 5000130,.own 5000131]],13⟩
noncomputable def f107(a:i107.H):Option Qk.H:=
(dx 40 ([]:List dq) a.1.1.2.2.1).bind fun b=>
(f156 ((a.1.1.2.2.2.1,()),())).bind fun c=>
 some (((),()),b,c.2.1,(a.1.1.1,a.1.1.2.1,(),(),()),())
noncomputable def GO:aT:=a' aq Tryz.f107 i107 Qk [] f107
theorem Ph:a0 Z 107 GO:=ba ahJ Tryz.func107 (by kernel_rfl) ap (fun y=>by kernel_rfl) fun a=>by kernel_rfl
noncomputable abbrev ahi:bq:=[(107,GO)]
theorem RX:a7 Z (bl aq ahi):=bx ⟨Ph,⟨⟩⟩
abbrev x1:Shape:=⟨[aV 0 .pack,bd 3 3 0,b2 4 3000256,ae 5],[bc 3 [a5,a5,bh .need,bh .entry],ci 3000256 .pack 4 0],35⟩
abbrev Dy:List bf:=[(.exit 0,⟨[aV 0 .pack,bd 3 3 0,b2 4 3000256,ae 5],[bc 3 [a5,a5,bh .need,bh .entry],ci 3000256 .pack 4 0],35⟩)]
noncomputable def ua(y:x1.H):cy x1 Dy:=
 bif(decide (y.1.2.2.2.1<(y.1.1.length:Int))) then
(bk y.1.1 y.1.2.2.2.1).bind fun a=>
 bif(Op.bytesLess a.name y.2.1.1) then
 some (.inl ((y.1.1,(),(),(IntKind.i64.wrap (y.1.2.2.2.1+(1:Int))),()),(y.2.1.1,y.2.1.2.1,y.2.1.2.2.1,y.2.1.2.2.2.1,()),y.2.2.1,()))
else
 some (.inr ((y.1.1,(),(),y.1.2.2.2.1,()),(y.2.1.1,y.2.1.2.1,y.2.1.2.2.1,y.2.1.2.2.2.1,()),y.2.2.1,()))
else
 some (.inr ((y.1.1,(),(),y.1.2.2.2.1,()),(y.2.1.1,y.2.1.2.1,y.2.1.2.2.1,y.2.1.2.2.2.1,()),y.2.2.1,()))
noncomputable def x9:x1.H->Option (aQ Dy):=bO ua
theorem abf:bp Z (aG (codeOf Tryz.f115) 1 28) (bH x1 Dy x9):=cD RX (by kernel_rfl) ap fun y=>by kernel_rfl
abbrev i115:Shape:=⟨[aV 0 .pack,cf 1 [a5,a5,bh .need,bh .entry]],[],35⟩
abbrev Qd:Shape:=⟨[b2 4 3000256],[ci 3000256 .pack 4 0],35⟩
noncomputable def f115(a:i115.H):Option Qd.H:=
(x9 ((a.1.1,(),(),(0:Int),()),(a.1.2.1.1,a.1.2.1.2.1,a.1.2.1.2.2.1,a.1.2.1.2.2.2.1,()),([]:List aM),())).bind fun b=>
(dw b.1.1 (0:Int) b.1.2.2.2.1).bind fun c=>
(dx 80 ([]:List aM) c).bind fun d=>
(f107 (((b.2.1.1,b.2.1.2.1,b.2.1.2.2.1,b.2.1.2.2.2.1,()),()),())).bind fun e=>
(dx 80 d ([(aM.mk e.2.2.2.1.1 e.2.2.2.1.2.1 e.2.1 e.2.2.1)]:List aM)).bind fun f=>
(dw b.1.1 b.1.2.2.2.1 (b.1.1.length:Int)).bind fun g=>
(dx 80 f g).bind fun h=>
 some (((),()),h,())
noncomputable def GL:aT:=a' aq Tryz.f115 i115 Qd [] f115
theorem Pe:a0 Z 115 GL:=ba RX Tryz.func115 (by kernel_rfl) (bL abf ap) (fun y=>by kernel_rfl) fun a=>by kernel_rfl
noncomputable abbrev alr:bq:=[(107,GO)]
theorem Uu:a7 Z (bl aq alr):=bx ⟨Ph,⟨⟩⟩
abbrev yT:Shape:=⟨[bd 1 1 0,bd 2 2 0,bd 3 3 0,ae 4],[bc 1 [bh .pack],eW 5000128 .pack 2 0,bc 2 [.own 5000128],eW 5000192 .pack 3 0,bc 3 [.own 5000192]],25⟩
abbrev Ew:List bf:=[(.exit 0,⟨[bd 2 2 0,bd 3 3 0],[eW 5000128 .pack 2 0,bc 2 [.own 5000128],eW 5000192 .pack 3 0,bc 3 [.own 5000192]],25⟩)]
noncomputable def ze(y:yT.H):cy yT Ew:=
 bif(decide (y.1.2.2.2.1<(y.2.1.1.length:Int))) then
(bk y.2.1.1 y.1.2.2.2.1).bind fun a=>
(f107 (((a.name,a.be,a.bb,a.br,()),()),())).bind fun b=>
(dx 80 y.2.2.2.2.1 ([(aM.mk b.2.2.2.1.1 b.2.2.2.1.2.1 b.2.1 b.2.2.1)]:List aM)).bind fun c=>
 some (.inl (((),(),(),(IntKind.i64.wrap (y.1.2.2.2.1+(1:Int))),()),(y.2.1.1,()),y.2.2.1,((),()),c,((),()),()))
else
 some (.inr (((),(),()),y.2.2.1,((),()),y.2.2.2.2.1,((),()),()))
noncomputable def EP:yT.H->Option (aQ Ew):=bO ze
theorem acu:bp Z (aG (codeOf Tryz.f62) 1 58) (bH yT Ew EP):=cD Uu (by kernel_rfl) ap fun y=>by kernel_rfl
abbrev i62:Shape:=⟨[cf 0 [bh .pack]],[],25⟩
abbrev SH:Shape:=⟨[bd 2 2 0],[eW 5000128 .pack 2 0,bc 2 [.own 5000128]],25⟩
noncomputable def f62(a:i62.H):Option SH.H:=
(EP (((),(),(),(0:Int),()),(a.1.1.1,()),([]:List aM),((),()),([]:List aM),((),()),())).bind fun b=>
 some (((),()),b.2.2.2.1,((),()),())
noncomputable def A6:aT:=a' aq Tryz.f62 i62 SH [] f62
theorem G2:a0 Z 62 A6:=ba Uu Tryz.func62 (by kernel_rfl) (bL acu ap) (fun y=>by kernel_rfl) fun a=>by kernel_rfl
noncomputable abbrev alj:bq:=[(98,A3),(104,u7),(105,Ae),(115,GL)]
theorem alU:a7 Z (bl aq alj):=bx ⟨GZ,zT,FF,Pe,⟨⟩⟩
abbrev i71:Shape:=⟨[cf 0 [bh .pack],cf 1 [a5,a5,bh .need,bh .entry]],[],27⟩
abbrev SA:Shape:=⟨[bd 4 4 0,ae 5],[bc 4 [bh .pack]],27⟩
noncomputable def f71(a:i71.H):Option SA.H:=
(f98 (((a.1.2.1.1,a.1.2.1.2.1,a.1.2.1.2.2.1,a.1.2.1.2.2.2.1,()),()),())).bind fun b=>
 bif(!b.1.1) then
 some (((),(1:Int),()),(a.1.1.1,()),())
else
(f104 ((a.1.1.1,a.1.2.1.1,()),())).bind fun c=>
 bif(decide (c.1.1>=(0:Int))) then
 some (((),(2:Int),()),(a.1.1.1,()),())
else
(f115 ((a.1.1.1,(a.1.2.1.1,a.1.2.1.2.1,a.1.2.1.2.2.1,a.1.2.1.2.2.2.1,()),()),())).bind fun d=>
(f105 (((a.1.1.1,()),d.2.1,()),())).bind fun e=>
 some (((),e.1.2.1,()),(e.2.1.1,()),())
noncomputable def TZ:aT:=a' aq Tryz.f71 i71 SA [] f71
theorem ahY:a0 Z 71 TZ:=ba alU Tryz.func71 (by kernel_rfl) ap (fun y=>by kernel_rfl) fun a=>by kernel_rfl
theorem Yu(a)(hb:et a.1.1)(hv:na a.1.1):f85 a=some ((gk a.1.1,()),()):=by
 obtain⟨⟨ps,u⟩,bF⟩:=a;have hl:ps.length<=2097152:=hb.1;have key:y3 ((ps,((0:Int),())),())=some (bif allI (sG ps) 0 ps then .inr ((ps,()),()) else .inl (((1:Int),()),())):=by
  refine fB pD ps (fun i=>((ps,((i:Int),())),())) _ _ _ (fun i x hx=>?_) ?_
  ·have hi:=cg hx;have hw:aE i:=by unfold aE;omega
   have vV:=hb.2 x (List.mem_of_getElem? hx);simp only[pD,ce hi,cond_true,yd,b4,hx,Option.bind_some];rw[Cz _ vV];simp only[Option.bind_some,sG,z'];cases dI x with
   |false=>rfl
   |true=>
    simp only[Bool.not_true,cond_false,Bool.true_and,my];cases i with
    |zero=>simp only[beq_self_eq_true,Bool.not_true,cond_false,Option.bind_some,Bool.true_or,cond_true,ca hw]
    |succ i=>
     have h0:(i+1==0)=false:=rfl;have hV:i<ps.length:=by omega
     obtain⟨q,aD⟩:∃q,ps[i]? =some q:=⟨ps[i],List.getElem?_eq_getElem hV⟩;simp only[h0,Bool.not_false,cond_true,tu (i:=i) (by unfold aE;omega),b4,aD,hx,Option.bind_some,Bool.false_or,Nat.add_sub_cancel]
     cases Op.bytesLess q.name x.name with
     |false=>rfl
     |true=>simp only[Bool.not_true,cond_false,cond_true,ca hw]
  ·simp only[pD,cX,cond_false]
 rw[MH] at key;have bD:decide ((ps.length:Int)>5)=!decide (ps.length<=5):=by by_cases h:ps.length<=5<;>simp only[h,decide_true,decide_false,Bool.not_true,Bool.not_false,decide_eq_true_eq,decide_eq_false_iff_not]<;>omega
 simp only[f85,key,Option.bind_some,gk];cases hA:(ps.all dI&&j9 ps) with
 |false=>rfl
 |true=>
  have ag:ps.all dI=true:=by simp only[Bool.and_eq_true] at hA;exact hA.1
  obtain⟨out,aC⟩:=Lp ((ps,()),()) hb ag;have hn:=Kz ((ps,()),()) hb hv;simp only[cond_true,Option.bind_some,aC,bD];cases decide (ps.length<=5) with
  |false=>rfl
  |true=>
   simp only[Bool.not_true,cond_false,hn,Option.bind_some];cases ps.all (fun p=>p.bb.all (hP ps))<;>cases (fe [] ps).isSome<;>rfl
theorem Lq(a)(h:ld ⟨a.1.1.1,a.1.1.2.1,a.1.1.2.2.1,a.1.1.2.2.2.1⟩):f107 a=some (((),()),(a.1.1.2.2.1,(a.1.1.2.2.2.1,((a.1.1.1,(a.1.1.2.1,((),((),())))),())))):=by
 obtain⟨⟨⟨name,be,bb,br,u⟩,bF⟩,iE⟩:=a;have h1:bb.length<=2097152:=h.2.2.1.1;have h2:=Z5 ((br,()),()) h.2.2.2.1;simp only[f107,gW (show(40:Nat)<=100 by decide) (show aE (([]:List dq).length+bb.length) by unfold aE;simp;omega),List.nil_append,Option.bind_some,h2]
def eD(ps:List aM)(n:al):Nat:=(ps.takeWhile fun p=>Op.bytesLess p.name n).length
theorem x5(ps:List aM)(n:al):eD ps n<=ps.length:=(List.takeWhile_prefix _).length_le
def iu(ps:List aM)(p:aM):List aM:=ps.take (eD ps p.name)++[p]++ps.drop (eD ps p.name)
theorem Ym(ps:List aM)(p:aM):(iu ps p).length=ps.length+1:=by
 have:=x5 ps p.name;unfold iu;simp only[List.length_append,List.length_take,List.length_drop,List.length_cons,List.length_nil];omega
theorem Yl{ps:List aM}{p x:aM}(h:x∈iu ps p):x=p\/x∈ps:=by
 unfold iu at h;simp only[List.mem_append,List.mem_singleton] at h;rcases h with(h|h)|h
 ·exact .inr (List.mem_of_mem_take h)
 ·exact .inl h
 ·exact .inr (List.mem_of_mem_drop h)
theorem Cw{k:Nat}{ps:List aM}{p:aM}(h:g8 k ps)(aj:kq p):g8 (k+1) (iu ps p):=
 ⟨by rw[Ym];exact Nat.succ_le_succ h.1,fun x hx=>by
  rcases Yl hx with rfl|hx
  ·exact aj
  ·exact h.2 x hx⟩
theorem Z0(a)(h1:a.1.1.length<=2097151)(aj:ld ⟨a.1.2.1.1,a.1.2.1.2.1,a.1.2.1.2.2.1,a.1.2.1.2.2.2.1⟩):f115 a=some (((),()),(iu a.1.1 ⟨a.1.2.1.1,a.1.2.1.2.1,a.1.2.1.2.2.1,a.1.2.1.2.2.2.1⟩,())):=by
 obtain⟨⟨ps,⟨name,be,bb,br,iK⟩,u⟩,bF⟩:=a;have h1:ps.length<=2097151:=h1;have key:∀(r:List aM) (k:Nat),ps.drop k=r->k<=ps.length->x9 ((ps,((),((),((k:Int),())))),((name,(be,(bb,(br,())))),(([]:List aM),())))=
   some ((ps,((),((),(((k+(r.takeWhile fun p=>Op.bytesLess p.name name).length:Nat):Int),())))),((name,(be,(bb,(br,())))),(([]:List aM),()))):=by
  intro r;induction r with
  |nil=>
   intro k hr ag;have:=drop_nil hr;obtain rfl:k=ps.length:=by omega
   refine eA ?_
   simp only[ua,cX,cond_false,List.takeWhile_nil,List.length_nil,Nat.add_zero]
  |cons q r ih=>
   intro k hr ag;obtain⟨c1,c2,c3⟩:=drop_cons hr;have hw:aE k:=by unfold aE;omega
   rw[List.takeWhile_cons];cases aD:Op.bytesLess q.name name with
   |false=>
    refine eA ?_
    simp only[ua,ce c3,cond_true,b4,c1,Option.bind_some,aD,cond_false];rfl
   |true=>
    have step:ua ((ps,((),((),((k:Int),())))),((name,(be,(bb,(br,())))),(([]:List aM),())))=some (.inl ((ps,((),((),(((k+1:Nat):Int),())))),((name,(be,(bb,(br,())))),(([]:List aM),())))):=by
     simp only[ua,ce c3,cond_true,b4,c1,Option.bind_some,aD,ca hw]
    refine Eq.trans (hk step) (Eq.trans (ih (k+1) c2 c3) ?_);simp only[if_true,List.length_cons];have e:k+1+(r.takeWhile fun p=>Op.bytesLess p.name name).length=k+((r.takeWhile fun p=>Op.bytesLess p.name name).length+1):=by omega
    rw[e]
 have key:=key ps 0 rfl (Nat.zero_le _);rw[Nat.zero_add] at key;have ag:(ps.takeWhile fun p=>Op.bytesLess p.name name).length=eD ps name:=rfl
 rw[ag] at key;have key:x9 ((ps,((),((),((0:Int),())))),((name,(be,(bb,(br,())))),(([]:List aM),())))=_:=key;have cY:=x5 ps name;have e2:=Lq (((name,(be,(bb,(br,())))),()),()) aj;simp only[f115,key,Option.bind_some,pv cY,B4 cY,e2];rw[gW (show(80:Nat)<=100 by decide) (by unfold aE;simp;omega)]
 simp only[List.nil_append,Option.bind_some];rw[gW (show(80:Nat)<=100 by decide) (by unfold aE;simp;omega)]
 simp only[Option.bind_some];rw[gW (show(80:Nat)<=100 by decide) (by unfold aE;simp;omega)]
 rfl
theorem aau(a)(hb:et a.1.2.1)(hv:na a.1.2.1):f105 a=some (((),(gk a.1.2.1,())),(((bif gk a.1.2.1==0 then a.1.2.1 else a.1.1.1),()),())):=by
 obtain⟨⟨⟨r,iK⟩,list,u⟩,bF⟩:=a;have e:=Yu ((list,()),()) hb hv;simp only[f105,e,Option.bind_some];have z:(gk list !=0)=!(gk list==0):=rfl;rw[z];cases hc:(gk list==0) with
 |false=>rfl
 |true=>
  have hc:gk list=0:=by simpa using hc
  simp only[Bool.not_true,cond_false,cond_true];rw[hc]
def oV(ps:List aM)(p:aM):List aM×Int:=bif dI p then(match ps.find? (fun q=>q.name==p.name) with
 |some _=>(ps,2)
 |none=>(bif gk (iu ps p)==0 then iu ps p else ps,gk (iu ps p))) else(ps,1)
theorem acO{k:Nat}{ps:List aM}{p:aM}(h:g8 k ps)(aj:kq p):g8 (k+1) (oV ps p).1:=by
 have ab:g8 (k+1) ps:=⟨Nat.le_succ_of_le h.1,h.2⟩;unfold oV;cases dI p with
 |false=>exact ab
 |true=>
  simp only[cond_true];cases ps.find? (fun q=>q.name==p.name) with
  |some q=>exact ab
  |none=>
   simp only;cases gk (iu ps p)==0 with
   |false=>exact ab
   |true=>exact Cw h aj
theorem aca(a)(k:Nat)(ag:k<=2000000)(h:g8 k a.1.1.1)(aj:kq ⟨a.1.2.1.1,a.1.2.1.2.1,a.1.2.1.2.2.1,a.1.2.1.2.2.2.1⟩):f71 a=some (((),((oV a.1.1.1 ⟨a.1.2.1.1,a.1.2.1.2.1,a.1.2.1.2.2.1,a.1.2.1.2.2.2.1⟩).2,())),(((oV a.1.1.1 ⟨a.1.2.1.1,a.1.2.1.2.1,a.1.2.1.2.2.1,a.1.2.1.2.2.2.1⟩).1,()),())):=by
 obtain⟨⟨⟨ps,iK⟩,⟨name,be,bb,br,u1⟩,u⟩,bF⟩:=a;have h:g8 k ps:=h;have aj:kq ⟨name,be,bb,br⟩:=aj;have hl:ps.length<=2000000:=Nat.le_trans h.1 ag;have e1:=Cz (((name,(be,(bb,(br,())))),()),()) aj.1;simp only[f71,e1,Option.bind_some,oV];cases dI ⟨name,be,bb,br⟩ with
 |false=>rfl
 |true=>
  simp only[Bool.not_true,cond_false,cond_true];rcases Lr ((ps,(name,())),()) (show ps.length<=2097152 by omega) with⟨j,q,g1,g2,g3⟩|⟨g1,g2⟩
  ·have g3:ps.find? (fun p=>p.name==name)=some q:=g3
   have hj:decide ((j:Int)>=0)=true:=by simp
   simp only[g1,Option.bind_some,hj,cond_true,g3]
  ·have g2:ps.find? (fun p=>p.name==name)=none:=g2
   have hj:decide ((-1:Int)>=0)=false:=rfl;have hw:=Cw h aj;have e2:=Z0 ((ps,((name,(be,(bb,(br,())))),())),()) (show ps.length<=2097151 by omega) aj.1
   have bK:=aau (((ps,()),(iu ps ⟨name,be,bb,br⟩,())),()) (hw.ma (by omega)) hw.vs
   simp only[g1,Option.bind_some,hj,cond_false,g2,e2,bK]
theorem Z1(a)(h:et a.1.1.1):f62 a=some (((),()),(a.1.1.1,(((),()),()))):=by
 obtain⟨⟨⟨ps,iK⟩,u⟩,bF⟩:=a;have hl:ps.length<=2097152:=h.1;have key:=Ca (S:=List aM) ze ps (fun i bv=>(((),((),((),((i:Int),())))),((ps,()),(([]:List aM),(((),()),(bv,(((),()),()))))))) (fun x bv=>bv++[x]) (fun bv=>(((),((),())),(([]:List aM),(((),()),(bv,(((),()),())))))) (fun i bv=>bv.length=i) [] rfl (fun i x bv hx c7=>?_) (fun bv c7=>?_)
 ·have key:EP (((),((),((),((0:Int),())))),((ps,()),(([]:List aM),(((),()),(([]:List aM),(((),()),()))))))=_:=key;have e:∀(l bv:List aM),l.foldl (fun s x=>s++[x]) bv=bv++l:=by
   intro l;induction l with
   |nil=>intro bv;simp
   |cons x l ih=>intro bv;simp only[List.foldl_cons];rw[ih];simp
  simp only[f62,key,Option.bind_some];rw[e];rfl
 ·have hi:=cg hx;have hw:aE i:=by unfold aE;omega
  have e2:=Lq (((x.name,(x.be,(x.bb,(x.br,())))),()),()) (h.2 x (List.mem_of_getElem? hx));have a9:dx 80 bv [x]=some (bv++[x]):=gW (by decide) (by unfold aE;simp;omega)
  simp only[ze,ce hi,cond_true,b4,hx,Option.bind_some,e2,a9,ca hw];exact⟨trivial,by simp[c7]⟩
 ·simp only[ze,cX,cond_false]
abbrev TO(k:Nat)(ps:List aM):Prop:=ps.length<=k/\∀p,p∈ps->Ic p
theorem TO.ok{k:Nat}{ps:List aM}(h:TO k ps):g8 k ps:=⟨h.1,fun p aj=>(h.2 p aj).ok⟩
def sv(t:List a4)(p:al):Option a4:=match t[bV t p]? with
 |some e=>bif e.path==p then some e else none
 |none=>none
theorem abA{t:List a4}{p:al}{e:a4}(h:sv t p=some e):t[bV t p]? =some e/\e.path=p:=by
 unfold sv at h;cases aC:t[bV t p]? with
 |none=>rw[aC] at h;cases h
 |some x=>
  rw[aC] at h;cases hx:(x.path==p) with
  |false=>simp[hx] at h
  |true=>simp only[hx,cond_true,Option.some.injEq] at h;subst h;exact⟨rfl,eq_of_beq hx⟩
abbrev i12:Shape:=⟨[cf 0 [bh .pack]],[],16⟩
abbrev S7:Shape:=⟨[b2 2 3000128],[ci 3000128 .entry 2 0],16⟩
noncomputable def f12(a:i12.H):Option S7.H:=
(f46 (((a.1.1.1,()),()),())).bind fun b=>
 bif(!b.1.1) then
 some (((),()),([]:List a4),())
else
(f51 ((a.1.1.1,()),())).bind fun c=>
 some (((),()),c.2.1,())
noncomputable def Ug:aT:=a' aq Tryz.f12 i12 S7 [] f12
abbrev i14:Shape:=⟨[cf 0 [bh .pack]],[],15⟩
abbrev At:Shape:=⟨[b2 2 3000128],[ci 3000128 .entry 2 0],15⟩
noncomputable def f14(a:i14.H):Option At.H:=
(f48 (((a.1.1.1,()),()),())).bind fun b=>
 bif(!b.1.1) then
 some (((),()),([]:List a4),())
else
(f52 ((a.1.1.1,()),())).bind fun c=>
 some (((),()),c.2.1,())
noncomputable def Uf:aT:=a' aq Tryz.f14 i14 At [] f14
theorem acD{t:List a4}(a9:fb t){k:Nat}{e:a4}(h:t[k]? =some e):bV t e.path=k:=by
 have h1:=jv (p:=e.path) a9 k e h;have h2:Op.bytesLess e.path e.path=false:=rG _;rw[h1] at h2;have h2:¬k<bV t e.path:=of_decide_eq_false h2;rcases Nat.lt_or_ge (bV t e.path) k with aa|aa
 ·exfalso
  have aI:bV t e.path<t.length:=Nat.lt_trans aa (cg h);have bD:=List.getElem?_eq_getElem aI;have dh:=jv (p:=e.path) a9 (bV t e.path) t[bV t e.path] bD;have hJ:Op.bytesLess (t[bV t e.path]).path e.path=true:=by
   have aj:=List.pairwise_iff_getElem.1 a9 (bV t e.path) k aI (cg h) aa;have:t[k]'(cg h)=e:=by
    have:=List.getElem?_eq_getElem (cg h);rw[h] at this;exact(Option.some.inj this).symm
   rw[this] at aj;exact aj
  rw[hJ] at dh;have:=of_decide_eq_true dh.symm;omega
 ·omega
theorem L6{t:List a4}(a9:fb t){p:al}{e:a4}:sv t p=some e <-> e∈t/\e.path=p:=by
 constructor
 ·intro h;obtain⟨h1,h2⟩:=abA h;exact⟨List.mem_of_getElem? h1,h2⟩
 ·rintro⟨h1,rfl⟩;obtain⟨k,ag⟩:=List.mem_iff_getElem?.1 h1;have:=acD a9 ag;unfold sv;rw[this,ag];simp
theorem ac0{a b:a4}(h:jM a b=true):a=b:=by
 unfold jM at h;simp only[Bool.and_eq_true,beq_iff_eq] at h;obtain⟨h1,h2,aa,aI⟩:=h;cases a;cases b;simp only at h1 h2 aa aI;subst h1 h2 aa aI;rfl
theorem L3{t:List a4}{k:Nat}{e x:a4}:x∈iV t k e <-> x=e\/x∈t:=by
 constructor
 ·exact Ci
 ·unfold iV;intro h;rcases h with rfl|h
  ·simp
  ·have:x∈t.take k++t.drop k:=by rw[List.take_append_drop];exact h
   simp only[List.mem_append,List.mem_singleton] at this ⊢;rcases this with h|h
   ·exact .inl (.inl h)
   ·exact .inr h
theorem _l{out D:List a4}{e:a4}(h:gZ out e=some D)(x:a4):x∈D <-> x=e\/x∈out:=by
 unfold gZ at h;split at h
 ·rename_i q aD;cases aj:(q.path==e.path) with
  |true=>
   rw[aj] at h;cases hc:lL e q with
   |true=>rw[hc] at h;cases h
   |false=>
    rw[hc] at h;cases h;have:jM e q=true:=by
     unfold lL at hc;simp only[Bool.or_eq_false_iff,Bool.not_eq_false'] at hc;exact hc.2
    have:=ac0 this;subst this;constructor
    ·exact .inr
    ·rintro(rfl|h)
     ·exact List.mem_of_getElem? aD
     ·exact h
  |false=>rw[aj] at h;cases h;exact L3
 ·cases h;exact L3
theorem _1:∀{es out D:List a4},gj out es=some D->∀x,x∈D <-> x∈out\/x∈es:=by
 intro es;induction es with
 |nil=>intro out D h x;simp only[gj,Option.some.injEq] at h;subst h;simp
 |cons e r ih=>
  intro out D h x;rw[tr] at h;obtain⟨o1,h1,h2⟩:=Option.bind_eq_some_iff.1 h;rw[ih h2,_l h1,List.mem_cons];constructor
  ·rintro((h|h)|h)
   ·exact .inr (.inl h)
   ·exact .inl h
   ·exact .inr (.inr h)
  ·rintro(h|h|h)
   ·exact .inl (.inr h)
   ·exact .inl (.inl h)
   ·exact .inr h
theorem YM:∀{ps:List aM} {out t:List a4},fe out ps=some t->∀x,x∈t <-> x∈out\/∃p,p∈ps/\x∈p.br:=by
 intro ps;induction ps with
 |nil=>intro out t h x;simp only[fe,Option.some.injEq] at h;subst h;simp
 |cons p r ih=>
  intro out t h x;rw[wF] at h;obtain⟨D,h1,h2⟩:=Option.bind_eq_some_iff.1 h;rw[ih h2,_1 (xg h1).2];constructor
  ·rintro((h|h)|⟨q,h,ab⟩)
   ·exact .inl h
   ·exact .inr ⟨p,List.mem_cons_self,h⟩
   ·exact .inr ⟨q,List.mem_cons_of_mem _ h,ab⟩
  ·rintro(h|⟨q,h,ab⟩)
   ·exact .inl (.inl h)
   ·rcases List.mem_cons.1 h with rfl|h
    ·exact .inl (.inr ab)
    ·exact .inr ⟨q,h,ab⟩
theorem YL:∀{ps:List aM} {out t:List a4},eB out=true->fe out ps=some t->eB t=true:=by
 intro ps;induction ps with
 |nil=>intro out t au h;simp only[fe,Option.some.injEq] at h;subst h;exact au
 |cons p r ih=>
  intro out t au h;rw[wF] at h;obtain⟨D,h1,h2⟩:=Option.bind_eq_some_iff.1 h;exact ih (xg h1).1 h2
structure td(ps:List aM)(t:List a4):Prop where
 br:fe [] ps=some t
 adJ:ps.all dI=true
 akP:ps.Pairwise fun p q=>Op.bytesLess p.name q.name=true
theorem adA{ps:List aM}(h:iS ps=true):∃t,td ps t:=by
 unfold iS at h;simp only[Bool.and_eq_true] at h;obtain⟨⟨⟨⟨h1,h2⟩,aa⟩,aI⟩,bD⟩:=h;obtain⟨t,aC⟩:=Option.isSome_iff_exists.1 bD;exact⟨t,aC,h1,M0 h2⟩
section
variable {ps:List aM}{t:List a4}(R:td ps t)
include R
theorem td.ok:eB t=true:=YL (by rfl) R.br
theorem td.IC{p:aM}(h:p∈ps):kR p.name=true/\eB p.br=true:=by
 have:=List.all_eq_true.1 R.adJ p h;unfold dI at this;simp only[Bool.and_eq_true] at this;exact⟨this.1.1.1,this.2⟩
theorem td.amB{p:aM}(h:p∈ps):fb p.br:=BJ (R.IC h).2
theorem td.up{p:aM}(h:p∈ps){path:al}{e:a4}(he:sv p.br path=some e):sv t path=some e:=by
 obtain⟨aB,ao⟩:=(L6 (R.amB h)).1 he;exact(L6 (BJ R.ok)).2 ⟨(YM R.br e).2 (.inr ⟨p,h,aB⟩),ao⟩
end
noncomputable abbrev ahm:bq:=[(110,GN)]
theorem ahI:a7 Z (bl aq ahm):=bx ⟨Pg,⟨⟩⟩
abbrev i109:Shape:=⟨[cf 0 [a5,a5,bh .need,bh .entry],bw 1],[],9⟩
abbrev Qj:Shape:=⟨[ae 4],[],9⟩
noncomputable def f109(a:i109.H):Option Qj.H:=
(f110 ((a.1.1.1,a.1.2.1,()),())).bind fun b=>
 some ((b.1.1,()),())
noncomputable def RI:aT:=a' aq Tryz.f109 i109 Qj [] f109
theorem afg:a0 Z 109 RI:=ba ahI Tryz.func109 (by kernel_rfl) ap (fun y=>by kernel_rfl) fun a=>by kernel_rfl
noncomputable abbrev adi:bq:=[(109,RI)]
theorem Od:a7 Z (bl aq adi):=bx ⟨afg,⟨⟩⟩
abbrev wZ:Shape:=⟨[aV 0 .pack,bw 1,(2,.ai (.fn 109 [])),ae 8,ae 9,ae 10],[],49⟩
abbrev B2:List bf:=[(.exit 0,⟨[aV 0 .pack,bw 1,(2,.ai (.fn 109 [])),ae 8,ae 9],[],49⟩)]
noncomputable def w_(y:wZ.H):cy wZ B2:=
 bif(decide (y.1.2.2.2.2.1<y.1.2.2.2.2.2.1)) then
(nD .u64 (IntKind.u64.wrap (IntKind.i64.wrap (y.1.2.2.2.2.1+y.1.2.2.2.2.2.1))) (1:Int)).bind fun a=>
(bk y.1.1 (IntKind.i64.wrap a)).bind fun b=>
(f109 (((b.name,b.be,b.bb,b.br,()),y.1.2.1,()),())).bind fun c=>
 bif(decide (c.1.1<(0:Int))) then
 some (.inl ((y.1.1,y.1.2.1,(),y.1.2.2.2.1,(IntKind.i64.wrap ((IntKind.i64.wrap a)+(1:Int))),y.1.2.2.2.2.2.1,()),()))
else
 some (.inl ((y.1.1,y.1.2.1,(),y.1.2.2.2.1,y.1.2.2.2.2.1,(IntKind.i64.wrap a),()),()))
else
 some (.inr ((y.1.1,y.1.2.1,(),y.1.2.2.2.1,y.1.2.2.2.2.1,()),()))
noncomputable def w3:wZ.H->Option (aQ B2):=bO w_
theorem Zi:bp Z (aG (codeOf Tryz.f108) 1 60) (bH wZ B2 w3):=cD Od (by kernel_rfl) ap fun y=>by kernel_rfl
abbrev NL:Shape:=⟨[aV 0 .pack,bw 1,(2,.ai (.fn 109 []))],[],49⟩
abbrev Nt:Shape:=⟨[ae 6,aX 7],[],49⟩
noncomputable def zq(a:NL.H):Option Nt.H:=
(w3 ((a.1.1,a.1.2.1,(),(a.1.1.length:Int),(0:Int),(a.1.1.length:Int),()),())).bind fun b=>
 bif(decide (b.1.2.2.2.2.1<b.1.2.2.2.1)) then
(bk b.1.1 b.1.2.2.2.2.1).bind fun c=>
(f109 (((c.name,c.be,c.bb,c.br,()),b.1.2.1,()),())).bind fun d=>
 some ((b.1.2.2.2.2.1,(d.1.1==(0:Int)),()),())
else
 some ((b.1.2.2.2.2.1,false,()),())
noncomputable def N8:aT:=a' aq Tryz.f108 NL Nt [] zq
theorem ab5:a0 Z 108 N8:=ba Od Tryz.func108 (by kernel_rfl) (bL Zi ap) (fun y=>by kernel_rfl) fun a=>by kernel_rfl
abbrev i176:Shape:=⟨[aV 0 .need],[],8⟩
abbrev FV:Shape:=⟨[b2 2 3000128],[ci 3000128 .need 2 0],8⟩
noncomputable def f176(a:i176.H):Option FV.H:=
 nk (t:=.need) a.1.1 (some (((),()),([]:List dq),())) ((dx 40 ([]:List dq) a.1.1).bind fun b=>
 some (((),()),b,()))
noncomputable def Rp:aT:=a' aq Tryz.f176 i176 FV [] f176
theorem aeX:a0 Z 176 Rp:=ba g0 Tryz.func176 (by kernel_rfl) ap (fun y=>by kernel_rfl) fun a=>by kernel_rfl
noncomputable abbrev ahk:bq:=[(159,GC),(176,Rp)]
theorem ahG:a7 Z (bl aq ahk):=bx ⟨O8,aeX,⟨⟩⟩
abbrev i111:Shape:=⟨[cf 0 [a5,a5,bh .need,bh .entry]],[],12⟩
abbrev Qh:Shape:=⟨[bd 2 2 0],[eW 5000130 .need 2 2,eW 5000131 .entry 2 3,bc 2 [a5,a5,.own 5000130,.own 5000131]],12⟩
noncomputable def f111(a:i111.H):Option Qh.H:=
(f176 ((a.1.1.2.2.1,()),())).bind fun b=>
(f159 ((a.1.1.2.2.2.1,()),())).bind fun c=>
 some (((),()),b.2.1,c.2.1,(a.1.1.1,a.1.1.2.1,(),(),()),())
noncomputable def GM:aT:=a' aq Tryz.f111 i111 Qh [] f111
theorem Pf:a0 Z 111 GM:=ba ahG Tryz.func111 (by kernel_rfl) ap (fun y=>by kernel_rfl) fun a=>by kernel_rfl
noncomputable abbrev alC:bq:=[(46,A8),(62,A6),(71,TZ)]
theorem al5:a7 Z (bl aq alC):=bx ⟨G4,G2,ahY,⟨⟩⟩
abbrev i33:Shape:=⟨[cf 0 [bh .pack],cf 1 [a5,a5,bh .need,bh .entry]],[],16⟩
abbrev SV:Shape:=⟨[bd 4 4 0,ae 5],[bc 4 [bh .pack]],16⟩
noncomputable def f33(a:i33.H):Option SV.H:=
(f46 (((a.1.1.1,()),()),())).bind fun b=>
 bif(!b.1.1) then
 some (((),(1:Int),()),(([]:List aM),()),())
else
(f62 (((a.1.1.1,()),()),())).bind fun c=>
(f71 (((c.2.1,()),(a.1.2.1.1,a.1.2.1.2.1,a.1.2.1.2.2.1,a.1.2.1.2.2.2.1,()),()),())).bind fun d=>
 some (((),d.1.2.1,()),(d.2.1.1,()),())
noncomputable def T_:aT:=a' aq Tryz.f33 i33 SV [] f33
theorem ah9:a0 Z 33 T_:=ba al5 Tryz.func33 (by kernel_rfl) ap (fun y=>by kernel_rfl) fun a=>by kernel_rfl
noncomputable abbrev alq:bq:=[(108,N8)]
theorem alW:a7 Z (bl aq alq):=bx ⟨ab5,⟨⟩⟩
abbrev i63:Shape:=⟨[aV 0 .pack,bw 1],[],11⟩
abbrev SG:Shape:=⟨[ae 4,aX 5],[],11⟩
noncomputable def f63(a:i63.H):Option SG.H:=
(zq ((a.1.1,a.1.2.1,(),()),())).bind fun b=>
 some ((b.1.1,b.1.2.1,()),())
noncomputable def wa:aT:=a' aq Tryz.f63 i63 SG [] f63
theorem Ak:a0 Z 63 wa:=ba alW Tryz.func63 (by kernel_rfl) ap (fun y=>by kernel_rfl) fun a=>by kernel_rfl
noncomputable abbrev alo:bq:=[(111,GM)]
theorem Ut:a7 Z (bl hd alo):=n8 ⟨Pf,⟨⟩⟩
abbrev yS:Shape:=⟨[b2 3 3000192,aV 6 .pack,ae 7,ae 8],[(3000192,.deep .pack,.slot 3 0)],19⟩
abbrev Ev:List bf:=[(.exit 0,⟨[b2 3 3000192],[(3000192,.deep .pack,.slot 3 0)],19⟩)]
noncomputable def zd(y:yS.H):cy yS Ev:=
 bif(decide (y.1.2.2.2.1<y.1.2.2.1)) then
(bk y.1.2.1 y.1.2.2.2.1).bind fun a=>
(f111 (((a.name,a.be,a.bb,a.br,()),()),())).bind fun b=>
(dx 80 y.2.1 ([(aM.mk b.2.2.2.1.1 b.2.2.2.1.2.1 b.2.1 b.2.2.1)]:List aM)).bind fun c=>
 some (.inl (((),y.1.2.1,y.1.2.2.1,(IntKind.i64.wrap (y.1.2.2.2.1+(1:Int))),()),c,()))
else
 some (.inr (((),()),y.2.1,()))
noncomputable def EO:yS.H->Option (aQ Ev):=bO zd
theorem acs:bp Z (aG (codeOf Tryz.f65) 1 58) (bH yS Ev EO):=cD Ut (by kernel_rfl) ap fun y=>by kernel_rfl
abbrev i65:Shape:=⟨[aV 0 .pack],[],19⟩
abbrev SE:Shape:=⟨[b2 2 3000128],[(3000128,.deep .pack,.slot 2 0)],19⟩
noncomputable def f65(a:i65.H):Option SE.H:=
(EO (((),a.1.1,(a.1.1.length:Int),(0:Int),()),([]:List aM),())).bind fun b=>
 some (((),()),b.2.1,())
noncomputable def A5:aT:=a' hd Tryz.f65 i65 SE [] f65
theorem G1:a0 Z 65 A5:=ba Ut Tryz.func65 (by kernel_rfl) (bL acs ap) (fun y=>by kernel_rfl) fun a=>by kernel_rfl
noncomputable abbrev alp:bq:=[(65,A5)]
theorem alV:a7 Z (bl hd alp):=n8 ⟨G1,⟨⟩⟩
abbrev i64:Shape:=⟨[cf 0 [bh .pack]],[],7⟩
abbrev SF:Shape:=⟨[bd 2 2 0],[(5000128,.deep .pack,.cell 2 0),bc 2 [.own 5000128]],7⟩
noncomputable def f64(a:i64.H):Option SF.H:=
(f65 ((a.1.1.1,()),())).bind fun b=>
 some (((),()),b.2.1,((),()),())
noncomputable def S64:aT:=a' hd Tryz.f64 i64 SF [] f64
theorem Aj:a0 Z 64 S64:=ba alV Tryz.func64 (by kernel_rfl) ap (fun y=>by kernel_rfl) fun a=>by kernel_rfl
noncomputable abbrev aeh:bq:=[(64,S64),(88,Ig)]
theorem aen:a7 Z (bl hd aeh):=n8 ⟨Aj,R3,⟨⟩⟩
abbrev OG:Shape:=⟨[b2 0 600000,cf 1 [bh .pack]],[(600000,.deep .pack,.same)],16⟩
abbrev Oq:Shape:=⟨[bd 4 4 0,ae 5],[(5000256,.deep .pack,.cell 4 0),bc 4 [.own 5000256]],16⟩
noncomputable def r6(a:OG.H):Option Oq.H:=
(f88 ((a.2.1,()),())).bind fun b=>
 bif(b.1.1 !=(0:Int)) then
(f64 (((a.1.2.1.1,()),()),())).bind fun c=>
 some (((),b.1.1,()),c.2.1,((),()),())
else
 some (((),(0:Int),()),a.2.1,((),()),())
noncomputable def zO:aT:=a' hd Tryz.f66 OG Oq [] r6
theorem E':a0 Z 66 zO:=ba aen Tryz.func66 (by kernel_rfl) ap (fun y=>by kernel_rfl) fun a=>by kernel_rfl
theorem VH(g n c i vb m vc:Nat)(cur vcur:Array Value)(te ve:TypeId)(w:World)(hi:i<n)(hm:0<m)(hroom:n+m<=c)(hc63:c<=9223372036854775807)(hne:vb≠g)
  (hg:w.heap[g]? =some (.cells cur te (0,0))) (hv:w.heap[vb]? =some (.cells vcur ve (0,0))) (hcs:cur.size=c*4) (hvs:m*4<=vcur.size)
  (h1c:∀v∈cur.toList.take (n*4),v.oneCell'=true) (h1v:∀v∈vcur.toList.take (m*4),v.oneCell'=true):
  Calls Z 124 #[.slice (some ⟨g,0,none⟩) n c,.int .i64 i,.slice (some ⟨vb,0,none⟩) m vc] w fun e w'=>
   e=.returned (.slice (some ⟨g,0,none⟩) (n+m) c)/\w'=w.drew.setRow g (a8 (a8 cur.toList ((i+m)*4) ((cur.toList.take (n*4)).drop (i*4))) (i*4) (vcur.toList.take (m*4))).toArray:=by
 have t33:Z.underlying 28=some (.slice 57):=by kernel_rfl
 have hsz:(Z.info? 57).map (·.size)=some 4:=by kernel_rfl
 have hz1:¬((m:Int)=0):=by omega
 have hz2:¬((i:Int)=(n:Int)):=by omega
 have hov:∀off lb cb,(callFunc 179 #[.slice (some ⟨vb,0,none⟩) m vc,.slice (some ⟨g,off,none⟩) lb cb]).run Z w=.ok (.value (.bool false)) w:=fun off lb cb=>by
  rw[run_callFunc_extern Tryz.func179 (by kernel_rfl) (by kernel_rfl) (by kernel_rfl) (e:=Extern.SlicesOverlaps.overlaps #[28,28] #[4]) (by kernel_rfl),
   Lib.run_overlaps_apart w 28 4 57 t33 4 (fun w=>by kernel_rfl) ⟨vb,0,none⟩ ⟨g,off,none⟩ m vc lb cb hne ve te vcur.size cur.size (by simp[World.shape?,hv]) (by simp[World.shape?,hg]) (by omega) (by simp[World.frozen?,hv]) (by simp[World.frozen?,hv])]
  rfl
 have hdl:((cur.toList.take (n*4)).drop (i*4)).length=(n-i)*4:=by simp only[List.length_drop,List.length_take,Array.length_toList,hcs];rw[Nat.min_eq_left (by omega),Nat.sub_mul]
 have hcl:∀j v,(cur.toList.take (n*4))[j]? =some v->w.cell? ⟨g,j,none⟩=some v:=fun j v h=>by
  rw[List.getElem?_take] at h;split at h
  ·simpa[World.cell?,hg] using h
  ·cases h
 have hcv:∀j v,(vcur.toList.take (m*4))[j]? =some v->w.cell? ⟨vb,j,none⟩=some v:=fun j v h=>by
  rw[List.getElem?_take] at h;split at h
  ·simpa[World.cell?,hv] using h
  ·cases h
 have hcp1:∀ty dc sc,(Builtin.copy_ #[28,28] ty #[.slice (some ⟨g,(i+m)*4,none⟩) (n+m-(i+m)) dc,.slice (some ⟨g,i*4,none⟩) (n+m-i) sc]).run Z w.drew=
   .ok (goInt (Nat.min (n+m-i) (n+m-(i+m)))) (w.drew.setRow g (a8 cur.toList ((i+m)*4) ((cur.toList.take (n*4)).drop (i*4))).toArray):=fun ty dc sc=>
  og w.drew _ _ ty 57 4 g ((i+m)*4) (n+m-(i+m)) dc ⟨g,i*4,none⟩ (n+m-i) sc cur te _ t33 hsz hg (by rw[hdl];simp only[Nat.min_def];split<;>omega)
   (fun j v hj=>by rw[Addr.add_lit];exact hcl (i*4+j) v (by rwa[List.getElem?_drop] at hj)) (by rw[hdl,hcs];omega) (fun v hv=>h1c v (List.mem_of_mem_drop hv))
 obtain⟨cur1,hcur1⟩:∃cur1,cur1=(a8 cur.toList ((i+m)*4) ((cur.toList.take (n*4)).drop (i*4))).toArray:=⟨_,rfl⟩;rw[<-hcur1] at hcp1;have hc1s:cur1.size=c*4:=by rw[hcur1];simp only[a8,List.size_toArray,List.length_append,List.length_drop,List.length_take,Array.length_toList,hcs];omega
 have hcp2:∀(W:World),W.heap=(w.drew.setRow g cur1).heap->∀ty dc,(Builtin.copy_ #[28,28] ty #[.slice (some ⟨g,i*4,none⟩) (n+m-i) dc,.slice (some ⟨vb,0,none⟩) m vc]).run Z W=
   .ok (goInt (Nat.min m (n+m-i))) (W.setRow g (a8 cur1.toList (i*4) (vcur.toList.take (m*4))).toArray):=fun W hW ty dc=>
  og W _ _ ty 57 4 g (i*4) (n+m-i) dc ⟨vb,0,none⟩ m vc cur1 te _ t33 hsz (by rw[hW];exact setRow_heap w.drew g cur cur1 te (0,0) hg)
   (by simp only[List.length_take,Array.length_toList,Nat.min_def];split<;>split<;>omega)
   (fun j v hj=>by
    have:=hcv j v hj;rw[Addr.add_lit,Nat.zero_add];unfold World.cell? at this ⊢;rw[hW,show(w.drew.setRow g cur1).heap[vb]? =w.heap[vb]? from setRow_other w.drew g vb cur1 hne];exact this) (by simp only[List.length_take,Array.length_toList];omega) h1v
 have hE:w.drew.setRow g (a8 (a8 cur.toList ((i+m)*4) ((cur.toList.take (n*4)).drop (i*4))) (i*4) (vcur.toList.take (m*4))).toArray=(w.drew.setRow g cur1).setRow g (a8 cur1.toList (i*4) (vcur.toList.take (m*4))).toArray:=by
  rw[setRow_setRow,hcur1]
 rw[hE];clear hE hcur1;have hw1:IntKind.i64.wrap ((i:Int)+(m:Int))=(i:Int)+(m:Int):=by rw[IntKind.wrap_i64];omega
 have hb1:(0:Int)<=(i:Int)+(m:Int):=by omega
 have hin:i<=n:=by omega
 have htn:((i:Int)+(m:Int)).toNat=i+m:=by omega
 have hb2:¬(c=i+m):=by omega
 have hb3:(i:Int)<=(n:Int)+(m:Int):=by omega
 have hb4:¬(c=i):=by omega
 go_enter Tryz.func124,Tryz.ntmps124
 go_wp2_with (simp only[hov])
 go_region_law (refine wG rfl _ _ 28 28 rfl (.slice (some ⟨g,(i+m)*4,none⟩) (n+m-(i+m)) (c-(i+m))) (.slice (some ⟨g,i*4,none⟩) (n+m-i) (c-i)) (by simp[Act.eval,Act.put]) (by simp[Act.eval,Act.put]) (hcp1 _ _ _) ?_)
 go_wp2_with (at_builtin;refine wD _ rfl _ _ 28 28 rfl _ _ rfl rfl (hcp2 _ rfl _ _) ?_)
 go_ret
 exact⟨rfl,rfl⟩
theorem VJ(xa:Option Addr)(vc:Nat)(w:World):
  Calls Z 124 #[.slice none 0 0,.int .i64 0,.slice xa 0 vc] w fun e w'=>e=.returned (.slice none 0 0)/\w'=w:=by
 go_enter Tryz.func124,Tryz.ntmps124
 go_wp2
 go_ret
 exact⟨rfl,rfl⟩
theorem VI(g n c i:Nat)(xa:Option Addr)(vc:Nat)(w:World)(hi:i<=n)(hnc:n<=c)(hc63:c<=9223372036854775807):
  Calls Z 124 #[.slice (some ⟨g,0,none⟩) n c,.int .i64 i,.slice xa 0 vc] w fun e w'=>e=.returned (.slice (some ⟨g,0,none⟩) n c)/\w'=w:=by
 go_enter Tryz.func124,Tryz.ntmps124
 go_wp2
 all_goals(go_ret;exact⟨rfl,rfl⟩)
theorem Wi(xa:Option Addr)(m vc:Nat)(w:World)(hm:0<m)(v':Value)(W:World)(hr:∀ty,(Builtin.append_ #[28,28] ty #[.slice none 0 0,.slice xa m vc]).run Z w=.ok v' W):
  Calls Z 124 #[.slice none 0 0,.int .i64 0,.slice xa m vc] w fun e w'=>e=.returned v'/\w'=W:=by
 have hz1:¬((m:Int)=0):=by omega
 go_enter Tryz.func124,Tryz.ntmps124
 go_wp2_with (at_builtin;refine qL _ rfl _ _ 28 28 rfl _ _ rfl rfl (hr _) ?_)
 go_ret
 exact⟨rfl,rfl⟩
theorem Wh(g n c:Nat)(xa:Option Addr)(m vc:Nat)(w:World)(hnc:n<=c)(hc63:c<=9223372036854775807)(hm:0<m)(v':Value)(W:World)(hr:∀ty,(Builtin.append_ #[28,28] ty #[.slice (some ⟨g,0,none⟩) n c,.slice xa m vc]).run Z w=.ok v' W):
  Calls Z 124 #[.slice (some ⟨g,0,none⟩) n c,.int .i64 n,.slice xa m vc] w fun e w'=>e=.returned v'/\w'=W:=by
 have hz1:¬((m:Int)=0):=by omega
 go_enter Tryz.func124,Tryz.ntmps124
 go_wp2_with (at_builtin;refine qL _ rfl _ _ 28 28 rfl _ _ rfl rfl (hr _) ?_)
 all_goals(go_ret;exact⟨rfl,rfl⟩)
theorem Wg(g n c i vb m vc:Nat)(cur vcur:Array Value)(te ve:TypeId)(w:World)(hi:i<n)(hm:0<m)(hnc:n<=c)(hroom:c<n+m)(hc63:c<=9223372036854775807)(hbig:(n+m)*80<=140737488355328)
  (hg:w.heap[g]? =some (.cells cur te (0,0))) (hv:w.heap[vb]? =some (.cells vcur ve (0,0))) (hcs:cur.size=c*4) (hvs:m*4<=vcur.size)
  (h1c:∀v∈cur.toList.take (n*4),v.oneCell'=true) (h1v:∀v∈vcur.toList.take (m*4),v.oneCell'=true):
  ∃G ROW,∃W:World,G<=maxLen/\n+m<=G/\ROW.size=G*4/\ROW.toList.take (i*4)=cur.toList.take (i*4)/\W.os=w.os/\W.tape=w.tape/\W.output=w.output/\W.heap=w.heap.push (.cells ROW 57 (0,0))/\
  Calls Z 124 #[.slice (some ⟨g,0,none⟩) n c,.int .i64 i,.slice (some ⟨vb,0,none⟩) m vc] w fun e w'=>
   e=.returned (.slice (some ⟨w.heap.size,0,none⟩) (n+m) G)/\w'.os=w.os/\w'.tape=w.tape/\w'.output=w.output/\
    w'.heap=(W.setRow w.heap.size (a8 (a8 ROW.toList (i*4) (vcur.toList.take (m*4))) ((i+m)*4) ((cur.toList.take (n*4)).drop (i*4))).toArray).heap:=by
 have t33:Z.underlying 28=some (.slice 57):=by kernel_rfl
 have t3:Z.underlying 3=some (.int .i64):=by kernel_rfl
 have hsz:(Z.info? 57).map (·.size)=some 4:=by kernel_rfl
 have hinfo:(Z.info? 57).map (fun i=>(i.zero.map (·.cells.size),i.size,i.bytes))=some (some 4,4,80):=by kernel_rfl
 obtain⟨i0,hi0,hzz⟩:=Option.map_eq_some_iff.1 hinfo;simp only[Prod.mk.injEq] at hzz;obtain⟨hz0,hzs,hzb⟩:=hzz;obtain⟨z,hz,hzc⟩:=Option.map_eq_some_iff.1 hz0;have hz1:¬((m:Int)=0):=by omega
 have hz2:¬((i:Int)=(n:Int)):=by omega
 have hz3:(c:Int)<(n:Int)+(m:Int):=by omega
 have hgw:g<w.heap.size:=(Array.getElem?_eq_some_iff.1 hg).1;have hvw:vb<w.heap.size:=(Array.getElem?_eq_some_iff.1 hv).1;have hkk:(n:Int)+(m:Int)-(i:Int)=((n+m-i:Nat):Int):=by omega
 have hik:i+(n+m-i)=n+m:=by omega
 have hdl:((cur.toList.take (n*4)).drop (i*4)).length=(n-i)*4:=by simp only[List.length_drop,List.length_take,Array.length_toList,hcs];rw[Nat.min_eq_left (by omega),Nat.sub_mul]
 have hcl:∀j v,(cur.toList.take (n*4))[j]? =some v->w.cell? ⟨g,j,none⟩=some v:=fun j v h=>by
  rw[List.getElem?_take] at h;split at h
  ·simpa[World.cell?,hg] using h
  ·cases h
 have hcv:∀j v,(vcur.toList.take (m*4))[j]? =some v->w.cell? ⟨vb,j,none⟩=some v:=fun j v h=>by
  rw[List.getElem?_take] at h;split at h
  ·simpa[World.cell?,hv] using h
  ·cases h
 have hold:(Builtin.firstCells i0.size i (.slice (some ⟨g,0,none⟩) i c)).run Z w.drew=.ok (cur.toList.take (i*4)).toArray w.drew:=by
  rw[hzs];exact run_firstCells_some w.drew 4 i ⟨g,0,none⟩ i c (cur.toList.take (i*4)) (by simp only[List.length_take,Array.length_toList,hcs];omega) (fun j v hj=>by
   rw[Addr.add_lit,Nat.zero_add];refine hcl j v ?_
   rw[List.getElem?_take] at hj ⊢;split at hj
   ·rw[if_pos (by omega)];exact hj
   ·cases hj)
 have hrz:∀ty,(Builtin.append_ #[28,3] ty #[.slice (some ⟨g,0,none⟩) i c,.int .i64 ((n:Int)+(m:Int)-(i:Int))]).run Z w=
   .ok (.slice (some ⟨w.heap.size,0,none⟩) (n+m) (grownCap w (n+m) c 57)) (w.drew.alloc (.cells ((cur.toList.take (i*4)).toArray++Builtin.zeroCells z.cells (n+m-i)++Builtin.zeroCells z.cells (grownCap w (n+m) c 57-(n+m))) 57)):=fun ty=>by
  have h:=Lib.run_append_grow_zeros w 28 3 ty 57 i0 z .i64 .i64 t33 t3 hi0 hz (some ⟨g,0,none⟩) i c (cur.toList.take (i*4)) hold (n+m-i) (by omega) (by omega) (by omega) (by omega) (by rw[hzb];omega) (by rw[hzb,hik];exact growslice_fits hroom hbig)
  rw[hik] at h;rw[hkk];exact h
 obtain⟨G,hG⟩:∃G,G=grownCap w (n+m) c 57:=⟨_,rfl⟩;obtain⟨ROW,hROW⟩:∃ROW:Array Value,ROW=(cur.toList.take (i*4)).toArray++Builtin.zeroCells z.cells (n+m-i)++Builtin.zeroCells z.cells (G-(n+m)):=⟨_,rfl⟩;rw[<-hG] at hrz;rw[<-hROW] at hrz;have hGn:n+m<=G:=by rw[hG];exact grownCap_ge w _ _ _
 have hGm:G<=maxLen:=by rw[hG];exact grownCap_le_maxLen w (n+m) c 57 (by unfold maxLen;omega)
 have hG63:G<=9223372036854775807:=by unfold maxLen at hGm;omega
 have hRl:ROW.size=G*4:=by
  rw[hROW];simp only[Array.size_append,List.size_toArray,size_zeroCells,hzc,List.length_take,Array.length_toList,hcs];omega
 have hRt:ROW.toList.take (i*4)=cur.toList.take (i*4):=by
  rw[hROW];simp only[Array.toList_append,List.append_assoc];have:i*4=(cur.toList.take (i*4)).length:=by simp only[List.length_take,Array.length_toList,hcs];omega
  exact List.take_left' this.symm
 refine⟨G,ROW,w.drew.alloc (.cells ROW 57),hGm,hGn,hRl,hRt,rfl,rfl,rfl,rfl,?_⟩;obtain⟨W1,hW1⟩:∃W1,W1=w.drew.alloc (.cells ROW 57):=⟨_,rfl⟩;rw[<-hW1] at hrz ⊢;have hNew:W1.heap[w.heap.size]? =some (.cells ROW 57 (0,0)):=by rw[hW1];exact heap_alloc_new w.drew _
 have hOld:∀b,b<w.heap.size->W1.heap[b]? =w.heap[b]? :=fun b hb=>by rw[hW1];exact RowKit.Below.heap_alloc w.drew _ b hb
 have hos:W1.os=w.os/\W1.tape=w.tape/\W1.output=w.output:=by rw[hW1];exact⟨rfl,rfl,rfl⟩
 have hgN:g≠w.heap.size:=by omega
 have hvN:vb≠w.heap.size:=by omega
 have hcpA:∀(W:World),W.heap=W1.heap->∀ty dc,(Builtin.copy_ #[28,28] ty #[.slice (some ⟨w.heap.size,i*4,none⟩) (n+m-i) dc,.slice (some ⟨vb,0,none⟩) m vc]).run Z W=
   .ok (goInt (Nat.min m (n+m-i))) (W.setRow w.heap.size (a8 ROW.toList (i*4) (vcur.toList.take (m*4))).toArray):=fun W hW ty dc=>
  og W _ _ ty 57 4 w.heap.size (i*4) (n+m-i) dc ⟨vb,0,none⟩ m vc ROW 57 _ t33 hsz (by rw[hW];exact hNew)
   (by simp only[List.length_take,Array.length_toList,Nat.min_def];split<;>split<;>omega)
   (fun j v hj=>by
    have:=hcv j v hj;rw[Addr.add_lit,Nat.zero_add];unfold World.cell? at this ⊢;rw[hW,show W1.heap[vb]? =w.heap[vb]? from hOld vb hvw];exact this) (by simp only[List.length_take,Array.length_toList];omega) h1v
 obtain⟨R2,hR2⟩:∃R2,R2=(a8 ROW.toList (i*4) (vcur.toList.take (m*4))).toArray:=⟨_,rfl⟩;have hE:W1.setRow w.heap.size (a8 (a8 ROW.toList (i*4) (vcur.toList.take (m*4))) ((i+m)*4) ((cur.toList.take (n*4)).drop (i*4))).toArray=
   (W1.setRow w.heap.size R2).setRow w.heap.size (a8 R2.toList ((i+m)*4) ((cur.toList.take (n*4)).drop (i*4))).toArray:=by rw[setRow_setRow,hR2]
 rw[hE];have hR2s:R2.size=G*4:=by rw[hR2];simp only[a8,List.size_toArray,List.length_append,List.length_drop,List.length_take,Array.length_toList,hRl];omega
 rw[<-hR2] at hcpA;clear hE hR2;have hcpB:∀(W:World),W.heap=(W1.setRow w.heap.size R2).heap->∀ty dc sc,(Builtin.copy_ #[28,28] ty #[.slice (some ⟨w.heap.size,(i+m)*4,none⟩) (n+m-(i+m)) dc,.slice (some ⟨g,i*4,none⟩) (n-i) sc]).run Z W=
   .ok (goInt (Nat.min (n-i) (n+m-(i+m)))) (W.setRow w.heap.size (a8 R2.toList ((i+m)*4) ((cur.toList.take (n*4)).drop (i*4))).toArray):=fun W hW ty dc sc=>
  og W _ _ ty 57 4 w.heap.size ((i+m)*4) (n+m-(i+m)) dc ⟨g,i*4,none⟩ (n-i) sc R2 57 _ t33 hsz (by rw[hW];exact setRow_heap W1 w.heap.size ROW R2 57 (0,0) hNew)
   (by rw[hdl];simp only[Nat.min_def];split<;>omega)
   (fun j v hj=>by
    have:=hcl (i*4+j) v (by rwa[List.getElem?_drop] at hj)
    rw[Addr.add_lit];unfold World.cell? at this ⊢;rw[hW,show(W1.setRow w.heap.size R2).heap[g]? =w.heap[g]? from(setRow_other W1 w.heap.size g R2 hgN).trans (hOld g hgw)];exact this) (by rw[hdl,hR2s];omega) (fun v hv=>h1c v (List.mem_of_mem_drop hv))
 have hGi:¬(G=i):=by omega
 have hGim:¬(G=i+m):=by omega
 have hci:¬(c=i):=by omega
 have hw1:IntKind.i64.wrap ((i:Int)+(m:Int))=(i:Int)+(m:Int):=by rw[IntKind.wrap_i64];omega
 have hb1:(0:Int)<=(i:Int)+(m:Int):=by omega
 have hin:i<=n:=by omega
 have htn:((i:Int)+(m:Int)).toNat=i+m:=by omega
 have hb3:(i:Int)<=(n:Int):=by omega
 clear hkk hik hold hROW hG hRl hW1;go_enter Tryz.func124,Tryz.ntmps124
 go_wp2_with (first
  |(at_builtin;refine qL _ rfl _ _ 28 3 rfl _ _ rfl rfl (hrz _) ?_)
  |(at_builtin;refine wD _ rfl _ _ 28 28 rfl _ _ rfl rfl (hcpA _ rfl _ _) ?_))
 go_region_law (refine wG rfl _ _ 28 28 rfl (.slice (some ⟨w.heap.size,(i+m)*4,none⟩) (n+m-(i+m)) (G-(i+m))) (.slice (some ⟨g,i*4,none⟩) (n-i) (c-i)) (by simp[Act.eval,Act.put]) (by simp[Act.eval,Act.put]) (hcpB (W1.setRow w.heap.size R2).drew rfl 3 (G-(i+m)) (c-i)) ?_)
 go_wp2
 go_ret
 exact⟨rfl,hos.1,hos.2.1,hos.2.2,rfl⟩
noncomputable def OZ:aT:=CS .pack 80
theorem adq:a0 Z 124 OZ:=XT (t:=.pack) (bt:=80) rfl (by decide) (T:=28) (e:=57) ⟨VJ,VI,Wi,Wh,VH,Wg⟩ (fun vs w=>enters_of Tryz.func124 (by kernel_rfl) rfl _ _) (by kernel_rfl) (by kernel_rfl)
noncomputable abbrev alf:bq:=[(63,wa),(65,A5),(111,GM),(124,OZ)]
theorem alT:a7 Z (bl hd alf):=n8 ⟨Ak,G1,Pf,adq,⟨⟩⟩
abbrev i75:Shape:=⟨[aV 0 .pack,cf 1 [a5,a5,bh .need,bh .entry]],[],30⟩
abbrev Sw:Shape:=⟨[b2 4 3000256],[(3000256,.deep .pack,.slot 4 0)],30⟩
noncomputable def f75(a:i75.H):Option Sw.H:=
(f65 ((a.1.1,()),())).bind fun b=>
(f63 ((b.2.1,a.1.2.1.1,()),())).bind fun c=>
 bif c.1.2.1 then
(f111 (((a.1.2.1.1,a.1.2.1.2.1,a.1.2.1.2.2.1,a.1.2.1.2.2.2.1,()),()),())).bind fun d=>
(e9 b.2.1.length c.1.1).bind fun e=>
((b.2.1[e]?).bind fun _=>some (aM.mk d.2.2.2.1.1 d.2.2.2.1.2.1 d.2.1 d.2.2.1)).bind fun f=>
 some (((),()),(b.2.1.set e f),())
else
(f111 (((a.1.2.1.1,a.1.2.1.2.1,a.1.2.1.2.2.1,a.1.2.1.2.2.2.1,()),()),())).bind fun g=>
(k0 80 b.2.1 c.1.1 ([(aM.mk g.2.2.2.1.1 g.2.2.2.1.2.1 g.2.1 g.2.2.1)]:List aM)).bind fun h=>
 some (((),()),h,())
noncomputable def Il:aT:=a' hd Tryz.f75 i75 Sw [] f75
theorem R8:a0 Z 75 Il:=ba alT Tryz.func75 (by kernel_rfl) ap (fun y=>by kernel_rfl) fun a=>by kernel_rfl
noncomputable abbrev alA:bq:=[(48,A7),(63,wa),(64,S64),(66,zO),(74,A4),(75,Il)]
theorem al3:a7 Z (bl hd alA):=n8 ⟨G3,Ak,Aj,E',G0,R8,⟨⟩⟩
abbrev i35:Shape:=⟨[cf 0 [bh .pack],cf 1 [a5,a5,bh .need,bh .entry]],[],36⟩
abbrev SS:Shape:=⟨[bd 4 4 0,ae 5],[(5000256,.deep .pack,.cell 4 0),bc 4 [.own 5000256]],36⟩
noncomputable def f35(a:i35.H):Option SS.H:=
(f48 (((a.1.1.1,()),()),())).bind fun b=>
 bif(!b.1.1) then
 some (((),(1:Int),()),([]:List aM),((),()),())
else
(f74 (((a.1.2.1.1,a.1.2.1.2.1,a.1.2.1.2.2.1,a.1.2.1.2.2.2.1,()),()),())).bind fun c=>
 bif(!c.1.1) then
(f64 (((a.1.1.1,()),()),())).bind fun d=>
 some (((),(1:Int),()),d.2.1,((),()),())
else
(f63 ((a.1.1.1,a.1.2.1.1,()),())).bind fun e=>
 bif e.1.2.1 then
(f64 (((a.1.1.1,()),()),())).bind fun f=>
 some (((),(2:Int),()),f.2.1,((),()),())
else
(f75 ((a.1.1.1,(a.1.2.1.1,a.1.2.1.2.1,a.1.2.1.2.2.1,a.1.2.1.2.2.2.1,()),()),())).bind fun g=>
(r6 (((),(a.1.1.1,()),()),g.2.1,())).bind fun h=>
 some (((),h.1.2.1,()),h.2.1,((),()),())
noncomputable def T9:aT:=a' hd Tryz.f35 i35 SS [] f35
theorem ah8:a0 Z 35 T9:=ba al3 Tryz.func35 (by kernel_rfl) ap (fun y=>by kernel_rfl) fun a=>by kernel_rfl
theorem _c(a)(M:cj a.1.1.length):f176 a=some (((),()),(a.1.1,())):=by
 obtain⟨⟨xs,u⟩,bF⟩:=a;have M:xs.length<=2097152:=M;have h2:(dx 40 ([]:List dq) xs).bind (fun x=>some (((),()),(x,())))=(some (((),()),(xs,())):Option FV.H):=by
  rw[gW (by decide) (by unfold aE;simp only[List.length_nil];omega)];rfl
 simp only[f176];rw[h2];unfold nk;split
 ·rfl
 ·rename_i h;exact absurd (fun he:xs=[]=>by subst he;rfl) h
theorem JG(a)(h:ld ⟨a.1.1.1,a.1.1.2.1,a.1.1.2.2.1,a.1.1.2.2.2.1⟩):f111 a=some (((),()),(a.1.1.2.2.1,(a.1.1.2.2.2.1,((a.1.1.1,(a.1.1.2.1,((),((),())))),())))):=by
 obtain⟨⟨⟨name,be,bb,br,u⟩,bF⟩,iE⟩:=a;have e1:=_c ((bb,()),()) h.2.2.1.1;have e2:=Lx ((br,()),()) h.2.2.2.1;simp only[f111,e1,e2,Option.bind_some]
theorem Jo(a)(h:et a.1.1):f65 a=some (((),()),(a.1.1,())):=by
 obtain⟨⟨ps,u⟩,bF⟩:=a;have hl:ps.length<=2097152:=h.1;have key:=Ca (S:=List aM) zd ps (fun i bv=>(((),(ps,((ps.length:Int),((i:Int),())))),(bv,()))) (fun x bv=>bv++[x]) (fun bv=>(((),()),(bv,()))) (fun i bv=>bv.length=i) [] rfl (fun i x bv hx c7=>?_) (fun bv c7=>?_)
 ·have key:EO (((),(ps,((ps.length:Int),((0:Int),())))),(([]:List aM),()))=_:=key;have e:∀(l bv:List aM),l.foldl (fun s x=>s++[x]) bv=bv++l:=by
   intro l;induction l with
   |nil=>intro bv;simp
   |cons x l ih=>intro bv;simp only[List.foldl_cons];rw[ih];simp
  simp only[f65,key,Option.bind_some];rw[e];rfl
 ·have hi:=cg hx;have hw:aE i:=by unfold aE;omega
  have e2:=JG (((x.name,(x.be,(x.bb,(x.br,())))),()),()) (h.2 x (List.mem_of_getElem? hx));have a9:dx 80 bv [x]=some (bv++[x]):=gW (by decide) (by unfold aE;simp;omega)
  simp only[zd,ce hi,cond_true,b4,hx,Option.bind_some,e2,a9,ca hw];exact⟨trivial,by simp[c7]⟩
 ·simp only[zd,cX,cond_false]
theorem JF(a)(h:et a.1.1.1):f64 a=some (((),()),(a.1.1.1,(((),()),()))):=by
 obtain⟨⟨⟨ps,iK⟩,u⟩,bF⟩:=a;have e:=Jo ((ps,()),()) h;simp only[f64,e,Option.bind_some]
abbrev sz(ps:List aM):Prop:=ps.Pairwise fun p q=>Op.bytesLess p.name q.name=true
def H8(p:aM):a4:=⟨p.name,0,0,[]⟩
theorem acE(ps:List aM)(n:al):bV (ps.map H8) n=eD ps n:=by
 unfold bV eD;rw[List.takeWhile_map,List.length_map];rfl
theorem agE{ps:List aM}(h:sz ps):fb (ps.map H8):=by
 unfold fb;rw[List.pairwise_map];exact h
theorem B8{ps:List aM}{n:al}(a9:sz ps)(h:Nat)(p:aM)(aj:ps[h]? =some p):Op.bytesLess p.name n=decide (h<eD ps n):=by
 have:=jv (p:=n) (agE a9) h (H8 p) (by rw[List.getElem?_map,aj];rfl)
 rw[acE] at this;exact this
def lI(ps:List aM)(n:al):Bool:=match ps[eD ps n]? with
 |some q=>q.name==n
 |none=>false
theorem J9(a)(M:cj a.1.1.length)(a9:sz a.1.1):f63 a=some (((eD a.1.1 a.1.2.1:Int),(lI a.1.1 a.1.2.1,())),()):=by
 obtain⟨⟨t,p,u⟩,bF⟩:=a;have M:t.length<=2097152:=M;have II:=x5 t p;have hc:∀x:aM,f109 (((x.name,(x.be,(x.bb,(x.br,())))),(p,())),())=some ((oS x.name p,()),()):=by
  intro x;have h1:(x.name==x.name)=true:=by simp
  have h2:(p==p)=true:=by simp
  simp only[f109,f110,f175,Option.bind_some,h1,h2,Bool.not_true,cond_false,oS];cases Op.bytesLess x.name p<;>cases (x.name==p)<;>rfl
 have key:∀d i j:Nat,j-i=d->i<=eD t p->eD t p<=j->j<=t.length->
   w3 ((t,(p,((),((t.length:Int),((i:Int),((j:Int),())))))),())=
    some (((t,(p,((),((t.length:Int),((eD t p:Int),()))))),())):=by
  intro d;induction d using Nat.strongRecOn with
  |_ d ih=>
   intro i j Y hi hj hl;by_cases hij:i<j
   ·have bR:(i+j)/2<t.length:=by omega
    obtain⟨e,he⟩:∃e,t[(i+j)/2]? =some e:=⟨t[(i+j)/2],List.getElem?_eq_getElem bR⟩;have vF:nD .u64 (IntKind.u64.wrap (IntKind.i64.wrap ((i:Int)+(j:Int)))) 1=some ((((i+j)/2:Nat)):Int):=by
     rw[<-Pm (n:=i+j) (by omega)];rw[Int.natCast_add]
    have vx:IntKind.i64.wrap (((i+j)/2:Nat):Int)=(((i+j)/2:Nat):Int):=ei (by omega) (by omega)
    have ke:=B8 (n:=p) a9 ((i+j)/2) e he;cases hb:Op.bytesLess e.name p with
    |true=>
     rw[hb] at ke;have a3:(i+j)/2<eD t p:=by simpa using ke.symm
     refine(hk ?_).trans (ih (j-((i+j)/2+1)) (by omega) ((i+j)/2+1) j rfl (by omega) hj hl)
     simp only[w_,ce hij,cond_true,vF,vx,b4,he,Option.bind_some,hc,xy,hb,ca (i:=(i+j)/2) (by unfold aE;omega)]
    |false=>
     rw[hb] at ke;have mR:¬(i+j)/2<eD t p:=by simpa using ke.symm
     refine(hk ?_).trans (ih ((i+j)/2-i) (by omega) i ((i+j)/2) rfl hi (by omega) (by omega))
     simp only[w_,ce hij,cond_true,vF,vx,b4,he,Option.bind_some,hc,xy,hb,cond_false]
   ·have hV:i=eD t p:=by omega
    have a3:decide ((i:Int)<(j:Int))=false:=by simp only[decide_eq_false_iff_not];omega
    refine eA ?_
    simp only[w_,a3,cond_false];rw[hV]
 have m8:w3 ((t,(p,((),((t.length:Int),((0:Int),((t.length:Int),())))))),())=_:=key t.length 0 t.length (Nat.sub_zero _) (Nat.zero_le _) II (Nat.le_refl _);have J:zq ((t,(p,((),()))),())=some (((eD t p:Int),(lI t p,())),()):=by
  simp only[zq,m8,Option.bind_some,lI,b4,hc,Lg];cases aC:t[eD t p]? with
  |none=>
   have:=List.getElem?_eq_none_iff.1 aC;have:decide ((eD t p:Int)<(t.length:Int))=false:=by simp only[decide_eq_false_iff_not];omega
   rw[this];rfl
  |some e=>rw[ce (cg aC)];rfl
 simp only[f63,J,Option.bind_some]
theorem _'{ps:List aM}(a9:sz ps)(n:al):ps.find? (fun q=>q.name==n)=bif lI ps n then ps[eD ps n]? else none:=by
 have hu:∀(k:Nat) (q:aM),ps[k]? =some q->q.name=n->k=eD ps n:=by
  intro k q ag aD;have h1:=B8 (n:=n) a9 k q ag;have h2:Op.bytesLess q.name n=false:=by rw[aD];exact rG _
  rw[h1] at h2;have h2:¬k<eD ps n:=of_decide_eq_false h2;rcases Nat.lt_or_ge (eD ps n) k with aa|aa
  ·have aI:eD ps n<ps.length:=Nat.lt_trans aa (cg ag);have bD:=List.getElem?_eq_getElem aI;have dh:=B8 (n:=n) a9 (eD ps n) ps[eD ps n] bD;have hJ:=List.pairwise_iff_getElem.1 a9 (eD ps n) k aI (cg ag) aa;have m9:ps[k]'(cg ag)=q:=by
    have:=List.getElem?_eq_getElem (cg ag);rw[ag] at this;exact(Option.some.inj this).symm
   rw[m9,aD] at hJ;rw[hJ] at dh;have:=of_decide_eq_true dh.symm;omega
  ·omega
 cases hf:ps.find? (fun q=>q.name==n) with
 |none=>
  have h0:=List.find?_eq_none.1 hf;unfold lI;cases aD:ps[eD ps n]? with
  |none=>rfl
  |some q=>
   have:=h0 q (List.mem_of_getElem? aD);simp only[Bool.not_eq_true] at this;simp only[this,cond_false]
 |some q=>
  have h1:q.name=n:=by have:=List.find?_some hf;simpa using this
  obtain⟨k,ag⟩:=List.mem_iff_getElem?.1 (List.mem_of_find?_eq_some hf);have:=hu k q ag h1;subst this;unfold lI;simp only[ag,h1,beq_self_eq_true,cond_true]
theorem Wu(a)(hb:et a.1.1)(hl:a.1.1.length<=2000000)(aj:ld ⟨a.1.2.1.1,a.1.2.1.2.1,a.1.2.1.2.2.1,a.1.2.1.2.2.2.1⟩)(a9:sz a.1.1):f75 a=some (((),()),((bif lI a.1.1 a.1.2.1.1 then a.1.1.set (eD a.1.1 a.1.2.1.1) ⟨a.1.2.1.1,a.1.2.1.2.1,a.1.2.1.2.2.1,a.1.2.1.2.2.2.1⟩ else iu a.1.1 ⟨a.1.2.1.1,a.1.2.1.2.1,a.1.2.1.2.2.1,a.1.2.1.2.2.2.1⟩),())):=by
 obtain⟨⟨ps,⟨name,be,bb,br,iK⟩,u⟩,bF⟩:=a;have hl:ps.length<=2000000:=hl;have e1:=Jo ((ps,()),()) hb;have e2:=J9 ((ps,(name,())),()) hb.1 a9;have bK:=JG (((name,(be,(bb,(br,())))),()),()) aj;have kf:=x5 ps name;simp only[f75,e1,e2,bK,Option.bind_some];cases bR:lI ps name with
 |true=>
  unfold lI at bR;cases aD:ps[eD ps name]? with
  |none=>rw[aD] at bR;cases bR
  |some q=>simp only[cond_true,lo (cg aD),aD,Option.bind_some]
 |false=>
  have grow:k0 80 ps (eD ps name:Int) [(⟨name,be,bb,br⟩:aM)]=some (iu ps ⟨name,be,bb,br⟩):=by
   unfold k0;rw[if_pos ⟨by omega,by omega,by unfold room;simp only[List.length_cons,List.length_nil];omega,by unfold maxLen;simp only[List.length_cons,List.length_nil];omega⟩,Int.toNat_natCast]
   rfl
  simp only[cond_false,grow,Option.bind_some]
theorem ZX(a:(List aM×(List aM×Unit)×Unit)×Unit)(hb:et a.1.1)(hv:na a.1.1)(hr:et a.1.2.1.1):r6 (((),((a.1.2.1.1,()),())),(a.1.1,()))=some (((),(gk a.1.1,())),((bif gk a.1.1==0 then a.1.1 else a.1.2.1.1),(((),()),()))):=by
 obtain⟨⟨list,⟨r,iK⟩,u⟩,bF⟩:=a;have e:=J7 ((list,()),()) hb hv;have e2:=JF (((r,()),()),()) hr;simp only[r6,e,Option.bind_some];have z:(gk list !=0)=!(gk list==0):=rfl;rw[z];cases hc:(gk list==0) with
 |false=>simp only[Bool.not_false,cond_true,cond_false,e2,Option.bind_some]
 |true=>
  have hc:gk list=0:=by simpa using hc
  simp only[Bool.not_true,cond_false,cond_true];rw[hc]
def ka(ps:List aM)(p:aM):List aM×Int:=bif iS ps then oV ps p else([],1)
theorem Xz{ps:List aM}(h:iS ps=true):sz ps:=by
 obtain⟨t,R⟩:=adA h;exact R.akP
theorem Xy{ps:List aM}(h:iS ps=true):ps.length<=5:=by
 unfold iS at h;simp only[Bool.and_eq_true,decide_eq_true_eq] at h;exact h.1.1.2
theorem YC(a)(k:Nat)(ag:k<=1999999)(h:g8 k a.1.1.1)(aj:kq ⟨a.1.2.1.1,a.1.2.1.2.1,a.1.2.1.2.2.1,a.1.2.1.2.2.2.1⟩):f35 a=some (((),((ka a.1.1.1 ⟨a.1.2.1.1,a.1.2.1.2.1,a.1.2.1.2.2.1,a.1.2.1.2.2.2.1⟩).2,())),((ka a.1.1.1 ⟨a.1.2.1.1,a.1.2.1.2.1,a.1.2.1.2.2.1,a.1.2.1.2.2.2.1⟩).1,(((),()),()))):=by
 obtain⟨⟨⟨ps,iK⟩,⟨name,be,bb,br,u1⟩,u⟩,bF⟩:=a;have h:g8 k ps:=h;have aj:kq ⟨name,be,bb,br⟩:=aj;have hb:et ps:=h.ma (by omega)
 have l':=YB (((ps,()),()),()) hb h.vs;simp only[f35,l',Option.bind_some,ka];cases hr:iS ps with
 |false=>rfl
 |true=>
  have a9:=Xz hr;have hl:=Xy hr;have e1:=KA (((name,(be,(bb,(br,())))),()),()) aj.1;have e2:=JF (((ps,()),()),()) hb;have bK:=J9 ((ps,(name,())),()) hb.1 a9;have c_:=Wu ((ps,((name,(be,(bb,(br,())))),())),()) hb (show ps.length<=2000000 by omega) aj.1 a9
  simp only[Bool.not_true,cond_false,cond_true,e1,Option.bind_some,oV,_' a9];cases dI ⟨name,be,bb,br⟩ with
  |false=>simp only[Bool.not_false,cond_true,cond_false,e2,Option.bind_some]
  |true=>
   simp only[Bool.not_true,cond_false,cond_true,bK,Option.bind_some];cases bR:lI ps name with
   |true=>
    have HO:=bR;unfold lI at HO;cases aD:ps[eD ps name]? with
    |none=>rw[aD] at HO;cases HO
    |some q=>simp only[cond_true,e2,Option.bind_some]
   |false=>
    rw[bR] at c_;simp only[cond_false] at c_;have hw:=Cw (k:=5) ⟨hl,h.2⟩ aj;have fy:=ZX ((iu ps ⟨name,be,bb,br⟩,((ps,()),())),()) (hw.ma (by decide)) hw.vs hb
    simp only[cond_false,c_,fy,Option.bind_some]
theorem Z_(a)(k:Nat)(ag:k<=1999999)(h:g8 k a.1.1.1)(aj:kq ⟨a.1.2.1.1,a.1.2.1.2.1,a.1.2.1.2.2.1,a.1.2.1.2.2.2.1⟩):f33 a=some (((),((ka a.1.1.1 ⟨a.1.2.1.1,a.1.2.1.2.1,a.1.2.1.2.2.1,a.1.2.1.2.2.2.1⟩).2,())),(((ka a.1.1.1 ⟨a.1.2.1.1,a.1.2.1.2.1,a.1.2.1.2.2.1,a.1.2.1.2.2.2.1⟩).1,()),())):=by
 obtain⟨⟨⟨ps,iK⟩,⟨name,be,bb,br,u1⟩,u⟩,bF⟩:=a;have h:g8 k ps:=h;have hb:et ps:=h.ma (by omega)
 have l':=Z9 (((ps,()),()),()) hb h.vs;have e1:=Z1 (((ps,()),()),()) hb;have e2:=aca (((ps,()),((name,(be,(bb,(br,())))),())),()) k (by omega) h aj
 simp only[f33,l',Option.bind_some,ka];cases hr:iS ps with
 |false=>rfl
 |true=>simp only[Bool.not_true,cond_false,cond_true,e1,e2,Option.bind_some]
theorem abE{ps:List aM}{n:al}:ps.find? (fun q=>q.name==n)=none <-> ∀q,q∈ps->q.name≠n:=by
 rw[List.find?_eq_none];constructor
 ·intro h q aD he;exact h q aD (by simpa using he)
 ·intro h q aD he;exact h q aD (by simpa using he)
structure RJ(ps:List aM)(p:aM):Prop where
 ok:iS ps=true
 IC:dI p=true
 new:∀q,q∈ps->q.name≠p.name
 code:gk (iu ps p)=0
theorem RJ.out{ps:List aM}{p:aM}(h:RJ ps p):ka ps p=(iu ps p,0):=by
 unfold ka oV;rw[h.ok,h.IC,abE.2 h.new,h.code];rfl
theorem acM{k:Nat}{ps:List aM}{p:aM}(h:g8 k ps)(aj:kq p):g8 (k+1) (ka ps p).1:=by
 unfold ka;cases iS ps with
 |false=>exact⟨Nat.zero_le _,fun x hx=>by cases hx⟩
 |true=>exact acO h aj
theorem aag(w:World):Calls Z 67 #[.slice none 0 0,.int .i64 0,.int .i64 0] w fun e w'=>e=.returned (.slice none 0 0)/\w'=w:=by
 go_enter Tryz.func67,Tryz.ntmps67
 go_wp2
 all_goals(go_ret;exact⟨rfl,rfl⟩)
theorem aaf(g n c i:Nat)(w:World)(hi:i<=n)(hnc:n<=c)(hc63:c<=9223372036854775807):Calls Z 67 #[.slice (some ⟨g,0,none⟩) n c,.int .i64 i,.int .i64 i] w fun e w'=>e=.returned (.slice (some ⟨g,0,none⟩) n c)/\w'=w:=by
 go_enter Tryz.func67,Tryz.ntmps67
 go_wp2
 all_goals(go_ret;exact⟨rfl,rfl⟩)
theorem abH(g n c i j:Nat)(cur:Array Value)(te:TypeId)(w:World)(hij:i<j)(hj:j<=n)(hnc:n<=c)(hc63:c<=9223372036854775807)(hg:w.heap[g]? =some (.cells cur te (0,0)))(hcs:cur.size=c*4)
  (h1c:∀v∈cur.toList.take (n*4),v.oneCell'=true):∃ROW:Array Value,ROW.size=c*4/\ROW.toList.take ((i+(n-j))*4)=cur.toList.take (i*4)++(cur.toList.take (n*4)).drop (j*4)/\
  Calls Z 67 #[.slice (some ⟨g,0,none⟩) n c,.int .i64 i,.int .i64 j] w fun e w'=>e=.returned (.slice (some ⟨g,0,none⟩) (i+(n-j)) c)/\w'.os=w.os/\w'.tape=w.tape/\w'.output=w.output/\w'.heap=(w.setRow g ROW).heap:=by
 have tT:Z.underlying 28=some (.slice 57):=by kernel_rfl
 have hinfo:(Z.info? 57).map (fun i=>(i.zero.map (fun z=>(z.cells.size,z.cells.toList.all fun v=>v.oneCell')),i.size))=some (some (4,true),4):=by kernel_rfl
 obtain⟨i0,hi0,hzz⟩:=Option.map_eq_some_iff.1 hinfo;simp only[Prod.mk.injEq] at hzz;obtain⟨hz0,hzs⟩:=hzz;obtain⟨z,hz,hzc⟩:=Option.map_eq_some_iff.1 hz0;simp only[Prod.mk.injEq] at hzc;obtain⟨hzc,hz1⟩:=hzc;have hz1:∀v∈z.cells,v.oneCell'=true:=fun v hv=>List.all_eq_true.1 hz1 v (by simpa using hv)
 have hzv:∀w,(zeroValue 57).run Z w=.ok z w:=fun w=>by simp[zeroValue,typeInfo,hi0,hz]
 obtain⟨news,hnews⟩:∃news,news=(cur.toList.take (n*4)).drop (j*4):=⟨_,rfl⟩;have hlen:news.length=(n-j)*4:=by rw[hnews];simp only[List.length_drop,List.length_take,Array.length_toList,hcs];rw[Nat.min_eq_left (by omega),Nat.sub_mul]
 have hone:∀v∈news,v.oneCell'=true:=fun v hv=>h1c v (by rw[hnews] at hv;exact List.mem_of_mem_drop hv)
 obtain⟨A,hA,hsrc⟩:∃A:Addr,(if c=j then some (⟨g,0,none⟩:Addr) else some ⟨g,j*4,none⟩)=some A/\∀t u,news[t]? =some u->w.drew.cell? (A.add t)=some u:=by
  by_cases h:c=j
  ·refine⟨⟨g,0,none⟩,by simp[h],fun t u hu=>?_⟩
   have h0:news.length=0:=by rw[hlen];omega
   rw[List.length_eq_zero_iff.1 h0] at hu;simp at hu
  ·refine⟨⟨g,j*4,none⟩,by simp[h],fun t u hu=>?_⟩
   rw[hnews,List.getElem?_drop,List.getElem?_take] at hu;split at hu
   ·rw[Addr.add_lit];show w.cell? _=_;simpa[World.cell?,hg] using hu
   ·cases hu
 obtain⟨cur1,hcur1⟩:∃cur1,cur1=(a8 cur.toList (i*4) news).toArray:=⟨_,rfl⟩;have hc1s:cur1.size=c*4:=by rw[hcur1];simp only[a8,List.size_toArray,List.length_append,List.length_drop,List.length_take,Array.length_toList,hcs,hlen];omega
 have hap:∀ty,(Builtin.append_ #[28,28] ty #[.slice (some ⟨g,0,none⟩) i c,.slice (some A) (n-j) (c-j)]).run Z w.drew=.ok (.slice (some ⟨g,0,none⟩) (i+(n-j)) c) (w.drew.setRow g cur1):=fun ty=>by
  rw[hcur1];exact V7 w.drew 28 57 ty 4 i0 tT hi0 hzs g i c A (n-j) (c-j) cur te news hg hsrc hlen (by omega) (by rw[hlen];omega) hone
 obtain⟨ROW,hROW⟩:∃ROW,ROW=(a8 cur1.toList ((i+(n-j))*4) (Builtin.zeroCells z.cells (n-(i+(n-j)))).toList).toArray:=⟨_,rfl⟩;have hcl:∀ty,(Builtin.clear_ #[28] ty #[.slice (some ⟨g,(i+(n-j))*4,none⟩) (n-(i+(n-j))) (c-(i+(n-j)))]).run Z (w.drew.setRow g cur1)=.ok (.tuple #[]) ((w.drew.setRow g cur1).setRow g ROW):=fun ty=>by
  rw[hROW];exact WL _ 28 57 ty z tT hzv g ((i+(n-j))*4) (n-(i+(n-j))) _ (by omega) cur1 te (setRow_heap w.drew g cur cur1 te (0,0) hg) (by rw[hzc,hc1s];omega) hz1
 have hzl:∀m,(Builtin.zeroCells z.cells m).size=4*m:=fun m=>by have:=Jg z.cells m;rw[Array.length_toList,hzc] at this;exact this
 have hRs:ROW.size=c*4:=by rw[hROW];simp only[a8,List.size_toArray,List.length_append,List.length_drop,List.length_take,Array.length_toList,hc1s,hzl];omega
 refine⟨ROW,hRs,?_,?_⟩
 ·rw[hROW,hcur1];have hl1:(a8 cur.toList (i*4) news).length=c*4:=by have:=hc1s;rw[hcur1] at this;simpa using this
  simp only[a8] at hl1 ⊢;have hcl':cur.toList.length=c*4:=by rw[Array.length_toList,hcs]
  rw[<-hnews];apply List.ext_getElem?;intro q;simp only[List.getElem?_take,List.getElem?_append,List.getElem?_drop,List.length_append,List.length_take,List.length_drop,hlen,hcl'];repeat' split
  all_goals first|rfl|omega|(congr 1;omega)|(symm;apply List.getElem?_eq_none;omega)|(apply List.getElem?_eq_none;omega)
 ·have hE:(w.drew.setRow g cur1).setRow g ROW=w.drew.setRow g ROW:=by rw[setRow_setRow]
  have hb2:¬((i:Int)=(j:Int)):=by omega
  have hin:i<=c:=by omega
  have hjc:j<=c:=by omega
  have hlc:i+(n-j)<=n:=by omega
  have hlc2:n<=c:=hnc;have hne:¬(c=i+(n-j)):=by omega
  obtain⟨W1,hW1⟩:∃W1,W1=w.drew.setRow g cur1:=⟨_,rfl⟩;rw[<-hW1] at hap hcl hE;clear hW1 hROW hcur1 hnews;go_enter Tryz.func67,Tryz.ntmps67
  go_wp2_with fail
  go_region_law (refine VB rfl _ _ 28 28 rfl (.slice (some ⟨g,0,none⟩) i c) (.slice (some A) (n-j) (c-j)) (by simp[Act.eval,Act.put]) (by simp[Act.eval,Act.put,hA]) (hap _) ?_)
  go_wp2_with (at_builtin;refine Vo _ rfl _ 28 rfl _ rfl (hcl _) ?_)
  go_ret
  exact⟨rfl,rfl,rfl,rfl,rfl⟩
noncomputable def QY:aT:=C7 .pack
theorem aeu:a0 Z 67 QY:=X8 rfl ⟨aag,aaf,abH⟩ (fun vs w=>enters_of Tryz.func67 (by kernel_rfl) rfl _ _)
noncomputable abbrev alF:bq:=[(48,A7),(63,wa),(64,S64),(65,A5),(66,zO),(67,QY)]
theorem al8:a7 Z (bl hd alF):=n8 ⟨G3,Ak,Aj,G1,E',aeu,⟨⟩⟩
abbrev i30:Shape:=⟨[cf 0 [bh .pack],bw 1],[],36⟩
abbrev SY:Shape:=⟨[bd 4 4 0,ae 5],[(5000256,.deep .pack,.cell 4 0),bc 4 [.own 5000256]],36⟩
noncomputable def f30(a:i30.H):Option SY.H:=
(f48 (((a.1.1.1,()),()),())).bind fun b=>
 bif(!b.1.1) then
 some (((),(1:Int),()),([]:List aM),((),()),())
else
(f63 ((a.1.1.1,a.1.2.1,()),())).bind fun c=>
 bif(!c.1.2.1) then
(f64 (((a.1.1.1,()),()),())).bind fun d=>
 some (((),(3:Int),()),d.2.1,((),()),())
else
(f65 ((a.1.1.1,()),())).bind fun e=>
(Aa e.2.1 c.1.1 (IntKind.i64.wrap (c.1.1+(1:Int)))).bind fun f=>
(r6 (((),(a.1.1.1,()),()),f,())).bind fun g=>
 some (((),g.1.2.1,()),g.2.1,((),()),())
noncomputable def T':aT:=a' hd Tryz.f30 i30 SY [] f30
theorem aia:a0 Z 30 T':=ba al8 Tryz.func30 (by kernel_rfl) ap (fun y=>by kernel_rfl) fun a=>by kernel_rfl
abbrev x2:Shape:=⟨[aV 0 .pack,bw 1,b2 5 3000320,ae 6],[ci 3000320 .pack 5 0],29⟩
abbrev DA:List bf:=[(.exit 0,⟨[b2 5 3000320],[ci 3000320 .pack 5 0],29⟩)]
noncomputable def abC(y:x2.H):cy x2 DA:=
 bif(decide (y.1.2.2.2.1<(y.1.1.length:Int))) then
(bk y.1.1 y.1.2.2.2.1).bind fun a=>
 bif(!(a.name==y.1.2.1)) then
(bk y.1.1 y.1.2.2.2.1).bind fun b=>
(dx 80 y.2.1 ([b]:List aM)).bind fun c=>
 some (.inl ((y.1.1,y.1.2.1,(),(IntKind.i64.wrap (y.1.2.2.2.1+(1:Int))),()),c,()))
else
 some (.inl ((y.1.1,y.1.2.1,(),(IntKind.i64.wrap (y.1.2.2.2.1+(1:Int))),()),y.2.1,()))
else
 some (.inr (((),()),y.2.1,()))
noncomputable def MP:x2.H->Option (aQ DA):=bO abC
theorem abh:bp Z (aG (codeOf Tryz.f106) 1 58) (bH x2 DA MP):=cD g0 (by kernel_rfl) ap fun y=>by kernel_rfl
abbrev i106:Shape:=⟨[aV 0 .pack,bw 1],[],29⟩
abbrev Ql:Shape:=⟨[b2 4 3000256],[ci 3000256 .pack 4 0],29⟩
noncomputable def f106(a:i106.H):Option Ql.H:=
(MP ((a.1.1,a.1.2.1,(),(0:Int),()),([]:List aM),())).bind fun b=>
 some (((),()),b.2.1,())
noncomputable def GP:aT:=a' aq Tryz.f106 i106 Ql [] f106
theorem Pj:a0 Z 106 GP:=ba g0 Tryz.func106 (by kernel_rfl) (bL abh ap) (fun y=>by kernel_rfl) fun a=>by kernel_rfl
noncomputable abbrev ald:bq:=[(98,A3),(104,u7),(105,Ae),(106,GP),(115,GL),(126,GI)]
theorem alS:a7 Z (bl aq ald):=bx ⟨GZ,zT,FF,Pj,Pe,Pb,⟨⟩⟩
abbrev i77:Shape:=⟨[cf 0 [bh .pack],cf 1 [a5,a5,bh .need,bh .entry]],[],44⟩
abbrev Su:Shape:=⟨[bd 4 4 0,ae 5],[bc 4 [bh .pack]],44⟩
noncomputable def f77(a:i77.H):Option Su.H:=
(f104 ((a.1.1.1,a.1.2.1.1,()),())).bind fun b=>
(f98 (((a.1.2.1.1,a.1.2.1.2.1,a.1.2.1.2.2.1,a.1.2.1.2.2.2.1,()),()),())).bind fun c=>
 bif(!c.1.1) then
 some (((),(1:Int),()),(a.1.1.1,()),())
else
 bif(decide (b.1.1<(0:Int))) then
 some (((),(3:Int),()),(a.1.1.1,()),())
else
(bk a.1.1.1 b.1.1).bind fun d=>
(f126 ((d.be,a.1.2.1.2.1,()),())).bind fun e=>
 bif(decide (e.1.1>=(0:Int))) then
 some (((),(7:Int),()),(a.1.1.1,()),())
else
(f106 ((a.1.1.1,a.1.2.1.1,()),())).bind fun f=>
(f115 ((f.2.1,(a.1.2.1.1,a.1.2.1.2.1,a.1.2.1.2.2.1,a.1.2.1.2.2.2.1,()),()),())).bind fun g=>
(f105 (((a.1.1.1,()),g.2.1,()),())).bind fun h=>
 some (((),h.1.2.1,()),(h.2.1.1,()),())
noncomputable def TV:aT:=a' aq Tryz.f77 i77 Su [] f77
theorem ahU:a0 Z 77 TV:=ba alS Tryz.func77 (by kernel_rfl) ap (fun y=>by kernel_rfl) fun a=>by kernel_rfl
noncomputable abbrev aly:bq:=[(46,A8),(62,A6),(77,TV)]
theorem al1:a7 Z (bl aq aly):=bx ⟨G4,G2,ahU,⟨⟩⟩
abbrev i38:Shape:=⟨[cf 0 [bh .pack],cf 1 [a5,a5,bh .need,bh .entry]],[],16⟩
abbrev SQ:Shape:=⟨[bd 4 4 0,ae 5],[bc 4 [bh .pack]],16⟩
noncomputable def f38(a:i38.H):Option SQ.H:=
(f46 (((a.1.1.1,()),()),())).bind fun b=>
 bif(!b.1.1) then
 some (((),(1:Int),()),(([]:List aM),()),())
else
(f62 (((a.1.1.1,()),()),())).bind fun c=>
(f77 (((c.2.1,()),(a.1.2.1.1,a.1.2.1.2.1,a.1.2.1.2.2.1,a.1.2.1.2.2.2.1,()),()),())).bind fun d=>
 some (((),d.1.2.1,()),(d.2.1.1,()),())
noncomputable def T8:aT:=a' aq Tryz.f38 i38 SQ [] f38
theorem ah7:a0 Z 38 T8:=ba al1 Tryz.func38 (by kernel_rfl) ap (fun y=>by kernel_rfl) fun a=>by kernel_rfl
noncomputable abbrev alx:bq:=[(48,A7),(63,wa),(64,S64),(66,zO),(74,A4),(75,Il),(78,Ik)]
theorem al0:a7 Z (bl hd alx):=n8 ⟨G3,Ak,Aj,E',G0,R8,R7,⟨⟩⟩
abbrev i39:Shape:=⟨[cf 0 [bh .pack],cf 1 [a5,a5,bh .need,bh .entry]],[],49⟩
abbrev SP:Shape:=⟨[bd 4 4 0,ae 5],[(5000256,.deep .pack,.cell 4 0),bc 4 [.own 5000256]],49⟩
noncomputable def f39(a:i39.H):Option SP.H:=
(f48 (((a.1.1.1,()),()),())).bind fun b=>
 bif(!b.1.1) then
 some (((),(1:Int),()),([]:List aM),((),()),())
else
(f74 (((a.1.2.1.1,a.1.2.1.2.1,a.1.2.1.2.2.1,a.1.2.1.2.2.2.1,()),()),())).bind fun c=>
 bif(!c.1.1) then
(f64 (((a.1.1.1,()),()),())).bind fun d=>
 some (((),(1:Int),()),d.2.1,((),()),())
else
(f63 ((a.1.1.1,a.1.2.1.1,()),())).bind fun e=>
 bif(!e.1.2.1) then
(f64 (((a.1.1.1,()),()),())).bind fun f=>
 some (((),(3:Int),()),f.2.1,((),()),())
else
(bk a.1.1.1 e.1.1).bind fun g=>
(f78 ((g.be,a.1.2.1.2.1,()),())).bind fun h=>
 bif(decide (h.1.1>=(0:Int))) then
(f64 (((a.1.1.1,()),()),())).bind fun i=>
 some (((),(7:Int),()),i.2.1,((),()),())
else
(f75 ((a.1.1.1,(a.1.2.1.1,a.1.2.1.2.1,a.1.2.1.2.2.1,a.1.2.1.2.2.2.1,()),()),())).bind fun j=>
(r6 (((),(a.1.1.1,()),()),j.2.1,())).bind fun k=>
 some (((),k.1.2.1,()),k.2.1,((),()),())
noncomputable def T7:aT:=a' hd Tryz.f39 i39 SP [] f39
theorem ah6:a0 Z 39 T7:=ba al0 Tryz.func39 (by kernel_rfl) ap (fun y=>by kernel_rfl) fun a=>by kernel_rfl
noncomputable abbrev als:bq:=[(104,u7),(105,Ae),(106,GP)]
theorem alX:a7 Z (bl aq als):=bx ⟨zT,FF,Pj,⟨⟩⟩
abbrev i61:Shape:=⟨[cf 0 [bh .pack],bw 1],[],20⟩
abbrev SI:Shape:=⟨[bd 4 4 0,ae 5],[bc 4 [bh .pack]],20⟩
noncomputable def f61(a:i61.H):Option SI.H:=
(f104 ((a.1.1.1,a.1.2.1,()),())).bind fun b=>
 bif(decide (b.1.1<(0:Int))) then
 some (((),(3:Int),()),(a.1.1.1,()),())
else
(f106 ((a.1.1.1,a.1.2.1,()),())).bind fun c=>
(f105 (((a.1.1.1,()),c.2.1,()),())).bind fun d=>
 some (((),d.1.2.1,()),(d.2.1.1,()),())
noncomputable def T3:aT:=a' aq Tryz.f61 i61 SI [] f61
theorem ah2:a0 Z 61 T3:=ba alX Tryz.func61 (by kernel_rfl) ap (fun y=>by kernel_rfl) fun a=>by kernel_rfl
noncomputable abbrev alG:bq:=[(46,A8),(61,T3),(62,A6)]
theorem al9:a7 Z (bl aq alG):=bx ⟨G4,ah2,G2,⟨⟩⟩
abbrev i29:Shape:=⟨[cf 0 [bh .pack],bw 1],[],16⟩
abbrev SZ:Shape:=⟨[bd 4 4 0,ae 5],[bc 4 [bh .pack]],16⟩
noncomputable def f29(a:i29.H):Option SZ.H:=
(f46 (((a.1.1.1,()),()),())).bind fun b=>
 bif(!b.1.1) then
 some (((),(1:Int),()),(([]:List aM),()),())
else
(f62 (((a.1.1.1,()),()),())).bind fun c=>
(f61 (((c.2.1,()),a.1.2.1,()),())).bind fun d=>
 some (((),d.1.2.1,()),(d.2.1.1,()),())
noncomputable def Ua:aT:=a' aq Tryz.f29 i29 SZ [] f29
theorem aib:a0 Z 29 Ua:=ba al9 Tryz.func29 (by kernel_rfl) ap (fun y=>by kernel_rfl) fun a=>by kernel_rfl
noncomputable abbrev am9:bq:=[(11,qw),(13,sZ),(16,Bb),(17,zP),(29,Ua),(30,T'),(31,Ba)]
theorem U9:a7 Z (bl aq am9):=bx ⟨G',G_,G9,Fa,aib,aia,G8,⟨⟩⟩
abbrev aaD:Shape:=⟨[bw 1,bd 2 2 0,bd 6 6 0,ae 7,bd 8 8 0,bd 9 9 0,ae 10],[bc 2 [bh .pack],bc 6 [bh .pack],(5000512,.deep .pack,.cell 8 0),bc 8 [.own 5000512],(5000576,.deep .pack,.cell 9 0),bc 9 [.own 5000576]],104⟩
abbrev aaA:List bf:=[(.norm,⟨[bw 1,bd 2 2 0,bd 6 6 0,ae 7,bd 8 8 0,bd 9 9 0,ae 10,aX 47],[bc 2 [bh .pack],bc 6 [bh .pack],(5000512,.deep .pack,.cell 8 0),bc 8 [.own 5000512],(5000576,.deep .pack,.cell 9 0),bc 9 [.own 5000576]],104⟩)]
noncomputable def abB(y:aaD.H):Option (aQ aaA):=
(f16 (((y.2.2.2.2.2.1,()),(y.2.2.1.1,()),()),())).bind fun a=>
 bif(!(!a.1.1)) then
 some ((y.1.1,(),(),y.1.2.2.2.1,(),(),y.1.2.2.2.2.2.2.1,(y.1.2.2.2.2.2.2.1 !=y.1.2.2.2.1),()),(y.2.1.1,()),(y.2.2.1.1,()),y.2.2.2.1,((),()),y.2.2.2.2.2.1,((),()),())
else
 some ((y.1.1,(),(),y.1.2.2.2.1,(),(),y.1.2.2.2.2.2.2.1,true,()),(y.2.1.1,()),(y.2.2.1.1,()),y.2.2.2.1,((),()),y.2.2.2.2.2.1,((),()),())
abbrev _r:Shape:=⟨[bw 1,bd 2 2 0,bd 6 6 0,ae 7,bd 9 9 0,ae 10,ae 11],[bc 2 [bh .pack],bc 6 [bh .pack],(5000576,.deep .pack,.cell 9 0),bc 9 [.own 5000576]],104⟩
abbrev _g:List bf:=[(.norm,⟨[bw 1,bd 2 2 0,bd 6 6 0,ae 7,bd 9 9 0,aX 68],[bc 2 [bh .pack],bc 6 [bh .pack],(5000576,.deep .pack,.cell 9 0),bc 9 [.own 5000576]],104⟩)]
noncomputable def _6(y:_r.H):Option (aQ _g):=
 bif(!(decide (y.1.2.2.2.2.2.2.1<(0:Int)))) then
(f16 (((y.2.2.2.1,()),(y.2.2.1.1,()),()),())).bind fun a=>
 bif(!(!a.1.1)) then
 some ((y.1.1,(),(),y.1.2.2.2.1,(),(y.1.2.2.2.2.2.1 !=y.1.2.2.2.1),()),(y.2.1.1,()),(y.2.2.1.1,()),y.2.2.2.1,((),()),())
else
 some ((y.1.1,(),(),y.1.2.2.2.1,(),true,()),(y.2.1.1,()),(y.2.2.1.1,()),y.2.2.2.1,((),()),())
else
 some ((y.1.1,(),(),y.1.2.2.2.1,(),true,()),(y.2.1.1,()),(y.2.2.1.1,()),y.2.2.2.1,((),()),())
abbrev Xt:Shape:=⟨[bd 6 6 0,ae 7,bd 9 9 0,ae 12,bd 14 14 0,ae 15],[bc 6 [bh .pack],(5000576,.deep .pack,.cell 9 0),bc 9 [.own 5000576],(5000896,.deep .pack,.cell 14 0),bc 14 [.own 5000896]],104⟩
abbrev Xm:List bf:=[(.norm,⟨[bd 9 9 0,ae 12,aX 95],[(5000576,.deep .pack,.cell 9 0),bc 9 [.own 5000576]],104⟩)]
noncomputable def XZ(y:Xt.H):Option (aQ Xm):=
(f16 (((y.2.2.2.2.1,()),(y.2.1.1,()),()),())).bind fun a=>
 bif(!(!a.1.1)) then
 some (((),y.1.2.2.2.1,(y.1.2.2.2.2.2.1 !=y.1.2.1),()),y.2.2.1,((),()),())
else
 some (((),y.1.2.2.2.1,true,()),y.2.2.1,((),()),())
abbrev i5:Shape:=⟨[cf 0 [bh .pack],bw 1],[],104⟩
abbrev Bj:Shape:=⟨[aX 4],[],104⟩
noncomputable def f5(a:i5.H):Option Bj.H:=
 bif(decide ((a.1.2.1.length:Int)>(1048576:Int))) then
 some ((true,()),())
else
(f11 (((a.1.1.1,()),(1048576:Int),()),())).bind fun b=>
 bif(decide (b.1.1<(0:Int))) then
 some ((true,()),())
else
(f13 (((a.1.1.1,()),()),())).bind fun c=>
(f29 (((c.2.1,()),a.1.2.1,()),())).bind fun d=>
(f13 (((a.1.1.1,()),()),())).bind fun e=>
(f30 (((e.2.1,()),a.1.2.1,()),())).bind fun f=>
(abB ((a.1.2.1,(),(),d.1.2.1,(),(),f.1.2.1,()),(a.1.1.1,()),(d.2.1.1,()),e.2.1,((),()),f.2.1,((),()),())).bind fun g=>
 bif g.1.2.2.2.2.2.2.2.1 then
 some ((false,()),())
else
(f13 (((g.2.1.1,()),()),())).bind fun h=>
(f16 (((g.2.2.2.1,()),(h.2.1,()),()),())).bind fun i=>
 bif(!i.1.1) then
 some ((false,()),())
else
(nA ((((),()),(1:Int),()),g.2.2.2.1,())).bind fun j=>
(_6 ((g.1.1,(),(),g.1.2.2.2.1,(),g.1.2.2.2.2.2.2.1,j.1.2.1,()),(g.2.1.1,()),(g.2.2.1.1,()),g.2.2.2.2.2.1,((),()),())).bind fun k=>
 bif k.1.2.2.2.2.2.1 then
 some ((false,()),())
else
(nA ((((),()),(1:Int),()),k.2.2.2.1,())).bind fun l=>
(f31 (((l.2.1,()),(1:Int),()),())).bind fun m=>
 bif(decide (m.1.1<(0:Int))) then
 some ((false,()),())
else
 bif(m.1.1 !=l.1.2.1) then
 some ((false,()),())
else
(f13 (((k.2.1.1,()),()),())).bind fun n=>
(f30 (((n.2.1,()),k.1.1,()),())).bind fun D=>
(XZ (((),k.1.2.2.2.1,(),l.1.2.1,(),D.1.2.1,()),(k.2.2.1.1,()),l.2.1,((),()),D.2.1,((),()),())).bind fun p=>
 bif p.1.2.2.1 then
 some ((false,()),())
else
(f31 (((p.2.1,()),(1:Int),()),())).bind fun q=>
 bif(decide (q.1.1<(0:Int))) then
 some ((false,()),())
else
 bif(q.1.1 !=p.1.2.1) then
 some ((false,()),())
else
 some ((true,()),())
noncomputable def Bs:aT:=a' aq Tryz.f5 i5 Bj [] f5
theorem nM.Sh{ps:List aM}(h:nM ps):g8 1048576 ps:=⟨h.1,fun p aj=>⟨h.ma.1.2 p aj,h.ma.2 p aj⟩⟩
theorem sY.aiY{p:aM}(h:sY p):kq p:=by
 have:=nM.Sh (ps:=[p]) ⟨by unfold iN;simp,fun q aD=>by rw[List.mem_singleton.1 aD];exact h⟩
 exact this.2 p List.mem_cons_self
theorem abF(ps:List aM):decide (dD 1 ps<0)=false:=decide_eq_false (by have:=rf ps 1;omega)
noncomputable abbrev aej:bq:=[(18,FB),(60,Fz)]
theorem aeo:a7 Z (bl aq aej):=bx ⟨Oi,Og,⟨⟩⟩
abbrev OI:Shape:=⟨[cf 0 [a5,a5,.own 600002,.own 600003],ae 1],[(600002,.row .need,.same),(600003,.row .entry,.same)],14⟩
abbrev Ou:Shape:=⟨[cf 0 [a5,a5,.own 3000002,.own 3000003],ae 4],[ci 3000002 .need 0 2,ci 3000003 .entry 0 3],14⟩
noncomputable def uG(a:OI.H):Option Ou.H:=
(uF (((),a.1.2.1,()),a.2.1,())).bind fun b=>
(uH (((),b.1.2.1,()),a.2.2.1,())).bind fun c=>
 some (((a.1.1.1,a.1.1.2.1,(),(),()),c.1.2.1,()),b.2.1,c.2.1,())
noncomputable def FA:aT:=pQ aq Tryz.f37 OI Ou [] [0] uG
theorem Oh:a0 Z 37 FA:=qQ aeo Tryz.func37 (by kernel_rfl) ap (fun y=>by kernel_rfl) fun a=>by kernel_rfl
noncomputable abbrev am8:bq:=[(11,qw),(13,sZ),(16,Bb),(17,zP),(31,Ba),(32,A'),(33,T_),(34,A_),(35,T9),(36,A9),(37,FA)]
theorem th:a7 Z (bl aq am8):=bx ⟨G',G_,G9,Fa,G8,G7,ah9,G6,ah8,G5,Oh,⟨⟩⟩
abbrev Mu:Shape:=⟨[bd 2 2 0,bd 3 3 0,bd 6 6 0,ae 7,bd 8 8 0,bd 9 9 0,bd 10 10 0,ae 11],[bc 2 [bh .pack],bc 3 [a5,a5,bh .need,bh .entry],bc 6 [bh .pack],(5000512,.deep .pack,.cell 8 0),bc 8 [.own 5000512],eW 5000578 .need 9 2,eW 5000579 .entry 9 3,bc 9 [a5,a5,.own 5000578,.own 5000579],(5000640,.deep .pack,.cell 10 0),bc 10 [.own 5000640]],119⟩
abbrev Mk:List bf:=[(.norm,⟨[bd 2 2 0,bd 3 3 0,bd 6 6 0,ae 7,bd 8 8 0,bd 9 9 0,bd 10 10 0,ae 11,aX 53],[bc 2 [bh .pack],bc 3 [a5,a5,bh .need,bh .entry],bc 6 [bh .pack],(5000512,.deep .pack,.cell 8 0),bc 8 [.own 5000512],eW 5000578 .need 9 2,eW 5000579 .entry 9 3,bc 9 [a5,a5,.own 5000578,.own 5000579],(5000640,.deep .pack,.cell 10 0),bc 10 [.own 5000640]],119⟩)]
noncomputable def D7(y:Mu.H):Option (aQ Mk):=
(f16 (((y.2.2.2.2.2.2.2.2.2.1,()),(y.2.2.2.1.1,()),()),())).bind fun a=>
 bif(!(!a.1.1)) then
 some (((),(),(),y.1.2.2.2.1,(),(),(),y.1.2.2.2.2.2.2.2.1,(y.1.2.2.2.2.2.2.2.1 !=y.1.2.2.2.1),()),(y.2.1.1,()),(y.2.2.1.1,y.2.2.1.2.1,y.2.2.1.2.2.1,y.2.2.1.2.2.2.1,()),(y.2.2.2.1.1,()),y.2.2.2.2.1,((),()),y.2.2.2.2.2.2.1,y.2.2.2.2.2.2.2.1,(y.2.2.2.2.2.2.2.2.1.1,y.2.2.2.2.2.2.2.2.1.2.1,(),(),()),y.2.2.2.2.2.2.2.2.2.1,((),()),())
else
 some (((),(),(),y.1.2.2.2.1,(),(),(),y.1.2.2.2.2.2.2.2.1,true,()),(y.2.1.1,()),(y.2.2.1.1,y.2.2.1.2.1,y.2.2.1.2.2.1,y.2.2.1.2.2.2.1,()),(y.2.2.2.1.1,()),y.2.2.2.2.1,((),()),y.2.2.2.2.2.2.1,y.2.2.2.2.2.2.2.1,(y.2.2.2.2.2.2.2.2.1.1,y.2.2.2.2.2.2.2.2.1.2.1,(),(),()),y.2.2.2.2.2.2.2.2.2.1,((),()),())
theorem aaK:bp Z (aG (codeOf Tryz.f6) 1 8188) (bH Mu Mk D7):=dW th (by kernel_rfl) ap fun y=>by kernel_rfl
abbrev KO:Shape:=⟨[bd 2 2 0,bd 3 3 0,bd 6 6 0,ae 7,bd 10 10 0,ae 11,ae 12],[bc 2 [bh .pack],bc 3 [a5,a5,bh .need,bh .entry],bc 6 [bh .pack],(5000640,.deep .pack,.cell 10 0),bc 10 [.own 5000640]],119⟩
abbrev KD:List bf:=[(.norm,⟨[bd 2 2 0,bd 3 3 0,bd 6 6 0,ae 7,bd 10 10 0,aX 82],[bc 2 [bh .pack],bc 3 [a5,a5,bh .need,bh .entry],bc 6 [bh .pack],(5000640,.deep .pack,.cell 10 0),bc 10 [.own 5000640]],119⟩)]
noncomputable def Ck(y:KO.H):Option (aQ KD):=
 bif(!(decide (y.1.2.2.2.2.2.2.1<(0:Int)))) then
(f16 (((y.2.2.2.2.1,()),(y.2.2.2.1.1,()),()),())).bind fun a=>
 bif(!(!a.1.1)) then
 some (((),(),(),y.1.2.2.2.1,(),(y.1.2.2.2.2.2.1 !=y.1.2.2.2.1),()),(y.2.1.1,()),(y.2.2.1.1,y.2.2.1.2.1,y.2.2.1.2.2.1,y.2.2.1.2.2.2.1,()),(y.2.2.2.1.1,()),y.2.2.2.2.1,((),()),())
else
 some (((),(),(),y.1.2.2.2.1,(),true,()),(y.2.1.1,()),(y.2.2.1.1,y.2.2.1.2.1,y.2.2.1.2.2.1,y.2.2.1.2.2.2.1,()),(y.2.2.2.1.1,()),y.2.2.2.2.1,((),()),())
else
 some (((),(),(),y.1.2.2.2.1,(),true,()),(y.2.1.1,()),(y.2.2.1.1,y.2.2.1.2.1,y.2.2.1.2.2.1,y.2.2.1.2.2.2.1,()),(y.2.2.2.1.1,()),y.2.2.2.2.1,((),()),())
theorem Y6:bp Z (aG (codeOf Tryz.f6) 1 524284) (bH KO KD Ck):=dW th (by kernel_rfl) ap fun y=>by kernel_rfl
abbrev Js:Shape:=⟨[bd 6 6 0,ae 7,bd 10 10 0,ae 13,bd 15 15 0,ae 16],[bc 6 [bh .pack],(5000640,.deep .pack,.cell 10 0),bc 10 [.own 5000640],(5000960,.deep .pack,.cell 15 0),bc 15 [.own 5000960]],119⟩
abbrev Jq:List bf:=[(.norm,⟨[bd 10 10 0,ae 13,aX 110],[(5000640,.deep .pack,.cell 10 0),bc 10 [.own 5000640]],119⟩)]
noncomputable def Bx(y:Js.H):Option (aQ Jq):=
(f16 (((y.2.2.2.2.1,()),(y.2.1.1,()),()),())).bind fun a=>
 bif(!(!a.1.1)) then
 some (((),y.1.2.2.2.1,(y.1.2.2.2.2.2.1 !=y.1.2.1),()),y.2.2.1,((),()),())
else
 some (((),y.1.2.2.2.1,true,()),y.2.2.1,((),()),())
theorem Wa:bp Z (aG (codeOf Tryz.f6) 1 134217724) (bH Js Jq Bx):=dW th (by kernel_rfl) ap fun y=>by kernel_rfl
abbrev i6:Shape:=⟨[cf 0 [bh .pack],cf 1 [a5,a5,bh .need,bh .entry]],[],119⟩
abbrev Bi:Shape:=⟨[aX 4],[],119⟩
noncomputable def f6(a:i6.H):Option Bi.H:=
(f11 (((a.1.1.1,()),(1048576:Int),()),())).bind fun b=>
 bif(decide (b.1.1<(0:Int))) then
 some ((true,()),())
else
(f32 (((a.1.2.1.1,a.1.2.1.2.1,a.1.2.1.2.2.1,a.1.2.1.2.2.2.1,()),b.1.1,()),())).bind fun c=>
 bif(decide (c.1.1<(0:Int))) then
 some ((true,()),())
else
(f13 (((a.1.1.1,()),()),())).bind fun d=>
(f34 (((a.1.2.1.1,a.1.2.1.2.1,a.1.2.1.2.2.1,a.1.2.1.2.2.2.1,()),()),())).bind fun e=>
(f33 (((d.2.1,()),(e.2.2.2.1.1,e.2.2.2.1.2.1,e.2.1,e.2.2.1,()),()),())).bind fun f=>
(f13 (((a.1.1.1,()),()),())).bind fun g=>
(f34 (((a.1.2.1.1,a.1.2.1.2.1,a.1.2.1.2.2.1,a.1.2.1.2.2.2.1,()),()),())).bind fun h=>
(f35 (((g.2.1,()),(h.2.2.2.1.1,h.2.2.2.1.2.1,h.2.1,h.2.2.1,()),()),())).bind fun i=>
(D7 (((),(),(),f.1.2.1,(),(),(),i.1.2.1,()),(a.1.1.1,()),(a.1.2.1.1,a.1.2.1.2.1,a.1.2.1.2.2.1,a.1.2.1.2.2.2.1,()),(f.2.1.1,()),g.2.1,((),()),h.2.1,h.2.2.1,(h.2.2.2.1.1,h.2.2.2.1.2.1,(),(),()),i.2.1,((),()),())).bind fun j=>
 bif j.1.2.2.2.2.2.2.2.2.1 then
 some ((false,()),())
else
(f13 (((j.2.1.1,()),()),())).bind fun k=>
(f16 (((j.2.2.2.2.1,()),(k.2.1,()),()),())).bind fun l=>
 bif(!l.1.1) then
 some ((false,()),())
else
(f34 (((j.2.2.1.1,j.2.2.1.2.1,j.2.2.1.2.2.1,j.2.2.1.2.2.2.1,()),()),())).bind fun m=>
(f36 (((j.2.2.2.2.2.2.2.2.1.1,j.2.2.2.2.2.2.2.2.1.2.1,j.2.2.2.2.2.2.1,j.2.2.2.2.2.2.2.1,()),(m.2.2.2.1.1,m.2.2.2.1.2.1,m.2.1,m.2.2.1,()),()),())).bind fun n=>
 bif(!n.1.1) then
 some ((false,()),())
else
(nA ((((),()),(1:Int),()),j.2.2.2.2.1,())).bind fun D=>
(uG (((j.2.2.2.2.2.2.2.2.1.1,j.2.2.2.2.2.2.2.2.1.2.1,(),(),()),D.1.2.1,()),j.2.2.2.2.2.2.1,j.2.2.2.2.2.2.2.1,())).bind fun p=>
(Ck (((),(),(),j.1.2.2.2.1,(),j.1.2.2.2.2.2.2.2.1,p.1.2.1,()),(j.2.1.1,()),(j.2.2.1.1,j.2.2.1.2.1,j.2.2.1.2.2.1,j.2.2.1.2.2.2.1,()),(j.2.2.2.1.1,()),j.2.2.2.2.2.2.2.2.2.1,((),()),())).bind fun q=>
 bif q.1.2.2.2.2.2.1 then
 some ((false,()),())
else
(nA ((((),()),(1:Int),()),q.2.2.2.2.1,())).bind fun r=>
(f31 (((r.2.1,()),(1:Int),()),())).bind fun s=>
 bif(decide (s.1.1<(0:Int))) then
 some ((false,()),())
else
 bif(s.1.1 !=r.1.2.1) then
 some ((false,()),())
else
(f13 (((q.2.1.1,()),()),())).bind fun t=>
(f34 (((q.2.2.1.1,q.2.2.1.2.1,q.2.2.1.2.2.1,q.2.2.1.2.2.2.1,()),()),())).bind fun u=>
(f35 (((t.2.1,()),(u.2.2.2.1.1,u.2.2.2.1.2.1,u.2.1,u.2.2.1,()),()),())).bind fun v=>
(Bx (((),q.1.2.2.2.1,(),r.1.2.1,(),v.1.2.1,()),(q.2.2.2.1.1,()),r.2.1,((),()),v.2.1,((),()),())).bind fun w=>
 bif w.1.2.2.1 then
 some ((false,()),())
else
(f31 (((w.2.1,()),(1:Int),()),())).bind fun x=>
 bif(decide (x.1.1<(0:Int))) then
 some ((false,()),())
else
 bif(x.1.1 !=w.1.2.1) then
 some ((false,()),())
else
 some ((true,()),())
noncomputable def tc:aT:=a' aq Tryz.f6 i6 Bi [] f6
theorem aml:a0 Z 6 tc:=ba th Tryz.func6 (by kernel_rfl) (bL aaK (bL Y6 (bL Wa ap))) (fun y=>by kernel_rfl) fun a=>by kernel_rfl
noncomputable abbrev am7:bq:=[(11,qw),(13,sZ),(16,Bb),(17,zP),(31,Ba),(32,A'),(34,A_),(36,A9),(37,FA),(38,T8),(39,T7)]
theorem tg:a7 Z (bl aq am7):=bx ⟨G',G_,G9,Fa,G8,G7,G6,G5,Oh,ah7,ah6,⟨⟩⟩
abbrev Mt:Shape:=⟨[bd 2 2 0,bd 3 3 0,bd 6 6 0,ae 7,bd 8 8 0,bd 9 9 0,bd 10 10 0,ae 11],[bc 2 [bh .pack],bc 3 [a5,a5,bh .need,bh .entry],bc 6 [bh .pack],(5000512,.deep .pack,.cell 8 0),bc 8 [.own 5000512],eW 5000578 .need 9 2,eW 5000579 .entry 9 3,bc 9 [a5,a5,.own 5000578,.own 5000579],(5000640,.deep .pack,.cell 10 0),bc 10 [.own 5000640]],119⟩
abbrev Mj:List bf:=[(.norm,⟨[bd 2 2 0,bd 3 3 0,bd 6 6 0,ae 7,bd 8 8 0,bd 9 9 0,bd 10 10 0,ae 11,aX 53],[bc 2 [bh .pack],bc 3 [a5,a5,bh .need,bh .entry],bc 6 [bh .pack],(5000512,.deep .pack,.cell 8 0),bc 8 [.own 5000512],eW 5000578 .need 9 2,eW 5000579 .entry 9 3,bc 9 [a5,a5,.own 5000578,.own 5000579],(5000640,.deep .pack,.cell 10 0),bc 10 [.own 5000640]],119⟩)]
noncomputable def MS(y:Mt.H):Option (aQ Mj):=
(f16 (((y.2.2.2.2.2.2.2.2.2.1,()),(y.2.2.2.1.1,()),()),())).bind fun a=>
 bif(!(!a.1.1)) then
 some (((),(),(),y.1.2.2.2.1,(),(),(),y.1.2.2.2.2.2.2.2.1,(y.1.2.2.2.2.2.2.2.1 !=y.1.2.2.2.1),()),(y.2.1.1,()),(y.2.2.1.1,y.2.2.1.2.1,y.2.2.1.2.2.1,y.2.2.1.2.2.2.1,()),(y.2.2.2.1.1,()),y.2.2.2.2.1,((),()),y.2.2.2.2.2.2.1,y.2.2.2.2.2.2.2.1,(y.2.2.2.2.2.2.2.2.1.1,y.2.2.2.2.2.2.2.2.1.2.1,(),(),()),y.2.2.2.2.2.2.2.2.2.1,((),()),())
else
 some (((),(),(),y.1.2.2.2.1,(),(),(),y.1.2.2.2.2.2.2.2.1,true,()),(y.2.1.1,()),(y.2.2.1.1,y.2.2.1.2.1,y.2.2.1.2.2.1,y.2.2.1.2.2.2.1,()),(y.2.2.2.1.1,()),y.2.2.2.2.1,((),()),y.2.2.2.2.2.2.1,y.2.2.2.2.2.2.2.1,(y.2.2.2.2.2.2.2.2.1.1,y.2.2.2.2.2.2.2.2.1.2.1,(),(),()),y.2.2.2.2.2.2.2.2.2.1,((),()),())
theorem aaI:bp Z (aG (codeOf Tryz.f7) 1 8188) (bH Mt Mj MS):=dW tg (by kernel_rfl) ap fun y=>by kernel_rfl
abbrev KN:Shape:=⟨[bd 2 2 0,bd 3 3 0,bd 6 6 0,ae 7,bd 10 10 0,ae 11,ae 12],[bc 2 [bh .pack],bc 3 [a5,a5,bh .need,bh .entry],bc 6 [bh .pack],(5000640,.deep .pack,.cell 10 0),bc 10 [.own 5000640]],119⟩
abbrev KC:List bf:=[(.norm,⟨[bd 2 2 0,bd 3 3 0,bd 6 6 0,ae 7,bd 10 10 0,aX 82],[bc 2 [bh .pack],bc 3 [a5,a5,bh .need,bh .entry],bc 6 [bh .pack],(5000640,.deep .pack,.cell 10 0),bc 10 [.own 5000640]],119⟩)]
noncomputable def La(y:KN.H):Option (aQ KC):=
 bif(!(decide (y.1.2.2.2.2.2.2.1<(0:Int)))) then
(f16 (((y.2.2.2.2.1,()),(y.2.2.2.1.1,()),()),())).bind fun a=>
 bif(!(!a.1.1)) then
 some (((),(),(),y.1.2.2.2.1,(),(y.1.2.2.2.2.2.1 !=y.1.2.2.2.1),()),(y.2.1.1,()),(y.2.2.1.1,y.2.2.1.2.1,y.2.2.1.2.2.1,y.2.2.1.2.2.2.1,()),(y.2.2.2.1.1,()),y.2.2.2.2.1,((),()),())
else
 some (((),(),(),y.1.2.2.2.1,(),true,()),(y.2.1.1,()),(y.2.2.1.1,y.2.2.1.2.1,y.2.2.1.2.2.1,y.2.2.1.2.2.2.1,()),(y.2.2.2.1.1,()),y.2.2.2.2.1,((),()),())
else
 some (((),(),(),y.1.2.2.2.1,(),true,()),(y.2.1.1,()),(y.2.2.1.1,y.2.2.1.2.1,y.2.2.1.2.2.1,y.2.2.1.2.2.2.1,()),(y.2.2.2.1.1,()),y.2.2.2.2.1,((),()),())
theorem Y5:bp Z (aG (codeOf Tryz.f7) 1 524284) (bH KN KC La):=dW tg (by kernel_rfl) ap fun y=>by kernel_rfl
abbrev Jr:Shape:=⟨[bd 6 6 0,ae 7,bd 10 10 0,ae 13,bd 15 15 0,ae 16],[bc 6 [bh .pack],(5000640,.deep .pack,.cell 10 0),bc 10 [.own 5000640],(5000960,.deep .pack,.cell 15 0),bc 15 [.own 5000960]],119⟩
abbrev Jp:List bf:=[(.norm,⟨[bd 10 10 0,ae 13,aX 110],[(5000640,.deep .pack,.cell 10 0),bc 10 [.own 5000640]],119⟩)]
noncomputable def Jz(y:Jr.H):Option (aQ Jp):=
(f16 (((y.2.2.2.2.1,()),(y.2.1.1,()),()),())).bind fun a=>
 bif(!(!a.1.1)) then
 some (((),y.1.2.2.2.1,(y.1.2.2.2.2.2.1 !=y.1.2.1),()),y.2.2.1,((),()),())
else
 some (((),y.1.2.2.2.1,true,()),y.2.2.1,((),()),())
theorem V':bp Z (aG (codeOf Tryz.f7) 1 134217724) (bH Jr Jp Jz):=dW tg (by kernel_rfl) ap fun y=>by kernel_rfl
abbrev i7:Shape:=⟨[cf 0 [bh .pack],cf 1 [a5,a5,bh .need,bh .entry]],[],119⟩
abbrev s8:Shape:=⟨[aX 4],[],119⟩
noncomputable def f7(a:i7.H):Option s8.H:=
(f11 (((a.1.1.1,()),(1048576:Int),()),())).bind fun b=>
 bif(decide (b.1.1<(0:Int))) then
 some ((true,()),())
else
(f32 (((a.1.2.1.1,a.1.2.1.2.1,a.1.2.1.2.2.1,a.1.2.1.2.2.2.1,()),b.1.1,()),())).bind fun c=>
 bif(decide (c.1.1<(0:Int))) then
 some ((true,()),())
else
(f13 (((a.1.1.1,()),()),())).bind fun d=>
(f34 (((a.1.2.1.1,a.1.2.1.2.1,a.1.2.1.2.2.1,a.1.2.1.2.2.2.1,()),()),())).bind fun e=>
(f38 (((d.2.1,()),(e.2.2.2.1.1,e.2.2.2.1.2.1,e.2.1,e.2.2.1,()),()),())).bind fun f=>
(f13 (((a.1.1.1,()),()),())).bind fun g=>
(f34 (((a.1.2.1.1,a.1.2.1.2.1,a.1.2.1.2.2.1,a.1.2.1.2.2.2.1,()),()),())).bind fun h=>
(f39 (((g.2.1,()),(h.2.2.2.1.1,h.2.2.2.1.2.1,h.2.1,h.2.2.1,()),()),())).bind fun i=>
(MS (((),(),(),f.1.2.1,(),(),(),i.1.2.1,()),(a.1.1.1,()),(a.1.2.1.1,a.1.2.1.2.1,a.1.2.1.2.2.1,a.1.2.1.2.2.2.1,()),(f.2.1.1,()),g.2.1,((),()),h.2.1,h.2.2.1,(h.2.2.2.1.1,h.2.2.2.1.2.1,(),(),()),i.2.1,((),()),())).bind fun j=>
 bif j.1.2.2.2.2.2.2.2.2.1 then
 some ((false,()),())
else
(f13 (((j.2.1.1,()),()),())).bind fun k=>
(f16 (((j.2.2.2.2.1,()),(k.2.1,()),()),())).bind fun l=>
 bif(!l.1.1) then
 some ((false,()),())
else
(f34 (((j.2.2.1.1,j.2.2.1.2.1,j.2.2.1.2.2.1,j.2.2.1.2.2.2.1,()),()),())).bind fun m=>
(f36 (((j.2.2.2.2.2.2.2.2.1.1,j.2.2.2.2.2.2.2.2.1.2.1,j.2.2.2.2.2.2.1,j.2.2.2.2.2.2.2.1,()),(m.2.2.2.1.1,m.2.2.2.1.2.1,m.2.1,m.2.2.1,()),()),())).bind fun n=>
 bif(!n.1.1) then
 some ((false,()),())
else
(nA ((((),()),(1:Int),()),j.2.2.2.2.1,())).bind fun D=>
(uG (((j.2.2.2.2.2.2.2.2.1.1,j.2.2.2.2.2.2.2.2.1.2.1,(),(),()),D.1.2.1,()),j.2.2.2.2.2.2.1,j.2.2.2.2.2.2.2.1,())).bind fun p=>
(La (((),(),(),j.1.2.2.2.1,(),j.1.2.2.2.2.2.2.2.1,p.1.2.1,()),(j.2.1.1,()),(j.2.2.1.1,j.2.2.1.2.1,j.2.2.1.2.2.1,j.2.2.1.2.2.2.1,()),(j.2.2.2.1.1,()),j.2.2.2.2.2.2.2.2.2.1,((),()),())).bind fun q=>
 bif q.1.2.2.2.2.2.1 then
 some ((false,()),())
else
(nA ((((),()),(1:Int),()),q.2.2.2.2.1,())).bind fun r=>
(f31 (((r.2.1,()),(1:Int),()),())).bind fun s=>
 bif(decide (s.1.1<(0:Int))) then
 some ((false,()),())
else
 bif(s.1.1 !=r.1.2.1) then
 some ((false,()),())
else
(f13 (((q.2.1.1,()),()),())).bind fun t=>
(f34 (((q.2.2.1.1,q.2.2.1.2.1,q.2.2.1.2.2.1,q.2.2.1.2.2.2.1,()),()),())).bind fun u=>
(f39 (((t.2.1,()),(u.2.2.2.1.1,u.2.2.2.1.2.1,u.2.1,u.2.2.1,()),()),())).bind fun v=>
(Jz (((),q.1.2.2.2.1,(),r.1.2.1,(),v.1.2.1,()),(q.2.2.2.1.1,()),r.2.1,((),()),v.2.1,((),()),())).bind fun w=>
 bif w.1.2.2.1 then
 some ((false,()),())
else
(f31 (((w.2.1,()),(1:Int),()),())).bind fun x=>
 bif(decide (x.1.1<(0:Int))) then
 some ((false,()),())
else
 bif(x.1.1 !=w.1.2.1) then
 some ((false,()),())
else
 some ((true,()),())
noncomputable def tb:aT:=a' aq Tryz.f7 i7 s8 [] f7
theorem UF:a0 Z 7 tb:=ba tg Tryz.func7 (by kernel_rfl) (bL aaI (bL Y5 (bL V' ap))) (fun y=>by kernel_rfl) fun a=>by kernel_rfl
theorem acN{k:Nat}{ps:List aM}{p:aM}(h:g8 k ps)(aj:kq p)(ag:k+1<=2097152):et (ka ps p).1:=(acM h aj).ma ag
theorem Yo(p:aM)(h:ld p):f34 (((p.name,(p.be,(p.bb,(p.br,())))),()),())=some (((),()),(p.bb,(p.br,((p.name,(p.be,((),((),())))),())))):=by
 simp only[f34,Ky ((p.bb,()),()) h.2.2.1.1,J6 ((p.br,()),()) h.2.2.2.1,Option.bind_some]
theorem Zq{ps:List aM}{p:aM}(M:nM ps)(aj:ld p):db (dD 1 ps+3*(p.bb.length:Int)+4*(p.br.length:Int)):=by
 have h:=MX (ps:=ps) (k:=1) fun q aD=>⟨(M.ma.1.2 q aD).2.2.1.1,(M.ma.1.2 q aD).2.2.2.1⟩
 have hl:ps.length<=1048576:=M.1;have h1:p.bb.length<=2097152:=aj.2.2.1.1;have h2:p.br.length<=2097152:=aj.2.2.2.1;unfold db;omega
theorem Wv(p:aM)(k:Int)(h0:1<=k)(aj:ld p)(h1:db (k+3*(p.bb.length:Int)+4*(p.br.length:Int))):
  uG (((p.name,(p.be,((),((),())))),(k,())),(p.bb,(p.br,())))=some (((p.name,(p.be,((),((),())))),(k+3*(p.bb.length:Int)+4*(p.br.length:Int),())),(e5 k p.bb.length,(e6 (k+3*(p.bb.length:Int)) p.br.length,()))):=by
 have q1:=JD p.bb k h0 aj.2.2.1.1 (by unfold db at h1 ⊢;omega)
 have q2:=Jn p.br (k+3*(p.bb.length:Int)) (by omega) aj.2.2.2.1 h1
 simp only[uG,q1,q2,Option.bind_some]
theorem Vl(ps:List aM)(p:aM)(hm:u9 ps)(ajP:Bc p):f6 (((ps,()),((p.name,(p.be,(p.bb,(p.br,())))),())),())=some ((true,()),()):=by
 obtain⟨r,e1,e2⟩:=ZV (((ps,()),((1048576:Int),())),()) (show(0:Int)<=1048576 by decide) (show(1048576:Int)<=1048576 by decide) hm
 simp only[f6,e1,Option.bind_some];rcases e2 with e2|⟨q1,q2,dB⟩
 ·simp only[e2,decide_true,cond_true]
 ·have iH:¬r<0:=by omega
  obtain⟨iL,bK,c_⟩:=Lo (((p.name,(p.be,(p.bb,(p.br,())))),(r,())),()) q1 q2 ajP;simp only[iH,decide_false,cond_false,bK,Option.bind_some];rcases c_ with c_|⟨mZ,mY,p3⟩
  ·simp only[c_,decide_true,cond_true]
  ·have qf:¬iL<0:=by omega
   obtain⟨hb,hv⟩:=dB.ma;have aD:=nM.Sh dB;have aj:kq p:=sY.aiY p3;have s1:=Z_ (((ps,()),((p.name,(p.be,(p.bb,(p.br,())))),())),()) 1048576 (by decide) aD aj
   have s2:=YC (((ps,()),((p.name,(p.be,(p.bb,(p.br,())))),())),()) 1048576 (by decide) aD aj
   have AW:=acN (p:=p) aD aj (by decide)
   obtain⟨xs,nQ⟩:∃xs,(ka ps p).1=xs:=⟨_,rfl⟩;obtain⟨c,hc⟩:∃c,(ka ps p).2=c:=⟨_,rfl⟩;simp only[nQ,hc] at s1 s2;rw[nQ] at AW;have mR:=rf ps 1;have ajQ:=Zq (p:=p) dB aj.1;have m1:=Wv p (dD 1 ps) mR aj.1 ajQ;have ag:decide (dD 1 ps+3*(p.bb.length:Int)+4*(p.br.length:Int)<0)=false:=decide_eq_false (by omega)
   simp only[qf,decide_false,cond_false,ZU (((ps,()),()),()) hb,Yo p aj.1,Option.bind_some,s1,s2,D7,Ck,Bx,Lu xs AW,Lu ps hb,Lv p aj.1,Bool.not_true,Bool.not_false,cond_true,Fw,J8 ps hb,m1,ag,J8 xs AW,Xf xs AW,abF]
theorem ZT{a b:al}{az:List dq}{es:List a4}(h:∀d,d∈eE [.str,.str,.sl .need,.sl .entry] (a,(b,(az,(es,()))))->ib d):Bc ⟨a,b,az,es⟩:=
 ⟨oo (h (.str a) (by simp[eE,c'.mk])),oo (h (.str b) (by simp[eE,c'.mk])),Ln (h (.sl .need az) (by simp[eE,c'.mk])),J4 (h (.sl .entry es) (by simp[eE,c'.mk]))⟩
theorem pure_FnExactRootIn:LawOk tc [(true,[.sl .pack]),(true,[.str,.str,.sl .need,.sl .entry])]:=by
 rintro⟨⟨ps,u⟩,⟨a,b,az,es,UM⟩,bF⟩ ⟨h,h2,_⟩;have hm:u9 ps:=ZS (h (.sl .pack ps) (by simp[eE,c'.mk]))
 exact⟨((true,()),()),Vl ps ⟨a,b,az,es⟩ hm (ZT h2),rfl⟩
end Go.Proofs
