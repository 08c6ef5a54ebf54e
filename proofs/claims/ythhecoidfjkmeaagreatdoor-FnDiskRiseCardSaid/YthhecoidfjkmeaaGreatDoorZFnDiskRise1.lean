/- FnDiskRise: recovery is idempotent. (part 2 of 7: JkCall3, JkCall4, JkCall5, JkBld, JkCall6, JkDraw1, JkLogic, JkWalk0, JkDraw2, JkDraw3, JkWalk1, JkShape, JkShape2, JkWalk2, JkWalk3, JkWalk4, JkHand, JkHand2, JkLaw0, JkRange, JkRange2, JkIter, JkIte) Conditions: none beyond the statement. -/
import Derived.Test.YthhecoidfjkmeaaGreatDoorZFnDiskRise0
import Derived.RangeFuncRecord
import Derived.Below
import Derived.RangeFuncSeq
import Derived.Orders
import Derived.OrdersIn
import Derived.ControlIn
import Derived.LoopIn
import Derived.RangeFuncCalls
import Derived.RangeFuncLeaves
import Derived.Lib.Bytealg
import Derived.Laws.Externs
import Derived.Lib.LaidTab
import Derived.Lib.ItoaNum
import Derived.Deep.Draws
import Derived.Sort.Grow
import Derived.Deep.Slices
import Derived.ChangeSame
import Derived.Carry
import Derived.ProofKit
import Derived.OpenShut
set_option linter.unusedVariables false
set_option linter.unusedSimpArgs false
namespace Go.Jk
theorem vJ(n:Nat)(l:List Nat):gB n l=true <-> n∈l:=by
 induction l with
 |nil=>simp[gB]
 |cons m l ih=>
  simp only[gB,Bool.or_eq_true,ih,bR];constructor
  ·rintro(h|h)
   ·exact .inl (ce h)
   ·exact .inr h
  ·rintro(rfl|h)
   ·exact .inl (Nat.beq_refl n)
   ·exact .inr h
theorem sO(l:List Nat):gg l=true <-> l.Nodup:=by
 induction l with
 |nil=>simp[gg]
 |cons n l ih=>
  simp only[gg,bz,ih,List.nodup_cons,Bool.not_eq_true'];constructor
  ·rintro⟨h1,h2⟩;exact⟨fun h=>(by rw[(vJ n l).2 h] at h1;cases h1),h2⟩
  ·rintro⟨h1,h2⟩;refine⟨?_,h2⟩;cases h:gB n l with
   |false=>rfl
   |true=>exact absurd ((vJ n l).1 h) h1
theorem Ru(l m:List Nat):fv l m=true <-> ∀n,n∈l->n∉m:=by
 induction l with
 |nil=>simp[fv]
 |cons n l ih=>
  simp only[fv,bz,ih,Bool.not_eq_true',bR];constructor
  ·rintro⟨h1,h2⟩ k (rfl|hk)
   ·intro h;rw[(vJ k m).2 h] at h1;cases h1
   ·exact h2 k hk
  ·intro h;refine⟨?_,fun k hk=>h k (.inr hk)⟩
   cases an:gB n m with
   |false=>rfl
   |true=>exact absurd ((vJ n m).1 an) (h n (.inl rfl))
theorem oh{sites us:List (Nat×Site)}{o:Nat}(h:o∉keys us):look (bB sites us) o=look sites o:=by
 induction us generalizing sites with
 |nil=>rfl
 |cons p us ih=>
  obtain⟨n,s⟩:=p;simp only[keys,bR,not_or] at h;simp only[bB];rw[ih h.2,dn];have:¬n=o:=fun e=>h.1 e.symm
  simp[this]
theorem Hf{aE:Type}{us:List (Nat×aE)}{o:Nat}{s:aE}(h:(o,s)∈us):o∈keys us:=by
 induction us with
 |nil=>simp at h
 |cons p us ih=>
  rcases bR.1 h with rfl|h
  ·exact cj
  ·exact ci _ (ih h)
theorem Ac{aE:Type}{us:List (Nat×aE)}{o:Nat}(h:o∈keys us):∃s,(o,s)∈us:=by
 induction us with
 |nil=>simp[keys] at h
 |cons p us ih=>
  obtain⟨n,s⟩:=p;rcases bR.1 h with h|h
  ·exact⟨s,by rw[h];exact cj⟩
  ·obtain⟨aQ,an⟩:=ih h;exact⟨aQ,ci _ an⟩
section
variable {U:World}{Z:List Nat}{X:Nat->Prop}{F:Nat->Value}{st:ao}{M:Array Value}{w:World}
theorem az.arA:∀{us:List (Nat×Site)} {st:ao} {X:Nat->Prop},az U Z X F st M w->hO st.sites us->(keys us).Nodup->
  az U Z (fun b=>X b\/b∈dy F (keys us)) F {st with sites:=bB st.sites us} M w:=by
 intro us;induction us with
 |nil=>intro st X S _ _;exact S.shrink fun b h=>by rcases h with h|h;exact h;simp[keys,dy] at h
 |cons p us ih=>
  obtain⟨o,aQ⟩:=p;intro st X S hg hn;obtain⟨ai,h1,h2,rfl⟩:=hg o aQ cj;simp only[keys,List.nodup_cons] at hn;have dO:=S.kill h1 h2;have iC:=ih dO (fun ae s hm=>by
   obtain⟨t,aG,aK,bP⟩:=hg ae s (ci _ hm);have:¬o=ae:=fun e=>hn.1 (by rw[e];exact Hf hm)
   exact⟨t,by simp[dn,this,aG],aK,bP⟩) hn.2
  refine iC.shrink fun b h=>?_
  rcases h with h|h
  ·exact .inl (.inl h)
  ·simp only[keys,dy,List.filterMap_cons] at h;cases hb:b0 (F o) with
   |none=>simp only[hb] at h;exact .inr h
   |some c=>
    simp only[hb,bR] at h;rcases h with rfl|h
    ·exact .inl (.inr rfl)
    ·exact .inr h
structure kf(U:World)(Z:List Nat)(X X':Nat->Prop)(F a_:Nat->Value)(st:ao)(M:Array Value)(w:World)(us:List (Nat×Site)):Prop where
 jP:az U Z X' a_ {st with sites:=bB st.sites us} M w
 le:∀c,aN X' a_ (bB st.sites us) c->aN X F st.sites c
 go:∀{a v},cy F st.sites w (aN X F st.sites) a v->cy a_ (bB st.sites us) w (aN X' a_ (bB st.sites us)) a v
 same:∀o,o∉keys us->a_ o=F o
theorem kf.nil{X':Nat->Prop}(S:az U Z X F st M w)(h:∀b,X' b->X b):kf U Z X X' F F st M w []:=
 ⟨S.shrink h,fun c hc=>by
  rcases hc with hc|hc
  ·exact .inl (h c hc)
  ·exact .inr hc,fun k=>k.hT (fun c hc=>by
   rcases hc with hc|hc
   ·exact .inl (h c hc)
   ·exact .inr hc) (fun c hc=>(S.shrink h).lt hc),fun _ _=>rfl⟩
theorem kf.trans{dp cP:Nat->Prop}{hh iN:Nat->Value}{us vs:List (Nat×Site)}(A:kf U Z X dp F hh st M w us)(bx:kf U Z dp cP hh iN {st with sites:=bB st.sites us} M w vs):
  kf U Z X cP F iN st M w (us++vs):=by
 refine⟨?_,?_,?_,fun o h=>?_⟩
 ·rw[lG];exact bx.jP
 ·rw[lG];exact fun c hc=>A.le c (bx.le c hc)
 ·rw[lG];exact fun h=>bx.go (A.go h)
 ·rw[kr,bo,not_or] at h;rw[bx.same o h.2,A.same o h.1]
theorem kf.one{X':Nat->Prop}{n:Nat}{b':Site}{nv:Value}(S:az U Z X F st M w)(gV:∀b,X' b->X b)
  (ej:(∀ai,look st.sites n=some ai->ai.cL<b'.cL)\/(F n=nv/\∀ai,look st.sites n=some ai->ai.cL=b'.cL/\ai.live=false))
  (hb:∀b,b0 nv=some b->X b/\¬X' b/\(b∈Z\/U.heap.size<=b))
  (f':∀{b_:List (Nat×Site)} {a_:Nat->Value},b_=cI st.sites n b'->a_ n=nv->(∀{a v},cy F st.sites w (aN X F st.sites) a v->cy a_ b_ w (aN X' a_ b_) a v)->
   (∀b,aN X' a_ b_ b->aN X F st.sites b)->kz a_ b_ w (aN X' a_ b_) n b'):
  kf U Z X X' F (fun ae=>if ae=n then nv else F ae) st M w [(n,b')]:=by
 obtain⟨h1,h2,h3⟩:=S.wZ gV ej hb f';exact⟨h1,h2,h3,fun o h=>by
  simp only[keys,List.mem_singleton] at h;simp[h]⟩
theorem FN{av cz:Nat->Prop}{l:aU}{v:Value}{sites:List (Nat×Site)}(hf:∀t xs,l≠.fresh t xs)(h:ey mJ [] w av l v)(hle:∀b,cz b->av b)(hlt:∀b,cz b->b<w.heap.size):ey F sites w cz l v:=by
 have hT:∀{d:bk} {v:Value},bU w av d v->bU w cz d v:=fun h=>cy.hT (F:=F) (sites:=[]) (a:=one _) hle hlt h
 cases l with
 |d x=>exact hT h
 |nil t=>exact h
 |own o s=>obtain⟨_,_,h,_⟩:=h;cases h
 |ptr o s off=>obtain⟨_,_,_,h,_⟩:=h;cases h
 |eZ cells off=>
  obtain⟨b,D,h1,h2,h3,cs,aD,bn,cl⟩:=h;exact⟨b,D,h1,fun hx=>h2 (hle b hx),h3,cs,aD,bn,fun j g1 g2=>hT (cl j g1 g2)⟩
 |fr o s t k off=>obtain⟨_,_,_,h,_⟩:=h;cases h
 |clo g bN=>
  obtain⟨vs,h1,h2,h3⟩:=h;match bN,vs,h2 with
  |[],[],_=>exact⟨[],h1,rfl,fun i h=>by simp at h⟩
  |c::bN,v::vs,_=>obtain⟨_,h,_⟩:=h3 0 (by simp) (by simp);cases h
 |de u=>exact h
 |fresh t xs=>exact absurd rfl (hf t xs)
 |dM=>trivial
 |any=>trivial
theorem cN.go{a_:Nat->Value}{sites b_:List (Nat×Site)}{w':World}{av cz:Nat->Prop}(go:∀{a:bb} {v:Value},cy F sites w av a v->cy a_ b_ w' cz a v){al:List aU}{vs:List Value}
  (h:cN F sites w av al vs):cN a_ b_ w' cz al vs:=Ck go h
structure Left(U:World)(Z:List Nat)(X:Nat->Prop)(F:Nat->Value)(st:ao)(av:Nat->Prop)(bs:List Nat):Prop where
 nodup:bs.Nodup
 cF:∀b,b∈bs->¬X b/\(b∈Z\/U.heap.size<=b)
 le:∀c,aN (fun b=>X b\/b∈bs) F st.sites c->av c
def l1(bM:ao)(sites:List (Nat×Site))(gH:List Nat):Prop:=∀m,m∈gH->∀ai,look sites m=some ai->ai.cL<bF bM m
theorem l1.step{bM:ao}{sites us:List (Nat×Site)}{gH:List Nat}(h:l1 bM sites gH)(aa:∀n,n∈keys us->n∉gH):l1 bM (bB sites us) gH:=by
 intro m hm ai hs;rw[oh (fun an=>aa m an hm)] at hs
 exact h m hm ai hs
theorem agD{u:Bool}{e:TypeId}{s:Nat}{v:Value}{n:Nat}{cs:List Value}(h:rowAt w u e s v n cs):v.oneCell'=true:=by
 rcases h.2 with⟨h,_⟩|⟨g,cap,cur,fz,h,_⟩<;>rw[h]<;>rfl
theorem S3{av:Nat->Prop}(bM:ao):∀(al:List aU) (n:Nat) {F:Nat->Value} {st:ao} {vs:List Value} {bs rest:List Nat},az U Z (fun b=>X b\/b∈bs++rest) F st M w->l2 w av al vs bs->
  Left U Z X F st av (bs++rest)->l1 bM st.sites (keys (take bM n al).2)->(keys (take bM n al).2).Nodup->
  ∃a_,kf U Z (fun b=>X b\/b∈bs++rest) (fun b=>X b\/b∈rest) F a_ st M w (take bM n al).2/\cN a_ (bB st.sites (take bM n al).2) w (aN (fun b=>X b\/b∈rest) a_ (bB st.sites (take bM n al).2)) (take bM n al).1 vs/\
   Left U Z X a_ {st with sites:=bB st.sites (take bM n al).2} av rest:=by
 intro al;induction al with
 |nil=>
  intro n F st vs bs rest S h L eJ aa;match vs,h with
  |[],h=>
   have h:bs=[]:=h;subst h;exact⟨F,.nil S (fun b hb=>hb),.nil,L⟩
 |cons l al ih=>
  intro n F st vs bs rest S h L eJ aa;match vs,h with
  |v::vs,⟨b1,b2,eS,h1,h2⟩=>
   subst eS;by_cases hf:∃t xs,l=.fresh t xs
   ·obtain⟨t,xs,rfl⟩:=hf;obtain⟨hb1,e,cs,aP,hr⟩:=h1;simp only[take,keys,List.nodup_cons] at aa eJ;have lk:=L.nodup;rw[List.append_assoc,hb1] at lk;have dv:kf U Z (fun b=>X b\/b∈b1++b2++rest) (fun b=>X b\/b∈b2++rest) F (fun ae=>if ae=n then v else F ae) st M w [(n,.row (bF bM n) t xs)]:=by
     refine .one S (fun b hb=>?_) (.inl fun ai hs=>eJ n cj ai hs) (fun b hb=>?_) (fun gp kF go le=>?_)
     ·rcases hb with hb|hb
      ·exact .inl hb
      ·exact .inr (by rw[List.append_assoc];exact bo.2 (.inr hb))
     ·have hm:b∈b1:=by rw[hb1,hb];simp
      have m_:b∈b1++b2++rest:=by rw[List.append_assoc];exact bo.2 (.inl hm)
      refine⟨.inr m_,?_,(L.cF b m_).2⟩;rintro(hx|hx)
      ·exact(L.cF b m_).1 hx
      ·rw[hb] at lk;simp only[Option.toList_some,List.singleton_append,List.nodup_cons] at lk;exact lk.1 hx
     ·refine⟨e,cs,by rw[kF];exact aP,fun j g1 g2=>?_⟩
      have k:=hr.2 j g1 g2;have hle:∀b,aN (fun b=>X b\/b∈b2++rest) _ _ b->av b:=fun b hb=>L.le b (le b hb)
      exact cy.hT (F:=F) (sites:=[]) (a:=one _) hle (fun b hb=>S.lt (le b hb)) k
    have sI:Left U Z X (fun ae=>if ae=n then v else F ae) {st with sites:=bB st.sites [(n,.row (bF bM n) t xs)]} av (b2++rest):=by
     refine⟨(List.nodup_append.1 (by rw[List.append_assoc] at L;exact L.nodup)).2.1,fun b hb=>L.cF b (by rw[List.append_assoc];exact bo.2 (.inr hb)),fun c hc=>L.le c (dv.le c hc)⟩
    obtain⟨a_,eW,h3,aD⟩:=ih (n+1) (st:={st with sites:=bB st.sites [(n,.row (bF bM n) t xs)]}) dv.jP h2 sI
     (l1.step (us:=[(n,.row (bF bM n) t xs)]) (fun m hm=>eJ m (ci _ hm)) (fun m hm=>by simp only[keys,List.mem_singleton] at hm;subst hm;exact aa.1)) aa.2
    refine⟨a_,dv.trans eW,?_,aD⟩;refine cN.cons ?_ h3;have:ey (fun ae=>if ae=n then v else F ae) (bB st.sites [(n,.row (bF bM n) t xs)]) w (aN (fun b=>X b\/b∈b2++rest) (fun ae=>if ae=n then v else F ae) (bB st.sites [(n,.row (bF bM n) t xs)])) (.own n (bF bM n)) v:=
     ⟨agD aP,Ref.mk (ai:=.row (bF bM n) t xs) (by simp[bB,dn]) rfl (by simp)⟩
    exact eW.go (a:=cf (.own n (bF bM n))) (v:=v) this
   ·have M4:∀t xs,l≠.fresh t xs:=fun t xs h=>hf ⟨t,xs,h⟩
    have arW:take bM n (l::al)=(l::(take bM (n+1) al).1,(take bM (n+1) al).2):=by
     cases l<;>first|rfl|exact absurd rfl (M4 _ _)
    have h1':b1=[]/\ey mJ [] w av l v:=by
     cases l<;>first|exact h1|exact absurd rfl (M4 _ _)
    obtain⟨rfl,h1'⟩:=h1';rw[arW] at aa eJ ⊢;simp only[List.nil_append] at S L ⊢;obtain⟨a_,eW,h3,aD⟩:=ih (n+1) S h2 L eJ aa;refine⟨a_,eW,?_,aD⟩;refine cN.cons ?_ h3;exact FN M4 h1' (fun b hb=>L.le b (eW.le b hb)) (fun b hb=>eW.jP.lt hb)
end
section
variable {U:World}{Z:List Nat}{X:Nat->Prop}{F:Nat->Value}{st:ao}{M:Array Value}{w:World}
def p'(F:Nat->Value)(sites:List (Nat×Site))(w:World)(av:Nat->Prop)(as:List b5)(vs:List Value):Prop:=
 vs.length=as.length/\∀j (h:j<as.length) (an:j<vs.length),hU F sites w av (as[j]) (vs[j])
theorem p'.cons{sites:List (Nat×Site)}{av:Nat->Prop}{a:b5}{as:List b5}{v:Value}{vs:List Value}(h:hU F sites w av a v)(hs:p' F sites w av as vs):p' F sites w av (a::as) (v::vs):=
 ⟨by simp[hs.1],fun j h1 h2=>by
  cases j with
  |zero=>exact h
  |succ j=>exact hs.2 j (by simpa using h1) (by simpa using h2)⟩
theorem Left.rest{av:Nat->Prop}{a b:List Nat}(L:Left U Z X F st av (a++b)){a_:Nat->Value}{au:ao}(h:∀c,aN (fun c=>X c\/c∈b) a_ au.sites c->aN (fun c=>X c\/c∈a++b) F st.sites c):Left U Z X a_ au av b:=
 ⟨(List.nodup_append.1 L.nodup).2.1,fun c hc=>L.cF c (bo.2 (.inr hc)),fun c hc=>L.le c (h c hc)⟩
theorem aiG{bM:ao}{n:Nat}{al:List aU}(h:(take bM n al).1.head?=some .dM):al.head?=some .dM:=by
 cases al with
 |nil=>cases h
 |cons l al=>cases l<;>first|exact h|cases h
theorem take_one(bM:ao)(n:Nat)(l:aU):∃gU,(take bM n [l]).1=[gU]:=by cases l<;>exact⟨_,rfl⟩
theorem akx{av:Nat->Prop}(bM:ao):∀(as:List b5) (n:Nat) {F:Nat->Value} {st:ao} {vs:List Value} {bs rest:List Nat},az U Z (fun b=>X b\/b∈bs++rest) F st M w->lT w av as vs bs->
  Left U Z X F st av (bs++rest)->l1 bM st.sites (keys (eC bM n as).2)->(keys (eC bM n as).2).Nodup->
  ∃a_,kf U Z (fun b=>X b\/b∈bs++rest) (fun b=>X b\/b∈rest) F a_ st M w (eC bM n as).2/\p' a_ (bB st.sites (eC bM n as).2) w (aN (fun b=>X b\/b∈rest) a_ (bB st.sites (eC bM n as).2)) (eC bM n as).1 vs/\
   Left U Z X a_ {st with sites:=bB st.sites (eC bM n as).2} av rest:=by
 intro as;induction as with
 |nil=>
  intro n F st vs bs rest S h L eJ aa;match vs,h with
  |[],h=>
   have h:bs=[]:=h;subst h;exact⟨F,.nil S (fun b hb=>hb),⟨rfl,fun j h=>by simp[eC] at h⟩,L⟩
 |cons a as ih=>
  intro n F st vs bs rest S h L eJ aa;match vs,h with
  |v::vs,⟨b1,b2,eS,h1,h2⟩=>
   subst eS;have go:∀(al:List aU) (us:List Value),l2 w av al us b1->(eC bM n (a::as)).2=(take bM n al).2++(eC bM (n+100) as).2->
     ∃a_,kf U Z (fun b=>X b\/b∈b1++b2++rest) (fun b=>X b\/b∈rest) F a_ st M w (eC bM n (a::as)).2/\cN a_ (bB st.sites (eC bM n (a::as)).2) w (aN (fun b=>X b\/b∈rest) a_ (bB st.sites (eC bM n (a::as)).2)) (take bM n al).1 us/\
      p' a_ (bB st.sites (eC bM n (a::as)).2) w (aN (fun b=>X b\/b∈rest) a_ (bB st.sites (eC bM n (a::as)).2)) (eC bM (n+100) as).1 vs/\Left U Z X a_ {st with sites:=bB st.sites (eC bM n (a::as)).2} av rest:=by
    intro al us bV e;rw[e] at eJ aa ⊢;rw[kr] at eJ aa;obtain⟨d1,d2,d3⟩:=List.nodup_append.1 aa;rw[List.append_assoc] at S L ⊢;obtain⟨hh,dv,aG,sI⟩:=S3 bM al n S bV L (fun m hm=>eJ m (bo.2 (.inl hm))) d1
    obtain⟨iN,eW,aK,vg⟩:=ih (n+100) (st:={st with sites:=bB st.sites (take bM n al).2}) dv.jP h2 sI
     (l1.step (fun m hm=>eJ m (bo.2 (.inr hm))) (fun m hm m_=>d3 m hm m m_ rfl)) d2
    refine⟨iN,dv.trans eW,?_,?_,?_⟩
    ·rw[lG];exact aG.go eW.go
    ·rw[lG];exact aK
    ·rw[lG];exact vg
   cases a with
   |aq l=>
    have h1:nJ w av l v b1:=h1;obtain⟨a_,T,aG,aK,bP⟩:=go [l] [v] ⟨b1,[],by simp,h1,rfl⟩ rfl
    refine⟨a_,T,?_,bP⟩;obtain⟨gU,gR⟩:=take_one bM n l;have:(eC bM n (b5.aq l::as)).1=b5.aq gU::(eC bM (n+100) as).1:=by simp only[eC,gR]
    rw[this];refine p'.cons ?_ aK;rw[gR] at aG;exact aG.2 0 (by simp) (by simp)
   |agg al=>
    obtain⟨us,e,h1⟩:=h1;obtain⟨a_,T,aG,aK,bP⟩:=go al us h1 rfl;refine⟨a_,T,?_,bP⟩;have:(eC bM n (b5.agg al::as)).1=b5.agg (take bM n al).1::(eC bM (n+100) as).1:=rfl;rw[this];exact p'.cons ⟨us,e,aG.1,aG.2⟩ aK
def n_(F:Nat->Value):List (Nat×Nat)->List Nat->Prop
 |[],[]=>True
 |p::r,b::dV=>F p.1=.pointer (some ⟨b,0,none⟩)/\n_ F r dV
 |_,_=>False
theorem n_.of:∀{boxes:List (Nat×Nat)},(∀o s,(o,s)∈boxes->∃b,F o=.pointer (some ⟨b,0,none⟩))->n_ F boxes (dy F (keys boxes)):=by
 intro boxes;induction boxes with
 |nil=>intro _;trivial
 |cons q boxes ih=>
  obtain⟨ρ,r⟩:=q;intro h;obtain⟨c,hc⟩:=h ρ r cj;have:=ih fun o s hm=>h o s (ci _ hm)
  have e:dy F (keys ((ρ,r)::boxes))=c::dy F (keys boxes):=by simp[dy,keys,hc,b0]
  rw[e];exact⟨hc,this⟩
theorem n_.congr{a_:Nat->Value}:∀{boxes:List (Nat×Nat)} {dV:List Nat},n_ F boxes dV->(∀ae,ae∈keys boxes->a_ ae=F ae)->n_ a_ boxes dV:=by
 intro boxes;induction boxes with
 |nil=>
  intro dV h _;match dV,h with
  |[],_=>trivial
 |cons q boxes ih=>
  intro dV h an;match dV,h with
  |b::dV,⟨h1,h2⟩=>exact⟨by rw[an q.1 cj];exact h1,ih h2 fun ae b7=>an ae (ci _ b7)⟩
theorem PP{av:Nat->Prop}{bM:ao}{ae:Nat}:∀{boxes:List (Nat×Nat)} {c_:List (List aU)} {dV bs:List Nat},n_ F boxes dV->jH w av dV c_ bs->ae∈keys boxes->ae∈keys (hL bM boxes c_):=by
 intro boxes;induction boxes with
 |nil=>intro c_ dV bs _ _ h;simp[keys] at h
 |cons q boxes ih=>
  obtain⟨ρ,r⟩:=q;intro c_ dV bs hl bV hm;match dV,c_,hl,bV with
  |c::dV,cs::c_,⟨_,hl⟩,⟨_,_,_,_,bV⟩=>
   simp only[hL,kr,keys,bo,bR];rcases bR.1 hm with rfl|hm
   ·exact .inr (.inl rfl)
   ·exact .inr (.inr (ih hl bV hm))
theorem RR{av:Nat->Prop}(bM:ao):∀(boxes:List (Nat×Nat)) {c_:List (List aU)} {F:Nat->Value} {st:ao} {dV bs rest:List Nat},az U Z (fun b=>X b\/b∈bs++rest) F st M w->n_ F boxes dV->jH w av dV c_ bs->
  (∀o s,(o,s)∈boxes->look st.sites o=some (.dead s))->
  Left U Z X F st av (bs++rest)->l1 bM st.sites (keys (hL bM boxes c_))->(keys (hL bM boxes c_)).Nodup->
  ∃a_,kf U Z (fun b=>X b\/b∈bs++rest) (fun b=>X b\/b∈rest) F a_ st M w (hL bM boxes c_)/\Left U Z X a_ {st with sites:=bB st.sites (hL bM boxes c_)} av rest:=by
 intro boxes;induction boxes with
 |nil=>
  intro c_ F st dV bs rest S fk h hB L eJ aa;match dV,c_,fk,h with
  |[],[],_,h=>
   have h:bs=[]:=h;subst h;exact⟨F,.nil S (fun b hb=>hb),L⟩
 |cons p boxes ih=>
  obtain⟨o,s⟩:=p;intro c_ F st dV bs rest S fk h hB L eJ aa;have bG:=hB o s cj;match dV,c_,fk,h with
  |b::dV,cs::c_,⟨hb,fk⟩,⟨b1,b2,eS,⟨T,cur,qB,e1,e2,bE,dN⟩,h2⟩=>
   subst eS e1;have hb:F o=.pointer (some ⟨b,0,none⟩):=hb;have sC:hL bM ((o,s)::boxes) (cs::c_)=(take bM (1000000+o*100) cs).2++([(o,Site.box s (take bM (1000000+o*100) cs).1)]++hL bM boxes c_):=rfl;rw[sC] at eJ aa ⊢;rw[kr,kr] at eJ aa;obtain⟨d1,d2,d3⟩:=List.nodup_append.1 aa;obtain⟨d4,d5,d6⟩:=List.nodup_append.1 d2;have C9:∀c,c∈b::qB++b2++rest <-> c∈qB++(b::(b2++rest)):=by intro c;simp[or_assoc,or_left_comm]
   have azZ:=L.nodup;have dO:az U Z (fun c=>X c\/c∈qB++(b::(b2++rest))) F st M w:=S.shrink fun c hc=>hc.imp id (C9 c).2
   have sI:Left U Z X F st av (qB++(b::(b2++rest))):=by
    refine⟨?_,fun c hc=>L.cF c ((C9 c).2 hc),fun c hc=>L.le c ?_⟩
    ·have:List.Perm (b::qB++b2++rest) (qB++(b::(b2++rest))):=by
      simp only[List.cons_append,List.append_assoc];exact List.perm_middle.symm
     exact this.nodup_iff.1 azZ
    ·rcases hc with hc|hc
     ·exact .inl (hc.imp id (C9 c).2)
     ·exact .inr hc
   obtain⟨hh,dv,aG,vg⟩:=S3 bM cs (1000000+o*100) dO dN.2 sI (fun m hm=>eJ m (bo.2 (.inl hm))) d1
   have ZS:o∉keys (take bM (1000000+o*100) cs).2:=fun h=>d3 o h o (by simp[keys]) rfl
   have Lo:hh o=F o:=dv.same o ZS;have hY:look (bB st.sites (take bM (1000000+o*100) cs).2) o=some (.dead s):=by rw[oh ZS,bG]
   have ac1:=vg.nodup;simp only[List.nodup_cons] at ac1;have eW:kf U Z (fun c=>X c\/c∈b::(b2++rest)) (fun c=>X c\/c∈b2++rest) hh (fun ae=>if ae=o then F o else hh ae) {st with sites:=bB st.sites (take bM (1000000+o*100) cs).2} M w [(o,Site.box s (take bM (1000000+o*100) cs).1)]:=by
    refine .one dv.jP (fun c hc=>hc.imp id (ci _)) (.inr ⟨Lo,fun ai hs=>?_⟩) (fun c hc=>?_) (fun gp kF go le=>?_)
    ·have hs:look (bB st.sites (take bM (1000000+o*100) cs).2) o=some ai:=hs;rw[hY] at hs;cases hs;exact⟨rfl,rfl⟩
    ·rw[hb] at hc;cases hc;refine⟨.inr cj,?_,(vg.cF b cj).2⟩;rintro(hx|hx)
     ·exact(vg.cF b cj).1 hx
     ·exact ac1.1 hx
    ·have:=Ck go aG;exact⟨b,T,cur,by rw[kF,hb],e2,this.1,bE,fun bV=>dN.1 (aiG bV),this.2⟩
   have OD:Left U Z X (fun ae=>if ae=o then F o else hh ae) {st with sites:=bB (bB st.sites (take bM (1000000+o*100) cs).2) [(o,Site.box s (take bM (1000000+o*100) cs).1)]} av (b2++rest):=
    Left.rest (a:=[b]) (st:={st with sites:=bB st.sites (take bM (1000000+o*100) cs).2}) vg eW.le
   have hbk:∀ae,ae∈keys boxes->(fun ae=>if ae=o then F o else hh ae) ae=F ae:=by
    intro ae b7;have hk:=PP (bM:=bM) fk h2 b7;by_cases e:ae=o
    ·subst e;simp
    ·simp only[e,if_false];exact dv.same ae fun hm=>d3 ae hm ae (bo.2 (.inr hk)) rfl
   obtain⟨a_,gv,OC⟩:=ih (st:={st with sites:=bB (bB st.sites (take bM (1000000+o*100) cs).2) [(o,Site.box s (take bM (1000000+o*100) cs).1)]}) eW.jP (fk.congr hbk) h2
    (fun ae r hm=>by
     have hk:=PP (bM:=bM) fk h2 (Hf hm);show look (bB (bB st.sites _) _) ae=_;rw[oh (fun h=>d6 ae h ae hk rfl),oh (fun h=>d3 ae h ae (bo.2 (.inr hk)) rfl)]
     exact hB ae r (ci _ hm))
    OD
    (l1.step (l1.step (fun m hm=>eJ m (bo.2 (.inr (bo.2 (.inr hm))))) (fun m hm m_=>d3 m hm m (bo.2 (.inr m_)) rfl)) (fun m hm m_=>d6 m hm m m_ rfl)) d5
   refine⟨a_,?_,?_⟩
   ·have azN:=dv.trans eW;have Ox:kf U Z (fun c=>X c\/c∈b::qB++b2++rest) (fun c=>X c\/c∈qB++(b::(b2++rest))) F F st M w []:=.nil S fun c hc=>hc.imp id (C9 c).2
    have auM:=Ox.trans (vs:=(take bM (1000000+o*100) cs).2++[(o,Site.box s (take bM (1000000+o*100) cs).1)]) azN;have:=auM.trans (vs:=hL bM boxes c_) (by simpa only[List.nil_append,lG] using gv)
    simpa only[List.nil_append,List.append_assoc] using this
   ·simpa only[lG] using OC
end
theorem Fh{us:List (Nat×Site)}:∀{sites:List (Nat×Site)} {o:Nat} {s:Site},(keys us).Nodup->(o,s)∈us->look (bB sites us) o=some s:=by
 induction us with
 |nil=>intro sites o s _ h;simp at h
 |cons p us ih=>
  obtain⟨n,aQ⟩:=p;intro sites o s hn hm;simp only[keys,List.nodup_cons] at hn;simp only[bB];rcases bR.1 hm with hm|hm
  ·cases hm;rw[oh hn.1,dn];simp
  ·exact ih hn.2 hm
section plain
variable {w:World}{av cz:Nat->Prop}
theorem Ss{d:bk}{v:Value}(h:aU.pO (.d d)=false)(r:bU w av d v):bU w cz d v:=by
 cases r with
 |int k n=>exact .int k n
 |bool b=>exact .bool b
 |str l s hs=>exact .str l s hs
 |nil t=>cases h
 |sl=>cases h
 |fn=>cases h
 |w9=>cases h
 |map=>cases h
 |xk T=>exact .xk T
 |err T n=>exact .err T n
theorem ajV{t:bi}(h:t.pO=false)(x:den t):∀d,d∈enc t x->aU.pO (.d d)=false:=by
 cases t<;>first|(cases h;done)|(intro d aa;simp only[enc,bR,List.not_mem_nil,or_false] at aa;(rcases aa with rfl|rfl|rfl|rfl|rfl);all_goals rfl)|skip
 all_goals(intro d aa;simp only[enc,bR,List.not_mem_nil,or_false] at aa)
 all_goals first|(subst aa;rfl)|(rcases aa with rfl|rfl<;>rfl)|(rcases aa with rfl|rfl|rfl<;>rfl)|(rcases aa with rfl|rfl|rfl|rfl<;>rfl)
theorem aiY{t:bi}{xs:List (den t)}{cs:List Value}(h:t.pO=false)(r:dl w av (flat t xs) cs):dl w cz (flat t xs) cs:=by
 refine⟨r.1,fun j g1 g2=>Ss ?_ (r.2 j g1 g2)⟩
 have hm:(flat t xs)[j]∈flat t xs:=List.getElem_mem g1;simp only[flat,List.mem_flatMap] at hm;obtain⟨x,_,hx⟩:=hm;exact ajV h x _ hx
theorem PC{l:aU}{v:Value}{bs:List Nat}(h:l.pO=false)(k:nJ w av l v bs):nJ w cz l v bs:=by
 cases l with
 |d x=>exact⟨k.1,Ss h k.2⟩
 |fresh t xs=>
  obtain⟨h1,e,cs,h2,h3⟩:=k;exact⟨h1,e,cs,h2,aiY h h3⟩
 |de v=>exact k
 |dM=>exact k
 |_=>cases h
theorem PA:∀{al:List aU} {vs:List Value} {bs:List Nat},sZ al=false->l2 w av al vs bs->l2 w cz al vs bs:=by
 intro al;induction al with
 |nil=>
  intro vs bs _ k;match vs,k with
  |[],k=>exact k
 |cons l al ih=>
  intro vs bs h k;simp only[sZ,Bool.or_eq_false_iff] at h;match vs,k with
  |v::vs,⟨b1,b2,aG,aK,bP⟩=>exact⟨b1,b2,aG,PC h.1 aK,ih h.2 bP⟩
theorem af4:∀{as:List b5} {vs:List Value} {bs:List Nat},sS as=false->lT w av as vs bs->lT w cz as vs bs:=by
 intro as;induction as with
 |nil=>
  intro vs bs _ k;match vs,k with
  |[],k=>exact k
 |cons a as ih=>
  intro vs bs h k;simp only[sS,Bool.or_eq_false_iff] at h;match vs,k with
  |v::vs,⟨b1,b2,aG,aK,bP⟩=>
   refine⟨b1,b2,aG,?_,ih h.2 bP⟩;cases a with
   |aq l=>
    have h1:=h.1;simp only[b5.cells,sZ,Bool.or_false] at h1;exact PC h1 aK
   |agg al=>
    obtain⟨us,e,aK⟩:=aK;exact⟨us,e,PA h.1 aK⟩
theorem af3:∀{c_:List (List aU)} {dV bs:List Nat},sR c_=false->jH w av dV c_ bs->jH w cz dV c_ bs:=by
 intro c_;induction c_ with
 |nil=>
  intro dV bs _ k;match dV,k with
  |[],k=>exact k
 |cons a as ih=>
  intro dV bs h k;simp only[sR,Bool.or_eq_false_iff] at h;match dV,k with
  |b::dV,⟨b1,b2,aG,⟨T,cur,pc,e1,e2,bE,dN,fp⟩,bP⟩=>
   exact⟨b1,b2,aG,⟨T,cur,pc,e1,e2,bE,dN,PA h.1 fp⟩,ih h.2 bP⟩
theorem SG{l:aU}{v:Value}{bs:List Nat}(k:nJ w av l v bs):∀b,b∈bs->b<w.heap.size:=by
 cases l with
 |fresh t xs=>
  obtain⟨h1,e,cs,h2,h3⟩:=k;intro b hb;rw[h1] at hb;rcases h2.2 with⟨h,_⟩|⟨g,cap,cur,fz,h,_,hg,_⟩
  ·rw[h] at hb;simp[b0] at hb
  ·rw[h] at hb;simp[b0] at hb;subst hb;exact(Array.getElem?_eq_some_iff.1 hg).1
 |_=>intro b hb;rw[k.1] at hb;simp at hb
theorem SF:∀{al:List aU} {vs:List Value} {bs:List Nat},l2 w av al vs bs->∀b,b∈bs->b<w.heap.size:=by
 intro al;induction al with
 |nil=>
  intro vs bs k;match vs,k with
  |[],k=>have k:bs=[]:=k;intro b hb;rw[k] at hb;simp at hb
 |cons l al ih=>
  intro vs bs k;match vs,k with
  |v::vs,⟨b1,b2,aG,aK,bP⟩=>
   intro b hb;rw[aG] at hb;rcases bo.1 hb with hb|hb
   ·exact SG aK b hb
   ·exact ih bP b hb
theorem ajN:∀{as:List b5} {vs:List Value} {bs:List Nat},lT w av as vs bs->∀b,b∈bs->b<w.heap.size:=by
 intro as;induction as with
 |nil=>
  intro vs bs k;match vs,k with
  |[],k=>have k:bs=[]:=k;intro b hb;rw[k] at hb;simp at hb
 |cons a as ih=>
  intro vs bs k;match vs,k with
  |v::vs,⟨b1,b2,aG,aK,bP⟩=>
   intro b hb;rw[aG] at hb;rcases bo.1 hb with hb|hb
   ·cases a with
    |aq l=>exact SG (show nJ w av l v b1 from aK) b hb
    |agg al=>obtain⟨us,e,aK⟩:=aK;exact SF aK b hb
   ·exact ih bP b hb
theorem Rl:∀{c_:List (List aU)} {dV bs:List Nat},jH w av dV c_ bs->∀b,b∈bs->b<w.heap.size:=by
 intro c_;induction c_ with
 |nil=>
  intro dV bs k;match dV,k with
  |[],k=>have k:bs=[]:=k;intro b hb;rw[k] at hb;simp at hb
 |cons a as ih=>
  intro dV bs k;match dV,k with
  |c::dV,⟨b1,b2,aG,⟨T,cur,pc,e1,e2,bE,_,dN⟩,bP⟩=>
   intro b hb;rw[aG] at hb;rcases bo.1 hb with hb|hb
   ·rw[e1] at hb;rcases bR.1 hb with rfl|hb
    ·exact(Array.getElem?_eq_some_iff.1 e2).1
    ·exact SF dN b hb
   ·exact ih bP b hb
end plain
section
variable {P:Program}{U:World}{Z:List Nat}{X:Nat->Prop}{F:Nat->Value}{st:ao}{M:Array Value}{w:World}{D:Oper}
theorem oi{gH:List Nat}{b:Nat}:b∈dy F gH <-> ∃o,o∈gH/\b0 (F o)=some b:=by simp[dy]
theorem Pb(S:az U Z X F st M w):∀{gH:List Nat},gH.Nodup->(∀o,o∈gH->cD st.sites o)->(dy F gH).Nodup:=by
 intro gH;induction gH with
 |nil=>intro _ _;exact List.nodup_nil
 |cons o gH ih=>
  intro hn hl;rw[List.nodup_cons] at hn;have:=ih hn.2 fun ae b7=>hl ae (ci _ b7)
  simp only[dy,List.filterMap_cons] at this ⊢;cases hb:b0 (F o) with
  |none=>simpa using this
  |some b=>
   simp only[List.nodup_cons];refine⟨fun hm=>?_,this⟩
   obtain⟨ae,h1,h2⟩:=oi.1 hm;have:=S.eD o ae b (hl o cj) (hl ae (ci _ h1)) hb h2;subst this;exact hn.1 h1
structure auP(U:World)(Z:List Nat)(X:Nat->Prop)(F:Nat->Value)(st:ao)(M:Array Value)(w:World)(a:kK)(vs:List Value):Prop where
 fz:ei st.sites a.fi
 lb:∀o,o∈a.gy->cD st.sites o
 ob:hO st.sites a.gone
 arg:∀av,fX U Z X F st M w a.fi a.gy av->jD w av a.as vs (dy F (keys a.gone))
 dV:eu a.as vs=dy F (keys a.boxes)
 fN:∀o s,(o,s)∈a.boxes->(o,.dead s)∈a.gone/\∃b,F o=.pointer (some ⟨b,0,none⟩)
theorem PF{us:List (Nat×Site)}{sites:List (Nat×Site)}(aW:ei sites us){o:Nat}(h:cD (bB sites us) o):cD sites o:=by
 obtain⟨ai,h1,h2⟩:=h;rcases mq aW o with h|⟨s,t,xs,aD,bn⟩
 ·exact⟨ai,h▸h1,h2⟩
 ·rw[bn] at h1;cases h1;cases h2
theorem amc(S:az U Z X F st M w){g:FuncId}{aA:aI}(e5:aF P g aA){a:kK}{vs:List Value}(A:auP U Z X F st M w a vs){d:Nat}(aa:cE st D.dst=true)
  (dL:(execOp (Act.eval ⟨M,[]⟩) D).run P w=(callFunc g vs.toArray).run P w):Holds (p_ d st aA a) (c7 P U Z X st M w D):=by
 intro y hy hc;simp only[p_] at y hy hc ⊢;simp only[bz] at hc;obtain⟨⟨⟨⟨c1,c2⟩,c3⟩,du⟩,ht⟩:=hc;rw[sO] at c1 c3;rw[Ru] at c2 du;have sU:∀o,o∈keys a.gone->cD st.sites o:=fun o bG=>by
  obtain⟨s,hs⟩:=Ac bG;obtain⟨ai,h1,h2,_⟩:=A.ob o s hs;exact⟨ai,h1,h2⟩
 have Rh:∀o,o∈keys a.gone->o∉keys a.fi:=fun o h1 h2=>c2 o (bo.2 (.inl h2)) h1
 have aBI:∃X':Nat->Prop,∀b,X' b <-> (aN X F (bB st.sites a.fi) b/\b∉dy F (keys a.gone)/\∀o,o∈a.gy->b0 (F o)≠some b):=⟨_,fun b=>Iff.rfl⟩
 obtain⟨X',uY⟩:=aBI;have ee:fX U Z X F st M w a.fi a.gy (fun b=>X' b\/b∈dy F (keys a.gone)):=by
  refine⟨⟨S,A.fz⟩,fun b hb=>?_,fun o bG b hb hx=>?_⟩
  ·rcases hb with hb|hb
   ·exact((uY b).1 hb).1
   ·obtain⟨o,h1,h2⟩:=oi.1 hb;obtain⟨ai,h3,aD⟩:=sU o h1;exact .inr ⟨o,⟨ai,by rw[oh (Rh o h1)];exact h3,aD⟩,h2⟩
  ·rcases hx with hx|hx
   ·exact((uY b).1 hx).2.2 o bG hb
   ·obtain⟨ae,h1,h2⟩:=oi.1 hx;have:=S.eD o ae b (A.lb o bG) (sU ae h1) hb h2;subst this;exact c2 o (bo.2 (.inr bG)) h1
 have EC:(dy F (keys a.gone)).Nodup:=Pb S c1 sU;have Hz:∀b,b∈dy F (keys a.gone)->¬X b/\(b∈Z\/U.heap.size<=b):=fun b hb=>by
  obtain⟨o,h1,h2⟩:=oi.1 hb;exact S.cF o b (sU o h1) h2
 have adb:∀b,X b->X' b:=fun b hb=>(uY b).2 ⟨.inl hb,fun h=>(Hz b h).1 hb,fun o bG h=>(S.cF o b (A.lb o bG) h).1 hb⟩
 have hG:jg w (dy F (keys a.gone)) X':=by
  obtain⟨g1,g2⟩:=S.ly;refine⟨g1,fun b hb h=>?_,fun b hb h=>?_,fun b hb=>(g2 b hb).2⟩
  ·obtain⟨o,h1,h2⟩:=oi.1 h;exact(g2 b hb).1 (.inr ⟨o,sU o h1,h2⟩)
  ·rcases((uY b).1 h).1 with h|⟨o,h1,h2⟩
   ·exact(g2 b hb).1 (.inl h)
   ·exact(g2 b hb).1 (.inr ⟨o,PF A.fz h1,h2⟩)
 have E:=e5 a.as y hy w X' vs (dy F (keys a.gone)) (A.arg _ ee) EC (fun b hb hx=>((uY b).1 hx).2.1 hb) (fun b hb=>ee.lt (.inl hb)) hG
 intro K Q b6;have core:∀v w',(∃eO eN rv,Fr (dy F (keys a.gone)) w w'/\jH w' (fun b=>X' b\/b∈eO++eN) (eu a.as vs) ((aA a.as).fN y) eO/\lT w' (fun b=>X' b\/b∈eO++eN) ((aA a.as).fH y) rv eN/\
   v=oH rv/\(eO++eN).Nodup/\∀b,b∈eO++eN->¬X' b/\(b∈dy F (keys a.gone)\/w.heap.size<=b))->K ⟨cQ M D.dst v,[]⟩ w':=by
  rintro v w' ⟨eO,eN,rv,aW,hB,er,rfl,lk,hm⟩;obtain⟨sl,iP⟩:∃sl,(sS ((aA a.as).fH y)||sR ((aA a.as).fN y))=sl:=⟨_,rfl⟩;rw[iP] at ht b6;obtain⟨dF,Ez⟩:∃dF,(bif sl then a.fi else [])=dF:=⟨_,rfl⟩
  rw[Ez] at b6;have _a:ei st.sites dF:=by rw[<-Ez];cases sl;exact .nil;exact A.fz
  have arB:∀o,o∈keys dF->o∈keys a.fi:=by rw[<-Ez];cases sl;intro o h;simp[keys] at h;exact fun o h=>h
  have dO:az U Z X F {st with sites:=bB st.sites dF} M w:=S.BN _a
  have ED:hO (bB st.sites dF) a.gone:=fun o s hs=>by
   obtain⟨ai,h1,h2,h3⟩:=A.ob o s hs;exact⟨ai,by rw[oh (fun h=>Rh o (Hf hs) (arB o h))];exact h1,h2,h3⟩
  have iC:=dO.arA ED c1;have jA:=iC.jump (w':=w') (fun b hb hlt=>aW.block b hlt (fun h=>hb (.inr h))) aW.size
   ⟨aW.os.trans S.frame.os,aW.tape.trans S.frame.tape,aW.output.trans S.frame.output,Nat.le_trans S.frame.size aW.size,fun b hlt hb=>by
    rw[aW.block b (Nat.lt_of_lt_of_le hlt S.frame.size) (fun h=>by rcases(Hz b h).2 with an|an;exact hb an;omega)]
    exact S.frame.block b hlt hb⟩
  have ax0:∀b,b∈eO++eN->b<w'.heap.size:=fun b hb=>by
   rcases bo.1 hb with hb|hb
   ·exact Rl hB b hb
   ·exact ajN er b hb
  have mo:az U Z (fun b=>X b\/b∈eO++(eN++[])) F {st with sites:=bB (bB st.sites dF) a.gone} M w':=jA.shrink fun b hb=>by
   rcases hb with hb|hb
   ·exact .inl (.inl hb)
   ·rw[List.append_nil] at hb;rcases(hm b hb).2 with h|h
    ·exact .inl (.inr h)
    ·exact .inr ⟨h,ax0 b hb⟩
  obtain⟨av,Z_,auw,auv⟩:∃av:Nat->Prop,jH w' av (eu a.as vs) ((aA a.as).fN y) eO/\lT w' av ((aA a.as).fH y) rv eN/\
    ∀c,aN (fun b=>X b\/b∈eO++(eN++[])) F (bB (bB st.sites dF) a.gone) c->av c:=by
   cases sl with
   |false=>
    rw[Bool.or_eq_false_iff] at iP;exact⟨_,af3 iP.2 hB,af4 iP.1 er,fun c hc=>hc⟩
   |true=>
    refine⟨_,hB,er,fun c hc=>?_⟩
    rcases hc with(hc|hc)|⟨o,⟨ai,h1,h2⟩,h3⟩
    ·exact .inl (adb c hc)
    ·rw[List.append_nil] at hc;exact .inr hc
    ·refine .inl ((uY c).2 ?_);have bG:o∉keys a.gone:=fun h=>by
      obtain⟨s,hs⟩:=Ac h;rw[Fh c1 hs] at h1;obtain⟨_,_,_,e⟩:=A.ob o s hs;cases h1;rw[e] at h2;cases h2
     rw[oh bG] at h1;have auz:a.fi=dF:=Ez;rw[<-auz] at h1;have live:cD st.sites o:=PF A.fz ⟨ai,h1,h2⟩;refine⟨.inr ⟨o,⟨ai,h1,h2⟩,h3⟩,fun h=>?_,fun ae b7 h=>?_⟩
     ·obtain⟨ae,aG,aK⟩:=oi.1 h;have:=S.eD o ae c live (sU ae aG) h3 aK;subst this;exact bG aG
     ·simp only[bu,Bool.false_or,List.isEmpty_iff] at ht;rw[ht] at b7;simp at b7
  have L:Left U Z X F {st with sites:=bB (bB st.sites dF) a.gone} av (eO++(eN++[])):=by
   refine⟨by simpa using lk,fun b hb=>?_,auv⟩
   rw[List.append_nil] at hb;obtain⟨h1,h2⟩:=hm b hb;refine⟨fun hx=>h1 (adb b hx),?_⟩
   rcases h2 with h2|h2
   ·exact(Hz b h2).2
   ·exact .inr (Nat.le_trans S.frame.size h2)
  have W6:∀gH,l1 st (bB (bB st.sites dF) a.gone) gH:=fun gH m _ ai hs=>by
   have h1:∀ai,look (bB st.sites dF) m=some ai->ai.cL<bF st m:=fun ai hs=>by
    rcases mq _a m with h|⟨s,t,xs,aD,bn⟩
    ·rw[h] at hs;exact mr hs
    ·rw[bn] at hs;cases hs;rcases aD with aD|aD<;>(have q:=mr aD;exact q)
   by_cases hk:m∈keys a.gone
   ·obtain⟨s,gp⟩:=Ac hk;rw[Fh c1 gp] at hs;obtain⟨b',e1,_,bE⟩:=ED m s gp;rw[bE] at hs;cases hs;exact h1 b' e1
   ·rw[oh hk] at hs;exact h1 ai hs
  rw[kr] at c3;obtain⟨d1,d2,d3⟩:=List.nodup_append.1 c3;rw[A.dV] at Z_;obtain⟨hh,dv,sI⟩:=RR st a.boxes (st:={st with sites:=bB (bB st.sites dF) a.gone}) mo (n_.of fun o s hs=>(A.fN o s hs).2) Z_
   (fun o s hs=>Fh c1 (A.fN o s hs).1) L (W6 _) d1
  obtain⟨iN,eW,kG,_⟩:=akx st ((aA a.as).fH y) (2000000+d*10000) (st:={st with sites:=bB (bB (bB st.sites dF) a.gone) (hL st a.boxes ((aA a.as).fN y))}) dv.jP auw sI
   (l1.step (W6 _) (fun n h1 h2=>d3 n h1 n h2 rfl)) d2
  have Oz:az U Z X iN {st with sites:=bB st.sites (dF++a.gone++hL st a.boxes ((aA a.as).fN y)++(eC st (2000000+d*10000) ((aA a.as).fH y)).2)} M w':=by
   have:=eW.jP.shrink (X':=X) fun b hb=>.inl hb
   simpa only[lG] using this
  refine b6 iN _ w' (az.dh Oz aa (v:=WS (eC st (2000000+d*10000) ((aA a.as).fH y)).1) ?_);have Xi:p' iN (bB st.sites (dF++a.gone++hL st a.boxes ((aA a.as).fN y)++(eC st (2000000+d*10000) ((aA a.as).fH y)).2)) w'
    (aN X iN (bB st.sites (dF++a.gone++hL st a.boxes ((aA a.as).fN y)++(eC st (2000000+d*10000) ((aA a.as).fH y)).2))) (eC st (2000000+d*10000) ((aA a.as).fH y)).1 rv:=by
   have e:(fun b=>X b\/b∈([]:List Nat))=X:=by funext b;simp
   rw[e] at kG;simpa only[lG] using kG
  generalize(eC st (2000000+d*10000) ((aA a.as).fH y)).1=ax1 at Xi;match ax1,rv,Xi with
  |[],[],h=>exact⟨[],rfl,rfl,fun j h=>by simp at h⟩
  |[l],[v],h=>exact h.2 0 (by simp) (by simp)
  |l::fU::al,v::v2::cH,h=>exact⟨v::v2::cH,rfl,h.1,h.2⟩
 rcases E with⟨h1,h2⟩|⟨v,w',h1,h2⟩
 ·unfold Oper.wp;rw[dL,h1,Oper.upon_enter];refine h2.mono fun e w' he=>?_
  cases e with
  |returned v=>
   have:=core v w' he;cases dY:D.dst with
   |none=>rw[dY] at this;simpa[Act.put,cQ] using this
   |some t=>rw[dY] at this;simpa[Act.put,cQ] using this
  |panicked c=>exact he.elim
  |outgrown=>exact he.elim
 ·exact pM (dL.trans h1) (core v w' h2)
end
def CY(P:Program)(g:FuncId):Prop:=
 ∀(b:Nat) (p v:Value) (w:World),w.heap[b]? =some (.cells #[p,v] sh (0,0))->(p=.pointer none\/p=.pointer (some ⟨b,0,none⟩))->
  Enters P g #[.pointer (some ⟨b,0,none⟩)] w fun r w'=>r=.tuple #[]/\w'=w.setRow b #[.pointer (some ⟨b,0,none⟩),v]
def Dg(P:Program)(g:FuncId):Prop:=
 ∀(b:Nat) (p v:Value) (T:TypeId) (xs:List Int) (w:World),w.heap[b]? =some (.cells #[p,v] T (0,0))->rowAt w true nd 1 v xs.length (xs.map (Value.int .u8))->
  Enters P g #[.pointer (some ⟨b,0,none⟩)] w fun r w'=>r=.string ⟨(strOf xs).toArray⟩/\w'.os=w.os/\w'.tape=w.tape/\w'.output=w.output/\w.heap.size<=w'.heap.size/\
   (∀c,c<w.heap.size->b0 v≠some c->w'.heap[c]? =w.heap[c]?)/\∀c cur e fz,b0 v=some c->w.heap[c]? =some (.cells cur e fz)->∃fz',w'.heap[c]? =some (.cells cur e fz')
section
variable {P:Program}{U:World}{Z:List Nat}{X:Nat->Prop}{F:Nat->Value}{st:ao}{M:Array Value}{w:World}{D:Oper}
theorem az.alY(S:az U Z X F st M w){o s:Nat}{t:bi}{xs:List (den t)}(hl:look st.sites o=some (.row s t xs)){w':World}(h1:w'.os=w.os)(h2:w'.tape=w.tape)(h3:w'.output=w.output)(aD:w.heap.size<=w'.heap.size)
  (bn:∀c,c<w.heap.size->b0 (F o)≠some c->w'.heap[c]? =w.heap[c]?) (cl:∀c cur e fz,b0 (F o)=some c->w.heap[c]? =some (.cells cur e fz)->∃fz',w'.heap[c]? =some (.cells cur e fz')):
  az U Z X F {st with sites:=cI st.sites o (.dG s t xs)} M w':=by
 have c9:cD st.sites o:=⟨_,hl,rfl⟩;have eF:∀ae,cD (cI st.sites o (.dG s t xs)) ae->cD st.sites ae/\ae≠o:=by
  rintro ae ⟨ai,h1,h2⟩;rw[dn] at h1;by_cases e:o=ae
  ·subst e;simp at h1;subst h1;cases h2
  ·simp only[e,if_false] at h1;exact⟨⟨ai,h1,h2⟩,fun h=>e h.symm⟩
 have cq:∀bS,aN X F (cI st.sites o (.dG s t xs)) bS->aN X F st.sites bS:=by
  rintro bS (h|⟨ae,h1,h2⟩)
  ·exact .inl h
  ·exact .inr ⟨ae,(eF ae h1).1,h2⟩
 have aW:=S.frame;refine S.rC (fun ae ai b7=>?_) (fun bS h hb=>bn bS hb (fun an=>h (.inr ⟨o,c9,an⟩))) (fun bS h _ an=>h (cq bS an)) (fun go ae ai b7=>?_) (fun ae ρ bS h1 h2=>S.eD ae ρ bS (eF ae h1).1 (eF ρ h2).1)
  (fun ae bS h=>S.cF ae bS (eF ae h).1) (fun ae bS h hb=>Nat.lt_of_lt_of_le (S.gf (eF ae h).1 hb) aD)
  ⟨h1.trans aW.os,h2.trans aW.tape,h3.trans aW.output,Nat.le_trans aW.size aD,fun b hb hn=>by
   have hs:=aW.size;rw[bn b (by omega) (fun an=>by
    rcases(S.cF o b c9 an).2 with an|an
    ·exact hn an
    ·omega)]
   exact aW.block b hb hn⟩ aD
 ·rw[dn];by_cases e:o=ae
  ·subst e;rw[hl] at b7;cases b7;exact⟨.dG s t xs,by simp,Nat.le_refl _,fun _=>rfl⟩
  ·exact⟨ai,by simp[e,b7],Nat.le_refl _,fun _=>rfl⟩
 ·rw[dn] at b7;by_cases e:o=ae
  ·subst e;simp only[if_true,bH] at b7;subst b7;refine .inr ?_
   show bU _ _ (.sl t xs) (F o)/\DP (F o);obtain⟨cW,cs,aG,aK⟩:=S.sites o _ hl;rcases aG.2 with⟨hn,h0⟩|⟨g,cap,cur,fz,hv,_,hg,hnc,_,_,htk⟩
   ·have:xs=[]:=fO h0;subst this;rw[hn];exact⟨.nil t,.inl rfl⟩
   ·obtain⟨fz',hg'⟩:=cl g cur cW fz (by rw[hv];rfl) hg
    rw[hv];refine⟨?_,.inr ⟨_,_,_,rfl⟩⟩;have hlen:cs.length=(flat t xs).length:=by rw[fu];exact aG.1
    refine .sl t xs _ cap cs xs.length rfl hnc (fun _=>?_) hlen (fun j u hu=>?_) (fun j g1 g2=>pY go (aK j g1 g2))
    ·rintro(hx|⟨ae,g1,g2⟩)
     ·exact(S.cF o g c9 (by rw[hv];rfl)).1 hx
     ·obtain⟨g3,g4⟩:=eF ae g1;exact g4 (S.eD ae o g g3 c9 g2 (by rw[hv];rfl))
    ·rw[hK,Nat.zero_add,cell_of_row w' g j cur cW fz' hg'];rw[<-htk,List.getElem?_take] at hu;split at hu
     ·simpa using hu
     ·cases hu
  ·simp only[e,if_false] at b7;refine .inl ⟨b7,rfl,fun um b hb=>bn b (S.gf ⟨_,b7,um⟩ hb) fun h=>e (S.eD o ae b c9 ⟨_,b7,um⟩ h hb)⟩
theorem GI{g:FuncId}{vs:List Value}{post:Value->World->Prop}(dL:(execOp (Act.eval ⟨M,[]⟩) D).run P w=(callFunc g vs.toArray).run P w)(e5:Enters P g vs.toArray w post){K:Act->World->Prop}{Q:Exit->Act->World->Prop}
  (core:∀v w',post v w'->K ⟨cQ M D.dst v,[]⟩ w'):D.wp P ⟨M,[]⟩ w K Q:=by
 rcases e5 with⟨h1,h2⟩|⟨v,w',h1,h2⟩
 ·unfold Oper.wp;rw[dL,h1,Oper.upon_enter];refine h2.mono fun e w' he=>?_
  cases e with
  |returned v=>
   have:=core v w' he;cases dY:D.dst with
   |none=>rw[dY] at this;simpa[Act.put,cQ] using this
   |some t=>rw[dY] at this;simpa[Act.put,cQ] using this
  |panicked c=>exact he.elim
  |outgrown=>exact he.elim
 ·exact pM (dL.trans h1) (core v w' h2)
theorem al9(S:az U Z X F st M w){g:FuncId}(e5:CY P g){cS:List bb}{vs:List Value}(hl:cS.length=vs.length)
  (hv:∀i (h:i<cS.length) (an:i<vs.length),cy F st.sites w (aN X F st.sites) (cS[i]) (vs[i])) (aa:cE st D.dst=true) (dL:(execOp (Act.eval ⟨M,[]⟩) D).run P w=(callFunc g vs.toArray).run P w):
  Holds (copyV st cS) (c7 P U Z X st M w D):=by
 unfold copyV;split
 ·rename_i o s;split
  ·rename_i aQ l g_;have g_:look st.sites o=some (.box aQ [.dM,l]):=g_;cases mf:aQ.beq s with
   |false=>exact .fail
   |true=>
    have:=ce mf;subst this;refine Holds.f_ ?_
    intro K Q b6;match vs,hl,hv,dL with
    |[su],_,hv,dL=>
    obtain⟨sD,hb0,mg⟩:ey F st.sites w (aN X F st.sites) (.ptr o aQ 0) su:=hv 0 (by simp) (by simp)
    have mg:=Ref.at mg g_ rfl;obtain⟨b,T,cur,e1,e2,bE,dN,fp,od⟩:=S.sites o _ g_;rw[e1] at mg;have mg:b=sD:=by cases mg;rfl
    subst mg;subst hb0;match cur,e2,bE,dN,fp,od with
    |[p,v],e2,_,dN,fp,od=>
     obtain⟨rfl,hp⟩:=fp rfl;have hp:p=.pointer none\/p=.pointer (some ⟨b,0,none⟩):=by simpa using hp
     refine GI dL (e5 b p v w e2 hp) ?_
     rintro r w' ⟨rfl,rfl⟩;have cA:az U Z X F {st with sites:=cI st.sites o (.box aQ [.dM,l])} M (w.setRow b #[.pointer (some ⟨b,0,none⟩),v]):=by
      refine S.write g_ rfl rfl rfl (by rw[e1];rfl) e2 (fun hs hw hg' go=>⟨b,sh,[.pointer (some ⟨b,0,none⟩),v],e1,hg',rfl,fun u hu=>?_,fun _=>⟨rfl,.inr rfl⟩,fun j h an=>?_⟩)
      ·rcases bR.1 hu with rfl|hu
       ·rfl
       ·exact dN u (ci _ hu)
      ·match j,h,an with
       |0,_,_=>trivial
       |1,_,_=>exact go (a:=cf l) (od 1 (by simp) (by simp))
     exact b6 _ _ _ (az.dh (us:=[(o,.box aQ [.dM,l])]) cA aa (v:=.kg []) ⟨[],rfl,rfl,fun j h=>by simp at h⟩)
  ·exact .fail
 ·exact .fail
theorem akv{av:Nat->Prop}{xs:List Int}{cs:List Value}(h0:cs.length=xs.length)(h:∀j (h:j<(flat .u8 (xs:List (den .u8))).length) (an:j<cs.length),bU w av ((flat .u8 (xs:List (den .u8)))[j]) (cs[j])):cs=xs.map (Value.int .u8):=by
 refine List.ext_getElem (by rw[List.length_map];exact h0) fun j g1 g2=>?_
 have ac7:j<xs.length:=by simpa using g2
 have:=h j (by rw[fu];simpa[bh] using ac7) g1
 rw[List.getElem_map];generalize aa:(flat .u8 (xs:List (den .u8)))[j]'(by rw[fu];simpa[bh] using ac7)=d at this
 have hd2:d=.int .u8 xs[j]:=by
  rw[<-aa];simp only[tm,List.getElem_map]
 subst hd2;generalize cs[j]=v at this;cases this;rfl
theorem ahp(S:az U Z X F st M w){g:FuncId}(e5:Dg P g){cS:List bb}{vs:List Value}(hl:cS.length=vs.length)
  (hv:∀i (h:i<cS.length) (an:i<vs.length),cy F st.sites w (aN X F st.sites) (cS[i]) (vs[i])) (aa:cE st D.dst=true) (dL:(execOp (Act.eval ⟨M,[]⟩) D).run P w=(callFunc g vs.toArray).run P w):
  Holds (s' st cS) (c7 P U Z X st M w D):=by
 unfold s';split
 ·rename_i o s;match vs,hl,hv,dL with
  |[su],_,hv,dL=>
  have nY:ey F st.sites w (aN X F st.sites) (.ptr o s 0) su:=hv 0 (by simp) (by simp)
  split
  ·rename_i ael mM;have g_:=hC mM;obtain⟨b,T,cur,dd,rfl,hg,_,hc⟩:=S.box g_ nY;refine Holds.ok ?_
   intro K Q b6;obtain⟨p,r1,rfl,_,hc⟩:=hc.inv;obtain⟨v,r2,rfl,xT,hc⟩:=hc.inv;have:r2=[]:=fO hc.1;subst this;have xT:v=.slice none 0 0:=xT;subst xT;refine GI dL (e5 b p _ T [] w hg (Gd w true nd 1)) ?_
   rintro r w' ⟨rfl,aG,aK,bP,cU,fA,h9⟩;have dO:=S.jump (w':=w') (fun c _ hc=>fA c hc (by simp[b0])) cU ⟨aG.trans S.frame.os,aK.trans S.frame.tape,bP.trans S.frame.output,Nat.le_trans S.frame.size cU,fun c hc hn=>by
    rw[fA c (Nat.lt_of_lt_of_le hc S.frame.size) (by simp[b0])]
    exact S.frame.block c hc hn⟩
   have iC:az U Z X F {st with sites:=bB st.sites []} M w':=dO.shrink fun b hb=>.inl hb
   exact b6 _ _ _ (az.dh (us:=[]) iC aa (v:=one (.str [])) (bU.str _ _ rfl))
  ·rename_i ael ae u mM;have g_:=hC mM;obtain⟨b,T,cur,dd,rfl,hg,_,hc⟩:=S.box g_ nY;split
   ·rename_i b8 xs hrow;have hrow:look st.sites ae=some (.row b8 .u8 xs):=hrow;cases ayj:b8.beq u with
    |false=>exact .fail
    |true=>
     have:=ce ayj;subst this;refine Holds.f_ ?_
     intro K Q b6;obtain⟨p,r1,rfl,_,hc⟩:=hc.inv;obtain⟨v,r2,rfl,xT,hc⟩:=hc.inv;have:r2=[]:=fO hc.1;subst this;have ZV:v=F ae:=Ref.at xT.2 hrow rfl;obtain⟨e,cs,h1,h2⟩:=S.sites ae _ hrow;have hlen:cs.length=xs.length:=by have:=h1.1;simpa[bh] using this
     have hcs:cs=List.map (Value.int .u8) xs:=akv hlen h2;have l8:rowAt w true nd 1 v xs.length (List.map (Value.int .u8) xs):=by
      rw[<-hcs,ZV];refine⟨h1.1,?_⟩;rcases h1.2 with h|⟨cO,cap,cur',fz,q1,q2,dU⟩
      ·exact .inl h
      ·have:=q2.1 rfl;subst this;exact .inr ⟨cO,cap,cur',fz,q1,q2,dU⟩
     refine GI dL (e5 b p v T xs w hg l8) ?_
     rintro r w' ⟨rfl,aG,aK,bP,cU,fA,h9⟩;rw[ZV] at fA h9;have iC:=S.alY hrow aG aK bP cU fA h9;exact b6 _ _ _ (az.dh (us:=[(ae,.dG b8 .u8 xs)]) iC aa (v:=one (.str (strOf xs))) (bU.str _ _ (by simp)))
   ·exact .fail
  ·exact .fail
 ·exact .fail
end
def BT(P:Program)(g cO:FuncId):Prop:=
 ∀(a b:ByteArray) (w:World),Enters P g #[.string a,.string b] w fun v w'=>∃dv eW,v=.func (.func cO) #[] #[.pointer (some ⟨w.heap.size+1,0,none⟩),.pointer (some ⟨w.heap.size,0,none⟩),.pointer (some ⟨w.heap.size+2,0,none⟩)]/\
  w'=((w.alloc (.cells #[.string a] dv)).alloc (.cells #[.string b] dv)).alloc (.cells #[.int .i64 0] eW)
def CW(P:Program)(g:FuncId):Prop:=
 ∀(xs:List Int) (v:Value) (w:World) (av:Nat->Prop),bU w av (.sl .u8 xs) v->Enters P g #[v] w fun v' w'=>∃u T,bU w av (.sl .u8 (xs.take 2000)) u/\v'=.pointer (some ⟨w.heap.size,0,none⟩)/\w'=w.alloc (.cells #[u,.int .i64 0] T)
structure aT(P:Program)(C:Ctx):Prop extends CtxOk P C where
 b4:∀g S,C.b4 g=some S->aF P g S
 Oa:P.follows .mixedOrders=true
 mj:∀g cO,C.mj g=some cO->BT P g cO
 op:∀g,C.op g=true->CW P g
 kR:∀g,C.kR g=true->CY P g
 bs:∀g,C.bs g=true->Dg P g
section
variable {P:Program}{U:World}{Z:List Nat}{X:Nat->Prop}{F:Nat->Value}{st:ao}{M:Array Value}{w:World}{D:Oper}
theorem Rx:∀{bN:List (Nat×Nat)} {cs:List (List bk)} {us:List (Nat×Site)} {bs:List Nat},lR st bN=some (cs,us,bs)->ei st.sites us/\∀o,o∈bs->cD st.sites o:=by
 intro bN;induction bN with
 |nil=>intro cs us bs h;simp only[lR] at h;cases h;exact⟨.nil,fun o h=>by simp at h⟩
 |cons c bN ih=>
  obtain⟨o,s⟩:=c;intro cs us bs h;simp only[lR] at h;split at h
  ·rename_i cells mM;split at h
   ·rename_i ds u1 rest u2 b2 ho p1;cases h;obtain⟨aG,aK⟩:=ih p1;refine⟨(Jy ho).append aG,fun ae b7=>?_⟩
    rcases bR.1 b7 with rfl|b7
    ·exact⟨_,hC mM,rfl⟩
    ·exact aK ae b7
   ·cases h
  ·cases h
theorem IK{l gU:aU}{us:List (Nat×Site)}{bs:List Nat}(h:nM st l=some (gU,us,bs)):ei st.sites us/\∀o,o∈bs->cD st.sites o:=by
 unfold nM at h;split at h
 ·cases h;exact⟨.nil,fun o h=>by simp at h⟩
 ·split at h
  ·rename_i hc;cases h;exact Rx hc
  ·cases h
 ·split at h
  ·rename_i aa;cases h;exact⟨Wj aa,fun o h=>by simp at h⟩
  ·cases h
theorem alJ:∀{al gQ:List aU} {us:List (Nat×Site)} {bs:List Nat},mD st al=some (gQ,us,bs)->ei st.sites us/\∀o,o∈bs->cD st.sites o:=by
 intro al;induction al with
 |nil=>intro gQ us bs h;simp only[mD] at h;cases h;exact⟨.nil,fun o h=>by simp at h⟩
 |cons l al ih=>
  intro gQ us bs h;simp only[mD] at h;split at h
  ·rename_i a u1 b1 as u2 b2 h1 h2;cases h;obtain⟨aG,aK⟩:=IK h1;obtain⟨bP,cU⟩:=ih h2;refine⟨aG.append bP,fun o bG=>?_⟩
   rcases bo.1 bG with h|h
   ·exact aK o h
   ·exact cU o h
  ·cases h
theorem ajx:∀{cS:List bb} {a:kK},jG st cS=some a->ei st.sites a.fi/\∀o,o∈a.gy->cD st.sites o:=by
 intro cS;induction cS with
 |nil=>intro a h;simp only[jG] at h;cases h;exact⟨.nil,fun o h=>by simp at h⟩
 |cons sy cS ih=>
  intro a h;unfold jG at h;split at h
  ·cases ‹sy::cS=[]›
  ·rename_i ch;cases ch;split at h
   ·rename_i hr;split at h
    ·cases h;have q:=ih hr;exact q
    ·cases h
   ·cases h
  ·rename_i ch;cases ch;split at h
   ·rename_i h1 hr;cases h;obtain⟨aG,aK⟩:=IK h1;obtain⟨bP,cU⟩:=ih hr;refine⟨aG.append bP,fun o bG=>?_⟩
    rcases bo.1 bG with h|h
    ·exact aK o h
    ·exact cU o h
   ·cases h
  ·rename_i ch;cases ch;split at h
   ·rename_i h1 hr;cases h;obtain⟨aG,aK⟩:=alJ h1;obtain⟨bP,cU⟩:=ih hr;refine⟨aG.append bP,fun o bG=>?_⟩
    rcases bo.1 bG with h|h
    ·exact aK o h
    ·exact cU o h
   ·cases h
  ·cases h
theorem ajP{l gU:aU}{gs us:List (Nat×Site)}{bs:List Nat}(h:pS st l=some (gU,gs,us,bs)):ei st.sites us/\∀o,o∈bs->cD st.sites o:=by
 unfold pS at h;split at h
 ·split at h
  ·cases h;exact⟨.nil,fun o h=>by simp at h⟩
  ·cases h
 ·cases h;exact⟨.nil,fun o h=>by simp at h⟩
 ·split at h
  ·rename_i hl;cases h;exact IK hl
  ·cases h
theorem ahP:∀{cS:List bb} {a:kK},mx st cS=some a->ei st.sites a.fi/\∀o,o∈a.gy->cD st.sites o:=by
 intro cS;induction cS with
 |nil=>intro a h;simp only[mx] at h;cases h;exact⟨.nil,fun o h=>by simp at h⟩
 |cons sy cS ih=>
  intro a h;unfold mx at h;split at h
  ·cases ‹sy::cS=[]›
  ·rename_i ch;cases ch;split at h
   ·rename_i h1 hr;cases h;obtain⟨aG,aK⟩:=ajP h1;obtain⟨bP,cU⟩:=ih hr;refine⟨aG.append bP,fun o bG=>?_⟩
    rcases bo.1 bG with h|h
    ·exact aK o h
    ·exact cU o h
   ·cases h
  ·cases h
theorem ahN{b:Bool}{cS:List bb}{a:kK}(h:ta b st cS=some a):ei st.sites a.fi/\∀o,o∈a.gy->cD st.sites o:=by
 cases b
 ·exact ajx h
 ·exact ahP h
theorem ap6(S:az U Z X F st M w)(C:Ctx):∀(xs:List Operand) (di:List TypeId),(gS C st xs di).length=(xs.map (Act.eval ⟨M,[]⟩)).length/\
  ∀i (h:i<(gS C st xs di).length) (an:i<(xs.map (Act.eval ⟨M,[]⟩)).length),cy F st.sites w (aN X F st.sites) ((gS C st xs di)[i]) ((xs.map (Act.eval ⟨M,[]⟩))[i]):=by
 intro xs;induction xs with
 |nil=>intro di;cases di<;>exact⟨rfl,fun i h=>by simp[gS] at h⟩
 |cons x xs ih=>
  intro di;have key:∀(T:TypeId) (NG:List TypeId),gS C st (x::xs) di=bj C st T x::gS C st xs NG->(gS C st (x::xs) di).length=((x::xs).map (Act.eval ⟨M,[]⟩)).length/\
    ∀i (h:i<(gS C st (x::xs) di).length) (an:i<((x::xs).map (Act.eval ⟨M,[]⟩)).length),cy F st.sites w (aN X F st.sites) ((gS C st (x::xs) di)[i]) (((x::xs).map (Act.eval ⟨M,[]⟩))[i]):=by
   intro T NG e;obtain⟨aG,aK⟩:=ih NG;refine⟨by rw[e];simp[aG],fun i h an=>?_⟩
   simp only[e];cases i with
   |zero=>exact dX S C T x
   |succ i=>
    simp only[List.getElem_cons_succ,List.map_cons];exact aK i (by simpa[e] using h) (by simpa using an)
  cases di with
  |nil=>exact key 0 [] rfl
  |cons T di=>exact key T di rfl
theorem aiJ(S:az U Z X F st M w){g cO:FuncId}(e5:BT P g cO){n:Nat}{cS:List bb}{vs:List Value}(hl:cS.length=vs.length)
  (hv:∀i (h:i<cS.length) (an:i<vs.length),cy F st.sites w (aN X F st.sites) (cS[i]) (vs[i])) (aa:cE st D.dst=true) (dL:(execOp (Act.eval ⟨M,[]⟩) D).run P w=(callFunc g vs.toArray).run P w):
  Holds (ts cO n st cS) (c7 P U Z X st M w D):=by
 unfold ts;split
 ·rename_i s p;refine Holds.f_ ?_
  intro K Q b6;match vs,hl,hv,dL with
  |[su,vb],_,hv,dL=>
  obtain⟨a,ha,fJ⟩:=gX (hv 0 (by simp) (by simp))
  obtain⟨b,hb,eA⟩:=gX (hv 1 (by simp) (by simp))
  simp only[List.getElem_cons_zero,List.getElem_cons_succ] at ha hb;subst ha hb;have core:∀v w',(∃dv eW,v=.func (.func cO) #[] #[.pointer (some ⟨w.heap.size+1,0,none⟩),.pointer (some ⟨w.heap.size,0,none⟩),.pointer (some ⟨w.heap.size+2,0,none⟩)]/\
    w'=((w.alloc (.cells #[.string a] dv)).alloc (.cells #[.string b] dv)).alloc (.cells #[.int .i64 0] eW))->K ⟨cQ M D.dst v,[]⟩ w':=by
   rintro v w' ⟨dv,eW,rfl,hw⟩;have hsz:w'.heap.size=w.heap.size+3:=by rw[hw];simp
   have hold:∀b,b<w.heap.size->w'.heap[b]? =w.heap[b]? :=fun b hb=>by
    rw[hw];rw[RowKit.Below.heap_alloc _ _ _ (by simp;omega),RowKit.Below.heap_alloc _ _ _ (by simp;omega),RowKit.Below.heap_alloc _ _ _ hb]
   have h0:w'.heap[w.heap.size]? =some (.cells #[.string a] dv):=by
    rw[hw,RowKit.Below.heap_alloc _ _ _ (by simp only[World.size_alloc];omega),RowKit.Below.heap_alloc _ _ _ (by simp only[World.size_alloc];omega)];exact World.alloc_heap_new w _
   have h1:w'.heap[w.heap.size+1]? =some (.cells #[.string b] dv):=by
    rw[hw,RowKit.Below.heap_alloc _ _ _ (by simp only[World.size_alloc];omega)]
    have:=World.alloc_heap_new (w.alloc (.cells #[.string a] dv)) (.cells #[.string b] dv);rwa[World.size_alloc] at this
   have h2:w'.heap[w.heap.size+2]? =some (.cells #[.int .i64 0] eW):=by
    rw[hw];have:=World.alloc_heap_new ((w.alloc (.cells #[.string a] dv)).alloc (.cells #[.string b] dv)) (.cells #[.int .i64 0] eW);rwa[World.size_alloc,World.size_alloc] at this
   have Nh:Fr Z U w':=⟨by rw[hw];exact S.frame.os,by rw[hw];exact S.frame.tape,by rw[hw];exact S.frame.output,by have:=S.frame.size;omega,fun b hb hn=>by
    have:=S.frame.size;rw[hold b (by omega)];exact S.frame.block b hb hn⟩
   have p0:=S.frame.size;have dO:=S.jump (w':=w') (fun b _ hb=>hold b hb) (by omega) Nh
   have mk:∀{F:Nat->Value} {sites:List (Nat×Site)} {av:Nat->Prop} {m k:Nat} {T:TypeId} {x:Value} {d:bk},F m=.pointer (some ⟨k,0,none⟩)->w'.heap[k]? =some (.cells #[x] T)->bU w' av d x->
     kz F sites w' av m (.box (bF st m) [.d d]):=by
    intro F sites av m k T x d e1 e2 bE;refine⟨k,T,[x],e1,e2,rfl,fun u hu=>?_,(fun h=>by cases h),fun j h an=>?_⟩
    ·rw[List.mem_singleton.1 hu];exact bE.j4
    ·match j,h,an with
     |0,_,_=>exact bE
   obtain⟨OQ,_,_⟩:=dO.wZ (X':=fun b=>(X b\/(w.heap.size<=b/\b<w'.heap.size))/\b≠w.heap.size+1) (n:=n) (b':=.box (bF st n) [.d (.str p)]) (nv:=.pointer (some ⟨w.heap.size+1,0,none⟩)) (fun b h=>h.1)
    (.inl fun ai h=>mr h) (fun b h=>by simp only[b0,bH] at h;subst h;exact⟨.inr ⟨by omega,by omega⟩,fun h=>h.2 rfl,.inr (by omega)⟩) (fun _ e _ _=>mk e h1 (.str _ _ eA))
   obtain⟨OP,_,_⟩:=OQ.wZ (X':=fun b=>((X b\/(w.heap.size<=b/\b<w'.heap.size))/\b≠w.heap.size+1)/\b≠w.heap.size) (n:=n+1) (b':=.box (bF st (n+1)) [.d (.str s)]) (nv:=.pointer (some ⟨w.heap.size,0,none⟩)) (fun b h=>h.1)
    (.inl fun ai h=>by
     have h:look (cI st.sites n _) (n+1)=some ai:=h;rw[dn,if_neg (by omega)] at h
     exact mr h) (fun b h=>by simp only[b0,bH] at h;subst h;exact⟨⟨.inr ⟨by omega,by omega⟩,by omega⟩,fun h=>h.2 rfl,.inr (by omega)⟩) (fun _ e _ _=>mk e h0 (.str _ _ fJ))
   obtain⟨OO,_,_⟩:=OP.wZ (X':=X) (n:=n+2) (b':=.box (bF st (n+2)) [.d (.int .i64 0)]) (nv:=.pointer (some ⟨w.heap.size+2,0,none⟩)) (fun b h=>by have:=S.old b h;exact⟨⟨.inl h,by omega⟩,by omega⟩)
    (.inl fun ai h=>by
     have h:look (cI (cI st.sites n _) (n+1) _) (n+2)=some ai:=h;rw[dn,if_neg (by omega),dn,if_neg (by omega)] at h
     exact mr h) (fun b h=>by simp only[b0,bH] at h;subst h;exact⟨⟨⟨.inr ⟨by omega,by omega⟩,by omega⟩,by omega⟩,fun h=>by have:=S.old _ h;omega,.inr (by omega)⟩) (fun _ e _ _=>mk e h2 (.int _ _))
   refine b6 _ _ w' (az.dh (us:=[(n,.box (bF st n) [.d (.str p)]),(n+1,.box (bF st (n+1)) [.d (.str s)]),(n+2,.box (bF st (n+2)) [.d (.int .i64 0)])]) OO aa (v:=cf (.clo cO _)) ?_);refine⟨[.pointer (some ⟨w.heap.size+1,0,none⟩),.pointer (some ⟨w.heap.size,0,none⟩),.pointer (some ⟨w.heap.size+2,0,none⟩)],rfl,rfl,fun i hi jU=>?_⟩
   match i,hi,jU with
   |0,_,_=>exact⟨.box (bF st n) [.d (.str p)],by simp[bB,dn],Nat.le_refl _,fun _=>by simp⟩
   |1,_,_=>exact⟨.box (bF st (n+1)) [.d (.str s)],by simp[bB,dn],Nat.le_refl _,fun _=>by simp⟩
   |2,_,_=>exact⟨.box (bF st (n+2)) [.d (.int .i64 0)],by simp[bB,dn],Nat.le_refl _,fun _=>by simp⟩
  rcases e5 a b w with⟨h1,h2⟩|⟨v,w',h1,h2⟩
  ·unfold Oper.wp;rw[dL,h1,Oper.upon_enter];refine h2.mono fun e w' he=>?_
   cases e with
   |returned v=>
    have:=core v w' he;cases dY:D.dst with
    |none=>rw[dY] at this;simpa[Act.put,cQ] using this
    |some t=>rw[dY] at this;simpa[Act.put,cQ] using this
   |panicked c=>exact he.elim
   |outgrown=>exact he.elim
  ·exact pM (dL.trans h1) (core v w' h2)
 ·exact .fail
theorem alv(S:az U Z X F st M w){g:FuncId}(e5:CW P g){n:Nat}{cS:List bb}{vs:List Value}(hl:cS.length=vs.length)
  (hv:∀i (h:i<cS.length) (an:i<vs.length),cy F st.sites w (aN X F st.sites) (cS[i]) (vs[i])) (aa:cE st D.dst=true) (dL:(execOp (Act.eval ⟨M,[]⟩) D).run P w=(callFunc g vs.toArray).run P w):
  Holds (tS n st cS) (c7 P U Z X st M w D):=by
 unfold tS;split
 ·rename_i xs;refine Holds.f_ ?_
  intro K Q b6;match vs,hl,hv,dL with
  |[su],_,hv,dL=>
  have ek:bU w (aN X F st.sites) (.sl .u8 xs) su:=hv 0 (by simp) (by simp)
  have core:∀v w',(∃u T,bU w (aN X F st.sites) (.sl .u8 (xs.take 2000)) u/\v=.pointer (some ⟨w.heap.size,0,none⟩)/\w'=w.alloc (.cells #[u,.int .i64 0] T))->K ⟨cQ M D.dst v,[]⟩ w':=by
   rintro v w' ⟨u,T,hu,rfl,hw⟩;have hsz:w'.heap.size=w.heap.size+1:=by rw[hw];simp
   have hold:∀b,b<w.heap.size->w'.heap[b]? =w.heap[b]? :=fun b hb=>by
    rw[hw,RowKit.Below.heap_alloc _ _ _ hb]
   have h0:w'.heap[w.heap.size]? =some (.cells #[u,.int .i64 0] T):=by rw[hw];exact World.alloc_heap_new w _
   have Nh:Fr Z U w':=⟨by rw[hw];exact S.frame.os,by rw[hw];exact S.frame.tape,by rw[hw];exact S.frame.output,by have:=S.frame.size;omega,fun b hb hn=>by
    have:=S.frame.size;rw[hold b (by omega)];exact S.frame.block b hb hn⟩
   have p0:=S.frame.size;have dO:=S.jump (w':=w') (fun b _ hb=>hold b hb) (by omega) Nh
   have gV:∀b,X b->b<w.heap.size:=S.old;have auj:∀b,aN (fun b=>X b\/(w.heap.size<=b/\b<w'.heap.size)) F st.sites b->b<w'.heap.size:=fun b hb=>dO.lt hb
   have MU:cy F st.sites w' (aN (fun b=>X b\/(w.heap.size<=b/\b<w'.heap.size)) F st.sites) (one (.sl .u8 (xs.take 2000))) u:=by
    have G:iK F F st.sites st.sites w w' (aN X F st.sites) (aN (fun b=>X b\/(w.heap.size<=b/\b<w'.heap.size)) F st.sites):=
     ⟨fun ae s h=>⟨s,h,Nat.le_refl _,fun _=>rfl⟩,fun b _ eA=>hold b eA,fun b hb eA an=>by
      rcases an with(an|an)|an
      ·exact hb (.inl an)
      ·omega
      ·exact hb (.inr an)⟩
    exact cy.goes (a:=one (.sl .u8 (xs.take 2000))) G (by omega) auj hu
   obtain⟨OQ,aC3,aDh⟩:=dO.wZ (X':=X) (n:=n) (b':=.box (bF st n) [.d (.sl .u8 (xs.take 2000)),.d (.int .i64 0)]) (nv:=.pointer (some ⟨w.heap.size,0,none⟩)) (fun b h=>.inl h)
    (.inl fun ai h=>mr h) (fun b h=>by simp only[b0,bH] at h;subst h;exact⟨.inr ⟨by omega,by omega⟩,fun h=>by have:=gV _ h;omega,.inr (by omega)⟩) (fun hs e go _=>by
     have MT:=go MU;refine⟨w.heap.size,T,[u,.int .i64 0],e,h0,rfl,fun x hx=>?_,(fun h=>by cases h),fun j h an=>?_⟩
     ·rcases bR.1 hx with rfl|hx
      ·exact bU.j4 hu
      ·rw[List.mem_singleton.1 hx];rfl
     ·match j,h,an with
      |0,_,_=>exact MT
      |1,_,_=>exact bU.int .i64 0)
   refine b6 _ _ w' (az.dh (us:=[(n,.box (bF st n) [.d (.sl .u8 (xs.take 2000)),.d (.int .i64 0)])]) OQ aa (v:=cf (.ptr n (bF st n) 0)) ?_);exact⟨w.heap.size,rfl,.box (bF st n) [.d (.sl .u8 (xs.take 2000)),.d (.int .i64 0)],by simp[bB,dn],Nat.le_refl _,fun _=>by simp⟩
  rcases e5 xs su w _ ek with⟨h1,h2⟩|⟨v,w',h1,h2⟩
  ·unfold Oper.wp;rw[dL,h1,Oper.upon_enter];refine h2.mono fun e w' he=>?_
   cases e with
   |returned v=>
    have:=core v w' he;cases dY:D.dst with
    |none=>rw[dY] at this;simpa[Act.put,cQ] using this
    |some t=>rw[dY] at this;simpa[Act.put,cQ] using this
   |panicked c=>exact he.elim
   |outgrown=>exact he.elim
  ·exact pM (dL.trans h1) (core v w' h2)
 ·exact .fail
theorem PJ(S:az U Z X F st M w){C:Ctx}(H:aT P C){c:Go.Call}{f:Operand}(aP:D.op=.call c)(hf:c.callee=.value f)(aa:cE st D.dst=true)(d:Nat)(T:TypeId):
  Holds (mw C d st (bj C st T f) (gS C st c.args.toList c.argTypes.toList)) (c7 P U Z X st M w D):=by
 have bL:=dX S C T f;obtain⟨e1,e2⟩:=ap6 S C c.args.toList c.argTypes.toList;have run:∀{g:FuncId} {fx:List Value},Act.eval ⟨M,[]⟩ f=.func (.func g) #[] fx.toArray->
   (execOp (Act.eval ⟨M,[]⟩) D).run P w=(callFunc g (c.args.toList.map (Act.eval ⟨M,[]⟩)++fx).toArray).run P w:=by
  intro g fx hv;have yC:(#[]++c.args.map (Act.eval ⟨M,[]⟩))++fx.toArray=(c.args.toList.map (Act.eval ⟨M,[]⟩)++fx).toArray:=by apply Array.ext';simp
  unfold execOp;simp only[aP,resolve,hf,hv,Deferred.ofValue,Sem.run_bind,Sem.run_pure,Result.andThen_ok,invoke,yC]
 have go:∀{g:FuncId} {aA:aI} {a:kK} {cs:List (List bk)} {us:List (Nat×Site)} {bs:List Nat} {fx:List Value} {gb:Bool},C.b4 g=some aA->ta gb st (gS C st c.args.toList c.argTypes.toList)=some a->
   Act.eval ⟨M,[]⟩ f=.func (.func g) #[] fx.toArray->(ei st.sites us/\∀o,o∈bs->cD st.sites o)->
   (∀{dF fs av},fX U Z X F st M w dF fs av->(∀p,p∈us->p∈dF)->(∀o,o∈bs->o∈fs)->k0 w av cs fx)->
   Holds (p_ d st aA {a with as:=a.as++oE cs,fi:=a.fi++us,gy:=a.gy++bs}) (c7 P U Z X st M w D):=by
  intro g aA a cs us bs fx gb hg ha hv hz hcap;obtain⟨gq,z2⟩:=ahN ha;have hfz:ei st.sites (a.fi++us):=gq.append hz.1;have EA:fX U Z X F st M w (a.fi++us) (a.gy++bs) (fun _=>False):=⟨⟨S,hfz⟩,fun b h=>h.elim,fun _ _ _ _ h=>h⟩
  obtain⟨m1,m2,m3,m4⟩:=P2 EA ha e1 e2 (fun p hp=>bo.2 (.inl hp)) (fun p hp=>bo.2 (.inl hp))
  refine amc (a:={a with as:=a.as++oE cs,fi:=a.fi++us,gy:=a.gy++bs}) S (H.b4 g aA hg) (vs:=c.args.toList.map (Act.eval ⟨M,[]⟩)++fx) ⟨hfz,fun o bG=>?_,m2,fun av ee=>?_,?_,m4⟩ aa (run hv)
  ·rcases bo.1 bG with h|h
   ·exact z2 o h
   ·exact hz.2 o h
  ·obtain⟨n1,_,_,_⟩:=P2 ee ha e1 e2 (fun p hp=>bo.2 (.inl hp)) (fun p hp=>bo.2 (.inl hp))
   have n2:=ah6 (hcap ee (fun p hp=>bo.2 (.inr hp)) (fun p hp=>bo.2 (.inr hp)))
   have:=n1.append n2;rwa[List.append_nil] at this
  ·show eu (a.as++oE cs) _=_;rw[Pa m1.length,m3,ah8,List.append_nil]
 unfold mw;split
 ·rename_i g bN Ni;rw[Ni] at bL;obtain⟨fx,h1,h2,h3⟩:=bL;split
  ·rename_i cO kj;split
   ·have hcv:fx=[]:=fO (by simpa using h2)
    subst hcv;have r:=run h1;rw[List.append_nil] at r;exact aiJ S (H.mj g cO kj) e1 e2 aa r
   ·exact .fail
  ·cases M2:C.op g with
   |true=>
    simp only[ad];split
    ·have hcv:fx=[]:=fO (by simpa using h2)
     subst hcv;have r:=run h1;rw[List.append_nil] at r;exact alv S (H.op g M2) e1 e2 aa r
    ·exact .fail
   |false=>
    simp only[ak];have W4:bN=[]->(execOp (Act.eval ⟨M,[]⟩) D).run P w=(callFunc g (c.args.toList.map (Act.eval ⟨M,[]⟩)).toArray).run P w:=by
     rintro rfl;have hcv:fx=[]:=fO (by simpa using h2)
     subst hcv;have r:=run h1;rwa[List.append_nil] at r
    cases acW:C.kR g with
    |true=>
     simp only[ad];split
     ·exact al9 S (H.kR g acW) e1 e2 aa (W4 rfl)
     ·exact .fail
    |false=>
     simp only[ak];cases eS:C.bs g with
     |true=>
      simp only[ad];split
      ·exact ahp S (H.bs g eS) e1 e2 aa (W4 rfl)
      ·exact .fail
     |false=>
      simp only[ak];split
      ·rename_i aA a cs us bs hg ha hc;exact go hg ha h1 (Rx hc) (fun ee hu hb=>Rw ee hc hu hb h2 h3)
      ·exact .fail
 ·rename_i g bN Ni;rw[Ni] at bL;obtain⟨fx,h1,_⟩:=k0.WV bL;split
  ·rename_i aA a hg ha;have:=go (us:=[]) (bs:=[]) (cs:=bN) (gb:=false) hg ha h1 ⟨.nil,fun o h=>by simp at h⟩ (fun {dF fs av} ee _ _=>by
    obtain⟨aCR,aG,aK⟩:=k0.WV (ee.xD (bL:bU w (aN X F st.sites) (.fn g bN) _));rw[h1] at aG;simp only[Value.func.injEq,Fn.func.injEq,true_and] at aG;have e:=congrArg Array.toList aG;simp only at e;rw[e];exact aK)
   simpa only[List.append_nil] using this
  ·exact .fail
 ·exact .fail
theorem amB(S:az U Z X F st M w){C:Ctx}(H:aT P C)(aa:cE st D.dst=true):Holds (step C st D) (c7 P U Z X st M w D):=by
 unfold step;split
 ·rename_i x aP;exact Holds.ok (TU S (.inl aP) aa _)
 ·rename_i x aP;exact Holds.ok (TU S (.inr aP) aa _)
 ·rename_i c a b aP;split
  ·rename_i hc;exact Holds.ok (TM S aP aa hc)
  ·rename_i hc;exact Holds.ok (TM S aP aa hc)
  ·exact .fail
 ·rename_i elem aP;split
  ·rename_i o e t n dY bp;exact aj5 S H.toCtxOk bp aP aa
  ·rename_i o dY _;split
   ·rename_i z hz;exact Holds.f_ (amk S H.toCtxOk aP dY hz aa)
   ·exact .fail
  ·exact .fail
 ·rename_i elem x aP;split
  ·rename_i o e t n dY bp;exact aoo S H.toCtxOk bp aP aa
  ·rename_i o dY _;split
   ·rename_i a ha;cases ej:ia a.cells with
    |false=>exact .fail
    |true=>
     have bL:=dX S C elem x;rw[qQ ha] at bL;exact Holds.f_ (aqe S aP dY bL ej aa)
   ·exact .fail
  ·exact .fail
 ·rename_i t parts aP;split
  ·rename_i b4 n z eq bp;exact amd S H.toCtxOk bp aP aa
  ·rename_i e ty n bp;split
   ·rename_i z hz;exact aj2 S H.toCtxOk bp hz aP aa
   ·exact .fail
  ·exact .fail
 ·rename_i t len parts aP;split
  ·rename_i o e ty bytes dY bp;cases hb:(parts.toList.length.beq len&&td 0 parts.toList&&Nat.ble (len*bh ty) 1000) with
   |false=>exact .fail
   |true=>
    simp only[bz] at hb;obtain⟨⟨b1,b2⟩,b3⟩:=hb;simp only[ad];split
    ·rename_i as has;split
     ·rename_i xs us kH;exact Holds.f_ (afr S H.toCtxOk bp aP dY aa (ce b1) b2 (Nat.le_of_ble_eq_true b3) has kH)
     ·exact .fail
    ·exact .fail
  ·exact .fail
 ·rename_i t a aP;split
  ·rename_i e ty n bp;exact alD S H.toCtxOk bp aP aa
  ·cases hk:(C.tt t).known with
   |false=>exact .fail
   |true=>exact anV S H.toCtxOk aP aa hk
 ·rename_i t a x aP;split
  ·rename_i v hv;split
   ·rename_i e ty n bp;exact aiH S H.toCtxOk bp aP aa hv
   ·cases hk:(C.tt t).known with
    |false=>exact .fail
    |true=>exact akB S H.toCtxOk aP aa hk hv
  ·exact .fail
 ·rename_i x aP;split
  ·rename_i hx;exact Holds.ok (Fv S aP aa hx fun vv h=>by obtain⟨b,h,_⟩:=h;exact⟨_,h⟩)
  ·rename_i hx;exact Holds.ok (Fv S aP aa hx fun vv h=>by obtain⟨b,D,h,_⟩:=h;exact⟨_,h⟩)
  ·rename_i hx;exact Holds.ok (Fv S aP aa hx fun vv h=>by obtain⟨b,h,_⟩:=h;exact⟨_,h⟩)
  ·exact .fail
 ·rename_i op t x y n' aP;cases hn:Cp y with
  |true=>exact ajT S H.toCtxOk aP aa hn
  |false=>exact aor S H.toCtxOk aP aa
 ·rename_i op t x aP;split
  ·rename_i b hx;exact Holds.ok (agl S aP aa hx)
  ·rename_i k n hx;exact Holds.ok (agm S aP aa hx)
  ·rename_i k n hx;exact Holds.ok (agk (T:=D.type) S aP aa hx)
  ·exact .fail
 ·rename_i src dst x aP;split
  ·rename_i o dY;exact ama S H.toCtxOk aP dY aa
  ·exact .fail
 ·rename_i fn first captured aP
  split
  ·rename_i g;cases hf:first.toList.isEmpty with
   |false=>exact .fail
   |true=>
    simp only[ad];split
    ·rename_i bN hc;exact Holds.ok (agJ S aP aa hf hc)
    ·exact .fail
  ·exact .fail
 ·rename_i t l c aP;split
  ·rename_i o e ty bytes yv n yw m dY bp hl hc;split
   ·rename_i z hz;split
    ·rename_i ds us ho;split
     ·rename_i fm nX;exact Holds.il fun r hr=>afU S H.toCtxOk bp aP dY aa hl hc hz ho nX r hr
     ·exact .fail
    ·exact .fail
   ·exact .fail
  ·exact .fail
 ·rename_i t x df hi EX aP;split
  ·split
   ·rename_i e ty n bp;exact aiL S H.toCtxOk bp aP aa
   ·exact akH S H.toCtxOk aP aa
  ·exact .fail
 ·rename_i s x f aP;split
  ·rename_i b4 n z eq bp;split
   ·rename_i off N9 hf;exact af6 S H.toCtxOk bp aP aa hf
   ·exact .fail
  ·exact .fail
 ·rename_i t x i aP;split
  ·rename_i e ty bytes k n bp hi;exact af2 S H.toCtxOk bp hi aP aa
  ·rename_i e ty m k n bp hi;exact afn S H.toCtxOk bp hi aP aa
  ·exact .fail
 ·rename_i t x i aP;split
  ·rename_i s k n bp hx hi;exact alP S H.toCtxOk aP aa bp hx hi
  ·rename_i e ty m k n bp hi;exact ajL S H.toCtxOk bp hi aP aa
  ·exact .fail
 ·rename_i t i aP;split
  ·rename_i as hx;split
   ·rename_i a ha;exact Holds.ok (ahX S aP aa hx ha)
   ·exact .fail
  ·exact .fail
 ·rename_i c aP;split
  ·rename_i f hf;split
   ·exact PJ S H aP hf aa _ _
   ·exact PJ S H aP hf aa _ _
  ·rename_i b hb;obtain⟨callee,args,argTypes⟩:=c;simp only at hb aP ⊢;subst hb;split
   ·rename_i x t oL Lp;have e1:args=#[x]:=Array.ext' oL;have e2:argTypes=#[t]:=Array.ext' Lp;subst e1 e2;exact apQ S H.toCtxOk aP aa
   ·rename_i o s x t u dY oL Lp;have e1:args=#[s,x]:=Array.ext' oL;have e2:argTypes=#[t,u]:=Array.ext' Lp;subst e1 e2;split
    ·rename_i bp hq;exact aj4 S H.toCtxOk bp hq aP dY aa
    ·rename_i bp hq;exact aic S H.toCtxOk bp hq aP dY aa
    ·exact .fail
   ·rename_i x y oL;have e1:args=#[x,y]:=Array.ext' oL;subst e1;split
    ·rename_i hx hy;exact Holds.ok (Rc (tX:=true) S aP aa hx hy)
    ·exact .fail
   ·rename_i x y z u v oL;have e1:args=#[x,y,z,u,v]:=Array.ext' oL;subst e1;split
    ·rename_i hx hy hz hu hv;exact Holds.ok (anS S aP aa hx hy hz hu hv)
    ·exact .fail
   ·rename_i x y oL;have e1:args=#[x,y]:=Array.ext' oL;subst e1;split
    ·rename_i hx hy;exact Holds.ok (Rc (tX:=false) S aP aa hx hy)
    ·exact .fail
   ·exact .fail
  ·exact .fail
 ·exact ahQ S H.toCtxOk aa
end
section
variable {st au:ao}
theorem nm{o:Nat}(h:st.ai o=au.ai o)(s:Nat):rowOf st o s=rowOf au o s:=by unfold rowOf;rw[h]
theorem vo{o:Nat}(h:st.ai o=au.ai o)(s:Nat):gl st o s=gl au o s:=by unfold gl;rw[h]
theorem nl{o:Nat}(h:st.ai o=au.ai o):bF st o=bF au o:=by unfold bF;rw[h]
abbrev cX(st au:ao)(N:List Nat):Prop:=∀o,o∈N->st.ai o=au.ai o
theorem cX.left{N fB:List Nat}(h:cX st au (N++fB)):cX st au N:=fun o bG=>h o (bo.2 (.inl bG))
theorem cX.right{N fB:List Nat}(h:cX st au (N++fB)):cX st au fB:=fun o bG=>h o (bo.2 (.inr bG))
theorem cX.head{n:Nat}{fB:List Nat}(h:cX st au (n::fB)):st.ai n=au.ai n:=h n cj
theorem cX.tail{n:Nat}{fB:List Nat}(h:cX st au (n::fB)):cX st au fB:=fun o bG=>h o (ci _ bG)
theorem sY{N:List Nat}(h:cX st au (fq st N)):cX st au N:=by
 induction N with
 |nil=>intro o bG;cases bG
 |cons n N ih=>
  intro o bG;rcases bR.1 bG with rfl|bG
  ·exact h.head
  ·exact ih h.tail.right o bG
theorem SO{N:List Nat}(h:cX st au (fq st N)){o:Nat}(bG:o∈N):cX st au (zg st o):=by
 induction N with
 |nil=>cases bG
 |cons n N ih=>
  rcases bR.1 bG with rfl|bG
  ·exact h.tail.left
  ·exact ih h.tail.right bG
theorem GJ{N fB:List Nat}:fq st (N++fB)=fq st N++fq st fB:=by
 induction N with
 |nil=>rfl
 |cons n N ih=>simp[fq,ih]
theorem Rv{l:aU}(h:cX st au l.names):kn st l=kn au l:=by
 cases l<;>try rfl
 case own o s=>simp only[kn,mO];rw[nm (h.head) s,h.head]
 case clo g bN=>cases bN<;>rfl
theorem y8{al:List aU}(h:cX st au (d' al)):gC st al=gC au al:=by
 induction al with
 |nil=>rfl
 |cons l al ih=>
  simp only[d'] at h;simp only[gC,Rv h.left,ih h.right]
theorem FA{o s:Nat}{cells:List aU}(h:gl st o s=some cells):zg st o=d' cells:=by
 unfold gl at h;cases hs:st.ai o with
 |none=>rw[hs] at h;cases h
 |some x=>
  rw[hs] at h;cases x with
  |box aQ cs=>
   have h:(bif aQ.beq s then some cs else none)=some cells:=h
   unfold zg;rw[hs];cases hb:aQ.beq s with
   |true=>simp only[hb,ad,bH] at h;subst h;rfl
   |false=>simp[hb] at h
  |row _ _ _=>cases h
  |dG _ _ _=>cases h
  |map _ _ _=>cases h
  |dead _=>cases h
theorem agK{agg:Bool}{n:Nat}{a:bb}(h:cX st au a.names):tV agg n st a=tV agg n au a:=by
 unfold tV;split
 ·rename_i o s off;rw[vo (show st.ai o=au.ai o from h o (by simp[bb.names,b5.cells,d',aU.names]))]
 ·rfl
 ·rename_i o s u k off;rw[nm (show st.ai o=au.ai o from h o (by simp[bb.names,b5.cells,d',aU.names]))]
 ·rfl
theorem afJ{n:Nat}{a:bb}{v:b5}(h:cX st au a.names)(hv:cX st au (d' v.cells)):tq n st a v=tq n au a v:=by
 unfold tq;congr 1
 split
 ·rename_i o s off;rw[vo (show st.ai o=au.ai o from h o (by simp[bb.names,b5.cells,d',aU.names]))]
 ·rename_i o s u k off;rw[show st.ai o=au.ai o from h o (by simp[bb.names,b5.cells,d',aU.names]),y8 hv]
 ·rfl
theorem aeR{u:bi}{x:bb}{i:Int}(h:cX st au x.names):sP u st x i=sP u au x i:=by
 unfold sP;split
 ·rfl
 ·rename_i o s;rw[nm (show st.ai o=au.ai o from h o (by simp[bb.names,b5.cells,d',aU.names]))]
 ·rfl
theorem afM{ti:cu}{x:bb}{df hi:Option bb}(h:cX st au x.names):tu ti st x df hi=tu ti au x df hi:=by
 unfold tu;split
 ·rfl
 ·rfl
 ·rfl
 ·rename_i o s;simp only[mO];rw[nm (show st.ai o=au.ai o from h o (by simp[bb.names,b5.cells,d',aU.names])),show st.ai o=au.ai o from h o (by simp[bb.names,b5.cells,d',aU.names])]
 ·rfl
theorem Px{l:aU}(h:cX st au l.names):mapOf st l=mapOf au l:=by
 cases l<;>try rfl
 case own o s=>simp only[mapOf];rw[h.head]
 case d v=>cases v<;>rfl
theorem ahS{ti:cu}{x:bb}(h:cX st au x.names):uj ti st x=uj ti au x:=by
 unfold uj;split<;>try rfl
 rotate_left
 ·rename_i l;rw[Px (l:=l) (fun o bG=>h o (by simp[bb.names,b5.cells,d',bG]))]
 rename_i o s;rw[nm (show st.ai o=au.ai o from h o (by simp[bb.names,b5.cells,d',aU.names]))]
theorem agq{x:bb}(h:cX st au x.names):tP st x=tP au x:=by
 unfold tP;split<;>try rfl
 rename_i o s;rw[nm (show st.ai o=au.ai o from h o (by simp[bb.names,b5.cells,d',aU.names]))]
theorem aeM{o dst s:Nat}(aa:st.ai dst=au.ai dst):bF (st.iU o (.dead s)) dst=bF (au.iU o (.dead s)) dst:=by
 apply nl;rw[ao.yN,ao.yN,aa]
theorem O0{bytes:Nat}{t:bi}{dst:Nat}{s:bb}{bm:List (den t)}(h:cX st au s.names)(aa:st.ai dst=au.ai dst):rh bytes t dst st s bm=rh bytes t dst au s bm:=by
 unfold rh;split
 ·simp only[nl aa]
 ·rename_i o s;simp only[show st.ai o=au.ai o from h o (by simp[bb.names,b5.cells,d',aU.names]),aeM aa]
 ·rfl
theorem afs{bytes:Nat}{t:bi}{dst:Nat}{s x:bb}(h:cX st au s.names)(hx:cX st au x.names)(aa:st.ai dst=au.ai dst):to bytes t dst st s x=to bytes t dst au s x:=by
 unfold to;rw[agq hx];split
 ·rfl
 ·split
  ·split
   ·exact O0 h aa
   ·rfl
  ·rfl
theorem aft{bytes:Nat}{t:bi}{dst:Nat}{s x:bb}(h:cX st au s.names)(aa:st.ai dst=au.ai dst):tp bytes t dst st s x=tp bytes t dst au s x:=by
 unfold tp;split
 ·split
  ·exact O0 h aa
  ·rfl
 ·rfl
theorem P1{o:Nat}{t:bi}{n:Nat}{xs:List (den t)}(aa:st.ai o=au.ai o):rG o st t n xs=rG o au t n xs:=by
 unfold rG;rw[nl aa]
theorem af9{o:Nat}{t:bi}{n:Nat}(aa:st.ai o=au.ai o):tL o st t n=tL o au t n:=by
 unfold tL;split<;>first|exact P1 aa|rfl
theorem ah9{o:Nat}{t:bi}{n:Nat}{v:bb}(aa:st.ai o=au.ai o):uv o st t n v=uv o au t n v:=by
 unfold uv;split
 ·split<;>first|exact P1 aa|rfl
 ·rfl
theorem agL{t:bi}{n:Nat}{a:bb}(h:cX st au a.names):tW st t n a=tW au t n a:=by
 unfold tW;split
 ·rename_i o s u;rw[nm (show st.ai o=au.ai o from h o (by simp[bb.names,b5.cells,d',aU.names]))]
 ·rfl
theorem afK{t:bi}{n:Nat}{a:bb}{v:b5}(h:cX st au a.names):tr st t n a v=tr au t n a v:=by
 unfold tr;split
 ·rename_i o s u al;rw[show st.ai o=au.ai o from h o (by simp[bb.names,b5.cells,d',aU.names])]
 ·rfl
theorem aeS{C:Ctx}{t:bi}{n:Nat}{x:bb}{i:Int}(h:cX st au x.names):sQ C st t n x i=sQ C au t n x i:=by
 unfold sQ;split
 ·rename_i o s u;rw[nm (show st.ai o=au.ai o from h o (by simp[bb.names,b5.cells,d',aU.names]))]
 ·rfl
 ·rfl
theorem afN{t:bi}{n:Nat}{x:bb}{df hi:Option bb}(h:cX st au x.names):tv st t n x df hi=tv au t n x df hi:=by
 unfold tv;split
 ·rename_i o s u;simp only[mO];rw[nm (show st.ai o=au.ai o from h o (by simp[bb.names,b5.cells,d',aU.names])),show st.ai o=au.ai o from h o (by simp[bb.names,b5.cells,d',aU.names])]
 ·rfl
theorem ah4{t:bi}{as:List b5}(h:cX st au (s8 as)):ma t st as=ma t au as:=by
 induction as with
 |nil=>rfl
 |cons a as ih=>
  simp only[s8] at h;simp only[ma,y8 h.left,ih h.right]
theorem agY{C:Ctx}{src dst:TypeId}{o:Nat}{x:bb}(h:cX st au x.names)(aa:st.ai o=au.ai o):ub C src dst o st x=ub C src dst o au x:=by
 unfold ub;split<;>try rfl
 ·rename_i ae s _ _;rw[nm (show st.ai ae=au.ai ae from h ae (by simp[bb.names,b5.cells,d',aU.names]))]
 ·rw[nl aa]
theorem O'{bN:List (Nat×Nat)}(h:cX st au (fq st (keys bN))):lR st bN=lR au bN:=by
 induction bN with
 |nil=>rfl
 |cons p bN ih=>
  obtain⟨o,s⟩:=p;simp only[keys,fq] at h;simp only[lR];rw[<-vo h.head,<-ih h.tail.right];cases hb:gl st o s with
  |none=>rfl
  |some cells=>
   have:=h.tail.left;rw[FA hb] at this;simp only[y8 this]
theorem FJ{l:aU}(h:cX st au (fq st l.names)):nM st l=nM au l:=by
 have aa:=Rv (sY h);unfold nM;split
 ·rfl
 ·rename_i g c cs;simp only[aU.names] at h;rw[O' h]
 ·rw[aa]
theorem agN{al:List aU}(h:cX st au (fq st (d' al))):mD st al=mD au al:=by
 induction al with
 |nil=>rfl
 |cons l al ih=>
  simp only[d',GJ] at h;simp only[mD,FJ h.left,ih h.right]
theorem PD{l:aU}(h:cX st au l.names):oM st l=oM au l:=by
 unfold oM;split<;>try rfl
 rename_i o s;rw[show st.ai o=au.ai o from h.head]
theorem ahW{al:List aU}(h:cX st au (d' al)):k_ st al=k_ au al:=by
 induction al with
 |nil=>rfl
 |cons l al ih=>
  simp only[d'] at h;simp only[k_,PD h.left,ih h.right]
def hD:List bb->List Nat
 |[]=>[]
 |v::vs=>v.names++hD vs
theorem O7{vs:List bb}(h:cX st au (fq st (hD vs))):jG st vs=jG au vs:=by
 induction vs with
 |nil=>rfl
 |cons v vs ih=>
  simp only[hD,GJ] at h;have ih:=ih h.right;have h:=h.left;cases v with
  |kg as=>rfl
  |av a=>
   cases a with
   |agg al=>
    simp only[jG];rw[agN (by simpa[bb.names,b5.cells] using h),ih]
   |aq l=>
    have hl:cX st au (fq st l.names):=by simpa[bb.names,b5.cells,d'] using h
    unfold jG;split
    ·rfl
    ·rename_i o s axy ch;cases ch;have hl:cX st au (fq st [o]):=by simpa[bb.names,b5.cells,d',aU.names] using h
     simp only[fq] at hl;rw[<-vo hl.head,<-ih];cases hb:gl st o s with
     |none=>rfl
     |some cells=>
      have:=hl.tail.left;rw[FA hb] at this;cases jG st vs with
      |none=>rfl
      |some r=>simp only[ahW this]
    ·rename_i gU axy _ ch;cases ch;rw[FJ hl,ih]
    ·rename_i ch;cases ch
    ·rfl
theorem af5{l:aU}(h:cX st au (fq st l.names)):pS st l=pS au l:=by
 unfold pS;split
 ·rw[PD (sY h)]
 ·rfl
 ·rw[FJ h]
theorem afk{vs:List bb}(h:cX st au (fq st (hD vs))):mx st vs=mx au vs:=by
 induction vs with
 |nil=>rfl
 |cons v vs ih=>
  simp only[hD,GJ] at h;have ih:=ih h.right;have h:=h.left;cases v with
  |kg as=>rfl
  |av a=>
   cases a with
   |agg al=>rfl
   |aq l=>
    have hl:cX st au (fq st l.names):=by simpa[bb.names,b5.cells,d'] using h
    simp only[mx,af5 hl,ih]
theorem afj{b:Bool}{vs:List bb}(h:cX st au (fq st (hD vs))):ta b st vs=ta b au vs:=by
 cases b
 ·exact O7 h
 ·exact afk h
theorem vn(hb:∀o,1000000<=o->st.ai o=au.ai o){o:Nat}(h:1000000<=o):bF st o=bF au o:=nl (hb o h)
theorem FD(hb:∀o,1000000<=o->st.ai o=au.ai o):∀{al:List aU} {n:Nat},1000000<=n->take st n al=take au n al:=by
 intro al;induction al with
 |nil=>intro n _;rfl
 |cons l al ih=>
  intro n hn;cases l<;>simp only[take,ih (show 1000000<=n+1 by omega),vn hb hn]
theorem ago(hb:∀o,1000000<=o->st.ai o=au.ai o):∀{as:List b5} {n:Nat},1000000<=n->eC st n as=eC au n as:=by
 intro as;induction as with
 |nil=>intro n _;rfl
 |cons a as ih=>
  intro n hn;cases a with
  |aq l=>simp only[eC];rw[FD hb hn,ih (show 1000000<=n+100 by omega)]
  |agg al=>simp only[eC];rw[FD hb hn,ih (show 1000000<=n+100 by omega)]
theorem agn(hb:∀o,1000000<=o->st.ai o=au.ai o):∀{bs:List (Nat×Nat)} {c_:List (List aU)},hL st bs c_=hL au bs c_:=by
 intro bs;induction bs with
 |nil=>intro c_;cases c_<;>rfl
 |cons p bs ih=>
  obtain⟨o,s⟩:=p;intro c_;cases c_ with
  |nil=>rfl
  |cons cs c_=>simp only[hL];rw[FD hb (by omega),ih]
theorem PI(hb:∀o,1000000<=o->st.ai o=au.ai o){dst:Nat}{S:aI}{a:kK}:p_ dst st S a=p_ dst au S a:=by
 unfold p_;simp only[agn hb,ago hb (show 1000000<=2000000+dst*10000 by omega)]
theorem afL{g:FuncId}{n:Nat}{vs:List bb}(hb:∀o,1000000<=o->st.ai o=au.ai o)(hn:1000000<=n):ts g n st vs=ts g n au vs:=by
 unfold ts;rw[vn hb hn,vn hb (show 1000000<=n+1 by omega),vn hb (show 1000000<=n+2 by omega)]
theorem agE{n:Nat}{vs:List bb}(hb:∀o,1000000<=o->st.ai o=au.ai o)(hn:1000000<=n):tS n st vs=tS n au vs:=by
 unfold tS;rw[vn hb hn]
theorem agX{vs:List bb}(h:cX st au (fq st (hD vs))):copyV st vs=copyV au vs:=by
 unfold copyV;split
 ·rename_i o s;rw[show st.ai o=au.ai o from sY h o (by simp[hD,bb.names,b5.cells,d',aU.names])]
 ·rfl
theorem afg{vs:List bb}(h:cX st au (fq st (hD vs))):s' st vs=s' au vs:=by
 unfold s';split
 ·rename_i o s;have h0:o∈hD [bb.av (.aq (.ptr o s 0))]:=by simp[hD,bb.names,b5.cells,d',aU.names]
  rw[<-vo (sY h o h0)];split
  ·rfl
  ·rename_i ael ae u hb;have:=SO h h0;rw[FA hb] at this;rw[show st.ai ae=au.ai ae from this ae (by simp[d',aU.names])]
  ·rfl
 ·rfl
theorem OX{C:Ctx}(hb:∀o,1000000<=o->st.ai o=au.ai o){dst:Nat}{f:bb}{vs:List bb}(hf:cX st au (fq st f.names))(h:cX st au (fq st (hD vs))):mw C dst st f vs=mw C dst au f vs:=by
 unfold mw;split
 ·rename_i g bN;have:cX st au (fq st (keys bN)):=by simpa[bb.names,b5.cells,d',aU.names] using hf
  simp only[afj h,O' this,PI hb,afL hb (show 1000000<=3000000+dst*10 by omega),agE hb (show 1000000<=4000000+dst by omega),agX h,afg h]
 ·simp only[O7 h,PI hb]
 ·rfl
theorem al1{C:Ctx}{x:Operand}{T:TypeId}(h:∀t,x=.tmp t->st.get t=au.get t):bj C st T x=bj C au T x:=by
 cases x with
 |tmp t=>exact h t rfl
 |_=>rfl
theorem afq{ti:cu}{v:Value}:(we ti v).names=[]:=by
 unfold we;split<;>try rfl
 all_goals(split<;>rfl)
theorem Aq{C:Ctx}{x:Operand}{T:TypeId}:∀{xs:List Operand},x∈xs->∀o,o∈(bj C st T x).names->o∈oz st xs:=by
 intro xs;induction xs with
 |nil=>intro h;cases h
 |cons y xs ih=>
  intro h o bG;rcases bR.1 h with rfl|h
  ·cases x with
   |tmp t=>simp only[oz];exact bo.2 (.inl bG)
   |const v=>simp only[bj,afq] at bG;cases bG
   |global g=>simp[bj,bb.names,b5.cells,d',aU.names,cf] at bG
   |func g=>simp[bj,bb.names,b5.cells,d',aU.names,cf,keys] at bG
  ·have:=ih h o bG;cases y<;>simp only[oz]<;>first|exact bo.2 (.inr this)|exact this
theorem agF{t:Nat}:∀{xs:List Operand},.tmp t∈xs->t∈pG xs:=by
 intro xs;induction xs with
 |nil=>intro h;cases h
 |cons y xs ih=>
  intro h;rcases bR.1 h with h|h
  ·subst h;simp only[pG];exact cj
  ·have:=ih h;cases y<;>simp only[pG]<;>first|exact ci _ this|exact this
theorem Qd{v:bb}{a:b5}(h:mQ v=some a):d' a.cells=v.names:=by
 cases v with
 |av b=>simp only[mQ,bH] at h;subst h;rfl
 |kg _=>cases h
theorem ag1{vs:List bb}:∀{as:List b5},oO vs=some as->∀o,o∈s8 as->o∈hD vs:=by
 induction vs with
 |nil=>intro as h;simp only[oO,bH] at h;subst h;intro o bG;cases bG
 |cons v vs ih=>
  intro as h o bG;simp only[oO] at h;split at h
  ·rename_i a pd h1 h2;simp only[bH] at h;subst h;simp only[s8,bo] at bG;simp only[hD,bo];rcases bG with bG|bG
   ·exact .inl (by rw[Qd h1] at bG;exact bG)
   ·exact .inr (ih h2 o bG)
  ·cases h
end
theorem ahq{C:Ctx}{st au:ao}{D:Oper}(hs:∀t,t∈pG (lW D.op)->st.get t=au.get t)(hn:cX st au (KO C st D))(hb:Cq D.op=true->∀o,1000000<=o->st.ai o=au.ai o):
  step C st D=step C au D:=by
 have he:∀x,x∈lW D.op->∀T,bj C st T x=bj C au T x:=fun x hx T=>al1 fun t ay=>hs t (agF (ay▸hx))
 have Z8:looks D.op=true->cX st au (fq st (oz st (lW D.op))):=fun h=>by have:=hn.left.left;rw[h] at this;exact this
 have ZZ:looks D.op=true->∀x,x∈lW D.op->∀T,cX st au (bj C st T x).names:=fun hl x hx T o bG=>sY (Z8 hl) o (Aq hx o bG)
 have Wa:looks D.op=true->∀N:List Nat,(∀o,o∈N->o∈oz st (lW D.op))->cX st au (fq st N):=by
  intro hl N;have acU:=Z8 hl;induction N with
  |nil=>intro _ o bG;cases bG
  |cons n N ih=>
   intro h o bG;simp only[fq,bR,bo] at bG;rcases bG with rfl|bG|bG
   ·exact sY acU o (h o cj)
   ·exact SO acU (h n cj) o bG
   ·exact ih (fun ae b7=>h ae (ci _ b7)) o bG
 have aa:∀d,D.dst=some d->st.ai d=au.ai d:=fun d h=>hn.left.right d (by simp[h])
 have hz:cX st au (KA C D.op):=hn.right;obtain⟨dst,op,type,pos,after,guard⟩:=D;simp only at he ZZ Wa aa hb hz;cases op<;>(try have hX:=ZZ rfl)<;>(try have KM:=Wa rfl)<;>(try simp only[lW,bR,List.not_mem_nil,or_false,forall_eq_or_imp,forall_eq] at he)<;>
  (try simp only[lW,bR,List.not_mem_nil,or_false,forall_eq_or_imp,forall_eq] at hX)<;>simp only[step]<;>try rfl
 case move x=>rw[he]
 case assign x=>rw[he]
 case makeMap t r=>
  simp only[lP];cases dst with
  |none=>rfl
  |some o=>
   have e:=nl (aa o rfl);cases C.tt t<;>try rfl
   cases r with
   |none=>simp only[e]
   |some x=>simp only[he x (by simp[lW]),e]
 case lookup t m k c=>
  simp only[lP];rw[he.1,he.2];have h1:=hX.1 t;rw[he.1] at h1;generalize bj C au t m=ad9 at h1 ⊢;split
  ·rename_i l n _ _;rw[Px (l:=l) (fun o bG=>h1 o (by simp[bb.names,b5.cells,d',bG]))]
  ·rfl
 case mapUpdate t m k x=>
  simp only[lP,lP.tA];rw[he.1,he.2.1,he.2.2];have h1:=hX.1 t;rw[he.1] at h1;generalize bj C au t m=ad9 at h1 ⊢;split
  ·rename_i o s n d _ _ _;rw[show st.ai o=au.ai o from h1 o (by simp[bb.names,b5.cells,d',aU.names])]
  ·rfl
 case insert t m k x=>
  simp only[lP,lP.tA];rw[he.1,he.2.1,he.2.2];have h1:=hX.1 t;rw[he.1] at h1;generalize bj C au t m=ad9 at h1 ⊢;split
  ·rename_i o s n d _ _ _;rw[show st.ai o=au.ai o from h1 o (by simp[bb.names,b5.cells,d',aU.names])]
  ·rfl
 case pick c a b=>rw[he.1,he.2.1,he.2.2]
 case alloc elem=>
  cases dst with
  |none=>rfl
  |some o=>
   have e:=nl (aa o rfl);cases bp:C.tt elem with
   |arr _ t n=>exact af9 (aa o rfl)
   |_=>simp only[e]
 case box elem x=>
  rw[he];cases dst with
  |none=>rfl
  |some o=>
   have e:=nl (aa o rfl);cases bp:C.tt elem with
   |arr _ t n=>exact ah9 (aa o rfl)
   |_=>simp only[e]
 case build t ps=>
  have go:∀(b4:List (Nat×Nat)) (r:List (Nat×Operand)) (z:List aU),(∀x,x∈r.map (·.2)->∀T,bj C st T x=bj C au T x)->step.nC C st b4 z r=step.nC C au b4 z r:=by
    intro b4 r;induction r with
    |nil=>intro z _;rfl
    |cons p r ih=>
     obtain⟨i,x⟩:=p;intro z h;simp only[step.nC];rw[h x (by simp)]
     split
     ·rw[ih _ fun x hx=>h x (by simp only[List.map_cons,bR];exact .inr hx)]
     ·rfl
  split
  ·exact go _ _ _ he
  ·split
   ·exact go _ _ _ he
   ·rfl
  ·rfl
 case buildSlice t len ps=>
  cases dst with
  |none=>rfl
  |some o=>
   cases h2:C.tt t<;>try rfl
   rename_i e ty bytes;simp only;have h1:some o=some o:=rfl;have em:(ps.toList.map fun p=>bj C st e p.2)=ps.toList.map fun p=>bj C au e p.2:=by
    apply List.map_congr_left;intro p hp;exact he _ (List.mem_map.2 ⟨p,hp,rfl⟩) e
   have lj:cX st au (hD (ps.toList.map fun p=>bj C st e p.2)):=by
    have:∀l:List (Nat×Operand),(∀p,p∈l->p∈ps.toList)->cX st au (hD (l.map fun p=>bj C st e p.2)):=by
     intro l;induction l with
     |nil=>intro _ o bG;cases bG
     |cons p l ih=>
      intro h o bG;simp only[List.map_cons,hD,bo] at bG;rcases bG with bG|bG
      ·exact hX _ (List.mem_map.2 ⟨p,h p cj,rfl⟩) e o bG
      ·exact ih (fun q aC=>h q (ci _ aC)) o bG
    exact this _ fun _ h=>h
   rw[<-em,nl (aa o h1)];congr 1
   split
   ·rename_i as has;rw[ah4 fun ae b7=>lj ae (ag1 has ae b7)]
   ·rfl
 case load t a=>
  rw[<-he];split
  ·exact agL (hX _)
  ·rw[agK (hX _)]
 case store t a x=>
  rw[<-he.1,<-he.2];split
  ·rename_i v hv;split
   ·exact afK (hX.1 _)
   ·rw[afJ (hX.1 _) (by rw[Qd hv];exact hX.2 _)]
  ·rfl
 case nilCheck x=>rw[he]
 case makeInterface t x=>simp only[lP];rw[he]
 case binOp op t x y ty=>rw[he.1,he.2]
 case unOp op t x=>rw[he]
 case convert src aDA x=>
  cases dst with
  |none=>rfl
  |some o=>simp only;rw[<-he,agY (hX _) (aa o rfl)]
 case makeFunc fn first captured=>
  split
  ·rename_i g;have go:∀(r:List Operand),(∀x,x∈r->∀T,bj C st T x=bj C au T x)->step.oN C st r=step.oN C au r:=by
    intro r;induction r with
    |nil=>intro _;rfl
    |cons x r ih=>
     intro h;simp only[step.oN];rw[h x (by simp),ih fun x hx=>h x (ci _ hx)]
   rw[go _ he]
  ·rfl
 case makeSlice t l c=>
  rw[<-he.1,<-he.2];cases dst with
  |none=>rfl
  |some o=>
   cases h2:C.tt t<;>try rfl
   rename_i e ty bytes;simp only[KA,h2] at hz;have e1:=nl (aa o rfl);have e2:∀z,(C.tt e).zero=some z->gC st z=gC au z:=fun z hzz=>by
    simp only[hzz] at hz;exact y8 hz
   generalize bj C st 0 l=ep;generalize bj C st 0 c=gr;have dN:∀n m aG aK,ep=.av (.aq (.d (.int aG n)))->gr=.av (.aq (.d (.int aK m)))->
     (match(C.tt e).zero with
      |some z=>match gC st z with
       |some (ds,_)=>match dec ty ds with
        |some fm=>dA.il (kh bytes n m fm) (fun _=>cf (.own o (bF st o))) fun r=>[(o,.row (bF st o) ty r)]
        |none=>.fail
       |none=>.fail
      |none=>.fail)=(match(C.tt e).zero with
      |some z=>match gC au z with
       |some (ds,_)=>match dec ty ds with
        |some fm=>dA.il (kh bytes n m fm) (fun _=>cf (.own o (bF au o))) fun r=>[(o,.row (bF au o) ty r)]
        |none=>.fail
       |none=>.fail
      |none=>.fail):=by
    intro n m aG aK _ _;cases hzz:(C.tt e).zero with
    |none=>rfl
    |some z=>simp only[e2 z hzz,e1]
   rcases ep with(ed|_)|_<;>try rfl
   cases ed<;>try rfl
   rename_i d1;cases d1<;>try rfl
   rcases gr with(fU|_)|_<;>try rfl
   cases fU<;>try rfl
   rename_i d2;cases d2<;>try rfl
   exact dN _ _ _ _ rfl rfl
 case slice t x df hi EX=>
  cases EX with
  |some _=>rfl
  |none=>
   simp only;have e1:df.map (bj C st 0)=df.map (bj C au 0):=by
    cases df with
    |none=>rfl
    |some y=>simp only[Option.map_some];rw[he.2 y (by simp)]
   have e2:hi.map (bj C st 0)=hi.map (bj C au 0):=by
    cases hi with
    |none=>rfl
    |some y=>simp only[Option.map_some];rw[he.2 y (by simp)]
   rw[<-he.1,e1,e2];split
   ·exact afN (hX.1 _)
   ·exact afM (hX.1 _)
 case fieldAddr s x f=>rw[he]
 case indexAddr t x i=>
  rw[<-he.1,<-he.2];split
  ·rw[aeR (hX.1 _)]
  ·rw[aeS (hX.1 _)]
  ·rfl
 case index t x i=>rw[he.1,he.2]
 case extract t i=>rw[he]
 case call c=>
  obtain⟨azB,args,Mv⟩:=c;simp only;cases azB with
  |invoke r m=>rfl
  |value f=>
   simp only[lW,bo,bR,List.not_mem_nil,or_false] at KM;simp only[Cq,forall_const] at hb;simp only[bo,bR,List.not_mem_nil,or_false] at he;have em:∀(xs:List Operand) (di:List TypeId),(∀x,x∈xs->∀T,bj C st T x=bj C au T x)->gS C st xs di=gS C au xs di:=by
    intro xs;induction xs with
    |nil=>intro di _;cases di<;>rfl
    |cons x xs ih=>
     intro di h;cases di with
     |nil=>simp only[gS];rw[h x (by simp),ih [] fun y hy=>h y (ci _ hy)]
     |cons T di=>simp only[gS];rw[h x (by simp),ih di fun y hy=>h y (ci _ hy)]
   have E1:∀(xs bm:List Operand) (di:List TypeId),(∀x,x∈xs->x∈bm)->∀o,o∈hD (gS C st xs di)->o∈oz st bm:=by
    intro xs bm;induction xs with
    |nil=>intro di _ o bG;cases di<;>cases bG
    |cons x xs ih=>
     intro di h o bG;cases di with
     |nil=>
      simp only[gS,hD,bo] at bG;rcases bG with bG|bG
      ·exact Aq (h x cj) o bG
      ·exact ih [] (fun y hy=>h y (ci _ hy)) o bG
     |cons T di=>
      simp only[gS,hD,bo] at bG;rcases bG with bG|bG
      ·exact Aq (h x cj) o bG
      ·exact ih di (fun y hy=>h y (ci _ hy)) o bG
   have h1:cX st au (fq st (bj C st 0 f).names):=KM _ fun o bG=>Aq (bo.2 (.inl (by simp))) o bG
   have h2:cX st au (fq st (hD (gS C st args.toList Mv.toList))):=KM _ fun o bG=>E1 _ _ _ (fun x hx=>bo.2 (.inr hx)) o bG
   have h3:=he f (.inl rfl) 0;have aD:=em args.toList Mv.toList fun x hx=>he x (.inr hx)
   cases dst with
   |none=>show mw C 0 st _ _=mw C 0 au _ _;rw[<-h3,<-aD];exact OX hb h1 h2
   |some d=>show mw C d st _ _=mw C d au _ _;rw[<-h3,<-aD];exact OX hb h1 h2
  |builtin b=>
   simp only[List.nil_append] at he hX;generalize args.toList=xs at he hX;generalize Mv.toList=cv;cases b<;>try rfl
   case append=>
    rcases dst with _|o
    ·rfl
    rcases xs with _|⟨s,_|⟨x,_|_⟩⟩<;>try rfl
    rcases cv with _|⟨t,_|⟨u,_|_⟩⟩<;>try rfl
    have e1:=he s (by simp) t
    have e2:=he x (by simp) u
    dsimp only;cases C.tt t<;>try rfl
    cases C.tt u<;>try rfl
    all_goals dsimp only
    all_goals rw[<-e1,<-e2]
    all_goals first|exact afs (hX s (by simp) _) (hX x (by simp) _) (aa o rfl)|exact aft (hX s (by simp) _) (aa o rfl)
   case len=>
    rcases xs with _|⟨s,_|⟨x,_|_⟩⟩<;>try rfl
    rcases cv with _|⟨t,_|⟨u,_|_⟩⟩<;>try rfl
    have e1:=he s (by simp) t
    dsimp only;rw[<-e1];exact ahS (hX s (by simp) _)
   case max=>
    rcases xs with _|⟨s,_|⟨x,_|⟨z,_|⟨u,_|⟨v,_|_⟩⟩⟩⟩⟩<;>try rfl
    ·have e1:=he s (by simp) type
     have e2:=he x (by simp) type
     dsimp only;rw[<-e1,<-e2]
    ·have e1:=he s (by simp) type
     have e2:=he x (by simp) type
     have bE:=he z (by simp) type
     have dN:=he u (by simp) type
     have fp:=he v (by simp) type
     dsimp only;rw[<-e1,<-e2,<-bE,<-dN,<-fp]
   case min=>
    rcases xs with _|⟨s,_|⟨x,_|_⟩⟩<;>try rfl
    have e1:=he s (by simp) type
    have e2:=he x (by simp) type
    dsimp only;rw[<-e1,<-e2]
def e8(r:Option Nat):Fence:={Fence.wide with round:=r}
abbrev gI(r:Option Nat)(P:Program)(c:Code)(Q:Exit->Act->World->Prop)(a:Act)(w:World):Prop:=c.wpIn (e8 r) 0 P Q a w
theorem Dk(r:Option Nat)(f:FuncId):(e8 r).fn f:=trivial
theorem Uz(r:Option Nat)(n:Nat):(e8 r).room n:=fun _ h=>by simp[e8,Fence.wide] at h
theorem gI.any{r:Option Nat}{P:Program}{c:Code}{Q:Exit->Act->World->Prop}{a:Act}{w:World}(h:gI r P c Q a w)(n:Nat):c.wpIn (e8 r) n P Q a w:=
 fun b k cs MY hb _=>h b k cs MY hb (Uz r _)
theorem gI.of{r:Option Nat}{P:Program}{c:Code}{Q:Exit->Act->World->Prop}{a:Act}{w:World}{n:Nat}(h:c.wpIn (e8 r) n P Q a w):gI r P c Q a w:=
 fun b k cs MY hb _=>h b k cs MY hb (Uz r _)
theorem gI.wp{P:Program}{c:Code}{Q:Exit->Act->World->Prop}{a:Act}{w:World}(h:gI none P c Q a w):c.wp P Q a w:=(wpIn_wide (n:=0)).1 h
theorem ah7{r:Option Nat}{n:Nat}{P:Program}{f:FuncId}{args:Array Value}{w:World}{R:Ending->World->Prop}(h:Calls P f args w R):CallsIn (e8 r) n P f args w R:=by
 cases r with
 |none=>exact callsIn_wide.2 h
 |some l=>exact CallsIn.inRound l (callsIn_wide.2 h)
theorem aiS{r:Option Nat}{n:Nat}{P:Program}{row:String}{args:Array Value}{w:World}{R:Value->World->Prop}(h:Rows P row args w R):RowsIn (e8 r) n P row args w R:=by
 intro c cs _;obtain⟨v,w',hr,hs⟩:=h c cs;exact⟨v,w',hr,stepsIn_wide.2 hs⟩
theorem vI(M:Array Value)(ds:List Deferred)(dst:Option Nat)(v:Value):(⟨M,ds⟩:Act).put dst v=⟨cQ M dst v,ds⟩:=by cases dst<;>rfl
theorem KJ{P:Program}{D:Oper}{M:Array Value}{w:World}{K:Act->World->Prop}(b6:∀a w,K a w->a.defers=[])(h:D.wp P ⟨M,[]⟩ w K (fun _ _ _=>False))(r:Option Nat)(ds:List Deferred){Q:Exit->Act->World->Prop}:
  D.wpIn (e8 r) 0 P ⟨M,ds⟩ w (fun c' w'=>∃v,c'=⟨cQ M D.dst v,ds⟩/\K ⟨cQ M D.dst v,[]⟩ w') Q:=by
 refine⟨fun f _=>Dk r f,?_⟩
 have bL:(⟨M,ds⟩:Act).eval=(⟨M,[]⟩:Act).eval:=by funext x;cases x<;>rfl
 rw[bL];unfold Oper.wp at h;have aa:∀c,D.op≠.defer c:=by
  intro c aP;have:(execOp (Act.eval ⟨M,[]⟩) D)=(do let d <-resolve (Act.eval ⟨M,[]⟩) c D.type;pure (.defer d)):=by
   unfold execOp;simp only[aP]
  rw[this] at h;simp only[Sem.run_bind] at h;cases hr:(resolve (Act.eval ⟨M,[]⟩) c D.type).run P w with
  |ok d w'=>
   rw[hr] at h;simp only[Result.andThen_ok,Sem.run_pure,Oper.upon] at h;have:=b6 _ _ h;cases dY:D.dst<;>rw[dY] at this<;>simp[Act.put] at this
  |halt x w'=>
   rw[hr] at h;cases x<;>simp[Result.andThen,Oper.upon] at h
 rw[Oper.semAt_eq _ _ _ aa];generalize(execOp (Act.eval ⟨M,[]⟩) D).run P w=fH at h;have hp:∀v,(⟨M,ds⟩:Act).put D.dst v=⟨cQ M D.dst v,ds⟩:=vI M ds D.dst;have rY:∀v,(⟨M,[]⟩:Act).put D.dst v=⟨cQ M D.dst v,[]⟩:=vI M [] D.dst;cases fH with
 |ok x w'=>
  cases x with
  |value v=>simp only[Oper.upon,Oper.uponIn,rY] at h ⊢;exact⟨v,hp v,h⟩
  |skip=>simp only[Oper.upon,Oper.uponIn,rY] at h ⊢;exact⟨undef,hp _,h⟩
  |defer d=>
   simp only[Oper.upon] at h;have:=b6 _ _ h;cases dY:D.dst<;>rw[dY] at this<;>simp[Act.put] at this
  |enter f args=>
   simp only[Oper.upon,Oper.uponIn] at h ⊢;refine⟨fun h=>by simp[e8,Fence.wide] at h,(ah7 h).mono fun e D7 he=>?_⟩
   cases e with
   |returned v=>simp only[rY] at he;exact⟨v,hp v,he⟩
   |panicked c=>exact he.elim
   |outgrown=>obtain⟨a0,U,aC⟩:=he;exact aC.elim
  |row row args=>
   simp only[Oper.upon,Oper.uponIn] at h ⊢;refine⟨fun h=>by simp[e8,Fence.wide] at h,(aiS h).mono fun v D7 he=>?_⟩
   simp only[rY] at he;exact⟨v,hp v,he⟩
  |_=>simp only[Oper.upon] at h
 |halt x w'=>
  cases x<;>simp only[Oper.upon] at h
def i_:List Oper->List Nat
 |[]=>[]
 |D::r=>D.dst.toList++i_ r
def ib:Nat:=1000000000
def cJ:Code->List Nat
 |.region _ ops _=>i_ ops.toList
 |.seq a b|.cond _ a b=>cJ a++cJ b
 |.block _ a|.loop a=>cJ a
 |.rangeFunc _ ps a b=>ib::(ps.toList++(cJ a++cJ b))
 |_=>[]
def hH:Code->Bool
 |.seq a b|.cond _ a b=>hH a&&hH b
 |.block _ a|.loop a=>hH a
 |.rangeFunc _ _ _ _=>false
 |_=>true
def mark(bk:Nat):Deferred:={target:=.collected bk,args:=#[]}
structure iM(U:World)(Z:List Nat)(X:Nat->Prop)(a':World)(ec:List Nat)(dp:Nat->Prop):Prop where
 c4:∀w,Fr ec a' w->Fr Z U w
 cF:∀b,(b∈ec\/a'.heap.size<=b)->(b∈Z\/U.heap.size<=b)
 x:∀b,X b->dp b
structure Marks(U:World)(eg:List Nat)(a':World)(ec:List Nat)(dp:Nat->Prop):Prop where
 nodup:eg.Nodup
 new:∀bk,bk∈eg->U.heap.size<=bk
 h':∀bk,bk∈eg->a'.heap[bk]? =some (.deferred (some []))/\bk∉ec/\dp bk
def eX(U:World)(Z:List Nat)(X:Nat->Prop)(ds:List Deferred)(fa:Array Value)(W:List Nat)(st:ao)(a:Act)(w:World):Prop:=
 ∃a' ec dp F eg,iM U Z X a' ec dp/\Marks U eg a' ec dp/\(a.defers=eg.map mark++ds/\(ib∉W->eg=[]))/\az a' ec dp F st a.tmps w/\∀t,t∉W->a.tmps.getD t undef=fa.getD t undef
def fD(U:World)(Z:List Nat)(X:Nat->Prop)(ds:List Deferred)(fa:Array Value)(W:List Nat):Out->Exit->Act->World->Prop
 |.norm st,.normal,a,w=>eX U Z X ds fa W st a w
 |.exit id st,.exit jv,a,w=>id=jv/\eX U Z X ds fa W st a w
 |.ret st,.ret,a,w=>eX U Z X ds fa W st a w
 |_,_,_,_=>False
theorem iM.refl(U:World)(Z:List Nat)(X:Nat->Prop):iM U Z X U Z X:=⟨fun _ h=>h,fun _ h=>h,fun _ h=>h⟩
theorem iM.trans{U a' w2:World}{Z ec fl:List Nat}{X dp cP:Nat->Prop}(h:iM U Z X a' ec dp)(k:iM a' ec dp w2 fl cP):iM U Z X w2 fl cP:=
 ⟨fun w hw=>h.c4 w (k.c4 w hw),fun b hb=>h.cF b (k.cF b hb),fun b hb=>k.x b (h.x b hb)⟩
theorem Marks.nil(U a':World)(Z:List Nat)(X:Nat->Prop):Marks U [] a' Z X:=⟨List.nodup_nil,fun _ h=>by simp at h,fun _ h=>by simp at h⟩
theorem Marks.lt{U a':World}{Z:List Nat}{X:Nat->Prop}{eg:List Nat}(h:Marks U eg a' Z X){bk:Nat}(fV:bk∈eg):bk<a'.heap.size:=by
 have:=(h.h' bk fV).1;exact(Array.getElem?_eq_some_iff.1 this).1
theorem Marks.trans{U a' w2:World}{Z ec fl:List Nat}{X dp cP:Nat->Prop}{eg ES:List Nat}(hb:iM U Z X a' ec dp)(h:Marks U eg a' ec dp)(k:iM a' ec dp w2 fl cP)(m:Marks a' ES w2 fl cP):
  Marks U (ES++eg) w2 fl cP:=by
 have hf:Fr ec a' w2:=k.c4 w2 (Fr.refl _ _);refine⟨List.nodup_append.2 ⟨m.nodup,h.nodup,fun a ha b hb e=>?_⟩,fun bk fV=>?_,fun bk fV=>?_⟩
 ·subst e;have h1:=m.new a ha;have h2:=h.lt hb;omega
 ·rcases bo.1 fV with fV|fV
  ·have h1:=m.new bk fV;have h2:Fr Z U a':=hb.c4 a' (Fr.refl _ _);have:=h2.size;omega
  ·exact h.new bk fV
 ·rcases bo.1 fV with fV|fV
  ·exact m.h' bk fV
  ·obtain⟨h1,h2,h3⟩:=h.h' bk fV;have hlt:=h.lt fV;refine⟨(hf.block bk hlt h2).trans h1,fun aD=>?_,k.x bk h3⟩
   rcases k.cF bk (.inl aD) with bn|bn
   ·exact h2 bn
   ·omega
section
variable {U:World}{Z:List Nat}{X:Nat->Prop}{ds:List Deferred}{fa:Array Value}{W:List Nat}
theorem eX.of{F:Nat->Value}{st:ao}{M:Array Value}{w:World}(S:az U Z X F st M w)(ay:∀t,t∉W->M.getD t undef=fa.getD t undef):eX U Z X ds fa W st ⟨M,ds⟩ w:=
 ⟨U,Z,X,F,[],iM.refl _ _ _,Marks.nil _ _ _ _,⟨rfl,fun _=>rfl⟩,S,ay⟩
theorem eX.mono{dr:List Nat}(h:∀t,t∈W->t∈dr){st:ao}{a:Act}{w:World}(k:eX U Z X ds fa W st a w):eX U Z X ds fa dr st a w:=by
 obtain⟨a',ec,dp,F,eg,h1,h2,h3,aD,bn⟩:=k;exact⟨a',ec,dp,F,eg,h1,h2,⟨h3.1,fun hn=>h3.2 fun an=>hn (h _ an)⟩,aD,fun t ay=>bn t fun an=>ay (h t an)⟩
theorem fD.mono{dr:List Nat}(h:∀t,t∈W->t∈dr):∀{D:Out} {e:Exit} {a:Act} {w:World},fD U Z X ds fa W D e a w->fD U Z X ds fa dr D e a w:=by
 intro D e a w k;cases D<;>cases e<;>first|exact eX.mono h k|exact⟨k.1,eX.mono h k.2⟩|exact k.elim
theorem eX.trans{a':World}{ec:List Nat}{dp:Nat->Prop}{eg:List Nat}{W1 j1:List Nat}{is:Array Value}(hb:iM U Z X a' ec dp)(hm:Marks U eg a' ec dp)(hr:ib∉W1->eg=[])(ay:∀t,t∉W1->is.getD t undef=fa.getD t undef)
  {st:ao} {a:Act} {w:World} (k:eX a' ec dp (eg.map mark++ds) is j1 st a w):eX U Z X ds fa (W1++j1) st a w:=by
 obtain⟨w2,fl,cP,F,ES,h1,h2,h3,aD,bn⟩:=k;refine⟨w2,fl,cP,F,ES++eg,hb.trans h1,hm.trans hb h1 h2,⟨by rw[h3.1,List.map_append,List.append_assoc],fun hn=>by
  simp only[bo,not_or] at hn;rw[h3.2 hn.2,hr hn.1];rfl⟩,aD,fun t MV=>?_⟩
 simp only[bo,not_or] at MV;rw[bn t MV.2,ay t MV.1]
theorem fD.trans{a':World}{ec:List Nat}{dp:Nat->Prop}{eg:List Nat}{W1 j1:List Nat}{is:Array Value}(hb:iM U Z X a' ec dp)(hm:Marks U eg a' ec dp)(hr:ib∉W1->eg=[])(ay:∀t,t∉W1->is.getD t undef=fa.getD t undef)
  {D:Out} {e:Exit} {a:Act} {w:World} (k:fD a' ec dp (eg.map mark++ds) is j1 D e a w):fD U Z X ds fa (W1++j1) D e a w:=by
 cases D<;>cases e<;>first|exact eX.trans hb hm hr ay k|exact⟨k.1,eX.trans hb hm hr ay k.2⟩|exact k.elim
end
def aV(P:Program)(c:Code)(f:iw):Prop:=
 ∀r,r=none\/hH c=true->∀U Z X st y,(f st).comp=some y->∀F M w ds,az U Z X F st M w->gI r P c (fD U Z X ds M (cJ c) ((f st).out y)) ⟨M,ds⟩ w
def gL(P:Program)(C:io):Code->Nat->Prop
 |.seq a b,p=>(∀f,C.oW p=some f->aV P (.seq a b) f)/\gL P C a (2*p)/\gL P C b (2*p+1)
 |.cond c a b,p=>(∀f,C.oW p=some f->aV P (.cond c a b) f)/\gL P C a (2*p)/\gL P C b (2*p+1)
 |.block id a,p=>(∀f,C.oW p=some f->aV P (.block id a) f)/\gL P C a (2*p)
 |c,p=>∀f,C.oW p=some f->aV P c f
def gA:Code->Nat->List (Nat×Code)
 |.seq a b,p=>(p,.seq a b)::(gA a (2*p)++gA b (2*p+1))
 |.cond c a b,p=>(p,.cond c a b)::(gA a (2*p)++gA b (2*p+1))
 |.block id a,p=>(p,.block id a)::gA a (2*p)
 |c,p=>[(p,c)]
theorem TQ{P:Program}{C:io}:∀(c:Code) (p:Nat),(∀q fM,(q,fM)∈gA c p->∀f,C.oW q=some f->aV P fM f)->gL P C c p:=by
 intro c;induction c with
 |seq a b mV rS=>
  intro p h;simp only[gA] at h;exact⟨h p _ cj,mV _ fun q fM hm=>h q fM (ci _ (bo.2 (.inl hm))),rS _ fun q fM hm=>h q fM (ci _ (bo.2 (.inr hm)))⟩
 |cond D a b mV rS=>
  intro p h;simp only[gA] at h;exact⟨h p _ cj,mV _ fun q fM hm=>h q fM (ci _ (bo.2 (.inl hm))),rS _ fun q fM hm=>h q fM (ci _ (bo.2 (.inr hm)))⟩
 |block id a mV=>
  intro p h;simp only[gA] at h;exact⟨h p _ cj,mV _ fun q fM hm=>h q fM (ci _ hm)⟩
 |_=>intro p h;exact h p _ (by simp[gA])
section
variable {P:Program}{U:World}{Z:List Nat}{X:Nat->Prop}{F:Nat->Value}{st:ao}{M:Array Value}{w:World}
theorem az.nA(S:az U Z X F st M w){t:Nat}{v:bb}(hv:cy F st.sites w (aN X F st.sites) v (M.getD t undef)):az U Z X F (st.set t v) M w:=by
 refine⟨S.nt,fun u=>?_,S.sites,S.eD,S.cF,S.frame,S.old,S.fw⟩
 rw[ao.Jf];by_cases h:t=u
 ·subst h;simp only[if_true];exact hv
 ·simp only[h,if_false];exact S.c8 u
variable {R:Type}{C:Ctx}{ops:Array Oper}
theorem Q8(S:az U Z X F st M w)(H:aT P C){D:Oper}{K:ao->Option R}{r:R}(h:kX C st D K=some r){N:Act->World->Prop}{Q:Exit->Act->World->Prop}
  (b6:∀au a_ ca w',K au=some r->az U Z X a_ au ca w'->N ⟨ca,[]⟩ w'):D.wp P ⟨M,[]⟩ w N Q:=by
 unfold kX at h;cases aa:cE st D.dst with
 |false=>simp[aa] at h
 |true=>
  simp only[aa,ad] at h;have hs:=amB S H aa;cases hc:(step C st D).comp with
  |none=>simp[hc] at h
  |some y=>
   simp only[hc,Y] at h;cases hk:(step C st D).sj y with
   |false=>simp[hk] at h
   |true=>
    simp only[hk,ad] at h;exact hs y hc hk N Q fun a_ ca w' cA=>b6 _ a_ ca w' h cA
theorem ahu{T e:TypeId}(h:P.underlying T=some (.slice e))(a:Option Addr)(n c:Nat)(neg:Bool):
  (binOp (if neg then .neq else .eql) T (.slice a n c) (.slice none 0 0)).run P w=.ok (.bool (if neg then !a.isNone else a.isNone)) w:=by
 have e:(Op.equal T (.slice a n c) (.slice none 0 0)).run P w=.ok a.isNone w:=by
  have key:∀d:Nat,(Op.equalIn (d+1) T (.slice a n c) (.slice none 0 0)).run P w=.ok a.isNone w:=fun d=>by cases a<;>simp[Op.equalIn,run_underlying h]
  exact key 9999
 cases neg
 ·show((do pure (.bool (<-Op.equal T (.slice a n c) (.slice none 0 0)))):Sem Value).run P w=_
  simp only[Sem.run_bind,e,Result.andThen_ok,Sem.run_pure];rfl
 ·show((do pure (.bool (!(<-Op.equal T (.slice a n c) (.slice none 0 0))))):Sem Value).run P w=_
  simp only[Sem.run_bind,e,Result.andThen_ok,Sem.run_pure];rfl
theorem aeO{op:BinOp}{T:TypeId}{x y:Operand}{a b:Option Addr}{n c h7 fM:Nat}:(eqGuard op T x y (.slice a n c) (.slice b h7 fM)).run P w=.ok () w:=by
 unfold eqGuard;cases op<;>rfl
theorem ahJ{D:Oper}{t:bi}{xs:List (den t)}{neg:Bool}(h:J2 C st D=some (⟨t,xs⟩,neg)):∃T x n' e ty bytes,D.op=.binOp (if neg then .neq else .eql) T x (.const (.slice none 0 0)) n'/\C.tt T=.slice e ty bytes/\bj C st T x=.av (.aq (.d (.sl t xs))):=by
 unfold J2 at h;split at h
 ·rename_i op T x n' aP;split at h
  ·rename_i e ty bytes bp;split at h
   ·split at h
    ·rename_i bw jq hx;cases h;exact⟨T,x,n',e,ty,bytes,aP,bp,hx⟩
    ·cases h
   ·split at h
    ·rename_i bw jq hx;cases h;exact⟨T,x,n',e,ty,bytes,aP,bp,hx⟩
    ·cases h
   ·cases h
  ·cases h
 ·cases h
theorem afe{t:bi}{xs:List (den t)}{a b:Option R}{r:R}(h:qR xs a b=some r):b=some r/\(xs=[]->a=some r):=by
 unfold qR at h;split at h
 ·rename_i acZ;exact⟨h,fun he=>(acZ he).trans h⟩
 ·cases h
theorem akL(S:az U Z X F st M w)(H:aT P C){D:Oper}{K:ao->Option R}{r:R}(h:wM C st D K=some r){N:Act->World->Prop}{Q:Exit->Act->World->Prop}
  (b6:∀au a_ ca w',K au=some r->az U Z X a_ au ca w'->N ⟨ca,[]⟩ w'):D.wp P ⟨M,[]⟩ w N Q:=by
 unfold wM at h;split at h
 ·rename_i t xs neg hn;cases aa:cE st D.dst with
  |false=>simp[aa] at h
  |true=>
   simp only[aa,ad] at h;obtain⟨h2,h1⟩:=afe h;obtain⟨T,x,n',e,ty,bytes,aP,bp,hx⟩:=ahJ hn;have hs:=dX S C T x;rw[hx] at hs;have bY:=H.tt T;rw[bp] at bY;have run:∀{a:Option Addr} {n c:Nat},Act.eval ⟨M,[]⟩ x=.slice a n c->(execOp (Act.eval ⟨M,[]⟩) D).run P w=.ok (.value (.bool (if neg then !a.isNone else a.isNone))) w:=by
    intro a n c hv;unfold execOp;have hc:Act.eval ⟨M,[]⟩ (.const (.slice none 0 0))=.slice none 0 0:=rfl;simp only[aP,hv,hc,Sem.run_bind,aeO,ahu bY.1.1,Result.andThen_ok,Sem.run_pure]
   have fin:∀b:Bool,(execOp (Act.eval ⟨M,[]⟩) D).run P w=.ok (.value (.bool b)) w->K (st.dh D.dst (one (.bool b)) [])=some r->D.wp P ⟨M,[]⟩ w N Q:=by
    intro b hr hk;refine pM hr (b6 _ _ _ _ hk (az.dh (us:=[]) S aa ?_));exact bU.bool b
   have hs:bU w (aN X F st.sites) (.sl t xs) (Act.eval ⟨M,[]⟩ x):=hs;generalize jo:Act.eval ⟨M,[]⟩ x=v at hs;cases hs with
   |nil=>
    have:=run jo;cases neg
    ·exact fin true this (h1 rfl)
    ·exact fin false this (h1 rfl)
   |sl t xs a cap cs n jc hcap hb hl hc hr=>
    have:=run jo;cases neg
    ·exact fin false this h2
    ·exact fin true this h2
 ·exact Q8 S H h b6
theorem aiM(S:az U Z X F st M w){D:Oper}{K:ao->Option R}{r:R}(h:tw st D K=some r){N:Act->World->Prop}
  (b6:∀au a_ ca w',K au=some r->az U Z X a_ au ca w'->N ⟨ca,[]⟩ w'):N ((⟨M,[]⟩:Act).put D.dst undef) w:=by
 unfold tw at h;cases aa:cE st D.dst with
 |false=>simp[aa] at h
 |true=>
  simp only[aa,ad] at h;have:(⟨M,[]⟩:Act).put D.dst undef=⟨cQ M D.dst undef,[]⟩:=by cases D.dst<;>rfl
  rw[this];exact b6 _ _ _ _ h (az.dh (us:=[]) S aa rfl)
theorem jE{M:Array Value}{dst:Option Nat}{v:Value}{t:Nat}(h:t∉dst.toList):(cQ M dst v).getD t undef=M.getD t undef:=by
 cases dst with
 |none=>rfl
 |some d=>
  have:d≠t:=fun e=>h (by simp[e])
  simp[cQ,Array.getD_eq_getD_getElem?,Array.getElem?_setIfInBounds_ne this]
variable {rn:Option Nat}{ds:List Deferred}
theorem G'(S:az U Z X F st M w)(H:aT P C){D:Oper}{K:ao->Option R}{r:R}(h:wM C st D K=some r){N:Act->World->Prop}{Q:Exit->Act->World->Prop}
  (b6:∀au a_ ca w',K au=some r->az U Z X a_ au ca w'->(∀t,t∉D.dst.toList->ca.getD t undef=M.getD t undef)->N ⟨ca,ds⟩ w'):D.wpIn (e8 rn) 0 P ⟨M,ds⟩ w N Q:=by
 refine Oper.wpIn_mono ?_ (KJ (K:=fun a w=>a.defers=[]/\∃au a_,K au=some r/\az U Z X a_ au a.tmps w) (fun _ _ h=>h.1) (akL S H h fun au a_ ca w' hk cA=>⟨rfl,au,a_,hk,cA⟩) rn ds)
 rintro a w' ⟨v,rfl,_,au,a_,hk,cA⟩;exact b6 au a_ _ w' hk cA fun t ay=>jE ay
theorem oo(S:az U Z X F st M w)(H:aT P C){D:Oper}{K:ao->Option R}{r:R}(h:kX C st D K=some r){N:Act->World->Prop}{Q:Exit->Act->World->Prop}
  (b6:∀au a_ ca w',K au=some r->az U Z X a_ au ca w'->(∀t,t∉D.dst.toList->ca.getD t undef=M.getD t undef)->N ⟨ca,ds⟩ w'):D.wpIn (e8 rn) 0 P ⟨M,ds⟩ w N Q:=by
 refine Oper.wpIn_mono ?_ (KJ (K:=fun a w=>a.defers=[]/\∃au a_,K au=some r/\az U Z X a_ au a.tmps w) (fun _ _ h=>h.1) (Q8 S H h fun au a_ ca w' hk cA=>⟨rfl,au,a_,hk,cA⟩) rn ds)
 rintro a w' ⟨v,rfl,_,au,a_,hk,cA⟩;exact b6 au a_ _ w' hk cA fun t ay=>jE ay
theorem zf(S:az U Z X F st M w){D:Oper}{K:ao->Option R}{r:R}(h:tw st D K=some r){N:Act->World->Prop}
  (b6:∀au a_ ca w',K au=some r->az U Z X a_ au ca w'->(∀t,t∉D.dst.toList->ca.getD t undef=M.getD t undef)->N ⟨ca,ds⟩ w'):N ((⟨M,ds⟩:Act).put D.dst undef) w:=by
 rw[vI];refine aiM (N:=fun a w=>∀t0,a.tmps=t0->t0=cQ M D.dst undef->N ⟨t0,ds⟩ w) S h (fun au a_ ca w' hk cA t0 e1 e2=>?_) (cQ M D.dst undef) (by rw[vI]) rfl
 subst e1;exact b6 au a_ _ w' hk cA fun t ay=>by have e2:ca=cQ M D.dst undef:=e2;rw[e2];exact jE ay
theorem aiR(H:aT P C){r:R}{W:List Nat}:∀(n k:Nat),ops.size=k+n->(∀D,D∈ops.toList.drop k->∀t,t∈D.dst.toList->t∈W)->∀(st:ao) (F:Nat->Value) (M:Array Value) (w:World) (K:ao->Option R) (Q:Exit->Act->World->Prop),az U Z X F st M w->
  wm C ops (ops.toList.drop k) st K=some r->(∀au a_ ca w',K au=some r->az U Z X a_ au ca w'->(∀t,t∉W->ca.getD t undef=M.getD t undef)->Q .normal ⟨ca,ds⟩ w')->wpOpsIn (e8 rn) 0 P ops Q (List.range' k n) ⟨M,ds⟩ w:=by
 intro n;induction n with
 |zero=>
  intro k hk _ st F M w K Q S h b6;rw[List.drop_eq_nil_of_le (by simp;omega)] at h
  exact b6 st F M w h S fun _ _=>rfl
 |succ n ih=>
  intro k hk hW st F M w K Q S h b6;have hlt:k<ops.size:=by omega
  have aP:ops[k]? =some ops[k]:=Array.getElem?_eq_getElem hlt;have wU:ops.toList.drop k=ops[k]::ops.toList.drop (k+1):=by
   rw[List.drop_eq_getElem_cons (by simpa using hlt)];simp
  rw[wU] at h hW;simp only[wm] at h;rw[show List.range' k (n+1)=k::List.range' (k+1) n from rfl]
  simp only[wpOpsIn,aP];have ayY:=hW _ cj;have Nq:=fun D aP=>hW D (ci _ aP)
  have next:∀au a_ ca w',wm C ops (ops.toList.drop (k+1)) au K=some r->az U Z X a_ au ca w'->(∀t,t∉(ops[k]).dst.toList->ca.getD t undef=M.getD t undef)->wpOpsIn (e8 rn) 0 P ops Q (List.range' (k+1) n) ⟨ca,ds⟩ w':=
   fun au a_ ca w' an cA ay=>ih (k+1) (by omega) Nq au a_ ca w' K Q cA an fun xC iN qm w2 hk2 iC me=>b6 xC iN qm w2 hk2 iC fun t acF=>(me t acF).trans (ay t fun an=>acF (ayY t an))
  generalize ops[k]=D at h next ⊢
  have pn:∀f,D.about P w (Act.eval ⟨M,ds⟩)=some f->(e8 rn).fn f:=fun f _=>Dk rn f
  unfold Ug at h;cases hg:D.guard with
  |none=>
   simp only[hg] at h;rw[if_pos (by simp[Region.wanted,hg])]
   exact G' S H h next
  |some Od=>
   obtain⟨j,want⟩:=Od;simp only[hg] at h;have hw:Region.wanted D (yielded ops M)=(yielded ops M j==some want):=by simp[Region.wanted,hg]
   cases hj:(ops[j]?).bind (·.dst) with
   |none=>simp[hj] at h
   |some t=>
    simp only[hj] at h;have jJ:=S.c8 t;split at h
    ·rename_i b hb;rw[hb] at jJ;have hv:=j6 jJ;have hy:yielded ops M j=some b:=by
      have ay:t<M.size:=by
       rcases Nat.lt_or_ge t M.size with an|an
       ·exact an
       ·simp[Array.getD,Nat.not_lt.2 an,undef] at hv
      have:M[t]? =some (.bool b):=by
       rw[Array.getElem?_eq_getElem ay];simpa[Array.getD,ay] using hv
      simp[yielded,hj,this]
     rw[hy] at hw;have go:∀bS,b=bS->az U Z X F (st.set t (one (.bool bS))) M w:=fun bS e=>S.nA (by rw[hv,e];exact .bool _)
     cases b<;>cases want<;>simp only[ad,ak,bu,bK] at h
     ·rw[if_pos (by rw[hw];rfl)];exact G' (go false rfl) H h next
     ·rw[if_neg (by rw[hw];decide)];exact⟨pn,zf (go false rfl) h next⟩
     ·rw[if_neg (by rw[hw];decide)];exact⟨pn,zf (go true rfl) h next⟩
     ·rw[if_pos (by rw[hw];rfl)];exact G' (go true rfl) H h next
    ·rename_i x hb;rw[hb] at jJ;have hv:M.getD t undef=.tuple x:=jJ;have hy:yielded ops M j=none:=by
      simp only[yielded,hj,Y];cases ay:M[t]? with
      |none=>rfl
      |some v=>
       have:M.getD t undef=v:=by simp[Array.getD_eq_getD_getElem?,ay]
       rw[this] at hv;rw[hv]
     rw[hy] at hw;rw[if_neg (by rw[hw];simp)]
     exact⟨pn,zf S h next⟩
    ·cases h
end
abbrev pu:=Nat⊕Nat
def eL(st:ao):pu->bb⊕Option Site
 |.inl t=>.inl (st.get t)
 |.inr o=>.inr (st.ai o)
def ou{aE:Type}:List (Nat×aE)->Nat->Option aE
 |[],_=>none
 |(k,v)::r,n=>match ou r n with
  |some x=>some x
  |none=>bif k.beq n then some v else none
def Rec.wr(x:Rec):pu->Option (bb⊕Option Site)
 |.inl t=>match x.D.dst with
  |some d=>bif d.beq t then some (.inl x.v) else none
  |none=>none
 |.inr o=>(ou x.us o).map fun s=>.inr (some s)
theorem aiC:∀(us:List (Nat×Site)) (st:ao) (o:Nat),(st.iI us).ai o=match ou us o with|some s=>some s|none=>st.ai o:=by
 intro us;induction us with
 |nil=>intro st o;rfl
 |cons p us ih=>
  obtain⟨k,s⟩:=p;intro st o;simp only[ao.iI,ih,ou];cases ou us o with
  |some x=>rfl
  |none=>
   simp only[ao.yN];by_cases h:k=o
   ·subst h;simp
   ·simp[h,ke h]
theorem RP:∀(us:List (Nat×Site)) (st:ao) (t:Nat),(st.iI us).get t=st.get t:=by
 intro us;induction us with
 |nil=>intro st t;rfl
 |cons p us ih=>intro st t;simp only[ao.iI,ih,ao.agQ]
theorem S1:∀(us:List (Nat×Site)) (st:ao),(st.iI us).nt=st.nt:=by
 intro us;induction us with
 |nil=>intro st;rfl
 |cons p us ih=>intro st;simp only[ao.iI,ih,ao.ahI]
theorem Ku(st:ao)(d:Option Nat)(v:bb)(us:List (Nat×Site)):(st.dh d v us).nt=st.nt:=by
 cases d<;>simp only[ao.dh,ao.apN,S1]
theorem zG(st:ao)(x:Rec)(l:pu):eL (st.dh x.D.dst x.v x.us) l=match x.wr l with|some u=>u|none=>eL st l:=by
 cases l with
 |inl t=>
  simp only[eL,Rec.wr];cases x.D.dst with
  |none=>simp only[ao.dh,RP]
  |some d=>
   simp only[ao.dh,ao.Jf,RP];by_cases h:d=t
   ·subst h;simp
   ·simp[h,ke h]
 |inr o=>
  simp only[eL,Rec.wr];have:(st.dh x.D.dst x.v x.us).ai o=(st.iI x.us).ai o:=by cases x.D.dst<;>simp only[ao.dh,ao.akI]
  rw[this,aiC];cases ou x.us o<;>rfl
def eP(L:Nat->Bool):Nat->List Rec->ao->ao
 |_,[],st=>st
 |k,x::r,st=>eP L (k+1) r (bif L k then st.dh x.D.dst x.v x.us else st)
theorem HO{L:Nat->Bool}:∀{xs:List Rec} {k:Nat} {st:ao},(eP L k xs st).nt=st.nt:=by
 intro xs;induction xs with
 |nil=>intro k st;rfl
 |cons x xs ih=>intro k st;simp only[eP,ih];cases L k<;>simp[Ku]
theorem FS{L L':Nat->Bool}:∀{xs:List Rec} {k:Nat} {st au:ao} {l:pu},eL st l=eL au l->(∀j x,xs[j]? =some x->x.wr l≠none->L (k+j)=L' (k+j))->eL (eP L k xs st) l=eL (eP L' k xs au) l:=by
 intro xs;induction xs with
 |nil=>intro k st au l h _;exact h
 |cons x xs ih=>
  intro k st au l h ee;simp only[eP];refine ih ?_ fun j y hy hw=>?_
  ·cases hw:x.wr l with
   |none=>
    have e1:∀s:ao,eL (s.dh x.D.dst x.v x.us) l=eL s l:=fun s=>by rw[zG,hw]
    cases L k<;>cases L' k<;>simp only[ad,ak,e1,h]
   |some u=>
    have:=ee 0 x rfl (by rw[hw];intro h;cases h)
    simp only[Nat.add_zero] at this;rw[this];cases L' k with
    |true=>simp only[ad,zG,hw]
    |false=>simp only[ak,h]
  ·have:=ee (j+1) y (by simpa using hy) hw
   rw[show k+(j+1)=k+1+j from by omega] at this
   exact this
theorem FT{xs:List Rec}:∀{k:Nat} {st:ao} {L:Nat->Bool},(∀j,k<=j->L j=false)->eP L k xs st=st:=by
 induction xs with
 |nil=>intro k st L _;rfl
 |cons x xs ih=>
  intro k st L h;simp only[eP,h k (Nat.le_refl _),ak];exact ih fun j hj=>h j (by omega)
theorem PK{L L':Nat->Bool}:∀{xs:List Rec} {k k':Nat} {st:ao},(∀j,j<xs.length->L (k+j)=L' (k'+j))->eP L k xs st=eP L' k' xs st:=by
 intro xs;induction xs with
 |nil=>intro k k' st _;rfl
 |cons x xs ih=>
  intro k k' st h;simp only[eP];have h0:=h 0 (by simp)
  simp only[Nat.add_zero] at h0;rw[h0];exact ih fun j hj=>by have:=h (j+1) (by simpa using hj);rw[show k+(j+1)=k+1+j from by omega,show k'+(j+1)=k'+1+j from by omega] at this;exact this
theorem aib{L:Nat->Bool}:∀{xs:List Rec} {k i:Nat} {st:ao} {l:pu} {x:Rec} {u:bb⊕Option Site},xs[i]? =some x->L (k+i)=true->x.wr l=some u->
  (∀j y,i<j->xs[j]? =some y->y.wr l≠none->L (k+j)=false)->eL (eP L k xs st) l=u:=by
 intro xs;induction xs with
 |nil=>intro k i st l x u h;cases h
 |cons y xs ih=>
  intro k i st l x u h ee hw hj;simp only[eP];cases i with
  |zero=>
   simp only[List.getElem?_cons_zero,bH] at h;subst h;simp only[Nat.add_zero] at ee;rw[ee];simp only[ad];have e:eL (st.dh y.D.dst y.v y.us) l=u:=by rw[zG,hw]
   rw[<-e];have e2:st.dh y.D.dst y.v y.us=eP (fun _=>false) (k+1) xs (st.dh y.D.dst y.v y.us):=(FT fun _ _=>rfl).symm
   conv=>rhs;rw[e2]
   refine FS rfl fun j z hz MR=>?_
   have:=hj (j+1) z (by omega) (by simpa using hz) MR
   rw[show k+(j+1)=k+1+j from by omega] at this
   exact this
  |succ i=>
   refine ih (by simpa using h) (by rw[show k+1+i=k+(i+1) from by omega];exact ee) hw fun j z qv hz MR=>?_
   have:=hj (j+1) z (by omega) (by simpa using hz) MR
   rw[show k+(j+1)=k+1+j from by omega] at this
   exact this
section
variable {P:Program}{ops:Array Oper}
def DW(ops:Array Oper)(L:Nat->Bool)(i:Nat):Prop:=∀D,ops[i]? =some D->∀e,e∈D.after.toList->Region.binds .any e=true->L e.on=true
def CZ(ops:Array Oper)(L:Nat->Bool):Prop:=∀j,L j=true->DW ops L j
def u9(ops:Array Oper)(k i:Nat):Prop:=∀L,CZ ops L->DW ops L i->L k=true
theorem TY{aE:Type}{l:List (Nat×aE)}{n:Nat}{v:aE}(h:look l n=some v):(n,v)∈l:=by
 induction l with
 |nil=>cases h
 |cons p l ih=>
  obtain⟨m,u⟩:=p;simp only[look] at h;cases hb:m.beq n with
  |true=>
   simp only[hb,ad,bH] at h;rw[<-ce hb,h];exact cj
  |false=>simp only[hb,ak] at h;exact ci _ (ih h)
theorem amg{acc:List (Nat×Rec×List Nat)}(ha:∀k x b,(k,x,b)∈acc->∀m,m∈b->u9 ops m k){i:Nat}:∀{es:List Edge} {m:Nat},m∈mH acc es->∀L,CZ ops L->
  (∀e,e∈es->Region.binds .any e=true->L e.on=true)->L m=true:=by
 intro es;induction es with
 |nil=>intro m h;cases h
 |cons e es ih=>
  intro m h L hc hf;simp only[mH] at h;cases hb:Region.binds .any e with
  |false=>
   simp only[hb,ak] at h;exact ih h L hc fun cW na=>hf cW (ci _ na)
  |true=>
   simp only[hb,ad] at h;have h0:=hf e cj hb;split at h
   ·rename_i x hx;rcases bR.1 h with rfl|h
    ·exact h0
    ·rcases bo.1 h with h|h
     ·have hm:(e.on,x)∈acc:=TY hx;obtain⟨ep,gr⟩:=x;exact ha _ _ _ hm m h L hc (hc _ h0)
     ·exact ih h L hc fun cW na=>hf cW (ci _ na)
   ·exact ih h L hc fun cW na=>hf cW (ci _ na)
structure uf(C:Ctx)(ops:Array Oper)(st:ao)(D:Oper)(x:Rec):Prop where
 h':x.D=D
 guard:∀j want,D.guard=some (j,want)->∃t,(ops[j]?).bind (·.dst)=some t/\t∈x.lw/\((∃b,st.get t=one (.bool b)/\(x.go=(b==want)))\/((∃u,st.get t=cf (.de (.tuple u)))/\x.go=false))
 free:D.guard=none->x.go=true
 skip:x.go=false->x.v=BX/\x.us=[]
 run:x.go=true->∃y,(step C st D).comp=some y/\(step C st D).sj y=true/\x.v=(step C st D).val y/\x.us=(step C st D).us y/\(∀t,t∈pG (lW D.op)->t∈x.lw)/\(∀o,o∈KO C st D->o∈x.rn)/\(Cq D.op=true->x.EE=true)
inductive lD(C:Ctx)(ops:Array Oper):List Oper->Nat->List (Nat×Rec×List Nat)->ao->List Rec->ao->Prop where
 |nil {i acc st}:lD C ops [] i acc st [] st
 |cons {D r i acc st x xs au} (aa:cE st D.dst=true) (he:tn i D.after.toList=true) (hx:uf C ops st D x) (hk:tz (mH acc D.after.toList) x acc=true)
   (h:lD C ops r (i+1) ((i,x,mH acc D.after.toList)::acc) (st.dh D.dst x.v x.us) xs au):lD C ops (D::r) i acc st (x::xs) au
theorem ajE{R:Type}{g:Bool}{v:bb}{K:bb->Option R}{r:R}(h:Lj g v K=some r):K v=some r:=by
 unfold Lj at h;cases g with
 |false=>exact h
 |true=>
  simp only[ad] at h;split at h
  ·rename_i b;cases b<;>exact h
  ·exact h
theorem agU{R:Type}{C:Ctx}{g:Bool}{st:ao}{D:Oper}{K:Rec->Option R}{r:R}(h:Kt C ops g st D K=some r):∃x,uf C ops st D x/\K x=some r:=by
 have run:∀gs,BQ C g st D gs K=some r->(∀j want,D.guard=some (j,want)->∃t,(ops[j]?).bind (·.dst)=some t/\t∈gs/\∃b,st.get t=one (.bool b)/\(b==want)=true)->∃x,uf C ops st D x/\K x=some r:=by
  intro gs h hg;unfold BQ at h;obtain⟨y,hy,h⟩:=Option.bind_eq_some_iff.1 h;cases hc:(step C st D).sj y with
  |false=>simp[hc] at h
  |true=>
   simp only[hc,ad] at h;refine⟨_,⟨rfl,fun j want hj=>?_,fun _=>rfl,fun h=>(by cases h),fun _=>⟨y,hy,hc,rfl,rfl,fun t ay=>bo.2 (.inr ay),fun _ h=>h,fun h=>h⟩⟩,ajE h⟩
   obtain⟨t,h1,h2,b,h3,aD⟩:=hg j want hj;exact⟨t,h1,bo.2 (.inl h2),.inl ⟨b,h3,aD.symm⟩⟩
 have skip:∀gs,HL D gs K=some r->(∃j want,D.guard=some (j,want)/\∃t,(ops[j]?).bind (·.dst)=some t/\t∈gs/\((∃b,st.get t=one (.bool b)/\(b==want)=false)\/∃u,st.get t=cf (.de (.tuple u))))->∃x,uf C ops st D x/\K x=some r:=by
  intro gs h hg;obtain⟨j,want,hj,t,h1,h2,h3⟩:=hg;refine⟨_,⟨rfl,fun aem aCs kl=>?_,fun h=>(by rw[hj] at h;cases h),fun _=>⟨rfl,rfl⟩,fun h=>(by cases h)⟩,h⟩
  rw[hj] at kl;cases kl;refine⟨t,h1,h2,?_⟩;rcases h3 with⟨b,h3,aD⟩|h3
  ·exact .inl ⟨b,h3,aD.symm⟩
  ·exact .inr ⟨h3,rfl⟩
 unfold Kt at h;split at h
 ·rename_i hg;exact run [] h fun j want hj=>by rw[hg] at hj;cases hj
 ·rename_i j want hg;split at h
  ·rename_i t ay;split at h
   ·rename_i b hb;cases b<;>cases want<;>simp only[ad,ak,bu,bK] at h
    ·exact run [t] h fun aem w' kl=>by rw[hg] at kl;cases kl;exact⟨t,ay,List.mem_singleton.2 rfl,false,hb,rfl⟩
    ·exact skip [t] h ⟨j,true,hg,t,ay,List.mem_singleton.2 rfl,.inl ⟨false,hb,rfl⟩⟩
    ·exact skip [t] h ⟨j,false,hg,t,ay,List.mem_singleton.2 rfl,.inl ⟨true,hb,rfl⟩⟩
    ·exact run [t] h fun aem w' kl=>by rw[hg] at kl;cases kl;exact⟨t,ay,List.mem_singleton.2 rfl,true,hb,rfl⟩
   ·rename_i u hu;exact skip [t] h ⟨j,want,hg,t,ay,List.mem_singleton.2 rfl,.inr ⟨u,hu⟩⟩
   ·cases h
  ·cases h
theorem ajX{R:Type}{C:Ctx}{K:ao->Option R}{r:R}:∀{os:List Oper} {i:Nat} {acc:List (Nat×Rec×List Nat)} {st:ao},CR C ops os i acc st K=some r->∃xs au,lD C ops os i acc st xs au/\K au=some r:=by
 intro os;induction os with
 |nil=>intro i acc st h;exact⟨[],st,.nil,h⟩
 |cons D os ih=>
  intro i acc st h;simp only[CR] at h;cases aa:cE st D.dst&&tn i D.after.toList with
  |false=>simp[aa] at h
  |true=>
   simp only[aa,ad] at h;obtain⟨x,hx,h⟩:=agU h;cases hk:tz (mH acc D.after.toList) x acc with
   |false=>simp[hk] at h
   |true=>
    simp only[hk,ad] at h;obtain⟨xs,au,h1,h2⟩:=ih h;simp only[bz] at aa;exact⟨x::xs,au,.cons aa.1 aa.2 hx hk h1,h2⟩
theorem lD.length{C:Ctx}{os:List Oper}{i:Nat}{acc:List (Nat×Rec×List Nat)}{st au:ao}{xs:List Rec}(h:lD C ops os i acc st xs au):xs.length=os.length:=by
 induction h with
 |nil=>rfl
 |cons _ _ _ _ _ ih=>simp[ih]
theorem lD.auD{C:Ctx}{os:List Oper}{i:Nat}{acc:List (Nat×Rec×List Nat)}{st au:ao}{xs:List Rec}(h:lD C ops os i acc st xs au):∀k,eP (fun _=>true) k xs st=au:=by
 induction h with
 |nil=>intro k;rfl
 |cons _ _ hx _ _ ih=>intro k;simp only[eP,ad,hx.h'];exact ih _
theorem lD.at_{C:Ctx}{os:List Oper}{i:Nat}{acc:List (Nat×Rec×List Nat)}{st au:ao}{xs:List Rec}(h:lD C ops os i acc st xs au):∀j x,xs[j]? =some x->
  ∃D,os[j]? =some D/\cE st D.dst=true/\tn (i+j) D.after.toList=true/\uf C ops (eP (fun k=>decide (k<j)) 0 xs st) D x:=by
 induction h with
 |nil=>intro j x h;cases h
 |@cons D r i acc st x xs au aa he hx hk h ih=>
  intro j y hy;cases j with
  |zero=>
   simp only[List.getElem?_cons_zero,bH] at hy;subst hy;refine⟨D,rfl,aa,he,?_⟩;rw[FT fun j _=>by simp[Nat.blt]]
   exact hx
  |succ j=>
   obtain⟨dm,h1,h2,h3,aD⟩:=ih j y (by simpa using hy)
   refine⟨dm,by simpa using h1,?_,by rw[show i+(j+1)=i+1+j from by omega];exact h3,?_⟩
   ·revert h2;cases dm.dst<;>simp[cE,Ku]
   ·simp only[eP];have fe:decide (0<j+1)=true:=by simp
    rw[fe,ad,hx.h'];rw[PK (L':=fun k=>decide (k<j)) (k':=0) fun m _=>by simp only[decide_eq_decide];omega]
    exact aD
theorem Rb{n:Nat}{l:List Nat}:gB n l=true <-> n∈l:=by
 induction l with
 |nil=>simp[gB]
 |cons m l ih=>
  simp only[gB,Bool.or_eq_true,ih,bR];constructor
  ·rintro(h|h)
   ·exact .inl (ce h)
   ·exact .inr h
  ·rintro(h|h)
   ·exact .inl (by rw[h];exact Nat.beq_refl m)
   ·exact .inr h
theorem ahH{x':List Nat}{x:Rec}:∀{acc:List (Nat×Rec×List Nat)},tz x' x acc=true->∀k y b,(k,y,b)∈acc->k∈x'\/mK y x=false:=by
 intro acc;induction acc with
 |nil=>intro _ k y b h;cases h
 |cons p acc ih=>
  obtain⟨j,z,aDB⟩:=p;intro h k y b hm;simp only[tz,bz,Bool.or_eq_true] at h;rcases bR.1 hm with hm|hm
  ·cases hm;rcases h.1 with h1|h1
   ·exact .inl (Rb.1 h1)
   ·exact .inr (by simpa using h1)
  ·exact ih h.2 k y b hm
theorem lD.axQ{C:Ctx}{os:List Oper}{i:Nat}{acc:List (Nat×Rec×List Nat)}{st au:ao}{xs:List Rec}(h:lD C ops os i acc st xs au):∀(pre:List Rec),pre.length=i->(∀j,ops[i+j]? =os[j]?)->
  (∀k y,pre[k]? =some y->∃b,(k,y,b)∈acc)->(∀k x b,(k,x,b)∈acc->∀m,m∈b->u9 ops m k)->∀j x,xs[j]? =some x->∀k y,k<i+j->(pre++xs)[k]? =some y->u9 ops k (i+j)\/mK y x=false:=by
 induction h with
 |nil=>intro pre _ _ _ _ j x h;cases h
 |@cons D r i acc st x xs au aa he hx hk h ih=>
  intro pre hlen ZY ZX jb j y hy k z ayD hz;have Z9:∀m,m∈mH acc D.after.toList->u9 ops m i:=fun m hm L hc hf=>by
   refine amg jb (i:=i) hm L hc fun e he hb=>hf D ?_ e he hb
   have:=ZY 0;simpa using this
  cases j with
  |zero=>
   simp only[List.getElem?_cons_zero,bH] at hy;subst hy;simp only[Nat.add_zero] at ayD ⊢;rw[List.getElem?_append_left (by omega)] at hz
   obtain⟨b,hb⟩:=ZX k z hz;rcases ahH hk k z b hb with h1|h1
   ·exact .inl (Z9 k h1)
   ·exact .inr h1
  |succ j=>
   have:=ih (pre++[x]) (by simp[hlen]) (fun j=>by have:=ZY (j+1);rw[show i+1+j=i+(j+1) from by omega];simpa using this)
    (fun k y hy=>?_) (fun k iQ b hm m acI=>?_) j y (by simpa using hy) k z (by omega) (by simpa using hz)
   ·rw[show i+(j+1)=i+1+j from by omega];exact this
   ·rcases Nat.lt_or_ge k pre.length with an|an
    ·rw[List.getElem?_append_left an] at hy;obtain⟨b,hb⟩:=ZX k y hy;exact⟨b,ci _ hb⟩
    ·rw[List.getElem?_append_right an] at hy;have h0:k-pre.length=0:=by
      rcases Nat.eq_zero_or_pos (k-pre.length) with h0|h0
      ·exact h0
      ·rw[List.getElem?_eq_none (by simp;omega)] at hy;cases hy
     rw[h0] at hy;simp only[List.getElem?_cons_zero,bH] at hy;subst hy;have:k=i:=by omega
     subst this;exact⟨_,cj⟩
   ·rcases bR.1 hm with hm|hm
    ·cases hm;exact Z9 m acI
    ·exact jb k iQ b hm m acI
end
section
variable {P:Program}{U:World}{Z:List Nat}{X:Nat->Prop}{F:Nat->Value}{st au:ao}{M:Array Value}{w:World}
theorem az.same(S:az U Z X F st M w)(hv:∀l,eL st l=eL au l)(hn:st.nt=au.nt):az U Z X F au M w:=by
 have hs:∀o,look st.sites o=look au.sites o:=fun o=>by have:=hv (.inr o);simpa[eL,ao.ai] using this
 have hg:∀t,st.get t=au.get t:=fun t=>by have:=hv (.inl t);simpa[eL] using this
 have hl:∀o,cD st.sites o <-> cD au.sites o:=fun o=>by unfold cD;rw[hs]
 have ha:aN X F au.sites=aN X F st.sites:=by
  funext b
  unfold aN;simp only[hl]
 have G:iK F F st.sites au.sites w w (aN X F st.sites) (aN X F au.sites):=by
  rw[ha];exact⟨fun o ai h=>⟨ai,by rw[<-hs];exact h,Nat.le_refl _,fun _=>rfl⟩,fun _ _ _=>rfl,fun _ h _=>h⟩
 have hlt:∀b,aN X F au.sites b->b<w.heap.size:=fun b hb=>S.lt (by rw[<-ha];exact hb)
 refine⟨S.nt.trans hn,fun t=>?_,fun o ai h=>?_,fun o ae b h1 h2=>S.eD o ae b ((hl o).2 h1) ((hl ae).2 h2),fun o b h=>S.cF o b ((hl o).2 h),S.frame,S.old,S.fw⟩
 ·rw[<-hg];exact(S.c8 t).goes G (Nat.le_refl _) hlt
 ·exact(S.sites o ai (by rw[hs];exact h)).goes G (Nat.le_refl _) hlt rfl (fun _ _ _=>rfl)
theorem az.drawn(S:az U Z X F st M w)(n:Nat):az U Z X F st M {w with drawn:=n}:=by
 have G:iK F F st.sites st.sites w {w with drawn:=n} (aN X F st.sites) (aN X F st.sites):=
  ⟨fun o ai h=>⟨ai,h,Nat.le_refl _,fun _=>rfl⟩,fun _ _ _=>rfl,fun _ h _=>h⟩
 refine⟨S.nt,fun t=>(S.c8 t).goes G (Nat.le_refl _) fun b hb=>S.lt hb,fun o ai h=>(S.sites o ai h).goes G (Nat.le_refl _) (fun b hb=>S.lt hb) rfl (fun _ _ _=>rfl),S.eD,S.cF,⟨S.frame.os,S.frame.tape,S.frame.output,S.frame.size,S.frame.block⟩,S.old,S.fw⟩
theorem afl{aE:Type}:∀{us:List (Nat×aE)} {o:Nat} {s:aE},ou us o=some s->o∈keys us:=by
 intro us;induction us with
 |nil=>intro o s h;cases h
 |cons p us ih=>
  obtain⟨k,v⟩:=p;intro o s h;simp only[ou] at h;split at h
  ·rename_i x hx;exact ci _ (ih hx)
  ·cases hb:k.beq o with
   |true=>rw[<-ce hb];exact cj
   |false=>simp[hb] at h
theorem Gj{n:Nat}{l:List Nat}:gB n l=true <-> n∈l:=Rb
theorem sX{l m:List Nat}{n:Nat}(h1:n∈l)(h2:n∈m):fv l m=false:=by
 induction l with
 |nil=>cases h1
 |cons k l ih=>
  simp only[fv];rcases bR.1 h1 with rfl|h1
  ·rw[Gj.2 h2];rfl
  ·rw[ih h1,Bool.and_false]
theorem Qg{l:List Nat}{n:Nat}(h1:n∈l)(h2:1000000<=n):wG l=true:=by
 induction l with
 |nil=>cases h1
 |cons k l ih=>
  simp only[wG,Bool.or_eq_true];rcases bR.1 h1 with rfl|h1
  ·exact .inl (Nat.ble_eq_true_of_le h2)
  ·exact .inr (ih h1)
def Rec.at_(x:Rec):pu->Prop
 |.inl t=>t∈x.lw
 |.inr o=>o∈x.rn\/(x.EE=true/\1000000<=o)
theorem BW{x:Rec}{t:Nat}(h:x.wr (.inl t)≠none):x.D.dst=some t:=by
 simp only[Rec.wr] at h;split at h
 ·rename_i d aa;cases hb:d.beq t with
  |true=>rw[aa,ce hb]
  |false=>simp[hb] at h
 ·exact absurd rfl h
theorem BV{x:Rec}{o:Nat}(h:x.wr (.inr o)≠none):o∈keys x.us:=by
 simp only[Rec.wr] at h;cases hl:ou x.us o with
 |none=>simp[hl] at h
 |some s=>exact afl hl
theorem an3{a b:Rec}{l:pu}(h1:a.wr l≠none)(h2:b.at_ l):mK a b=true:=by
 unfold mK;cases l with
 |inl t=>
  have:=BW h1;have h2:t∈b.lw:=h2;simp[this,ui,Gj.2 h2]
 |inr o=>
  have:=BV h1;rcases h2 with h2|⟨h2,h3⟩
  ·have:fv (keys a.us) (b.rn++keys b.us)=false:=sX this (bo.2 (.inl h2));simp[this]
  ·have:=Qg this h3;simp[this,h2]
theorem an4{a b:Rec}{l:pu}(h1:a.at_ l)(h2:b.wr l≠none):mK a b=true:=by
 unfold mK;cases l with
 |inl t=>
  have:=BW h2;have h1:t∈a.lw:=h1;simp[this,ui,Gj.2 h1]
 |inr o=>
  have:=BV h2;rcases h1 with h2|⟨h2,h3⟩
  ·have:fv (keys b.us) a.rn=false:=sX this h2;simp[this]
  ·have:=Qg this h3;simp[this,h2]
theorem an2{a b:Rec}{l:pu}(h1:a.wr l≠none)(h2:b.wr l≠none):mK a b=true:=by
 unfold mK;cases l with
 |inl t=>
  have e1:=BW h1;have e2:=BW h2;simp[e1,e2,ui,gB]
 |inr o=>
  have e1:=BV h1;have e2:=BV h2;have:fv (keys a.us) (b.rn++keys b.us)=false:=sX e1 (bo.2 (.inr e2));simp[this]
variable {C:Ctx}{ops:Array Oper}{rn:Option Nat}{ds:List Deferred}
def oT(L:Nat->Bool)(i:Nat):Nat->Bool:=fun j=>L j||decide (j=i)
theorem ajW(H:aT P C){xs:List Rec}{bM:ao}{i:Nat}{D:Oper}{x:Rec}(hx:xs[i]? =some x)(aa:cE bM D.dst=true)(hr:uf C ops (eP (fun k=>decide (k<i)) 0 xs bM) D x)
  (rK:∀j y,xs[j]? =some y->∀k z,k<j->xs[k]? =some z->u9 ops k j\/mK z y=false) {L:Nat->Bool} (hc:CZ ops L) (hi:L i=false) (hf:DW ops L i) (ayy:ops[i]? =some D)
  (S:az U Z X F (eP L 0 xs bM) M w) {Q:Exit->Act->World->Prop} {K:Act->World->Prop} (b6:∀a_ ca w',az U Z X a_ (eP (oT L i) 0 xs bM) ca w'->(∀t,t∉D.dst.toList->ca.getD t undef=M.getD t undef)->K ⟨ca,ds⟩ w'):wpOpIn (e8 rn) 0 P ops Q i K ⟨M,ds⟩ w:=by
 have MB:∀l,x.at_ l->eL (eP (fun k=>decide (k<i)) 0 xs bM) l=eL (eP L 0 xs bM) l:=fun l hl=>by
  refine(FS rfl fun j y hy hw=>?_).symm
  simp only[Nat.zero_add];rcases Nat.lt_trichotomy j i with h|h|h
  ·rcases rK i x hx j y h hy with h1|h1
   ·rw[h1 L hc hf];simp[h]
   ·rw[an3 hw hl] at h1;cases h1
  ·subst h;rw[hi];simp
  ·have:L j=false:=by
    cases sf:L j with
    |false=>rfl
    |true=>
     rcases rK j y hy i x h hx with h1|h1
     ·have:=h1 L hc (hc j sf);rw[hi] at this;cases this
     ·rw[an4 hl hw] at h1;cases h1
   rw[this];simp;omega
 have XS:∀t,t∈x.lw->(eP (fun k=>decide (k<i)) 0 xs bM).get t=(eP L 0 xs bM).get t:=fun t ay=>by
  have:=MB (.inl t) ay;simpa[eL] using this
 have C6:∀l,eL ((eP L 0 xs bM).dh x.D.dst x.v x.us) l=eL (eP (oT L i) 0 xs bM) l:=fun l=>by
  rw[zG];cases hw:x.wr l with
  |none=>
   simp only;refine FS rfl fun j y hy MS=>?_
   simp only[Nat.zero_add,oT];by_cases h:j=i
   ·subst h;rw[hx] at hy;cases hy;exact absurd hw MS
   ·simp[h]
  |some u=>
   simp only;refine(aib hx (by simp[oT]) hw fun j y qv hy MS=>?_).symm
   simp only[Nat.zero_add,oT];have:L j=false:=by
    cases sf:L j with
    |false=>rfl
    |true=>
     rcases rK j y hy i x qv hx with h1|h1
     ·have:=h1 L hc (hc j sf);rw[hi] at this;cases this
     ·rw[an2 (by rw[hw];intro h;cases h) MS] at h1;cases h1
   rw[this];simp;omega
 have acV:cE (eP L 0 xs bM) D.dst=true:=by revert aa;cases D.dst<;>simp[cE,HO]
 have fin:∀a_ ca w',az U Z X a_ ((eP L 0 xs bM).dh x.D.dst x.v x.us) ca w'->(∀t,t∉D.dst.toList->ca.getD t undef=M.getD t undef)->K ⟨ca,ds⟩ w':=fun a_ ca w' cA=>b6 a_ ca w' (cA.same C6 (by rw[Ku,HO,HO]))
 unfold wpOpIn;rw[ayy];simp only;have C8:Region.wanted D (yielded ops M)=x.go:=by
  cases hg:D.guard with
  |none=>rw[hr.free hg];simp[Region.wanted,hg]
  |some Od=>
   obtain⟨j,want⟩:=Od;obtain⟨t,h1,h2,h3⟩:=hr.guard j want hg;rw[show Region.wanted D (yielded ops M)=(yielded ops M j==some want) by simp[Region.wanted,hg]]
   have jJ:=S.c8 t;rw[<-XS t h2] at jJ;rcases h3 with⟨b,h3,aD⟩|⟨⟨u,h3⟩,aD⟩
   ·rw[h3] at jJ;have hv:=j6 jJ;have hy:yielded ops M j=some b:=by
     have ay:t<M.size:=by
      rcases Nat.lt_or_ge t M.size with an|an
      ·exact an
      ·simp[Array.getD,Nat.not_lt.2 an,undef] at hv
     have:M[t]? =some (.bool b):=by
      rw[Array.getElem?_eq_getElem ay];simpa[Array.getD,ay] using hv
     simp[yielded,h1,this]
    rw[hy,aD];cases b<;>cases want<;>rfl
   ·rw[h3] at jJ;have hv:M.getD t undef=.tuple u:=jJ;have hy:yielded ops M j=none:=by
     simp only[yielded,h1,Y];cases ay:M[t]? with
     |none=>rfl
     |some v=>
      have:M.getD t undef=v:=by simp[Array.getD_eq_getD_getElem?,ay]
      rw[this] at hv;rw[hv]
    rw[hy,aD];rfl
 cases uU:x.go with
 |false=>
  rw[uU] at C8;rw[if_neg (by rw[C8];decide)]
  obtain⟨e1,e2⟩:=hr.skip uU;refine⟨fun f _=>Dk rn f,zf (R:=ao) (r:=(eP L 0 xs bM).dh D.dst BX []) S (K:=some) (by simp[tw,acV]) fun e7 hh is a' h1 dO=>?_⟩
  cases h1;refine fin hh is a' ?_
  rw[hr.h',e1,e2];exact dO
 |true=>
  rw[uU] at C8;rw[if_pos C8];obtain⟨y,g1,g2,g3,g4,g5,g6,g7⟩:=hr.run uU;have ej:step C (eP (fun k=>decide (k<i)) 0 xs bM) D=step C (eP L 0 xs bM) D:=by
   refine ahq (fun t ay=>XS t (g5 t ay)) (fun o bG=>?_) fun arR o bG=>?_
   ·have:=MB (.inr o) (.inl (g6 o bG));simpa[eL] using this
   ·have:=MB (.inr o) (.inr ⟨g7 arR,bG⟩);simpa[eL] using this
  revert y
  rw[ej];intro y g1 g2 g3 g4;refine oo (R:=ao) (r:=(eP L 0 xs bM).dh D.dst x.v x.us) S H (K:=some) ?_ fun e7 hh is a' h1 dO=>?_
  ·unfold kX;rw[acV,ad,g1];simp only[Y,g2,ad,g3,g4]
  ·cases h1;refine fin hh is a' ?_
   rw[hr.h'];exact dO
def xB(listed:Array Bool):Nat:=listed.toList.count false
def gY(listed:Array Bool):Nat->Bool:=fun j=>listed.getD j false
theorem amw{listed:Array Bool}{i:Nat}(h:listed.getD i true=false):xB (listed.setIfInBounds i true)+1=xB listed:=by
 unfold xB;have hlt:i<listed.size:=by
  rcases Nat.lt_or_ge i listed.size with an|an
  ·exact an
  ·simp[Array.getD,Nat.not_lt.2 an] at h
 have hv:listed.toList[i]'(by simpa using hlt)=false:=by simpa[Array.getD,hlt] using h
 rw[Array.toList_setIfInBounds,List.count_set (by simpa using hlt)]
 rw[hv];have:0<listed.toList.count false:=List.count_pos_iff.2 (by rw[<-hv];exact List.getElem_mem _)
 have e1:(if(false==false)=true then 1 else 0)=1:=rfl
 have e2:(if(true==false)=true then 1 else 0)=0:=rfl
 rw[e1,e2];omega
theorem Rs{D:Oper}{t:Nat}:∀{l:List Oper},D∈l->t∈D.dst.toList->t∈i_ l:=by
 intro l;induction l with
 |nil=>intro h;cases h
 |cons p l ih=>
  intro h ay;simp only[i_,bo];rcases bR.1 h with rfl|h
  ·exact .inl ay
  ·exact .inr (ih h ay)
theorem al6(H:aT P C){bM Ea:ao}{xs:List Rec}(bp:lD C ops ops.toList 0 [] bM xs Ea){Q:Exit->Act->World->Prop}{fa:Array Value}(EZ:∀F M w,az U Z X F Ea M w->(∀t,t∉i_ ops.toList->M.getD t undef=fa.getD t undef)->Q .normal ⟨M,ds⟩ w):
  ∀(mN:Nat) (listed:Array Bool) (F:Nat->Value) (M:Array Value) (w:World),listed.size=ops.size->xB listed<=mN->CZ ops (gY listed)->az U Z X F (eP (gY listed) 0 xs bM) M w->
   (∀t,t∉i_ ops.toList->M.getD t undef=fa.getD t undef)->wpAnyIn (e8 rn) 0 P .any ops Q mN listed ⟨M,ds⟩ w:=by
 have hlen:xs.length=ops.size:=by rw[bp.length];simp
 have rK:∀j y,xs[j]? =some y->∀k z,k<j->xs[k]? =some z->u9 ops k j\/mK z y=false:=fun j y hy k z hk hz=>by
  have:=bp.axQ [] rfl (fun j=>by simp) (fun k y h=>by simp at h) (fun k x b h=>by simp at h) j y hy k z (by omega) (by simpa using hz)
  simpa using this
 have all:∀listed:Array Bool,listed.size=ops.size->(∀j,j<ops.size->gY listed j=true)->∀F M w,az U Z X F (eP (gY listed) 0 xs bM) M w->(∀t,t∉i_ ops.toList->M.getD t undef=fa.getD t undef)->Q .normal ⟨M,ds⟩ w:=fun listed hs hl F M w S ay=>by
  refine EZ F M w ?_ ay;rw[<-bp.auD 0];rw[PK (L':=gY listed) (k':=0) fun j hj=>by simp only[Nat.zero_add];rw[hl j (by omega)]]
  exact S
 have done:∀listed:Array Bool,listed.size=ops.size->Region.ready .any ops listed=[]->∀j,j<ops.size->gY listed j=true:=fun listed hs hr j=>by
  induction j using Nat.strongRecOn with
  |_ j ih=>
   intro hj;cases sf:gY listed j with
   |true=>rfl
   |false=>
    exfalso
    have hx:xs[j]? =some (xs[j]'(by omega)):=d_ _
    obtain⟨D,h1,_,h3,_⟩:=bp.at_ j _ hx;have h1:ops[j]? =some D:=by simpa using h1
    have hm:j∈Region.ready .any ops listed:=by
     rw[mem_ready];refine⟨?_,D,h1,fun e he hb=>?_⟩
     ·have hlt:j<listed.size:=by omega
      simpa[gY,Array.getD,hlt] using sf
     ·have:e.on<j:=by
       have na:e∈D.after.toList:=by simpa using he
       clear he hr;revert h3
       simp only[Nat.zero_add];generalize D.after.toList=es at na;induction es with
       |nil=>cases na
       |cons cW es ax6=>
        intro h3;simp only[tn,bz] at h3;rcases bR.1 na with rfl|na
        ·rw[hb] at h3;simpa using h3.1
        ·exact ax6 na h3.2
      have:=ih e.on this (by omega)
      simpa[gY] using this
    rw[hr] at hm;cases hm
 intro mN;induction mN with
 |zero=>
  intro listed F M w hs hu hc S ay;have nP:∀j,j<ops.size->gY listed j=true:=fun j hj=>by
   have h0:listed.toList.count false=0:=Nat.le_zero.1 hu;rw[List.count_eq_zero] at h0;cases sf:gY listed j with
   |true=>rfl
   |false=>
    exfalso
    have hlt:j<listed.size:=by omega
    apply h0;have:listed.toList[j]'(by simpa using hlt)=false:=by simpa[gY,Array.getD,hlt] using sf
    rw[<-this];exact List.getElem_mem _
  refine⟨?_,all listed hs nP F M w S ay⟩;rw[List.eq_nil_iff_forall_not_mem];intro j hj;rw[mem_ready] at hj;obtain⟨h1,D,h2,_⟩:=hj;have hj:j<ops.size:=(Array.getElem?_eq_some_iff.1 h2).1;have:=nP j hj;have hlt:j<listed.size:=by omega
  simp[gY,Array.getD,hlt] at this h1;rw[h1] at this;cases this
 |succ mN ih=>
  intro listed F M w hs hu hc S ay;refine⟨fun hr=>all listed hs (done listed hs hr) F M w S ay,fun i hi=>?_⟩
  have jU:=mem_ready.1 hi;obtain⟨h1,D,h2,h3⟩:=jU;have uT:i<ops.size:=(Array.getElem?_eq_some_iff.1 h2).1;have hx:xs[i]? =some (xs[i]'(by omega)):=d_ _
  obtain⟨dm,g1,g2,g3,g4⟩:=bp.at_ i _ hx;have g1:ops[i]? =some dm:=by simpa using g1
  rw[h2] at g1;cases g1;have hlt:i<listed.size:=by omega
  have ay4:gY listed i=false:=by simpa[gY,Array.getD,hlt] using h1
  have hf:DW ops (gY listed) i:=fun o2 xY e he hb=>by
   rw[h2] at xY;cases xY;have:=h3 e (by simpa using he) hb
   simpa[gY] using this
  have xc:gY (listed.setIfInBounds i true)=oT (gY listed) i:=by
   funext j
   simp only[gY,oT];by_cases h:j=i
   ·subst h;simp[hlt]
   ·simp[h,Array.getElem?_setIfInBounds_ne (show i≠j from fun e=>h e.symm)]
  refine ajW H hx g2 g4 rK hc ay4 hf h2 S fun a_ ca w' cA n4=>ih _ a_ ca w' (by simpa using hs) (by have:=amw h1;omega) ?_ (by rw[xc];exact cA) fun t htn=>(n4 t fun an=>htn (Rs (l:=ops.toList) (by simpa using Array.mem_of_getElem? h2) an)).trans (ay t htn)
  rw[xc];intro j hj o2 xY e he hb;simp only[oT,Bool.or_eq_true,dW] at hj;simp only[oT,Bool.or_eq_true,dW];rcases hj with hj|hj
  ·exact .inl (hc j hj o2 xY e he hb)
  ·subst hj;exact .inl (hf o2 xY e he hb)
theorem ajQ:∀l:List Nat,ei st.sites (CF st l):=by
 intro l;induction l with
 |nil=>exact .nil
 |cons t l ih=>
  refine ei.append ?_ ih;unfold Xo;split
  ·rename_i o s _;split
   ·rename_i aQ t xs hs;cases hb:aQ.beq s with
    |false=>exact .nil
    |true=>
     intro ae ai hm;simp only[ad,List.mem_singleton,Prod.mk.injEq] at hm;obtain⟨rfl,rfl⟩:=hm;exact⟨aQ,t,xs,rfl,.inl hs⟩
   ·exact .nil
  ·exact .nil
theorem ah2(H:aT P C)(hm:P.follows .mixedOrders=true){R:Type}{r:R}{K:ao->Option R}{id:Nat}{Q:Exit->Act->World->Prop}(S:az U Z X F st M w)(h:Ut C ops st K=some r)
  (b6:∀au a_ ca w',K au=some r->az U Z X a_ au ca w'->(∀t,t∉i_ ops.toList->ca.getD t undef=M.getD t undef)->Q .normal ⟨ca,ds⟩ w'):gI rn P (Code.region id ops true) Q ⟨M,ds⟩ w:=by
 obtain⟨xs,Ea,bp,hk⟩:=ajX h;have S:az U Z X F (st.iI (CF st (G8 ops.toList ops.toList))) M w:=by rw[ao.vO];exact S.BN (ajQ _)
 refine wpIn_region_any hm (al6 H bp (fun F M w S=>b6 Ea F M w hk S) _ _ F M _ (by simp) ?_ ?_ ?_ (fun _ _=>rfl))
 ·unfold xB;simp
 ·intro j hj;simp only[gY] at hj;exfalso
  rw[Array.getD_eq_getD_getElem?,Array.getElem?_replicate] at hj;split at hj<;>cases hj
 ·rw[FT fun j _=>by
   simp only[gY];rw[Array.getD_eq_getD_getElem?,Array.getElem?_replicate];split<;>rfl]
  exact S.drawn _
end
def ug(r:Option Nat)(c:Code):Prop:=r=none\/hH c=true
theorem ug.left{r:Option Nat}{a b:Bool}(h:r=none\/(a&&b)=true):r=none\/a=true:=by
 rcases h with h|h
 ·exact .inl h
 ·simp only[bz] at h;exact .inr h.1
theorem ug.right{r:Option Nat}{a b:Bool}(h:r=none\/(a&&b)=true):r=none\/b=true:=by
 rcases h with h|h
 ·exact .inl h
 ·simp only[bz] at h;exact .inr h.2
theorem j5{P:Program}{C:io}(H:aT P C.toCtx){R:Type}{r:R}{rn:Option Nat}:∀(c:Code) (p:Nat),(rn=none\/hH c=true)->gL P C c p->∀(U:World) (Z:List Nat) (X:Nat->Prop) (st:ao) (F:Nat->Value) (M:Array Value) (w:World)
  (ds:List Deferred) (K:Out->Option R)
  (Q:Exit->Act->World->Prop),exec C c p st K=some r->az U Z X F st M w->(∀D e a w',K D=some r->fD U Z X ds M (cJ c) D e a w'->Q e a w')->gI rn P c Q ⟨M,ds⟩ w:=by
 have piece:∀(c:Code) (p:Nat),(rn=none\/hH c=true)->(∀f,C.oW p=some f->aV P c f)->∀(U:World) (Z:List Nat) (X:Nat->Prop) (st:ao) (F:Nat->Value) (M:Array Value) (w:World) (ds:List Deferred) (K:Out->Option R) (Q:Exit->Act->World->Prop) (x:Option R),
   wrap C p st K x=some r->az U Z X F st M w->(∀D e a w',K D=some r->fD U Z X ds M (cJ c) D e a w'->Q e a w')->(x=some r->gI rn P c Q ⟨M,ds⟩ w)->gI rn P c Q ⟨M,ds⟩ w:=by
  intro c p hn hf U Z X st F M w ds K Q x h S b6 hx;unfold wrap at h;cases aP:C.oW p with
  |none=>simp only[aP] at h;exact hx h
  |some f=>
   simp only[aP] at h;cases hc:(f st).comp with
   |none=>simp[hc] at h
   |some y=>
    simp only[hc,Y,(f st).run_eq] at h;exact wpIn_mono (hf f aP rn hn U Z X st y hc F M w ds S) fun e a w' hl=>b6 _ e a w' h hl
 intro c;induction c with
 |skip=>
  intro p _ _ U Z X st F M w ds K Q h S b6;exact wpIn_skip (b6 (.norm st) .normal _ _ h (eX.of S fun _ _=>rfl))
 |region id ops draw=>
  intro p hn eI U Z X st F M w ds K Q h S b6;cases draw with
  |false=>
   simp only[exec] at h;refine piece _ p hn eI U Z X st F M w ds K Q _ h S b6 fun an=>?_
   refine wpIn_region ?_
   rw[List.range_eq_range'];refine aiR H (W:=i_ ops.toList) ops.size 0 (by omega) (fun D aP t ay=>Rs (by simpa using aP) ay) st F M w _ Q S an ?_
   intro au a_ ca w' hk cA ay;exact b6 (.norm au) .normal _ _ hk (eX.of cA ay)
  |true=>
   simp only[exec] at h;refine piece _ p hn eI U Z X st F M w ds K Q _ h S b6 fun an=>?_
   exact ah2 H H.Oa S an fun au a_ ca w' hk cA ay=>b6 (.norm au) .normal _ _ hk (eX.of cA ay)
 |seq a b mV rS=>
  intro p hn eI U Z X st F M w ds K Q h S b6;simp only[exec] at h;refine piece _ p hn eI.1 U Z X st F M w ds K Q _ h S b6 fun an=>?_
  refine wpIn_seq (mV _ (ug.left hn) eI.2.1 U Z X st F M w ds _ _ an S ?_);intro D e c' w' hk hl;have up:∀{D e c' w'},fD U Z X ds M (cJ a) D e c' w'->fD U Z X ds M (cJ (.seq a b)) D e c' w':=fun hl=>hl.mono fun t ay=>bo.2 (.inl ay)
  cases D with
  |norm au=>
   cases e<;>try exact hl.elim
   obtain⟨a',ec,dp,a_,eg,h1,h2,h3,cA,bn⟩:=hl;obtain⟨ca,Ok⟩:=c';obtain⟨h3,azf⟩:=h3;have h3:Ok=eg.map mark++ds:=h3;subst h3;exact rS _ (ug.right hn) eI.2.2 a' ec dp au a_ ca w' _ K Q hk cA fun D e a2 w2 hk2 o8=>b6 D e a2 w2 hk2 (fD.trans h1 h2 azf bn o8)
  |exit id au=>
   cases e<;>try exact hl.elim
   exact b6 _ _ _ _ hk (up hl)
  |ret au=>
   cases e<;>try exact hl.elim
   exact b6 _ _ _ _ hk (up hl)
 |cond D a b mV rS=>
  intro p hn eI U Z X st F M w ds K Q h S b6;simp only[exec] at h;refine piece _ p hn eI.1 U Z X st F M w ds K Q _ h S b6 fun an=>?_
  split at an
  ·rename_i t ay;have hv:=Ju S ay;have hv:Act.eval ⟨M,ds⟩ D=.bool t:=by cases D<;>exact hv
   cases t with
   |true=>exact wpIn_cond hv (mV _ (ug.left hn) eI.2.1 U Z X st F M w ds K Q an S fun D e a2 w2 hk2 o8=>b6 D e a2 w2 hk2 (o8.mono fun t ay=>bo.2 (.inl ay)))
   |false=>exact wpIn_cond hv (rS _ (ug.right hn) eI.2.2 U Z X st F M w ds K Q an S fun D e a2 w2 hk2 o8=>b6 D e a2 w2 hk2 (o8.mono fun t ay=>bo.2 (.inr ay)))
  ·cases an
 |block id a mV=>
  intro p hn eI U Z X st F M w ds K Q h S b6;simp only[exec] at h;refine piece _ p hn eI.1 U Z X st F M w ds K Q _ h S b6 fun an=>?_
  refine wpIn_block (mV _ hn eI.2 U Z X st F M w ds _ _ an S ?_);intro D e c' w' hk hl;cases D with
  |norm au=>
   cases e<;>try exact hl.elim
   exact b6 _ _ _ _ hk hl
  |exit jv au=>
   cases e<;>try exact hl.elim
   rename_i aC4;obtain⟨rfl,hl⟩:=hl;simp only[Exit.inBlock];cases hb:jv.beq id with
   |true=>
    simp only[hb,ad] at hk;have:=ce hb;subst this;simp only[if_true];exact b6 _ _ _ _ hk hl
   |false=>
    simp only[hb,ak] at hk;have:jv≠id:=by rintro rfl;rw[Nat.beq_refl] at hb;cases hb
    simp only[this,if_false];exact b6 _ _ _ _ hk ⟨rfl,hl⟩
  |ret au=>
   cases e<;>try exact hl.elim
   exact b6 _ _ _ _ hk hl
 |loop a _=>
  intro p hn eI U Z X st F M w ds K Q h S b6;simp only[exec] at h;exact piece _ p hn eI U Z X st F M w ds K Q _ h S b6 fun an=>by cases an
 |rangeFunc=>
  intro p hn eI U Z X st F M w ds K Q h S b6;simp only[exec] at h;exact piece _ p hn eI U Z X st F M w ds K Q _ h S b6 fun an=>by cases an
 |exit id=>
  intro p _ _ U Z X st F M w ds K Q h S b6;exact wpIn_exit (b6 (.exit id st) (.exit id) _ _ h ⟨rfl,eX.of S fun _ _=>rfl⟩)
 |ret=>
  intro p _ _ U Z X st F M w ds K Q h S b6;exact wpIn_ret (b6 (.ret st) .ret _ _ h (eX.of S fun _ _=>rfl))
 |_=>
  intro p _ _ U Z X st F M w ds K Q h S b6;simp only[exec] at h;cases h
inductive ef:Type where
 |int (k:IntKind)
 |bool
 |str
 |sl (t:bi)
 |map (t:bi)
 |err (T:Nat)
@[reducible] def ef.J:ef->Type
 |.int _=>Int
 |.bool=>Bool
 |.str=>B
 |.sl t=>List (den t)
 |.map t=>List (B×den t)
 |.err _=>Option Int
def ef.mk:(s:ef)->s.J->bk
 |.int k,n=>.int k n
 |.bool,b=>.bool b
 |.str,s=>.str s
 |.sl t,xs=>.sl t xs
 |.map t,es=>.map t es
 |.err T,D=>.err T D
def ef.ex:(s:ef)->bk->Option s.J
 |.int k,.int k' n=>if k=k' then some n else none
 |.bool,.bool b=>some b
 |.str,.str s=>some s
 |.sl t,.sl bw xs=>if h:bw=t then some (h▸xs) else none
 |.map t,.map bw es=>if h:bw=t then some (h▸es) else none
 |.err T,.err gW D=>if gW=T then some D else none
 |_,_=>none
theorem ef.W7{s:ef}{d:bk}{y:s.J}(h:s.ex d=some y):s.mk y=d:=by
 unfold ef.ex at h;split at h
 ·split at h
  ·rename_i e;cases h;subst e;rfl
  ·cases h
 ·cases h;rfl
 ·cases h;rfl
 ·split at h
  ·rename_i e;cases h;subst e;rfl
  ·cases h
 ·split at h
  ·rename_i e;cases h;subst e;rfl
  ·cases h
 ·split at h
  ·rename_i e;cases h;subst e;rfl
  ·cases h
 ·cases h
@[reducible] def lo:List ef->Type
 |[]=>Unit
 |s::r=>s.J×lo r
def fY:(bg:List ef)->lo bg->List bk
 |[],_=>[]
 |s::r,(y,z)=>s.mk y::fY r z
def xj:(bg:List ef)->List bk->Option (lo bg)
 |[],[]=>some ()
 |s::r,d::ds=>match s.ex d,xj r ds with
  |some y,some z=>some (y,z)
  |_,_=>none
 |_,_=>none
theorem TV:∀{bg:List ef} {ds:List bk} {y:lo bg},xj bg ds=some y->fY bg y=ds:=by
 intro bg;induction bg with
 |nil=>intro ds y h;cases ds with
  |nil=>rfl
  |cons=>cases h
 |cons s bg ih=>
  intro ds y h;cases ds with
  |nil=>cases h
  |cons d ds=>
   simp only[xj] at h;split at h
   ·rename_i a b h1 h2;cases h;simp only[fY,ef.W7 h1,ih h2]
   ·cases h
@[reducible] def xm:List (List ef)->Type
 |[]=>Unit
 |s::r=>lo s×xm r
def wP:(bg:List (List ef))->xm bg->List (List bk)
 |[],_=>[]
 |s::r,(y,z)=>fY s y::wP r z
def Dc:(bg:List (List ef))->List (List bk)->Option (xm bg)
 |[],[]=>some ()
 |s::r,d::ds=>match xj s d,Dc r ds with
  |some y,some z=>some (y,z)
  |_,_=>none
 |_,_=>none
theorem aly:∀{bg:List (List ef)} {ds:List (List bk)} {y:xm bg},Dc bg ds=some y->wP bg y=ds:=by
 intro bg;induction bg with
 |nil=>intro ds y h;cases ds with
  |nil=>rfl
  |cons=>cases h
 |cons s bg ih=>
  intro ds y h;cases ds with
  |nil=>cases h
  |cons d ds=>
   simp only[Dc] at h;split at h
   ·rename_i a b h1 h2;cases h;simp only[wP,TV h1,ih h2]
   ·cases h
inductive dI:Type where
 |any
 |d (s:ef)
 |fn (g:FuncId) (c_:List (List ef))
 |eZ (bg:List ef) (off:Nat)
 |own (n:Nat)
 |ptr (n off:Nat)
 |clo (g:FuncId) (ns:List Nat)
 |dM
 |Dv -- uD nil interface
 |fr (n:Nat) (t:bi)
@[reducible] def dI.J:dI->Type
 |.d s=>s.J
 |.fn _ c_=>xm c_
 |.eZ bg _=>lo bg
 |_=>Unit
def dI.mk:(s:dI)->s.J->aU
 |.any,_=>.any
 |.d s,y=>.d (s.mk y)
 |.fn g c_,y=>.d (.fn g (wP c_ y))
 |.eZ bg off,y=>.eZ (fY bg y) off
 |.own n,_=>.own n 0
 |.ptr n off,_=>.ptr n 0 off
 |.clo g ns,_=>.clo g (ns.map fun n=>(n,0))
 |.dM,_=>.dM
 |.Dv,_=>.de .nilIface
 |.fr n t,_=>.fr n 0 t 0 0
abbrev Ren:=List (Nat×Option (Nat×Nat))
def nE(ρ:Ren)(n o s:Nat):Bool:=match look ρ n with
 |some (some (abf,aQ))=>abf.beq o&&aQ.beq s
 |_=>false
def vS(ρ:Ren):List Nat->List (Nat×Nat)->Bool
 |[],[]=>true
 |n::ns,(o,s)::cs=>nE ρ n o s&&vS ρ ns cs
 |_,_=>false
def nx(ρ:Ren):List Nat
 :=match ρ with
 |[]=>[]
 |(_,some (o,_))::r=>o::nx r
 |(_,none)::r=>nx r
def dI.ex(st:ao)(ρ:Ren):(s:dI)->aU->Option s.J
 |.any,_=>some ()
 |.d s,.d v=>s.ex v
 |.d (.sl t),.nil _=>some ([]:List (den t))
 |.d (.err _),.de .nilIface=>some (none:Option Int)
 |.d (.sl t),.own o s=>match st.ai o with
  |some (.dG aQ bw xs)=>bif aQ.beq s then(if h:bw=t then some (h▸xs:List (den t)) else none) else none
  |_=>none
 |.d (.map t),.own o s=>match st.ai o with
  |some (.map aQ bw es)=>bif aQ.beq s&&!gB o (nx ρ) then(if h:bw=t then some (h▸es:List (B×den t)) else none) else none
  |_=>none
 |.fn g c_,.d (.fn cO cs)=>bif Nat.beq g cO then Dc c_ cs else none
 |.fn g [],.clo cO []=>bif Nat.beq g cO then some () else none
 |.eZ bg off,.eZ ds qc=>bif Nat.beq off qc then xj bg ds else none
 |.own n,.own o s=>bif nE ρ n o s then some () else none
 |.own n,.nil _=>match look ρ n with|some none=>some ()|_=>none
 |.ptr n off,.ptr o s qc=>bif nE ρ n o s&&Nat.beq off qc then some () else none
 |.clo g ns,.clo cO cs=>bif Nat.beq g cO&&vS ρ ns cs then some () else none
 |.dM,.dM=>some ()
 |.Dv,.de .nilIface=>some ()
 |.fr n t,.fr o s bw 0 0=>bif nE ρ n o s then(if bw=t then some () else none) else none
 |_,_=>none
@[reducible] def rP:List dI->Type
 |[]=>Unit
 |s::r=>s.J×rP r
def tT:(bg:List dI)->rP bg->List aU
 |[],_=>[]
 |s::r,(y,z)=>s.mk y::tT r z
def rA(st:ao)(ρ:Ren):(bg:List dI)->List aU->Option (rP bg)
 |[],[]=>some ()
 |s::r,l::al=>match s.ex st ρ l,rA st ρ r al with
  |some y,some z=>some (y,z)
  |_,_=>none
 |_,_=>none
inductive fy:Type where
 |aq (s:dI)
 |agg (bg:List dI)
@[reducible] def fy.J:fy->Type
 |.aq s=>s.J
 |.agg bg=>rP bg
def fy.mk:(s:fy)->s.J->bb
 |.aq s,y=>cf (s.mk y)
 |.agg bg,y=>.av (.agg (tT bg y))
def fy.ex(st:ao)(ρ:Ren):(s:fy)->bb->Option s.J
 |.aq s,.av (.aq l)=>s.ex st ρ l
 |.agg bg,.av (.agg al)=>rA st ρ bg al
 |_,_=>none
@[reducible] def wH:List (Nat×fy)->Type
 |[]=>Unit
 |s::r=>s.2.J×wH r
def vX:(bg:List (Nat×fy))->wH bg->List (Nat×bb)
 |[],_=>[]
 |s::r,(y,z)=>(s.1,s.2.mk y)::vX r z
def BO(st:ao)(ρ:Ren):(bg:List (Nat×fy))->Option (wH bg)
 |[]=>some ()
 |s::r=>match s.2.ex st ρ (st.get s.1),BO st ρ r with
  |some y,some z=>some (y,z)
  |_,_=>none
inductive eT:Type where
 |row (t:bi)
 |rD (t:bi) (n:Nat) -- aDD aCi row,aCr length h' told
 |box (bg:List dI)
 |map (t:bi)
@[reducible] def eT.J:eT->Type
 |.row t=>List (den t)
 |.rD t _=>List (den t)
 |.box bg=>rP bg
 |.map t=>List (B×den t)
def Dt{aE:Type}(z:aE):Nat->List aE->List aE
 |0,_=>[]
 |n+1,xs=>xs.headD z::Dt z n xs.tail
theorem TO{aE:Type}(z:aE):∀(xs:List aE),Dt z xs.length xs=xs
 |[]=>rfl
 |x::xs=>by simp only[cY,Dt,List.headD_cons,List.tail_cons,TO z xs]
def pad{t:bi}(n:Nat)(xs:List (den t)):List (den t):=match yp t with
 |some z=>Dt z n xs
 |none=>xs
theorem apL{t:bi}{n:Nat}{xs:List (den t)}(h:xs.length=n):pad n xs=xs:=by
 subst h;unfold pad;split
 ·exact TO _ _
 ·rfl
def eT.mk:(s:eT)->s.J->Site
 |.row t,xs=>.row 0 t xs
 |.rD t n,xs=>.row 0 t (pad n xs)
 |.box bg,y=>.box 0 (tT bg y)
 |.map t,es=>.map 0 t es
def eT.ex(st:ao)(ρ:Ren):(s:eT)->Option (Nat×Nat)->Option s.J
 |.row t,none=>some ([]:List (den t))
 |.row t,some (o,s)=>match st.ai o with
  |some (.row aQ bw xs)=>bif aQ.beq s then(if h:bw=t then some (h▸xs:List (den t)) else none) else none
  |_=>none
 |.rD _ _,none=>none
 |.rD t n,some (o,s)=>match st.ai o with
  |some (.row aQ bw xs)=>bif aQ.beq s then(if h:bw=t then(if xs.length=n then some (h▸xs:List (den t)) else none) else none) else none
  |_=>none
 |.box bg,some (o,s)=>match gl st o s with
  |some cells=>rA st ρ bg cells
  |none=>none
 |.box _,none=>none
 |.map t,some (o,s)=>match st.ai o with
  |some (.map aQ bw es)=>bif aQ.beq s then(if h:bw=t then some (h▸es:List (B×den t)) else none) else none
  |_=>none
 |.map _,none=>none
inductive Loc:Type where
 |same
 |slot (t j:Nat)
 |cell (o j:Nat)
def ary(st:ao):Loc->Option aU
 |.same=>none
 |.slot t j=>match st.get t with
  |.av (.aq l)=>bif Nat.beq j 0 then some l else none
  |.av (.agg al)=>al[j]?
  |_=>none
 |.cell o j=>match st.ai o with
  |some (.box _ cells)=>cells[j]?
  |_=>none
def KK(st:ao)(n:Nat)(l:Loc):Option (Option (Nat×Nat)):=
 match l with
 |.same=>match st.ai n with|some s=>some (some (n,s.cL))|none=>none
 |l=>match ary st l with
  |some (.own o s)=>some (some (o,s))
  |some (.ptr o s _)=>some (some (o,s))
  |some (.fr o s _ _ _)=>some (some (o,s))
  |some (.nil _)=>some none
  |_=>none
@[reducible] def tM:List (Nat×eT×Loc)->Type
 |[]=>Unit
 |s::r=>s.2.1.J×tM r
def kV:(bg:List (Nat×eT×Loc))->tM bg->List (Nat×Site)
 |[],_=>[]
 |s::r,(y,z)=>(s.1,s.2.1.mk y)::kV r z
def BP(st:ao)(ρ:Ren):(bg:List (Nat×eT×Loc))->Option (tM bg)
 |[]=>some ()
 |s::r=>match(look ρ s.1).bind fun D=>s.2.1.ex st ρ D,BP st ρ r with
  |some y,some z=>some (y,z)
  |_,_=>none
def rp(st:ao):List (Nat×eT×Loc)->Option Ren
 |[]=>some []
 |s::r=>match KK st s.1 s.2.2,rp st r with
  |some D,some ρ=>some ((s.1,D)::ρ)
  |_,_=>none
structure Shape where
 c8:List (Nat×fy)
 sites:List (Nat×eT×Loc)
 nt:Nat
@[reducible] def Shape.J(be:Shape):Type:=wH be.c8×tM be.sites
def Shape.st(be:Shape)(y:be.J):ao:=⟨vX be.c8 y.1,kV be.sites y.2,be.nt⟩
def DD(st:ao):dI->aU->List (Nat×Site)
 |.d (.sl _),.own o s=>match st.ai o with
  |some (.row aQ t xs)=>bif aQ.beq s then [(o,.dG s t xs)] else []
  |_=>[]
 |_,_=>[]
def DC(st:ao):List dI->List aU->List (Nat×Site)
 |s::bg,l::al=>DD st s l++DC st bg al
 |_,_=>[]
def _d(st:ao):fy->bb->List (Nat×Site)
 |.aq s,.av (.aq l)=>DD st s l
 |.agg bg,.av (.agg al)=>DC st bg al
 |_,_=>[]
def q4(st:ao):List (Nat×fy)->List (Nat×Site)
 |[]=>[]
 |s::r=>_d st s.2 (st.get s.1)++q4 st r
def _c(st:ao):eT->Option (Option (Nat×Nat))->List (Nat×Site)
 |.box bg,some (some (o,s))=>match gl st o s with
  |some cells=>DC st bg cells
  |none=>[]
 |_,_=>[]
def q5(st:ao):List (Nat×eT×Loc)->List (Nat×Site)
 |[]=>[]
 |s::r=>_c st s.2.1 (KK st s.1 s.2.2)++q5 st r
def Shape.ex(be:Shape)(bM:ao):Option be.J:=
 let st:=bM.iI (q4 bM be.c8++q5 bM be.sites)
 bif st.nt.beq be.nt then
  match rp st be.sites with
  |some ρ=>bif gg (keys ρ)&&gg (nx ρ) then
    match BO st ρ be.c8,BP st ρ be.sites with
    |some y,some z=>some (y,z)
    |_,_=>none
   else none
  |none=>none
 else none
theorem Ur{st:ao}{s:dI}{l:aU}:ei st.sites (DD st s l):=by
 unfold DD;split
 ·rename_i o s;split
  ·rename_i aQ t xs hl;cases hb:aQ.beq s with
   |false=>exact .nil
   |true=>
    have:=ce hb;subst this;intro ae ai hm;simp only[ad,List.mem_singleton,Prod.mk.injEq] at hm;obtain⟨rfl,rfl⟩:=hm;exact⟨_,_,_,rfl,.inl hl⟩
  ·exact .nil
 ·exact .nil
theorem Uq{st:ao}:∀{bg:List dI} {al:List aU},ei st.sites (DC st bg al):=by
 intro bg;induction bg with
 |nil=>intro al;cases al<;>exact .nil
 |cons s bg ih=>
  intro al;cases al with
  |nil=>exact .nil
  |cons l al=>exact Ur.append ih
theorem agR{st:ao}:∀{bg:List (Nat×fy)},ei st.sites (q4 st bg):=by
 intro bg;induction bg with
 |nil=>exact .nil
 |cons s bg ih=>
  refine ei.append ?_ ih;unfold _d;split
  ·exact Ur
  ·exact Uq
  ·exact .nil
theorem agS{st:ao}:∀{bg:List (Nat×eT×Loc)},ei st.sites (q5 st bg):=by
 intro bg;induction bg with
 |nil=>exact .nil
 |cons s bg ih=>
  refine ei.append ?_ ih;unfold _c;split
  ·split
   ·exact Uq
   ·exact .nil
  ·exact .nil
def ue(st:ao)(ρ:Ren)(b_:List (Nat×Site)):Prop:=
 ∀n D,look ρ n=some D->(∃aQ,look b_ n=some aQ/\aQ.cL=0)/\∀o s,D=some (o,s)->∃ai,look st.sites o=some ai/\ai.cL=s/\ai.live=true
def gi(F:Nat->Value)(ρ:Ren)(n:Nat):Value:=
 match look ρ n with
 |some (some (o,_))=>F o
 |some none=>.slice none 0 0
 |none=>undef
theorem ahw{ρ:Ren}{n o s:Nat}(h:nE ρ n o s=true):look ρ n=some (some (o,s)):=by
 unfold nE at h;split at h
 ·rename_i abf aQ hl;simp only[bz] at h;rw[hl,ce h.1,ce h.2]
 ·cases h
section
variable {U:World}{Z:List Nat}{X:Nat->Prop}{F:Nat->Value}{st:ao}{M:Array Value}{w:World}{ρ:Ren}{b_:List (Nat×Site)}{cz:Nat->Prop}
theorem Be(S:az U Z X F st M w)(hR:ue st ρ b_){n o s:Nat}(h:nE ρ n o s=true){p h6:Prop}(hr:Ref st.sites o s p)(hp:gi F ρ n=F o->p->h6):Ref b_ n 0 h6:=by
 have hl:=ahw h;obtain⟨⟨aQ,h1,h2⟩,h3⟩:=hR n _ hl;obtain⟨ai,aD,bn,_⟩:=h3 o s rfl;exact Ref.mk h1 h2 (hp (by simp[gi,hl]) (Ref.at hr aD bn))
theorem ahx(S:az U Z X F st M w)(hR:ue st ρ b_):∀{ns:List Nat} {cs:List (Nat×Nat)} {vs:List Value},vS ρ ns cs=true->vs.length=cs.length->
  (∀i (h:i<cs.length) (an:i<vs.length),Ref st.sites (cs[i]).1 (cs[i]).2 (vs[i]=F (cs[i]).1))->
  vs.length=(ns.map fun n=>(n,0)).length/\∀i (h:i<(ns.map fun n=>((n,0):Nat×Nat)).length) (an:i<vs.length),Ref b_ ((ns.map fun n=>((n,0):Nat×Nat))[i]).1 ((ns.map fun n=>((n,0):Nat×Nat))[i]).2 (vs[i]=gi F ρ ((ns.map fun n=>((n,0):Nat×Nat))[i]).1):=by
 intro ns;induction ns with
 |nil=>
  intro cs vs h hl _;match cs,h with
  |[],_=>exact⟨by simpa using hl,fun i h=>by simp at h⟩
 |cons n ns ih=>
  intro cs vs h hl hr;match cs,h with
  |(o,s)::cs,h=>
   simp only[vS,bz] at h;match vs,hl with
   |v::vs,hl=>
    obtain⟨aG,aK⟩:=ih (vs:=vs) h.2 (by simpa using hl) (fun i g1 g2=>hr (i+1) (by simpa using g1) (by simpa using g2))
    refine⟨by simpa using aG,fun i g1 g2=>?_⟩
    cases i with
    |zero=>exact Be S hR h.1 (hr 0 (by simp) (by simp)) (fun e p=>p.trans e.symm)
    |succ i=>exact aK i (by simpa using g1) (by simpa using g2)
def Dl(F:Nat->Value)(st:ao)(ρ:Ren)(cz:Nat->Prop):Prop:=∀o,cD st.sites o->gB o (nx ρ)=false->∀b,b0 (F o)=some b->¬cz b
theorem dI.gK(S:az U Z X F st M w)(hR:ue st ρ b_)(cq:∀b,cz b->aN X F st.sites b)(eI:Dl F st ρ cz){s:dI}{l:aU}{y:s.J}{v:Value}(h:s.ex st ρ l=some y)(hv:ey F st.sites w (aN X F st.sites) l v):
  ey (gi F ρ) b_ w cz (s.mk y) v:=by
 have hT:∀{d:bk} {v:Value},bU w (aN X F st.sites) d v->bU w cz d v:=fun h=>cy.hT (F:=F) (sites:=[]) (a:=one _) cq (fun b hb=>S.lt (cq b hb)) h
 unfold dI.ex at h;split at h
 ·trivial
 ·rename_i s v';have:s.mk y=v':=ef.W7 h;show bU w cz (s.mk y) v;rw[this];exact hT hv
 ·rename_i t u;cases h;have hv:v=.slice none 0 0:=hv;rw[hv];exact bU.nil t
 ·rename_i T;cases h;have hv:v=.nilIface:=hv;rw[hv];exact bU.xk T
 ·rename_i t o s;split at h
  ·rename_i aQ bw xs hl;cases hb:aQ.beq s with
   |false=>simp[hb] at h
   |true=>
    simp only[hb,ad] at h;split at h
    ·rename_i e;subst e;cases h;have hs:=ce hb;subst hs;have hl:look st.sites o=some (.dG aQ bw xs):=hl;have nZ:v=F o:=Ref.at hv.2 hl rfl;rw[nZ];exact hT (S.sites o _ hl).1
    ·cases h
  ·cases h
 ·rename_i t o s;split at h
  ·rename_i aQ bw es hl;cases hb:(aQ.beq s&&!gB o (nx ρ)) with
   |false=>simp[hb] at h
   |true=>
    simp only[hb,ad] at h;simp only[bz,Bool.not_eq_true'] at hb;split at h
    ·rename_i e;subst e;cases h;have hs:=ce hb.1;subst hs;have hl:look st.sites o=some (.map aQ bw es):=hl;have nZ:v=F o:=Ref.at hv.2 hl rfl;obtain⟨b,h1,h2⟩:=S.sites o _ hl;rw[nZ,h1];exact bU.map bw es b (eI o ⟨_,hl,rfl⟩ hb.2 b (by rw[h1];rfl)) h2
    ·cases h
  ·cases h
 ·rename_i g c_ cO cs;cases hb:Nat.beq g cO with
  |false=>simp[hb] at h
  |true=>
   simp only[hb,ad] at h;have:=ce hb;subst this;show bU w cz (.fn g (wP c_ y)) v;rw[aly h];exact hT hv
 ·rename_i g cO;cases hb:Nat.beq g cO with
  |false=>simp[hb] at h
  |true=>
   have:=ce hb;subst this;obtain⟨vs,h1,h2,_⟩:=hv;rw[fO h2] at h1;rw[h1];exact k0.fn (bN:=[]) (vs:=[]) trivial
 ·rename_i bg off ds qc;cases hb:Nat.beq off qc with
  |false=>simp[hb] at h
  |true=>
   simp only[hb,ad] at h;have:=ce hb;subst this;have e:=TV h;obtain⟨b,D,h1,h2,h3,cs,aD,bn,cl⟩:=hv;show ey (gi F ρ) b_ w cz (.eZ (fY bg y) off) v;rw[e];exact⟨b,D,h1,fun hx=>h2 (cq b hx),h3,cs,aD,bn,fun j g1 g2=>hT (cl j g1 g2)⟩
 ·rename_i n o s;cases hb:nE ρ n o s with
  |false=>simp[hb] at h
  |true=>exact⟨hv.1,Be S hR hb hv.2 (fun e p=>p.trans e.symm)⟩
 ·rename_i n t;split at h
  ·rename_i hl;have hv:v=.slice none 0 0:=hv;obtain⟨⟨aQ,h1,h2⟩,_⟩:=hR n _ hl;exact⟨by rw[hv];rfl,Ref.mk h1 h2 (by simp[gi,hl,hv])⟩
  ·cases h
 ·rename_i n off o s qc;cases hb:(nE ρ n o s&&Nat.beq off qc) with
  |false=>simp[hb] at h
  |true=>
   simp only[bz] at hb;have:=ce hb.2;subst this;obtain⟨b,h1,h2⟩:=hv;exact⟨b,h1,Be S hR hb.1 h2 (fun e p=>e.trans p)⟩
 ·rename_i g ns cO cs;cases hb:(Nat.beq g cO&&vS ρ ns cs) with
  |false=>simp[hb] at h
  |true=>
   simp only[bz] at hb;have:=ce hb.1;subst this;obtain⟨vs,h1,h2,h3⟩:=hv;obtain⟨aG,aK⟩:=ahx S hR hb.2 h2 h3;exact⟨vs,h1,aG,aK⟩
 ·trivial
 ·exact hv
 ·rename_i n t o s bw;cases hb:nE ρ n o s with
  |false=>simp[hb] at h
  |true=>
   simp only[hb,ad] at h;split at h
   ·rename_i e;subst e;obtain⟨b,h1,h2⟩:=hv;exact⟨b,h1,Be S hR hb h2 (fun e p=>by rw[e];exact p)⟩
   ·cases h
 ·cases h
theorem ah0{bg:List dI}{al:List aU}{y:rP bg}(h:rA st ρ bg al=some y)(bV:(tT bg y).head?=some .dM):al.head?=some .dM:=by
 cases bg with
 |nil=>cases bV
 |cons s bg=>
  cases al with
  |nil=>cases h
  |cons l al=>
   simp only[rA] at h;split at h
   ·rename_i a b h1 h2;cases h;simp only[tT,List.head?_cons,bH] at bV ⊢;cases s with
    |dM=>cases l<;>first|rfl|cases h1
    |_=>cases bV
   ·cases h
theorem SN(S:az U Z X F st M w)(hR:ue st ρ b_)(cq:∀b,cz b->aN X F st.sites b)(eI:Dl F st ρ cz):∀{bg:List dI} {al:List aU} {y:rP bg} {vs:List Value},rA st ρ bg al=some y->
  cN F st.sites w (aN X F st.sites) al vs->cN (gi F ρ) b_ w cz (tT bg y) vs:=by
 intro bg;induction bg with
 |nil=>
  intro al y vs h hv;match al,h with
  |[],_=>rw[hv.oC];exact .nil
 |cons s bg ih=>
  intro al y vs h hv;match al,h with
  |l::al,h=>
   simp only[rA] at h;split at h
   ·rename_i a b h1 h2;cases h;obtain⟨v,cH,rfl,aG,aK⟩:=hv.inv;exact .cons (dI.gK S hR cq eI h1 aG) (ih h2 aK)
   ·cases h
theorem fy.gK(S:az U Z X F st M w)(hR:ue st ρ b_)(cq:∀b,cz b->aN X F st.sites b)(eI:Dl F st ρ cz){s:fy}{a:bb}{y:s.J}{v:Value}(h:s.ex st ρ a=some y)(hv:cy F st.sites w (aN X F st.sites) a v):
  cy (gi F ρ) b_ w cz (s.mk y) v:=by
 unfold fy.ex at h;split at h
 ·exact dI.gK S hR cq eI h hv
 ·obtain⟨vs,h1,h2,h3⟩:=hv;have:=SN S hR cq eI h ⟨h2,h3⟩;exact⟨vs,h1,this.1,this.2⟩
 ·cases h
theorem ahY:∀{bg:List (Nat×fy)} {y:wH bg},BO st ρ bg=some y->∀t v,look (vX bg y) t=some v->∃s:fy,∃y':s.J,s.ex st ρ (st.get t)=some y'/\v=s.mk y':=by
 intro bg;induction bg with
 |nil=>intro y h t v hl;cases hl
 |cons s bg ih=>
  intro y h t v hl;simp only[BO] at h;split at h
  ·rename_i a b h1 h2;cases h;simp only[vX,look] at hl;cases hb:s.1.beq t with
   |true=>
    simp only[hb,ad,bH] at hl;have:=ce hb;subst this;exact⟨s.2,a,h1,hl.symm⟩
   |false=>
    simp only[hb,ak] at hl;exact ih h2 t v hl
  ·cases h
theorem ahZ:∀{bg:List (Nat×eT×Loc)} {y:tM bg},BP st ρ bg=some y->∀n b',look (kV bg y) n=some b'->∃z:eT,∃y':z.J,∃D,look ρ n=some D/\z.ex st ρ D=some y'/\b'=z.mk y':=by
 intro bg;induction bg with
 |nil=>intro y h n b' hl;cases hl
 |cons s bg ih=>
  intro y h n b' hl;simp only[BP] at h;split at h
  ·rename_i a b h1 h2;cases h;simp only[kV,look] at hl;cases hb:s.1.beq n with
   |true=>
    simp only[hb,ad,bH] at hl;have:=ce hb;subst this;obtain⟨D,aG,aK⟩:=Option.bind_eq_some_iff.1 h1;exact⟨s.2.1,a,D,aG,aK,hl.symm⟩
   |false=>
    simp only[hb,ak] at hl;exact ih h2 n b' hl
  ·cases h
theorem eT.cL(z:eT)(y:z.J):(z.mk y).cL=0:=by cases z<;>rfl
theorem ahM{e7:ao}:∀{bg:List (Nat×eT×Loc)} {ρ:Ren} {y:tM bg},rp e7 bg=some ρ->∀n D,look ρ n=some D->(∃aQ,look (kV bg y) n=some aQ/\aQ.cL=0):=by
 intro bg;induction bg with
 |nil=>intro ρ y h n D hl;simp only[rp] at h;cases h;cases hl
 |cons s bg ih=>
  intro ρ y h n D hl;simp only[rp] at h;split at h
  ·rename_i a b h1 h2;cases h;obtain⟨cV,dD⟩:=y;simp only[kV,look] at hl ⊢;cases hb:s.1.beq n with
   |true=>simp only[ad];exact⟨_,rfl,eT.cL _ _⟩
   |false=>
    simp only[hb,ak] at hl ⊢;exact ih h2 n D hl
  ·cases h
theorem ahL{e7:ao}:∀{bg:List (Nat×eT×Loc)} {ρ:Ren},rp e7 bg=some ρ->(keys ρ).Nodup->∀n z,(n,z,Loc.same)∈bg->∃s,look ρ n=some (some (n,s)):=by
 intro bg;induction bg with
 |nil=>intro ρ h _ n z hm;simp at hm
 |cons s bg ih=>
  intro ρ h hn n z hm;simp only[rp] at h;split at h
  ·rename_i a b h1 h2;cases h;simp only[keys,List.nodup_cons] at hn;rcases bR.1 hm with hm|hm
   ·subst hm;simp only[KK] at h1;split at h1
    ·cases h1;exact⟨_,by simp[look];rfl⟩
    ·cases h1
   ·obtain⟨aQ,gp⟩:=ih h2 hn.2 n z hm;refine⟨aQ,?_⟩;simp only[look];have:¬s.1=n:=by
     rintro rfl;have key:∀{ρ:Ren} {n:Nat} {D},look ρ n=some D->n∈keys ρ:=by
      intro ρ;induction ρ with
      |nil=>intro n D h;cases h
      |cons p ρ ax8=>
       obtain⟨m,q⟩:=p;intro n D h;simp only[look] at h;cases hb:m.beq n with
       |true=>have:=ce hb;subst this;exact cj
       |false=>simp only[hb,ak] at h;exact ci _ (ax8 h)
     exact hn.1 (key gp)
    rw[ke this];exact gp
  ·cases h
theorem Fu:∀{ρ:Ren} {n o s:Nat},look ρ n=some (some (o,s))->o∈nx ρ:=by
 intro ρ;induction ρ with
 |nil=>intro n o s h;cases h
 |cons p ρ ih=>
  obtain⟨m,D⟩:=p;intro n o s h;simp only[look] at h;cases hb:m.beq n with
  |true=>
   simp only[hb,ad,bH] at h;subst h;exact cj
  |false=>
   simp only[hb,ak] at h;have:=ih h;cases D with
   |none=>exact this
   |some q=>exact ci _ this
theorem agw:∀{ρ:Ren} {n m o s aQ:Nat},(nx ρ).Nodup->look ρ n=some (some (o,s))->look ρ m=some (some (o,aQ))->n=m:=by
 intro ρ;induction ρ with
 |nil=>intro n m o s aQ _ h;cases h
 |cons p ρ ih=>
  obtain⟨k,D⟩:=p;intro n m o s aQ aa h an;simp only[look] at h an;have sb:(nx ρ).Nodup:=by
   cases D with
   |none=>exact aa
   |some q=>exact(List.nodup_cons.1 aa).2
  cases hb:k.beq n with
  |true=>
   simp only[hb,ad,bH] at h;subst h;cases eA:k.beq m with
   |true=>rw[<-ce hb,<-ce eA]
   |false=>
    simp only[eA,ak] at an;exact absurd (Fu an) (List.nodup_cons.1 aa).1
  |false=>
   simp only[hb,ak] at h;cases eA:k.beq m with
   |true=>
    simp only[eA,ad,bH] at an;subst an;exact absurd (Fu h) (List.nodup_cons.1 aa).1
   |false=>
    simp only[eA,ak] at an;exact ih sb h an
theorem Shape.gK(S:az U Z X F st M w){be:Shape}{y:be.J}(h:be.ex st=some y):∃a_,az U Z X a_ (be.st y) M w/\∀n z,(n,z,Loc.same)∈be.sites->a_ n=F n:=by
 unfold Shape.ex at h;have eV:ei st.sites (q4 st be.c8++q5 st be.sites):=agR.append agS;have dO:=S.BN eV;rw[<-ao.vO] at dO;generalize st.iI (q4 st be.c8++q5 st be.sites)=e7 at h dO;cases rZ:e7.nt.beq be.nt with
 |false=>simp[rZ] at h
 |true=>
  simp only[rZ,ad] at h;split at h
  ·rename_i ρ acy;cases hc:(gg (keys ρ)&&gg (nx ρ)) with
   |false=>simp[hc] at h
   |true=>
    simp only[hc,ad] at h;simp only[bz,sO] at hc;split at h
    ·rename_i cV dD h1 h2;cases h;have facts:=ahZ h2;have WJ:∀{z:eT} {y':z.J} {o s:Nat},z.ex e7 ρ (some (o,s))=some y'->∃ai,look e7.sites o=some ai/\ai.cL=s/\ai.live=true:=by
      intro z y' o s hz;cases z with
      |row t=>
       simp only[eT.ex] at hz;split at hz
       ·rename_i aQ bw xs hl;cases hb:aQ.beq s with
        |false=>simp[hb] at hz
        |true=>exact⟨_,hl,ce hb,rfl⟩
       ·cases hz
      |rD t n=>
       simp only[eT.ex] at hz;split at hz
       ·rename_i aQ bw xs hl;cases hb:aQ.beq s with
        |false=>simp[hb] at hz
        |true=>exact⟨_,hl,ce hb,rfl⟩
       ·cases hz
      |box bg=>
       simp only[eT.ex] at hz;split at hz
       ·rename_i hl;exact⟨_,hC hl,rfl,rfl⟩
       ·cases hz
      |map t=>
       simp only[eT.ex] at hz;split at hz
       ·rename_i aQ bw xs hl;cases hb:aQ.beq s with
        |false=>simp[hb] at hz
        |true=>exact⟨_,hl,ce hb,rfl⟩
       ·cases hz
     have hR:ue e7 ρ (kV be.sites dD):=by
      intro n D hn;obtain⟨aQ,jT,rX⟩:=ahM (y:=dD) acy n D hn;refine⟨⟨aQ,jT,rX⟩,fun o s e=>?_⟩
      obtain⟨z,y',dm,aG,aK,_⟩:=facts n aQ jT;rw[hn] at aG;cases aG;subst e;exact WJ aK
     have live:∀n,cD (kV be.sites dD) n->∀b,b0 (gi F ρ n)=some b->∃o s,look ρ n=some (some (o,s))/\cD e7.sites o/\gi F ρ n=F o:=by
      rintro n ⟨b',hn,_⟩ b hb;obtain⟨z,y',D,aG,aK,_⟩:=facts n b' hn;cases D with
      |none=>simp[gi,aG,b0] at hb
      |some q=>
       obtain⟨o,s⟩:=q;obtain⟨ai,q1,_,dU⟩:=WJ aK;exact⟨o,s,aG,⟨ai,q1,dU⟩,by simp[gi,aG]⟩
     have cq:∀b,aN X (gi F ρ) (kV be.sites dD) b->aN X F e7.sites b:=by
      rintro b (hb|⟨n,hn,hb⟩)
      ·exact .inl hb
      ·obtain⟨o,s,_,q2,dU⟩:=live n hn b hb;exact .inr ⟨o,q2,by rw[<-dU];exact hb⟩
     have hT:∀{d:bk} {v:Value},bU w (aN X F e7.sites) d v->bU w (aN X (gi F ρ) (kV be.sites dD)) d v:=
      fun h=>cy.hT (F:=F) (sites:=[]) (a:=one _) cq (fun b hb=>dO.lt (cq b hb)) h
     have eI:Dl F e7 ρ (aN X (gi F ρ) (kV be.sites dD)):=by
      rintro o c9 hm b hb (hx|⟨n,hn,xZ⟩)
      ·exact(dO.cF o b c9 hb).1 hx
      ·obtain⟨ae,s,q1,q2,dU⟩:=live n hn b xZ;rw[dU] at xZ;have e:=dO.eD o ae b c9 q2 hb xZ;subst e;have hin:=Fu q1;rw[<-vJ] at hin;rw[hm] at hin;cases hin
     refine⟨gi F ρ,⟨?_,fun t=>?_,fun n b' hn=>?_,fun n m b ed fU g1 g2=>?_,fun n b ed g1=>?_,dO.frame,dO.old,dO.fw⟩,fun n z hm=>?_⟩
     ·rw[dO.nt];exact ce rZ
     ·show cy _ _ _ _ (ao.get _ t) _;unfold ao.get;cases hl:look (vX be.c8 cV) t with
      |none=>simp only[Shape.st,hl];trivial
      |some v=>
       simp only[Shape.st,hl];obtain⟨s,y',aG,aK⟩:=ahY h1 t v hl;rw[aK];exact fy.gK dO hR cq eI aG (dO.c8 t)
     ·have hn:look (kV be.sites dD) n=some b':=hn;obtain⟨z,y',D,aG,aK,bP⟩:=facts n b' hn;rw[bP];cases z with
      |row t=>
       cases D with
       |none=>
        simp only[eT.ex] at aK;cases aK;exact⟨0,[],⟨by simp,.inl ⟨by simp[gi,aG],rfl⟩⟩,fun j h=>by simp[flat] at h⟩
       |some q=>
        obtain⟨o,s⟩:=q;simp only[eT.ex] at aK;split at aK
        ·rename_i aQ bw xs hl;cases hb:aQ.beq s with
         |false=>simp[hb] at aK
         |true=>
          simp only[hb,ad] at aK;split at aK
          ·rename_i e;subst e;cases aK;obtain⟨e,cs,q1,q2⟩:=dO.sites o _ hl;refine⟨e,cs,?_,fun j g1 g2=>hT (q2 j g1 g2)⟩
           have:gi F ρ n=F o:=by simp[gi,aG]
           rw[this];exact q1
          ·cases aK
        ·cases aK
      |rD t m=>
       cases D with
       |none=>cases aK
       |some q=>
        obtain⟨o,s⟩:=q;simp only[eT.ex] at aK;split at aK
        ·rename_i aQ bw xs hl;cases hb:aQ.beq s with
         |false=>simp[hb] at aK
         |true=>
          simp only[hb,ad] at aK;split at aK
          ·rename_i e;subst e;split at aK
           ·rename_i hlen;cases aK;obtain⟨e,cs,q1,q2⟩:=dO.sites o _ hl;simp only[eT.mk,apL hlen];refine⟨e,cs,?_,fun j g1 g2=>hT (q2 j g1 g2)⟩
            have:gi F ρ n=F o:=by simp[gi,aG]
            rw[this];exact q1
           ·cases aK
          ·cases aK
        ·cases aK
      |box bg=>
       cases D with
       |none=>cases aK
       |some q=>
        obtain⟨o,s⟩:=q;simp only[eT.ex] at aK;split at aK
        ·rename_i cells hl;obtain⟨b,T,cur,q1,q2,dU,ni,axN,EV⟩:=dO.sites o _ (hC hl);have:=SN dO hR cq eI aK ⟨dU,EV⟩;exact⟨b,T,cur,by simp[gi,aG,q1],q2,this.1,ni,fun bV=>axN (ah0 aK bV),this.2⟩
        ·cases aK
      |map t=>
       cases D with
       |none=>cases aK
       |some q=>
        obtain⟨o,s⟩:=q;simp only[eT.ex] at aK;split at aK
        ·rename_i aQ bw es hl;cases hb:aQ.beq s with
         |false=>simp[hb] at aK
         |true=>
          simp only[hb,ad] at aK;split at aK
          ·rename_i e;subst e;cases aK;obtain⟨b,q1,q2⟩:=dO.sites o _ hl;have:gi F ρ n=F o:=by simp[gi,aG]
           exact⟨b,this.trans q1,q2⟩
          ·cases aK
        ·cases aK
     ·obtain⟨o,s,a1,a2,a3⟩:=live n ed b g1;obtain⟨ae,aQ,b1,b2,b3⟩:=live m fU b g2;rw[a3] at g1;rw[b3] at g2;have:=dO.eD o ae b a2 b2 g1 g2;subst this;exact agw hc.2 a1 b1
     ·obtain⟨o,s,a1,a2,a3⟩:=live n ed b g1;rw[a3] at g1;exact dO.cF o b a2 g1
     ·obtain⟨s,hs⟩:=ahL acy hc.1 n z hm;simp[gi,hs]
    ·cases h
  ·cases h
end
inductive Kind:Type where
 |norm
 |exit (id:Nat)
 |ret
abbrev aR:=Kind×Shape
@[reducible] def aH:List aR->Type
 |[]=>Empty
 |[D]=>D.2.J
 |D::dm::r=>Sum D.2.J (aH (dm::r))
def Kind.mk:Kind->ao->Out
 |.norm,st=>.norm st
 |.exit id,st=>.exit id st
 |.ret,st=>.ret st
def mc:(os:List aR)->aH os->Out
 |[D],y=>D.1.mk (D.2.st y)
 |D::dm::r,y=>match y with
  |.inl y=>D.1.mk (D.2.st y)
  |.inr y=>mc (dm::r) y
def Kind.h':Kind->Out->Option ao
 |.norm,.norm st=>some st
 |.exit id,.exit jv st=>bif Nat.beq id jv then some st else none
 |.ret,.ret st=>some st
 |_,_=>none
def hZ:(os:List aR)->Out->Option (aH os)
 |[],_=>none
 |[D],x=>match D.1.h' x with
  |some st=>D.2.ex st
  |none=>none
 |D::dm::r,x=>match D.1.h' x with
  |some st=>(D.2.ex st).map Sum.inl
  |none=>(hZ (dm::r) x).map Sum.inr
section
variable {U:World}{Z:List Nat}{X:Nat->Prop}{ds:List Deferred}{fa:Array Value}{W:List Nat}
theorem eX.ex{st:ao}{be:Shape}{y:be.J}{a:Act}{w:World}(hy:be.ex st=some y)(h:eX U Z X ds fa W st a w):eX U Z X ds fa W (be.st y) a w:=by
 obtain⟨a',ec,dp,F,eg,h1,h2,h3,S,bn⟩:=h;obtain⟨a_,cA,_⟩:=Shape.gK S hy;exact⟨a',ec,dp,a_,eg,h1,h2,h3,cA,bn⟩
theorem Kind.Hy{k:Kind}{x:Out}{st:ao}{be:Shape}{y:be.J}{e:Exit}{a:Act}{w:World}(h:k.h' x=some st)(hy:be.ex st=some y)(hl:fD U Z X ds fa W x e a w):fD U Z X ds fa W (k.mk (be.st y)) e a w:=by
 cases k<;>cases x<;>simp only[Kind.h'] at h<;>try(cases h;done)
 ·cases h;cases e<;>try exact hl.elim
  exact eX.ex hy hl
 ·rename_i id jv au;cases hb:Nat.beq id jv with
  |false=>simp[hb] at h
  |true=>
   simp only[hb,ad,bH] at h;subst h;cases e<;>try exact hl.elim
   exact⟨(ce hb).trans hl.1,eX.ex hy hl.2⟩
 ·cases h;cases e<;>try exact hl.elim
  exact eX.ex hy hl
theorem vD:∀{os:List aR} {x:Out} {y:aH os} {e:Exit} {a:Act} {w:World},hZ os x=some y->fD U Z X ds fa W x e a w->fD U Z X ds fa W (mc os y) e a w:=by
 intro os;induction os with
 |nil=>intro x y;exact y.elim
 |cons D os ih=>
  intro x y e a w h hl;cases os with
  |nil=>
   simp only[hZ] at h;split at h
   ·rename_i st hk;exact Kind.Hy hk h hl
   ·cases h
  |cons dm r=>
   simp only[hZ] at h;split at h
   ·rename_i st hk;obtain⟨cV,aG,aK⟩:=Option.map_eq_some_iff.1 h;subst aK;exact Kind.Hy hk aG hl
   ·obtain⟨cV,aG,aK⟩:=Option.map_eq_some_iff.1 h;subst aK;exact ih aG hl
end
section
variable {J bx:Type}
def iter(f:J->Option (Sum J bx)):Nat->J->Option bx
 |0,_=>none
 |n+1,y=>match f y with
  |none=>none
  |some (.inl y')=>iter f n y'
  |some (.inr b)=>some b
theorem Rj{f:J->Option (Sum J bx)}:∀{n m:Nat} {y:J} {b:bx},n<=m->iter f n y=some b->iter f m y=some b:=by
 intro n;induction n with
 |zero=>intro m y b _ h;cases h
 |succ n ih=>
  intro m y b hle h;obtain⟨m,rfl⟩:∃k,m=k+1:=⟨m-1,by omega⟩
  simp only[iter] at h ⊢;split at h
  ·cases h
  ·exact ih (by omega) h
  ·exact h
open Classical in
noncomputable def bA(f:J->Option (Sum J bx))(y:J):Option bx:=
 if h:∃n b,iter f n y=some b then some (Classical.choose (Classical.choose_spec h)) else none
theorem Gl{f:J->Option (Sum J bx)}{y:J}{b:bx}:bA f y=some b <-> ∃n,iter f n y=some b:=by
 unfold bA;constructor
 ·intro h;split at h
  ·rename_i an;cases h;exact⟨_,Classical.choose_spec (Classical.choose_spec an)⟩
  ·cases h
 ·rintro⟨n,hn⟩;have h:∃n b,iter f n y=some b:=⟨n,b,hn⟩;rw[dif_pos h];have h1:=Classical.choose_spec (Classical.choose_spec h);have h2:=Rj (Nat.le_max_left (Classical.choose h) n) h1;have h3:=Rj (Nat.le_max_right (Classical.choose h) n) hn;rw[h2] at h3;exact h3
theorem Ab(f:J->Option (Sum J bx))(y:J):bA f y=match f y with
  |none=>none
  |some (.inl y')=>bA f y'
  |some (.inr b)=>some b:=by
 apply Option.ext;intro b;rw[Gl];cases hf:f y with
 |none=>
  simp only;constructor
  ·rintro⟨n,hn⟩;cases n with
   |zero=>cases hn
   |succ n=>simp only[iter,hf] at hn;cases hn
  ·intro h;cases h
 |some s=>
  cases s with
  |inl y'=>
   simp only;rw[Gl];constructor
   ·rintro⟨n,hn⟩;cases n with
    |zero=>cases hn
    |succ n=>simp only[iter,hf] at hn;exact⟨n,hn⟩
   ·rintro⟨n,hn⟩;exact⟨n+1,by simp only[iter,hf];exact hn⟩
  |inr bS=>
   simp only;constructor
   ·rintro⟨n,hn⟩;cases n with
    |zero=>cases hn
    |succ n=>simp only[iter,hf] at hn;exact hn
   ·intro h;exact⟨1,by simp only[iter,hf];exact h⟩
theorem least{p:Nat->Prop}(h:∃n,p n):∃n,p n/\∀m,p m->n<=m:=by
 obtain⟨n,hn⟩:=h;induction n using Nat.strongRecOn with
 |_ n ih=>
  by_cases an:∃m,m<n/\p m
  ·obtain⟨m,h1,h2⟩:=an;exact ih m h1 h2
  ·exact⟨n,hn,fun m hm=>Nat.le_of_not_lt fun hlt=>an ⟨m,hlt,hm⟩⟩
end
noncomputable def tx(C:io)(c:Code)(p:Nat)(be:Shape)(os:List aR)(y:be.J):Option (Sum be.J (aH os)):=
 exec C c (2*p) (be.st y) fun
  |.norm st=>(be.ex st).map .inl
  |x=>(hZ os x).map .inr
def Df:(os:List aR)->(R:Type)->aH os->(Out->Option R)->Option R
 |[D],R,y,K=>K (D.1.mk (D.2.st y))
 |D::dm::r,R,y,K=>match y with
  |.inl y=>K (D.1.mk (D.2.st y))
  |.inr y=>Df (dm::r) R y K
theorem SS:∀(os:List aR) (R:Type) (y:aH os) (K:Out->Option R),Df os R y K=K (mc os y):=by
 intro os;induction os with
 |nil=>intro R y;exact y.elim
 |cons D os ih=>
  intro R y K;cases os with
  |nil=>rfl
  |cons dm r=>
   cases y with
   |inl y=>rfl
   |inr y=>exact ih R y K
def aX(be:Shape)(os:List aR)(g:be.J->Option (aH os)):iw:=fun st=>⟨aH os,(be.ex st).bind g,mc os,Df os,SS os⟩
section
variable {P:Program}{C:io}
theorem ajC(H:aT P C.toCtx){c:Code}{p:Nat}{be:Shape}{os:List aR}(eI:gL P C c (2*p)){g:be.J->Option (aH os)}(hg:∀y,g y=bA (tx C c p be os) y):
  aV P (.loop c) (aX be os g):=by
 intro rn hn U Z X st y hy F M w ds S;simp only[aX] at hy y ⊢;obtain⟨dT,h1,h2⟩:=Option.bind_eq_some_iff.1 hy;obtain⟨mR,pr,_⟩:=Shape.gK S h1;rw[hg] at h2;obtain⟨n0,r3⟩:=Gl.1 h2;have aBJ:∃ft:Nat->Act->World->Prop,∀n a w,ft n a w <-> ∃z,iter (tx C c p be os) n z=some y/\eX U Z X ds M (cJ c) (be.st z) a w:=⟨_,fun _ _ _=>Iff.rfl⟩
 obtain⟨ft,nj⟩:=aBJ;classical
 refine wpIn_loop (I:=fun a w=>∃n,ft n a w) (μ:=fun a w=>if h:∃n,ft n a w then Classical.choose (least h) else 0) ⟨n0,(nj _ _ _).2 ⟨dT,r3,eX.of pr fun _ _=>rfl⟩⟩ ?_
 intro a w' dH;have aue:=(Classical.choose_spec (least dH)).1;obtain⟨z,hz,a',ec,dp,hh,eg,b1,b2,b3,dO,yE⟩:=(nj _ _ _).1 aue;obtain⟨is,Ok⟩:=a;obtain⟨b3,azC⟩:=b3;have b3:Ok=eg.map mark++ds:=b3;subst b3;have join:∀{D:Out} {e:Exit} {a2:Act} {w2:World},fD a' ec dp (eg.map mark++ds) is (cJ c) D e a2 w2->fD U Z X ds M (cJ c) D e a2 w2:=fun hl=>
  (fD.trans b1 b2 azC yE hl).mono fun t ay=>(bo.1 ay).elim id id
 cases jc:Classical.choose (least dH) with
 |zero=>rw[jc] at hz;cases hz
 |succ n=>
  rw[jc] at hz;simp only[iter] at hz;have go:∀s,tx C c p be os z=some s->gI rn P c (fun e a w=>match s with
    |.inl fm=>fD U Z X ds M (cJ c) (.norm (be.st fm)) e a w
    |.inr b=>fD U Z X ds M (cJ c) (mc os b) e a w/\e≠.normal) ⟨is,eg.map mark++ds⟩ w':=by
   intro s hs;refine j5 H c (2*p) hn eI a' ec dp (be.st z) hh is w' _ _ _ hs dO ?_
   intro D e a w2 hk hl;have hl:=join hl;cases D with
   |norm xC=>
    obtain⟨fm,q1,q2⟩:=Option.map_eq_some_iff.1 hk;subst q2;exact Kind.Hy (k:=.norm) rfl q1 hl
   |exit id xC=>
    obtain⟨fm,q1,q2⟩:=Option.map_eq_some_iff.1 hk;subst q2;exact⟨vD q1 hl,by rintro rfl;exact hl⟩
   |ret xC=>
    obtain⟨fm,q1,q2⟩:=Option.map_eq_some_iff.1 hk;subst q2;exact⟨vD q1 hl,by rintro rfl;exact hl⟩
  cases hr:tx C c p be os z with
  |none=>rw[hr] at hz;cases hz
  |some s=>
   cases s with
   |inl fm=>
    rw[hr] at hz;refine wpIn_mono (go _ hr) fun e a2 w2 hl=>?_
    cases e<;>try exact hl.elim
    have Nr:ft n a2 w2:=(nj _ _ _).2 ⟨fm,hz,hl⟩;refine⟨⟨n,Nr⟩,?_⟩;have hex:∃n,ft n a2 w2:=⟨n,Nr⟩;simp only[dif_pos hex,dif_pos dH,jc];have:Classical.choose (least hex)<=n:=(Classical.choose_spec (least hex)).2 n Nr;omega
   |inr b=>
    rw[hr] at hz;simp only[bH] at hz;subst hz;refine wpIn_mono (go _ hr) fun e a2 w2 hl=>?_
    cases e<;>first|exact absurd rfl hl.2|exact hl.1
noncomputable def Vh(C:io)(c:Code)(p:Nat)(be:Shape)(os:List aR)(y:be.J):Option (aH os):=exec C c p (be.st y) (hZ os)
theorem ahG(H:aT P C.toCtx){c:Code}{p:Nat}{be:Shape}{os:List aR}(eI:gL P C c p){g:be.J->Option (aH os)}(hg:∀y,g y=Vh C c p be os y):aV P c (aX be os g):=by
 intro rn hn U Z X st y hy F M w ds S;simp only[aX] at hy y ⊢;obtain⟨dT,h1,h2⟩:=Option.bind_eq_some_iff.1 hy;obtain⟨mR,pr,_⟩:=Shape.gK S h1;rw[hg] at h2;exact j5 H c p hn eI U Z X (be.st dT) mR M w _ _ _ h2 pr fun D e a w' hk hl=>vD hk hl
end
def aU.TS:aU->Bool
 |.fresh _ _=>false
 |_=>true
def mu:List aU->Bool
 |[]=>true
 |l::al=>l.TS&&mu al
def q6(i:Nat):List Arg->Option (List (Nat×bb))
 |[]=>some []
 |.av a::r=>bif mu a.cells then(q6 (i+1) r).map fun l=>(i,.av a)::l else none
 |.fN _::r=>(q6 (i+1) r).map fun l=>(i,cf (.ptr (500000+i) 0 0))::l
def kv(i:Nat):List Arg->List (Nat×Nat)
 |[]=>[]
 |.av _::r=>kv (i+1) r
 |.fN _::r=>(500000+i,0)::kv (i+1) r
def CT:List Arg->List (List aU)
 |[]=>[]
 |.av _::r=>CT r
 |.fN cs::r=>cs::CT r
def ox(i:Nat):List Arg->List Nat
 |[]=>[]
 |.av _::r=>ox (i+1) r
 |.fN _::r=>i::ox (i+1) r
def l0:List (Nat×Nat)->List (Nat×Site)
 |[]=>[]
 |(o,s)::r=>(o,.dead s)::l0 r
def CQ(nt:Nat)(as:List Arg)(l:List (Nat×bb)):ao:=⟨l,l0 (kv 0 as),nt⟩
def Ks(nt:Nat)(as:List Arg)(l:List (Nat×bb)):List (Nat×Site):=hL (CQ nt as l) (kv 0 as) (CT as)
def entry(nt:Nat)(as:List Arg):Option ao:=bif Nat.ble as.length nt then(match q6 0 as with
 |some l=>bif gg (keys (Ks nt as l)) then some ⟨l,bB (l0 (kv 0 as)) (Ks nt as l),nt⟩ else none
 |none=>none) else none
def ov(st:ao):List Nat->Option (List (List aU)×List (Nat×Site))
 |[]=>some ([],[])
 |t::cv=>match st.get t with
  |.av (.aq (.ptr o s 0))=>match gl st o s,ov st cv with
   |some cells,some (c_,us)=>match k_ st cells with
    |some (cs,gone)=>some (cs::c_,(o,.dead s)::(gone++us))
    |none=>none
   |_,_=>none
  |_=>none
def u3:List Nat->List Nat->Bool
 |[],[]=>true
 |n::r,m::s=>n.beq m&&u3 r s
 |_,_=>false
def arT(st:ao):b5->Option (b5×List (Nat×Site))
 |.aq l=>(oM st l).map fun p=>(.aq p.1,p.2)
 |.agg al=>(k_ st al).map fun p=>(.agg p.1,p.2)
def KH(tt:TypeId->cu)(st:ao):ResultVar->Option b5
 |.tmp t=>mQ (st.get t)
 |.cell a T=>match tt T with
  |.arr _ t n=>match st.get a with
   |.av (.aq (.fr o s u 0 0))=>match rowOf st o s with
    |some ⟨bw,xs⟩=>if bw=t/\bw=u then(long n xs).map fun xs=>.agg (DH bw xs n) else none
    |none=>none
   |_=>none
  |ti=>match st.get a with
   |.av (.aq (.ptr o s off))=>bif ti.known then(match gl st o s with
    |some cells=>(cut ti.agg off ti.size cells).bind mQ
    |none=>none) else none
   |_=>none
def oD(tt:TypeId->cu)(st:ao):List ResultVar->Option (List b5×List (Nat×Site))
 |[]=>some ([],[])
 |t::cv=>match KH tt st t with
  |some a=>match arT st a,oD tt st cv with
   |some (c',us),some (as,vs)=>some (c'::as,us++vs)
   |_,_=>none
  |none=>none
def atU(be:Shape):Out->Option be.J
 |.ret st=>be.ex st
 |.norm st=>be.ex st
 |.exit _ _=>none
noncomputable def KR(C:io)(c:Code)(k5 fW:Shape)(a:k5.J):Option fW.J:=exec C c 1 (k5.st a) (atU fW)
noncomputable def pK(tt:TypeId->cu)(nt:Nat)(k5 fW:Shape)(outs:List ResultVar)(fL:List Nat)(f:k5.J->Option fW.J):aI:=fun as=>
 match entry nt as with
 |some st=>bif u3 (ox 0 as) fL then⟨fW.J,(k5.ex st).bind f,fun y=>(match ov (fW.st y) fL with|some r=>r.1|none=>[]),fun y=>match oD tt (fW.st y) outs with|some r=>r.1|none=>[]⟩ else xn.fail
 |none=>xn.fail
section
variable {w:World}{av:Nat->Prop}
theorem afo:∀{al:List aU} {vs:List Value} {bs:List Nat},mu al=true->l2 w av al vs bs->bs=[]/\cN mJ [] w av al vs:=by
 intro al;induction al with
 |nil=>
  intro vs bs _ h;match vs,h with
  |[],h=>exact⟨h,.nil⟩
 |cons l al ih=>
  intro vs bs hn h;simp only[mu,bz] at hn;match vs,h with
  |v::vs,⟨b1,b2,h1,h2,h3⟩=>
   obtain⟨aG,aK⟩:=ih hn.2 h3;have:b1=[]/\ey mJ [] w av l v:=by
    cases l<;>first|exact h2|cases hn.1
   exact⟨by rw[h1,this.1,aG];rfl,.cons this.2 aK⟩
theorem afp{a:b5}{v:Value}{bs:List Nat}(hn:mu a.cells=true)(h:Dj w av a v bs):bs=[]/\hU mJ [] w av a v:=by
 cases a with
 |aq l=>
  simp only[b5.cells,mu,Bool.and_true] at hn;cases l<;>first|exact h|cases hn
 |agg al=>
  obtain⟨vs,h1,h2⟩:=h;obtain⟨aG,aK⟩:=afo hn h2;exact⟨aG,vs,h1,aK.1,aK.2⟩
def oQ:Value->Nat
 |.pointer (some a)=>a.block
 |_=>0
theorem afT{al:List aU}(h:mu al=true){l:aU}(hl:l∈al):l.TS=true:=by
 induction al with
 |nil=>cases hl
 |cons a al ih=>
  simp only[mu,bz] at h;rcases bR.1 hl with rfl|hl
  ·exact h.1
  ·exact ih h.2 hl
theorem ami{F:Nat->Value}{cz:Nat->Prop}{a:b5}{v:Value}{sites:List (Nat×Site)}(hn:mu a.cells=true)(h:hU mJ [] w av a v)(hle:∀b,cz b->av b)(hlt:∀b,cz b->b<w.heap.size):hU F sites w cz a v:=by
 cases a with
 |aq l=>exact FN (fun t xs e=>by subst e;cases hn) h hle hlt
 |agg al=>
  obtain⟨vs,h1,h2,h3⟩:=h;exact⟨vs,h1,h2,fun j g1 g2=>FN (fun t xs e=>by have:=afT hn (List.getElem_mem g1);rw[e] at this;cases this) (h3 j g1 g2) hle hlt⟩
theorem Fp:∀{as:List Arg} {i o s:Nat},(o,s)∈kv i as->s=0:=by
 intro as;induction as with
 |nil=>intro i o s h;cases h
 |cons a as ih=>
  intro i o s h;cases a with
  |av a=>exact ih h
  |fN c=>
   rcases bR.1 h with h|h
   ·cases h;rfl
   ·exact ih h
theorem P4{L:List (Nat×Nat)}(h:∀o s,(o,s)∈L->s=0){o s:Nat}(hm:(o,s)∈L):look (l0 L) o=some (.dead 0):=by
 induction L with
 |nil=>cases hm
 |cons p L ih=>
  obtain⟨k,r⟩:=p;simp only[l0,look];cases hb:k.beq o with
  |true=>simp only[ad];rw[h k r cj]
  |false=>
   simp only[ak];refine ih (fun o s hm=>h o s (ci _ hm)) ?_
   rcases bR.1 hm with e|e
   ·cases e;rw[Nat.beq_refl] at hb;cases hb
   ·exact e
theorem Qc{L:List (Nat×Nat)}{o:Nat}{ai:Site}(h:look (l0 L) o=some ai):∃s,ai=.dead s:=by
 induction L with
 |nil=>cases h
 |cons p L ih=>
  obtain⟨k,r⟩:=p;simp only[l0,look] at h;cases hb:k.beq o with
  |true=>simp only[hb,ad,bH] at h;exact⟨r,h.symm⟩
  |false=>simp only[hb,ak] at h;exact ih h
theorem ag2{F:Nat->Value}:∀{as:List Arg} {i:Nat} {l:List (Nat×bb)} {vs:List Value} {bs:List Nat},q6 i as=some l->jD w av as vs bs->(∀j,F (500000+i+j)=vs.getD j undef)->
  jH w av (eu as vs) (CT as) bs/\n_ F (kv i as) (eu as vs)/\eu as vs=(ox i as).map (fun t=>oQ (vs.getD (t-i) undef))/\(∀t,t∈ox i as->i<=t)/\
  ∀t v,look l t=some v->i<=t/\((∃a,v=.av a/\mu a.cells=true/\hU mJ [] w av a (vs.getD (t-i) undef))\/(v=cf (.ptr (500000+t) 0 0)/\(500000+t,0)∈kv i as/\∃b,vs.getD (t-i) undef=.pointer (some ⟨b,0,none⟩))):=by
 intro as;induction as with
 |nil=>
  intro i l vs bs h bV dd;simp only[q6] at h;cases h;match vs,bV with
  |[],bV=>exact⟨bV,trivial,rfl,fun t h=>(by cases h),fun t v h=>(by cases h)⟩
 |cons a as ih=>
  intro i l vs bs h bV dd;match vs,bV with
  |v::vs,⟨b1,b2,e,h2,h3⟩=>
  have kF:∀j,F (500000+(i+1)+j)=vs.getD j undef:=fun j=>by
   have:=dd (j+1);rw[List.getD_cons_succ] at this;rw[<-this];congr 1;omega
  have shift:∀t,i+1<=t->(v::vs).getD (t-i) undef=vs.getD (t-(i+1)) undef:=fun t ay=>by
   obtain⟨m,hm⟩:∃m,t-i=m+1:=⟨t-i-1,by omega⟩
   have m_:t-(i+1)=m:=by omega
   rw[hm,List.getD_cons_succ,m_]
  have ZM:∀{L:List Nat},(∀t,t∈L->i+1<=t)->L.map (fun t=>oQ (vs.getD (t-(i+1)) undef))=L.map (fun t=>oQ ((v::vs).getD (t-i) undef)):=fun ee=>List.map_congr_left fun t ay=>by rw[shift t (ee t ay)]
  cases a with
  |fN c=>
   simp only[q6] at h;obtain⟨gU,h1,aD⟩:=Option.map_eq_some_iff.1 h;subst aD;obtain⟨b,hv,qx⟩:=h2;obtain⟨aG,aK,bP,cU,fA⟩:=ih h1 h3 kF;have fk:eu (.fN c::as) (v::vs)=b::eu as vs:=by subst hv;rfl
   refine⟨by rw[fk];exact⟨b1,b2,e,qx,aG⟩,by rw[fk];exact⟨by have:=dd 0;rw[Nat.add_zero] at this;rw[this];exact hv,aK⟩,?_,fun t ay=>?_,fun t u hl=>?_⟩
   ·rw[fk,bP,ZM cU];simp only[ox,List.map_cons,Nat.sub_self,List.getD_cons_zero,hv,oQ]
   ·rcases bR.1 ay with rfl|ay
    ·exact Nat.le_refl _
    ·exact Nat.le_trans (Nat.le_succ _) (cU t ay)
   ·simp only[look] at hl;cases hb:i.beq t with
    |true=>
     have:=ce hb;subst this;simp only[hb,ad,bH] at hl;subst hl;exact⟨Nat.le_refl _,.inr ⟨rfl,cj,b,by simp only[Nat.sub_self,List.getD_cons_zero];exact hv⟩⟩
    |false=>
     simp only[hb,ak] at hl;obtain⟨q1,q2⟩:=fA t u hl;refine⟨by omega,?_⟩
     rw[shift t q1];rcases q2 with q2|⟨r1,r2,dE⟩
     ·exact .inl q2
     ·exact .inr ⟨r1,ci _ r2,dE⟩
  |av a=>
   simp only[q6] at h;cases hn:mu a.cells with
   |false=>simp[hn] at h
   |true=>
    simp only[hn,ad] at h;obtain⟨gU,h1,aD⟩:=Option.map_eq_some_iff.1 h;subst aD;obtain⟨g1,g2⟩:=afp hn h2;obtain⟨aG,aK,bP,cU,fA⟩:=ih h1 h3 kF;have fk:eu (.av a::as) (v::vs)=eu as vs:=by cases v<;>rfl
    refine⟨by rw[fk,e,g1];exact aG,by rw[fk];exact aK,by rw[fk,bP,ZM cU];rfl,fun t ay=>Nat.le_trans (Nat.le_succ _) (cU t ay),fun t u hl=>?_⟩
    simp only[look] at hl;cases hb:i.beq t with
    |true=>
     have:=ce hb;subst this;simp only[hb,ad,bH] at hl;subst hl;exact⟨Nat.le_refl _,.inl ⟨a,rfl,hn,by simp only[Nat.sub_self,List.getD_cons_zero];exact g2⟩⟩
    |false=>
     simp only[hb,ak] at hl;obtain⟨q1,q2⟩:=fA t u hl;refine⟨by omega,?_⟩
     rw[shift t q1];exact q2
theorem ap8:∀{l m:List Nat},u3 l m=true->l=m:=by
 intro l;induction l with
 |nil=>intro m h;cases m<;>first|rfl|cases h
 |cons n l ih=>
  intro m h;cases m with
  |nil=>cases h
  |cons k m=>
   simp only[u3,bz] at h;rw[ce h.1,ih h.2]
end
section
variable {P:Program}{U:World}{Z:List Nat}{X:Nat->Prop}{F:Nat->Value}{st:ao}{M:Array Value}{w:World}{dF:List (Nat×Site)}{fs:List Nat}{av:Nat->Prop}
def rj(M:Array Value)(r:ResultVar):Sem Value:=
 match r with
 |.tmp t=>pure (M.getD t undef)
 |.cell a t=>do loadVar t (<-asAddr (M.getD a undef))
theorem alt(S:az U Z X F st M w){C:Ctx}(H:CtxOk P C){r:ResultVar}{a:b5}(h:KH C.tt st r=some a):∃v,(rj M r).run P w=.ok v w/\hU F st.sites w (aN X F st.sites) a v:=by
 cases r with
 |tmp t=>
  have hs:=S.c8 t;rw[qQ h] at hs;exact⟨_,by simp only[rj,Sem.run_pure],hs⟩
 |cell x T=>
  simp only[KH] at h;split at h
  ·rename_i e t n bp;split at h
   ·rename_i o s u hx;have hs:=S.c8 x;rw[hx] at hs;split at h
    ·rename_i bw xs hrow;split at h
     ·rename_i jS;obtain⟨rfl,rfl⟩:=jS;obtain⟨bm,hy,ayc⟩:=Option.map_eq_some_iff.1 h;obtain⟨rfl,hlen⟩:=vy hy;subst ayc;have bY:=H.tt T;rw[bp] at bY;obtain⟨he,_,_,fm,_,nX,_⟩:=ol bY.2.2;obtain⟨b,c,cs,hv,_,hc,hr⟩:=S.arr hrow hs;have hcl:cs.length=n:=by rw[hr.1,fu,he,hlen,Nat.mul_one]
      have dL:=vj (P:=P) (w:=w) bY (by rintro h;cases h) ⟨b,0,none⟩ cs hcl (fun j u hu=>by rw[hK];exact hc j u hu)
      refine⟨.agg cs.toArray,?_,?_⟩
      ·simp only[rj,hv,asAddr,Sem.run_bind,Sem.run_pure,Result.andThen_ok,dL];rfl
      ·subst hlen;have:=ig (F:=F) (sites:=st.sites) hr.1 hr.2;rw[<-Uw nX] at this;exact⟨cs,rfl,this.1,this.2⟩
     ·cases h
    ·cases h
   ·cases h
  split at h
  ·rename_i o s off hx;have hs:=S.c8 x;rw[hx] at hs;cases hk:(C.tt T).known with
   |false=>simp[hk] at h
   |true=>
    simp only[hk,ad] at h;split at h
    ·rename_i cells hb;obtain⟨v,hc,hv⟩:=Option.bind_eq_some_iff.1 h;have hv:=qQ hv;subst hv;obtain⟨b,gW,cur,h1,h2,h3,aD,bn⟩:=S.box (hC hb) hs;obtain⟨aG,aK⟩:=Wk hc HQ bn;refine⟨_,?_,aK⟩;have hl:(loadVar T ⟨b,off,none⟩).run P w=.ok (tR (C.tt T).agg ((cur.drop off).take (C.tt T).size)) w:=by
      refine vj (H.tt T) (Hv hk) _ _ (by simp;omega) fun j u hu=>?_
      rw[hK];have:=((iE.row h3).drop off).take (C.tt T).size j u hu;simpa using this
     simp only[rj,h2,asAddr,Sem.run_bind,Sem.run_pure,Result.andThen_ok,hl]
    ·cases h
  ·cases h
theorem P9{C:Ctx}(H:CtxOk P C)(L:fX U Z X F st M w dF fs av):∀{outs:List ResultVar} {as:List b5} {us:List (Nat×Site)},oD C.tt st outs=some (as,us)->
  ∃rv,(outs.mapM (rj M)).run P w=.ok rv w/\lT w av as rv (dy F (keys us))/\hO st.sites us:=by
 intro outs;induction outs with
 |nil=>intro as us h;simp only[oD] at h;cases h;exact⟨[],by simp,rfl,.nil⟩
 |cons t outs ih=>
  intro as us h;simp only[oD] at h;split at h
  ·rename_i a ha;split at h
   ·rename_i c' u1 pd u2 h1 h2;cases h;obtain⟨rv,jZ,aG,aK⟩:=ih h2;obtain⟨v,q0,hs⟩:=alt L.fz.old H ha;have:Dj w av c' v (dy F (keys u1))/\hO st.sites u1:=by
     cases a with
     |aq l=>
      obtain⟨p,q1,q2⟩:=Option.map_eq_some_iff.1 h1;cases q2;exact Ad L q1 hs
     |agg al=>
      obtain⟨p,q1,q2⟩:=Option.map_eq_some_iff.1 h1;cases q2;obtain⟨vs,e1,e2,bE⟩:=hs;obtain⟨r1,r2⟩:=Je L q1 ⟨e2,bE⟩;exact⟨⟨vs,e1,r1⟩,r2⟩
    refine⟨v::rv,?_,⟨_,_,by rw[kr,pv],this.1,aG⟩,this.2.append aK⟩
    simp only[List.mapM_cons,Sem.run_bind,q0,Result.andThen_ok,jZ,Sem.run_pure]
   ·cases h
  ·cases h
theorem PB(L:fX U Z X F st M w dF fs av):∀{cv:List Nat} {c_:List (List aU)} {us:List (Nat×Site)},ov st cv=some (c_,us)->
  jH w av (cv.map fun t=>oQ (M.getD t undef)) c_ (dy F (keys us))/\hO st.sites us:=by
 intro cv;induction cv with
 |nil=>intro c_ us h;simp only[ov] at h;cases h;exact⟨rfl,.nil⟩
 |cons t cv ih=>
  intro c_ us h;have hs:=L.fz.old.c8 t;simp only[ov] at h;split at h
  ·rename_i o s hx;rw[hx] at hs;split at h
   ·rename_i cells aCS nS mM hr;split at h
    ·rename_i cs gone hg;cases h;obtain⟨aG,aK⟩:=ih hr;have ka:=hC mM;obtain⟨b,T,cur,e1,e2,bE,dN,fp⟩:=L.fz.old.box ka hs;obtain⟨g1,g2⟩:=Je L hg fp;have Lq:nI cells T cur b:=by
      obtain⟨b2,eW,_e,q1,q2,_,_,dU,_⟩:=L.fz.old.sites o _ ka;rw[e1] at q1;cases q1;rw[bE] at q2;cases q2;exact dU
     have yB:oQ (M.getD t undef)=b:=by rw[e2];rfl
     have azo:b0 (F o)=some b:=by rw[e1];rfl
     refine⟨⟨b::dy F (keys gone),dy F (keys nS),?_,?_,aG⟩,?_⟩
     ·simp only[keys,kr,pv,List.cons_append];simp[dy,azo]
     ·show JC w av (oQ (M.getD t undef)) cs _;rw[yB];exact⟨T,cur,_,rfl,bE,dN,fun bV=>Lq (Rm hg bV),g1⟩
     ·intro ae aQ hm;rcases bR.1 hm with hm|hm
      ·cases hm;exact⟨_,ka,rfl,rfl⟩
      ·exact(hO.append g2 aK) ae aQ hm
    ·cases h
   ·cases h
  ·cases h
theorem Pu{fn:Func}{outs:List ResultVar}(h:fn.results=outs.toArray){M:Array Value}{w:World}{rv:List Value}(k:(outs.mapM (rj M)).run P w=.ok rv w):(results fn M).run P w=.ok (oH rv) w:=by
 have e:(results fn M)=(do let vs <-fn.results.mapM (rj M);pure (if h:vs.size=1 then vs[0] else .tuple vs)):=by
  unfold results;congr 2
 rw[e,h];simp only[List.mapM_toArray,Sem.run_bind,Sem.run_map];rw[k];match rv with
 |[]=>simp[oH]
 |[t]=>simp[oH]
 |t::t2::r=>simp[oH]
theorem az.atO(S:az U Z X F st M w){bk:Nat}(gV:X bk)(fV:U.heap.size<=bk)(D:Obj):az U Z X F st M (w.putObj bk D):=by
 have hsz:(w.putObj bk D).heap.size=w.heap.size:=by simp[World.putObj]
 have Lt:∀b,b≠bk->(w.putObj bk D).heap[b]? =w.heap[b]? :=fun b hb=>World.putObj_heap_other hb
 have G:iK F F st.sites st.sites w (w.putObj bk D) (aN X F st.sites) (aN X F st.sites):=
  ⟨fun o ai h=>⟨ai,h,Nat.le_refl _,fun _=>rfl⟩,fun b hb _=>Lt b fun e=>hb (.inl (e▸gV)),fun _ h _=>h⟩
 have hlt:∀b,aN X F st.sites b->b<(w.putObj bk D).heap.size:=fun b hb=>by rw[hsz];exact S.lt hb
 refine⟨S.nt,fun t=>(S.c8 t).goes G (by rw[hsz];exact Nat.le_refl _) hlt,fun o ai h=>?_,S.eD,S.cF,?_,fun b hb=>by rw[hsz];exact S.old b hb,S.fw⟩
 ·exact(S.sites o ai h).goes G (by rw[hsz];exact Nat.le_refl _) hlt rfl fun hl b hb=>Lt b fun e=>(S.cF o b ⟨ai,h,hl⟩ hb).1 (e▸gV)
 ·exact⟨S.frame.os,S.frame.tape,S.frame.output,by rw[hsz];exact S.frame.size,fun b hb hn=>(Lt b (by omega)).trans (S.frame.block b hb hn)⟩
theorem afV{fn:Func}{R:Ending->World->Prop}:∀(eg:List Nat) (w:World),az U Z X F st M w->eg.Nodup->(∀bk,bk∈eg->U.heap.size<=bk/\X bk/\w.heap[bk]? =some (.deferred (some [])))->
  (∀w',az U Z X F st M w'->∃v,(results fn M).run P w'=.ok v w'/\R (.returned v) w')->LeavesInM Fence.wide 0 P fn M R (eg.map mark) .returning w:=by
 intro eg;induction eg with
 |nil=>intro w S _ _ hR;exact hR w S
 |cons bk eg ih=>
  intro w S hn fV hR;obtain⟨h1,h2,h3⟩:=fV bk cj;have hn:=List.nodup_cons.1 hn;refine⟨by simp,.inl ⟨bk,w.putObj bk (.deferred none),rfl,run_takeDeferred h3,ih _ (S.atO h2 h1 _) hn.2 (fun OK ac4=>?_) hR⟩⟩
  obtain⟨g1,g2,g3⟩:=fV OK (ci _ ac4);exact⟨g1,g2,(World.putObj_heap_other (fun e=>hn.1 (by rw[<-e];exact ac4))).trans g3⟩
def TH(eB:Value->World->Prop):Ending->World->Prop
 |.returned v,w=>eB v w
 |_,_=>False
theorem al3{nt:Nat}{as:List Arg}{st:ao}{vs:List Value}{dP:List Nat}(he:entry nt as=some st)(bV:jD w (fun b=>X b\/b∈dP) as vs dP)(lk:dP.Nodup)(gV:∀b,b∈dP->¬X b)(hlt:∀b,X b->b<w.heap.size)(hG:jg w dP X):
  (∃F,az w dP X F st (vs.toArray++Array.replicate (nt-vs.toArray.size) undef) w)/\eu as vs=(ox 0 as).map (fun t=>oQ (vs.getD t undef))/\(∀t,(vs.toArray++Array.replicate (nt-vs.toArray.size) undef).getD t undef=vs.getD t undef):=by
 unfold entry at he;cases hle:Nat.ble as.length nt with
 |false=>simp[hle] at he
 |true=>
  simp only[hle,ad] at he;split at he
  ·rename_i l hl;cases hn:gg (keys (Ks nt as l)) with
   |false=>simp[hn] at he
   |true=>
    simp only[hn,ad,bH] at he;subst he;rw[sO] at hn;have hlen:=bV.length;have hle:=Nat.le_of_ble_eq_true hle;obtain⟨mR,ZT⟩:∃mR:Nat->Value,∀j,mR (500000+0+j)=vs.getD j undef:=⟨fun o=>vs.getD (o-500000) undef,fun j=>by simp⟩
    obtain⟨aG,aK,bP,_,fA⟩:=ag2 hl bV ZT;have un:∀t,(vs.toArray++Array.replicate (nt-vs.toArray.size) undef).getD t undef=vs.getD t undef:=fun t=>by
     simp only[Array.getD_eq_getD_getElem?,List.getD_eq_getElem?_getD,Array.getElem?_append,List.size_toArray];by_cases h:t<vs.length
     ·simp[h]
     ·simp only[h,if_false];rw[List.getElem?_eq_none (Nat.le_of_not_lt h)];rw[Array.getElem?_replicate];split<;>rfl
    have mF:∀o,¬cD (l0 (kv 0 as)) o:=fun o ⟨ai,h1,h2⟩=>by obtain⟨s,rfl⟩:=Qc h1;cases h2
    have EC:∀b,b∈dP->b<w.heap.size:=Rl aG;have cq:∀b,aN (fun b=>X b\/b∈dP++[]) mR (l0 (kv 0 as)) b->X b\/b∈dP:=by
     rintro b (h|⟨o,h,_⟩)
     ·simpa using h
     ·exact(mF o h).elim
    have aug:∀b,aN (fun b=>X b\/b∈dP++[]) mR (l0 (kv 0 as)) b->b<w.heap.size:=fun b h=>(cq b h).elim (hlt b) (EC b)
    have pr:az w dP (fun b=>X b\/b∈dP++[]) mR (CQ nt as l) (vs.toArray++Array.replicate (nt-vs.toArray.size) undef) w:=by
     refine⟨?_,fun t=>?_,fun o ai h=>?_,fun o ae b h=>(mF o h).elim,fun o b h=>(mF o h).elim,Fr.refl _ _,fun b hb=>?_,hG.arz fun b h=>by simpa using h⟩
     ·show(vs.toArray++_).size=nt;simp;omega
     ·rw[un];unfold ao.get;show cy mR (l0 (kv 0 as)) w _ (match look l t with|some v=>v|none=>.av (.aq .any)) _
      cases ay:look l t with
      |none=>simp only;trivial
      |some v=>
       simp only;obtain⟨_,k⟩:=fA t v ay;rw[Nat.sub_zero] at k;rcases k with⟨a,rfl,q1,q2⟩|⟨rfl,q1,b,q2⟩
       ·exact ami q1 q2 cq aug
       ·refine⟨b,q2,.dead 0,P4 (fun _ _ h=>Fp h) q1,Nat.le_refl _,fun _=>?_⟩
        have:=ZT t;rw[Nat.add_zero] at this;rw[this,q2]
     ·obtain⟨s,rfl⟩:=Qc h;trivial
     ·exact(show X b\/b∈dP by simpa using hb).elim (hlt b) (EC b)
    obtain⟨hh,T,_⟩:=RR (av:=fun b=>X b\/b∈dP) (rest:=[]) (CQ nt as l) (kv 0 as) pr aK aG (fun o s hm=>by
      have:=Fp hm;subst this;exact P4 (fun _ _ h=>Fp h) hm)
     ⟨by simpa using lk,fun b hb=>⟨gV b (by simpa using hb),.inl (by simpa using hb)⟩,cq⟩
     (fun m _ ai hs=>by
      have hs:look (l0 (kv 0 as)) m=some ai:=hs;have:(CQ nt as l).ai m=some ai:=hs;unfold bF;rw[this];exact Nat.lt_succ_self _) hn
    exact⟨⟨hh,T.jP.shrink fun b hb=>.inl hb⟩,by simpa using bP,un⟩
  ·cases he
theorem amy{C:io}(H:aT P C.toCtx){g:FuncId}{fn:Func}{c:Code}{k5 fW:Shape}{outs:List ResultVar}{fL:List Nat}{f:k5.J->Option fW.J}(n6:P.funcs[g]? =some fn)(t_:fn.body=some c)(rs:(fn.name== "runtime.NumGoroutine")=false)
  (kG:fn.results=outs.toArray) (eI:gL P C c 1) (qu:fv fL (cJ c)=true) (rI:∀y,∃r pk,oD C.tt (fW.st y) outs=some r/\ov (fW.st y) fL=some pk/\gg (keys (pk.2++r.2))=true) (hf:∀a,f a=KR C c k5 fW a):aF P g (pK C.tt fn.ntmps k5 fW outs fL f):=by
 intro as;unfold pK;cases he:entry fn.ntmps as with
 |none=>intro y hy;cases hy
 |some st=>
  simp only;cases o_:u3 (ox 0 as) fL with
  |false=>intro y hy;cases hy
  |true=>
  simp only[ad];have o_:=ap8 o_;rw[Ru] at qu;intro y hy w X vs dP bV lk gV hlt hG;obtain⟨a,Nn,ac0⟩:=Option.bind_eq_some_iff.1 hy;obtain⟨⟨mR,pr⟩,fk,un⟩:=al3 he bV lk gV hlt hG;obtain⟨hh,dO,_⟩:=Shape.gK pr Nn;rw[hf] at ac0;refine .inl ⟨?_,Calls.mono (R:=TH _) ((callsIn_wide (n:=0)).1 (callsIn_of_wp_marks n6 t_ trivial (j5 (rn:=none) H c 1 (.inl rfl) eI w dP X _ hh _ w [] _ _ ac0 dO fun D e c' w' hk hl=>?_) rfl)) fun e w' h=>by cases e<;>first|exact h|exact h.elim⟩
  ·have apX:¬fn.name= "runtime.NumGoroutine" :=by simpa using rs
   simp[callFunc,n6,apX,t_]
  ·-- where it ends
   have fin:∀au,fW.ex au=some y->eX w dP X [] (vs.toArray++Array.replicate (fn.ntmps-vs.toArray.size) undef) (cJ c) au c' w'->LeavesInM Fence.wide 0 P fn c'.tmps (TH fun v w'=>∃eO eN rv,Fr dP w w'/\
     jH w' (fun b=>X b\/b∈eO++eN) (eu as vs) (match ov (fW.st y) fL with|some r=>r.1|none=>[]) eO/\
     lT w' (fun b=>X b\/b∈eO++eN) (match oD C.tt (fW.st y) outs with|some r=>r.1|none=>[]) rv eN/\v=oH rv/\(eO++eN).Nodup/\∀b,b∈eO++eN->¬X b/\(b∈dP\/w.heap.size<=b)) c'.defers .returning w':=by
    rintro au M' ⟨a',ec,dp,iN,eg,b1,b2,b3,iC,kept⟩;obtain⟨ir,jV,_⟩:=Shape.gK iC M';rw[b3.1,List.append_nil];have jA:az w dP dp ir (fW.st y) c'.tmps w':=⟨jV.nt,jV.c8,jV.sites,jV.eD,fun o b h1 h2=>⟨(jV.cF o b h1 h2).1,b1.cF b (jV.cF o b h1 h2).2⟩,b1.c4 _ jV.frame,jV.old,⟨hG.ok,hG.Z,jV.fw.X,hG.lt⟩⟩
    refine afV eg w' jA b2.nodup (fun bk fV=>⟨b2.new bk fV,(b2.h' bk fV).2.2,(jV.frame.block bk (b2.lt fV) (b2.h' bk fV).2.1).trans (b2.h' bk fV).1⟩) fun D7 azW=>?_
    have mo:=azW.shrink b1.x;obtain⟨⟨lw,us⟩,⟨c_,sw⟩,hr,MZ,hn⟩:=rI y;rw[sO] at hn;have hn:(keys (sw++us)).Nodup:=hn;have EA:fX w dP X ir (fW.st y) c'.tmps D7 [] [] (fun _=>False):=⟨⟨mo,.nil⟩,fun b h=>h.elim,fun _ _ _ _ h=>h⟩
    obtain⟨_,_,_,ED⟩:=P9 H.toCtxOk EA hr;have azh:=(PB EA MZ).2;have ob:=hO.append azh ED;have Ob:∀o,o∈keys (sw++us)->cD (fW.st y).sites o:=fun o bG=>by
     obtain⟨s,hs⟩:=Ac bG;obtain⟨ai,h1,h2,_⟩:=ob o s hs;exact⟨ai,h1,h2⟩
    have ee:fX w dP X ir (fW.st y) c'.tmps D7 [] [] (fun b=>X b\/b∈dy ir (keys sw)++dy ir (keys us)):=by
     refine⟨⟨mo,.nil⟩,fun b hb=>?_,fun _ h=>by simp at h⟩
     rcases hb with hb|hb
     ·exact .inl hb
     ·rw[<-pv,<-kr] at hb;obtain⟨o,h1,h2⟩:=oi.1 hb;exact .inr ⟨o,Ob o h1,h2⟩
    obtain⟨rv,dL,er,_⟩:=P9 H.toCtxOk ee hr;have hB:=(PB ee MZ).1;have ayE:(fL.map fun t=>oQ (c'.tmps.getD t undef))=eu as vs:=by
     rw[fk,o_];exact List.map_congr_left fun t ay=>by rw[kept t (qu t ay),un]
    rw[ayE] at hB;refine⟨_,Pu kG dL,dy ir (keys sw),dy ir (keys us),rv,mo.frame,?_,?_,rfl,?_,fun b hb=>?_⟩
    ·rw[MZ];exact hB
    ·rw[hr];exact er
    ·rw[<-pv,<-kr];exact Pb mo hn Ob
    ·rw[<-pv,<-kr] at hb;obtain⟨o,h1,h2⟩:=oi.1 hb;exact mo.cF o b (Ob o h1) h2
   cases D with
   |norm au=>
    cases e<;>try exact hl.elim
    exact fin au hk hl
   |ret au=>
    cases e<;>try exact hl.elim
    exact fin au hk hl
   |exit id au=>cases hk
end
def ap(c:Code)(q p:Nat):Code:=match look (gA c q) p with|some c=>c|none=>.skip
def dk:Code->Code
 |.loop c=>c
 |_=>.skip
def codeOf(f:Func):Code:=match f.body with|some c=>c|none=>.skip
def VL:Code->Bool
 |.loop _=>true
 |_=>false
def tU:List (Nat×iw)->Nat->Option iw
 |[],_=>none
 |(k,v)::r,n=>bif k.beq n then some v else tU r n
def hI(C:Ctx)(c4:List (Nat×iw)):io:={C with oW:=tU c4}
def l3(P:Program)(c:Code)(q:Nat):List (Nat×iw)->Prop
 |[]=>True
 |(p,f)::r=>aV P (ap c q p) f/\l3 P c q r
theorem alC{aE:Type}{l:List (Nat×aE)}{n:Nat}{v:aE}(h:look l n=some v):(n,v)∈l:=by
 induction l with
 |nil=>cases h
 |cons p l ih=>
  obtain⟨m,u⟩:=p;simp only[look] at h;cases hb:m.beq n with
  |true=>
   simp only[hb,ad,bH] at h;rw[<-ce hb,h];exact cj
  |false=>simp only[hb,ak] at h;exact ci _ (ih h)
theorem alA{aE:Type}{l:List (Nat×aE)}{n:Nat}{v:aE}(hn:(keys l).Nodup)(h:(n,v)∈l):look l n=some v:=by
 induction l with
 |nil=>simp at h
 |cons p l ih=>
  obtain⟨m,u⟩:=p;simp only[keys,List.nodup_cons] at hn;simp only[look];rcases bR.1 h with h|h
  ·cases h;simp
  ·have:¬m=n:=by rintro rfl;exact hn.1 (ajy h)
   rw[ke this];exact ih hn.2 h
where
 ajy {aE:Type} {us:List (Nat×aE)} {o:Nat} {s:aE} (h:(o,s)∈us):o∈keys us:=by
  induction us with
  |nil=>simp at h
  |cons p us ih=>
   rcases bR.1 h with rfl|h
   ·exact cj
   ·exact ci _ (ih h)
theorem lJ{P:Program}{C:Ctx}{c:Code}{q:Nat}{c4:List (Nat×iw)}(hu:gg (keys (gA c q))=true)(h:l3 P c q c4):gL P (hI C c4) c q:=by
 rw[sO] at hu;refine TQ c q fun p fM hm f x4=>?_
 have hl:=alA hu hm;have hf:tU c4 p=some f:=x4;clear x4;clear hm;induction c4 with
 |nil=>cases hf
 |cons x c4 ih=>
  obtain⟨k,g⟩:=x;simp only[tU] at hf;cases hb:k.beq p with
  |true=>
   simp only[hb,ad,bH] at hf;have:=ce hb;subst this hf;have:=h.1;unfold ap at this;rw[hl] at this;exact this
  |false=>simp only[hb,ak] at hf;exact ih h.2 hf
theorem ag{P:Program}{c:Code}{q:Nat}:l3 P c q []:=trivial
theorem anT{P:Program}{C:Ctx}(H:aT P C){c:Code}{q p:Nat}{be:Shape}{os:List aR}{c4:List (Nat×iw)}{g:be.J->Option (aH os)}(hl:VL (ap c q p)=true)
  (hu:gg (keys (gA (dk (ap c q p)) (2*p)))=true) (eV:l3 P (dk (ap c q p)) (2*p) c4)
  (hg:∀y,g y=bA (tx (hI C c4) (dk (ap c q p)) p be os) y):aV P (ap c q p) (aX be os g):=by
 have:ap c q p=.loop (dk (ap c q p)):=by
  generalize ap c q p=d at hl;cases d<;>first|rfl|cases hl
 rw[this];exact ajC (C:=hI C c4) H (lJ hu eV) hg
theorem cn{P:Program}{C:Ctx}(H:aT P C){c:Code}{q p:Nat}{be:Shape}{os:List aR}{c4:List (Nat×iw)}{g:be.J->Option (aH os)}
  (hu:gg (keys (gA (ap c q p) p))=true) (eV:l3 P (ap c q p) p c4)
  (hg:∀y,g y=Vh (hI C c4) (ap c q p) p be os y):aV P (ap c q p) (aX be os g):=
 ahG (C:=hI C c4) H (lJ hu eV) hg
theorem ap4{P:Program}{C:Ctx}(H:aT P C){g:FuncId}{fn:Func}{k5 fW:Shape}{outs:List ResultVar}{fL:List Nat}{c4:List (Nat×iw)}{f:k5.J->Option fW.J}(n6:P.funcs[g]? =some fn)(t_:fn.body=some (codeOf fn))
  (rs:(fn.name== "runtime.NumGoroutine")=false) (kG:fn.results=outs.toArray) (hu:gg (keys (gA (codeOf fn) 1))=true) (eV:l3 P (codeOf fn) 1 c4) (hk:fv fL (cJ (codeOf fn))=true)
  (rI:∀y,∃r pk,oD C.tt (fW.st y) outs=some r/\ov (fW.st y) fL=some pk/\gg (keys (pk.2++r.2))=true) (hf:∀a,f a=KR (hI C c4) (codeOf fn) k5 fW a):aF P g (pK C.tt fn.ntmps k5 fW outs fL f):=
 amy (C:=hI C c4) H n6 t_ rs kG (lJ hu eV) hk rI hf
def j_{A bx:Type}(ff:(A->Option bx)->A->Option bx):Nat->A->Option bx
 |0=>fun _=>none
 |n+1=>ff (j_ ff n)
def kB:Nat:=4611686018427387904
theorem JW{P:Program}{g:FuncId}{tt:TypeId->cu}{nt:Nat}{ml lv:Shape}{outs:List ResultVar}{fL:List Nat}{ff:(ml.J->Option lv.J)->ml.J->Option lv.J}
  (h:∀aW,aF P g (pK tt nt ml lv outs fL aW)->aF P g (pK tt nt ml lv outs fL (ff aW))):∀n,aF P g (pK tt nt ml lv outs fL (j_ ff n)):=by
 intro n;induction n with
 |zero=>
  intro as;unfold pK;cases entry nt as with
  |none=>intro y hy;cases hy
  |some st=>
   simp only;cases u3 (ox 0 as) fL with
   |false=>intro y hy;cases hy
   |true=>
    intro y hy;simp only[ad,j_] at hy;obtain⟨a,_,h2⟩:=Option.bind_eq_some_iff.1 hy;cases h2
 |succ n ih=>exact h _ ih
def Dq:List (Nat×cu)->TypeId->cu
 |[],_=>.none
 |(k,v)::r,n=>bif Nat.beq k n then v else Dq r n
def KS(P:Program):List (Nat×cu)->Prop
 |[]=>True
 |(k,v)::r=>v.ok P k/\KS P r
theorem amx{P:Program}:∀{l:List (Nat×cu)},KS P l->∀T,(Dq l T).ok P T:=by
 intro l;induction l with
 |nil=>intro _ T;trivial
 |cons p l ih=>
  obtain⟨k,v⟩:=p;intro h T;simp only[Dq];cases hb:Nat.beq k T with
  |true=>have:=ce hb;subst this;exact h.1
  |false=>exact ih h.2 T
theorem ahU{J bx:Type}{f g:J->Option (Sum J bx)}(h:∀y,f y=g y):∀y,bA f y=bA g y:=by
 have:f=g:=funext h;rw[this];exact fun _=>rfl
def tf:List Arg->Option (B×Int)
 |[.av (.aq (.d (.str s))),.av (.aq (.d (.int .u8 c)))]=>some (s,c)
 |_=>none
def Gy:aI:=fun as=>match tf as with
 |some (s,c)=>⟨Unit,some (),fun _=>[],fun _=>[.aq (.d (.int .i64 (Lib.indexByte s c.toNat.toUInt8)))]⟩
 |none=>.fail
theorem Pz{as:List Arg}{s:B}{c:Int}(h:tf as=some (s,c)):as=[.av (.aq (.d (.str s))),.av (.aq (.d (.int .u8 c)))]:=by
 unfold tf at h;split at h
 ·cases h;rfl
 ·cases h
theorem af0{P:Program}{g:FuncId}{fn:Func}(hf:P.funcs[g]? =some fn)(rs:(fn.name== "runtime.NumGoroutine")=false)(hb:fn.body.isNone=true)(hn:Extern.findNext fn=none)
  (he:Extern.find fn=some Extern.BytealgIndexByte.indexByte):aF P g Gy:=by
 intro as;unfold Gy;cases aC:tf as with
 |none=>intro y hy;cases hy
 |some q=>
  obtain⟨s,c⟩:=q;have has:=Pz aC;subst has;intro y hy w X vs dP bV _ _ _ _;match vs,bV with
  |[v1,v2],⟨a1,a2,e1,h1,c1,c2,e2,h2,bE⟩=>
   obtain⟨gq,r1⟩:=h1;obtain⟨z2,r2⟩:=h2;subst gq z2 bE;simp only[List.append_nil] at e2;subst e2;simp only[List.append_nil] at e1;subst e1;obtain⟨b,rfl,eA⟩:=gX r1;have e:=iW r2;subst e;refine .inr ⟨.int .i64 (Lib.indexByte b.data.toList c.toNat.toUInt8),w,?_,[],[],[.int .i64 (Lib.indexByte s c.toNat.toUInt8)],Fr.refl _ _,?_,?_,?_,by simp,fun b hb=>by simp at hb⟩
   ·rw[run_callFunc_extern hf rs hb hn he];show((Extern.BytealgIndexByte.indexByte #[.string b,.int .u8 c]).run P w).andThen _=_;rw[Lib.run_indexByteString];rfl
   ·simp[eu,jH]
   ·exact⟨[],[],rfl,⟨rfl,.int _ _⟩,rfl⟩
   ·rw[eA];rfl
end Go.Jk
namespace Go.Jk
open Go.RowKit Go.Sort
theorem aky{P:Program}{w:World}{g:Nat}{name:String}{k:IntKind}{zs:List Int}(hg:P.globalNamed name=some g)(h:oP w g k zs):Lib.TabIs P w name k zs:=by
 obtain⟨T,fz,h⟩:=h;simp[Lib.TabIs,World.var?,hg,h]
theorem akz{P:Program}{w:World}{g:Nat}{name:String}{k:IntKind}{zs:List Int}(hg:P.globalNamed name=some g)(h:Lib.TabIs P w name k zs):oP w g k zs:=by
 simp only[Lib.TabIs,World.var?,hg,Y] at h;split at h
 ·rename_i cs T fz hc;cases h;exact⟨_,_,hc⟩
 ·cases h
def C7:List Arg->Option Int
 |[.av (.aq (.d (.int .i64 n)))]=>some n
 |_=>none
theorem ajG{as:List Arg}{n:Int}(h:C7 as=some n):as=[.av (.aq (.d (.int .i64 n)))]:=by
 unfold C7 at h;split at h
 ·cases h;rfl
 ·cases h
def Hw:aI:=fun as=>match C7 as with
 |some n=>⟨Unit,if-9223372036854775808<=n/\n<=9223372036854775807 then some () else none,fun _=>[],fun _=>[.aq (.d (.str (Lib.itoa n)))]⟩
 |none=>.fail
theorem an5(w:World)(k:Nat)(os:Array Obj):Fr [] w (grow (w.drewN k) os):=
 ⟨rfl,rfl,rfl,by simp[grow,World.drewN],fun b hb _=>by
  show(w.heap++os)[b]? =w.heap[b]?;rw[Array.getElem?_append_left hb]⟩
theorem anZ{P:Program}{g:FuncId}(he:∀args w,(callFunc g args).run P w=.ok (.enter g args) w)
  (h:∀n:Int,-9223372036854775808<=n->n<=9223372036854775807->∀w,n7 w->Calls P g #[.int .i64 n] w fun e w'=>e=.returned (.string ⟨(Lib.itoa n).toArray⟩)/\∃k os,w'=grow (w.drewN k) os):aF P g Hw:=by
 intro as;unfold Hw;cases aC:C7 as with
 |some n=>
  have has:=ajG aC;subst has;intro y hy w X vs dP bV _ gV hlt hG;have hy:(if-9223372036854775808<=n/\n<=9223372036854775807 then some () else none)=some y:=hy
  split at hy
  ·rename_i hn;match vs,bV with
   |[v1],⟨a1,a2,e1,h1,e2⟩=>
    obtain⟨gq,r1⟩:=h1;subst gq e2;simp only[List.append_nil] at e1;subst e1;have e:=iW r1;subst e;refine .inl ⟨he _ _,(h n hn.1 hn.2 w hG.ok).mono fun e w' hw=>?_⟩
    obtain⟨rfl,k,os,rfl⟩:=hw;exact⟨[],[],[.string ⟨(Lib.itoa n).toArray⟩],an5 w k os,rfl,⟨[],[],rfl,⟨rfl,.str _ _ rfl⟩,rfl⟩,rfl,by simp,fun b hb=>by simp at hb⟩
  ·cases hy
 |none=>intro y hy;cases hy
end Go.Jk
namespace Go.Jk
open Go.ChangeShapes Go.WideShapes Go.RowKit
def K4:bi->List ef
 |.i64=>[.int .i64]
 |.u8=>[.int .u8]
 |.u32=>[.int .u32]
 |.bool=>[.bool]
 |.str=>[.str]
 |.entry=>[.str,.int .i64,.int .i64,.str]
 |.need=>[.str,.int .i64,.str]
 |.pack=>[.str,.str,.sl .need,.sl .entry]
 |.file|.lt|.source|.piece=>[.str,.str]
 |.recipe=>[.str,.str,.sl .lt,.sl .need,.sl .need,.sl .source,.sl .piece,.sl .str]
 |.hunk=>[.int .i64,.sl .str]
 |.uc=>[.sl .bool]
inductive lp:bk->Prop where
 |int (k:IntKind) (n:Int):(Lit.int k n).wf=true->lp (.int k n)
 |bool (b:Bool):lp (.bool b)
 |str (s:B):s.length<=maxLen->lp (.str s)
 |sl (t:bi) (xs:List (den t)):xs.length<=maxLen->(∀x,x∈xs->∀d,d∈enc t x->lp d)->lp (.sl t xs)
theorem aoh:∀(t:bi) (y:lo (K4 t)),∃x,enc t x=fY (K4 t) y:=by
 intro t y;cases t;case recipe=>obtain⟨a,b,c,d,e,f,g,h,_⟩:=y;exact⟨⟨a,b,c,d,e,f,g,h⟩,rfl⟩
 case entry=>obtain⟨a,b,c,d,_⟩:=y;exact⟨⟨a,b,c,d⟩,rfl⟩
 case pack=>obtain⟨a,b,c,d,_⟩:=y;exact⟨⟨a,b,c,d⟩,rfl⟩
 case need=>obtain⟨a,b,c,_⟩:=y;exact⟨⟨a,b,c⟩,rfl⟩
 case file=>obtain⟨a,b,_⟩:=y;exact⟨⟨a,b⟩,rfl⟩
 case lt=>obtain⟨a,b,_⟩:=y;exact⟨⟨a,b⟩,rfl⟩
 case source=>obtain⟨a,b,_⟩:=y;exact⟨⟨a,b⟩,rfl⟩
 case piece=>obtain⟨a,b,_⟩:=y;exact⟨⟨a,b⟩,rfl⟩
 case hunk=>obtain⟨a,b,_⟩:=y;exact⟨⟨a,b⟩,rfl⟩
 all_goals(obtain⟨a,_⟩:=y;exact⟨a,rfl⟩)
instance:DecidableEq ef:=fun a b=>by
 cases a<;>cases b<;>first|exact isTrue rfl|(rename_i x y;exact if h:x=y then isTrue (by rw[h]) else isFalse (fun e=>h (by cases e;rfl)))|exact isFalse (fun e=>by cases e)
def vW(P:Program)(r:TypeId->Option (List ef)):List Field->Nat->Option (List ef)
 |[],_=>some []
 |f::b4,D=>match r f.type,vW P r b4 (D+P.cellsOf f.type) with
  |some a,some b=>if f.offset=D/\P.cellsOf f.type=a.length then some (a++b) else none
  |_,_=>none
def q'(tt:TypeId->cu)(P:Program):Nat->TypeId->Option (List ef)
 |0,_=>none
 |n+1,T=>match P.underlying T with
  |some (.int k)=>some [.int k]
  |some .bool=>some [.bool]
  |some .string=>some [.str]
  |some (.slice e)=>match tt T,q' tt P n e with
   |.slice _ t _,some bg=>if bg=K4 t/\P.cellsOf e=bh t then some [.sl t] else none
   |_,_=>none
  |some (.struct b4)=>match vW P (q' tt P n) b4.toList 0 with
   |some bg=>if P.cellsOf T=bg.length then some bg else none
   |none=>none
  |_=>none
def wI(w:World)(av:Nat->Prop)(bg:List ef)(cs:List Value):Prop:=∃y:lo bg,dl w av (fY bg y) cs/\∀d,d∈fY bg y->lp d
theorem alz:∀(bg oU:List ef) (y:lo bg) (y':lo oU),∃z:lo (bg++oU),fY (bg++oU) z=fY bg y++fY oU y':=by
 intro bg;induction bg with
 |nil=>intro oU y y';exact⟨y',rfl⟩
 |cons s bg ih=>
  intro oU y y';obtain⟨a,b⟩:=y;obtain⟨z,hz⟩:=ih oU b y';exact⟨(a,z),by simp[fY,hz]⟩
theorem dl.cc{w:World}{av:Nat->Prop}{ds ln:List bk}{vs cH:List Value}(h:dl w av ds vs)(an:dl w av ln cH):dl w av (ds++ln) (vs++cH):=by
 refine⟨by rw[dx,dx,h.1,an.1],fun j g1 g2=>?_⟩
 rw[List.getElem_append,List.getElem_append];have:=h.1;simp only[dx] at g1 g2;by_cases hj:j<ds.length
 ·rw[dif_pos hj,dif_pos (by omega)]
  exact h.2 j hj (by omega)
 ·rw[dif_neg hj,dif_neg (by omega)]
  have:=an.2 (j-ds.length) (by omega) (by omega)
  simpa[h.1] using this
theorem wI.one{w:World}{av:Nat->Prop}{s:ef}{d:bk}{v:Value}(y:s.J)(aa:s.mk y=d)(h:bU w av d v)(hw:lp d):wI w av [s] [v]:=
 ⟨(y,()),⟨rfl,fun j h1 h2=>by
  simp only[fY,cY,List.length_nil] at h1;obtain rfl:j=0:=by omega
  simpa[fY,aa] using h⟩,fun aeu an=>by simp only[fY,List.mem_singleton] at an;rw[an,aa];exact hw⟩
section
variable {H:Type}{kJ:TypeId×Value->H}{P:Program}{w:World}{base:Nat}{spare:Nat->Bool}{held:Bool}{av:Nat->Prop}{tt:TypeId->cu}
theorem afS{r:TypeId->Option (List ef)}{n:Nat}{cs:List Value}(ih:∀{T:TypeId} {bg:List ef} {cs:List Value} {x:DataW H×List MemPlace},r T=some bg->DataW.trod kJ P w base spare held n T cs=some x->wI w av bg cs):
  ∀(b4:List Field) (D:Nat) (bg:List ef),vW P r b4 D=some bg->D+bg.length<=cs.length->(∀(i:Nat) (f:Field),b4[i]? =some f->∃x,DataW.trod kJ P w base spare held n f.type ((cs.drop f.offset).take (P.cellsOf f.type))=some x)->
   wI w av bg ((cs.drop D).take bg.length):=by
 intro b4;induction b4 with
 |nil=>
  intro D bg h hl _;simp only[vW] at h;cases h;exact⟨(),⟨by simp[fY],fun j g=>by simp[fY] at g⟩,fun d aa=>by simp[fY] at aa⟩
 |cons f b4 ax5=>
  intro D bg h hl hx;simp only[vW] at h;split at h
  ·rename_i a b h1 h2;split at h
   ·rename_i hc;cases h;obtain⟨x,oY⟩:=hx 0 f rfl;have gR:D+a.length+b.length<=cs.length:=by simp only[dx] at hl;omega
    rw[hc.1,hc.2] at oY;rw[hc.2] at h2;obtain⟨cV,aG,aK⟩:=ih h1 oY;obtain⟨dD,bP,cU⟩:=ax5 (D+a.length) b h2 gR (fun i g hg=>hx (i+1) g (by simpa using hg))
    obtain⟨z,hz⟩:=alz a b cV dD;have gn:(cs.drop D).take (a++b).length=(cs.drop D).take a.length++(cs.drop (D+a.length)).take b.length:=by
     rw[dx,List.take_add,List.drop_drop]
    refine⟨z,?_,?_⟩
    ·rw[hz,gn];exact aG.cc bP
    ·rw[hz];intro d aa;rcases bo.1 aa with aa|aa
     ·exact aK d aa
     ·exact cU d aa
   ·cases h
  ·cases h
theorem ahF(cq:∀b,¬av b):∀(m:Nat) {T:TypeId} {bg:List ef} {n:Nat} {cs:List Value} {x:DataW H×List MemPlace},q' tt P m T=some bg->DataW.trod kJ P w base spare held n T cs=some x->wI w av bg cs:=by
 intro m;induction m with
 |zero=>intro T bg n cs x h;cases h
 |succ m ih=>
  intro T bg n cs x h hx;simp only[q'] at h;split at h
  ·rename_i k hu;cases h;obtain⟨z,rfl,_,hw⟩:=DataW.trod_int hu hx;exact .one (s:=.int k) z rfl (.int k z) (.int k z hw)
  ·rename_i hu;cases h;obtain⟨b,rfl,_⟩:=DataW.trod_bool hu hx;exact .one (s:=.bool) b rfl (.bool b) (.bool b)
  ·rename_i hu;cases h;obtain⟨s,rfl,_,hl⟩:=DataW.trod_string hu hx;exact .one (s:=.str) s.data.toList rfl (.str _ _ rfl) (.str _ (by rw[Array.length_toList];exact hl))
  ·rename_i e hu;split at h
   ·rename_i cW t bytes oU jS mf;split at h
    ·rename_i hc;cases h;rcases DataW.trod_slice hu hx with⟨rfl,_⟩|⟨a,len,cap,aCw,rest,h7,rfl,rfl,_,hb,uP,hcm,m',bL,_⟩
     ·exact .one (s:=.sl t) [] rfl (.nil t) (.sl t [] (Nat.zero_le _) (fun x h=>by cases h))
     ·have key:∀j,j<=len->∃xs:List (den t),∃cs:List Value,xs.length=j/\cs.length=j*bh t/\(∀i u,cs[i]? =some u->w.cell? (a.add i)=some u)/\dl w av (flat t xs) cs/\∀x,x∈xs->∀d,d∈enc t x->lp d:=by
       intro j;induction j with
       |zero=>intro _;exact⟨[],[],rfl,by simp,fun i u h=>by simp at h,⟨rfl,fun i h=>by simp[flat] at h⟩,fun x h=>by cases h⟩
       |succ j ax4=>
        intro hj;obtain⟨xs,cs,h1,h2,h3,aD,bn⟩:=ax4 (by omega)
        have kl:=bL j (by omega)
        rw[d_ (by omega)] at kl
        obtain⟨pb,aG,aK⟩:=Option.bind_eq_some_iff.1 kl;obtain⟨bP,cU,fA⟩:=World.cells?_some aG;obtain⟨y,h9,yz⟩:=ih mf aK;obtain⟨hc1,sd⟩:=hc;subst hc1;obtain⟨yq,hxe⟩:=aoh t y;rw[<-hxe] at h9 yz;have gR:pb.length=bh t:=by rw[cU,sd]
        refine⟨xs++[yq],cs++pb,by simp[h1],by rw[dx,h2,gR,Nat.succ_mul],fun i u hi=>?_,?_,fun x hx=>?_⟩
        ·by_cases hlt:i<cs.length
         ·rw[List.getElem?_append_left hlt] at hi;exact h3 i u hi
         ·rw[List.getElem?_append_right (by omega)] at hi
          have qe:i-cs.length<bh t:=by rw[<-gR];exact(List.getElem?_eq_some_iff.1 hi).1
          have:=fA (i-cs.length) (by rw[sd];exact qe)
          rw[Deep.add_add,sd,hi,show j*bh t+(i-cs.length)=i by omega] at this
          exact this
        ·rw[sM,show flat t [yq]=enc t yq by simp[flat]]
         exact aD.cc h9
        ·rcases bo.1 hx with hx|hx
         ·exact bn x hx
         ·rw[List.mem_singleton.1 hx];exact yz
      obtain⟨xs,cs,h1,h2,h3,aD,bn⟩:=key len (Nat.le_refl _);exact .one (s:=.sl t) xs rfl (.sl t xs a cap cs len h1.symm uP (fun _=>cq _) (by rw[h2,fu,h1]) h3 aD.2) (.sl t xs (by omega) bn)
    ·cases h
   ·cases h
  ·rename_i b4 hu;split at h
   ·rename_i oU ayN;split at h
    ·rename_i hc;cases h;obtain⟨xs,h7,_,_,hl,hlen,hf⟩:=DataW.trod_struct hu hx;have:=afS (cs:=cs) (fun h1 h2=>ih h1 h2) b4.toList 0 bg ayN (by omega) (fun i f acN=>by
      have:=hf i f (by simpa using acN)
      have hi:i<xs.length:=by
       rw[hlen];have:=(List.getElem?_eq_some_iff.1 acN).1;simpa using this
      exact⟨xs[i],by rw[this,d_ hi]⟩)
     rw[List.drop_zero,List.take_of_length_le (by omega)] at this
     exact this
    ·cases h
   ·cases h
  ·cases h
theorem vT{w:World}{av:Nat->Prop}{d:bk}{ds:List bk}{vs:List Value}(h:dl w av (d::ds) vs):∃v cH,vs=v::cH/\bU w av d v/\dl w av ds cH:=by
 obtain⟨h1,h2⟩:=h;match vs,h1 with
 |v::vs,h1=>
  refine⟨v,vs,rfl,?_,by simpa using h1,fun j g1 g2=>?_⟩
  ·have:=h2 0 (by simp) (by simp)
   simpa using this
  ·have:=h2 (j+1) (by simp only[cY];omega) (by simp only[cY];omega)
   simpa using this
theorem akM{w:World}{av:Nat->Prop}:∀{ds:List bk} {vs:List Value},dl w av ds vs->l2 w av (cT ds) vs []:=by
 intro ds;induction ds with
 |nil=>
  intro vs h;match vs,h.1 with
  |[],_=>rfl
 |cons d ds ih=>
  intro vs h;obtain⟨v,cH,rfl,h1,h2⟩:=vT h;exact⟨[],[],rfl,⟨rfl,h1⟩,ih h2⟩
def w_(P:Program)(T:TypeId):Bool:=match P.underlying T with
 |some (.struct _)=>true
 |_=>false
def wY(b:Bool)(ds:List bk):Arg:=match b,ds with
 |true,ds=>.av (.agg (cT ds))
 |false,[d]=>.av (.aq (.d d))
 |false,_=>.av (.aq .any)
theorem aqh(cq:∀b,¬av b){m:Nat}{T:TypeId}{bg:List ef}{v:Value}{d:DataW H}{p:List MemPlace}{r:Reach}{sD:Nat}(hp:q' tt P m T=some bg)(jo:Value.okWide P w r sD T v)
  (aa:DataW.Trod kJ P w base spare held T v d p):∃y:lo bg,Uy w av (wY (w_ P T) (fY bg y)) v []/\eu [wY (w_ P T) (fY bg y)] [v]=[]/\∀d,d∈fY bg y->lp d:=by
 obtain⟨n,hn⟩:=aa;obtain⟨y,h1,h2⟩:=ahF cq m hp hn;refine⟨y,?_,?_,h2⟩
 ·cases m with
  |zero=>cases hp
  |succ m=>
   simp only[q'] at hp;unfold w_;split at hp
   ·rename_i k hu;cases hp;rw[hu];obtain⟨z,rfl⟩:=okWide_int hu jo;obtain⟨v',cH,e,h3,aD⟩:=vT h1;cases e;exact⟨rfl,h3⟩
   ·rename_i hu;cases hp;rw[hu];obtain⟨z,rfl⟩:=okWide_bool hu jo;obtain⟨v',cH,e,h3,aD⟩:=vT h1;cases e;exact⟨rfl,h3⟩
   ·rename_i hu;cases hp;rw[hu];obtain⟨z,rfl⟩:=okWide_string hu jo;obtain⟨v',cH,e,h3,aD⟩:=vT h1;cases e;exact⟨rfl,h3⟩
   ·rename_i e hu;split at hp
    ·split at hp
     ·cases hp;rw[hu];obtain⟨a,len,cap,rfl⟩:=okWide_slice hu jo;obtain⟨v',cH,e,h3,aD⟩:=vT h1;cases e;exact⟨rfl,h3⟩
     ·cases hp
    ·cases hp
   ·rename_i b4 hu;rw[hu];obtain⟨cs,rfl,_⟩:=okWide_struct hu jo;exact⟨cs.toList,rfl,akM h1⟩
   ·cases hp
 ·unfold wY;split<;>cases v<;>rfl
def vV(tt:TypeId->cu)(P:Program)(m:Nat):List TypeId->Option (List (Bool×List ef))
 |[]=>some []
 |T::di=>match q' tt P m T,vV tt P m di with
  |some bg,some r=>some ((w_ P T,bg)::r)
  |_,_=>none
@[reducible] def ya:List (Bool×List ef)->Type
 |[]=>Unit
 |p::r=>lo p.2×ya r
def tK:(ps:List (Bool×List ef))->ya ps->List Arg
 |[],_=>[]
 |p::r,(y,z)=>wY p.1 (fY p.2 y)::tK r z
def LM:(ps:List (Bool×List ef))->ya ps->Prop
 |[],_=>True
 |p::r,(y,z)=>(∀d,d∈fY p.2 y->lp d)/\LM r z
theorem aow(cq:∀b,¬av b){m:Nat}{r:Reach}{sD:Nat}:∀{di:List TypeId} {ps:List (Bool×List ef)} {vs:List Value} {ds:List (DataW H)} {p:List MemPlace},vV tt P m di=some ps->
  (∀(j:Nat) (t:TypeId) (v:Value),di[j]? =some t->vs[j]? =some v->Value.okWide P w r sD t v)->DataW.TrodAll kJ P w base spare held di vs ds p->
  ∃y:ya ps,jD w av (tK ps y) vs []/\eu (tK ps y) vs=[]/\LM ps y:=by
 intro di;induction di with
 |nil=>
  intro ps vs ds p hp _ aa;simp only[vV] at hp;cases hp;obtain⟨rfl,rfl,rfl⟩:=trodAll_nil aa;exact⟨(),rfl,rfl,trivial⟩
 |cons T di ih=>
  intro ps vs ds p hp jo aa;simp only[vV] at hp;split at hp
  ·rename_i bg e4 h1 h2;cases hp;obtain⟨v,cH,d,ln,iS,jx,rfl,rfl,rfl,hd1,hd2⟩:=trodAll_cons aa;obtain⟨y,aG,aK,bP⟩:=aqh cq h1 (jo 0 T v rfl rfl) hd1;obtain⟨z,cU,fA,h9⟩:=ih h2 (fun j t u g1 g2=>jo (j+1) t u (by simpa using g1) (by simpa using g2)) hd2
   refine⟨(y,z),⟨[],[],rfl,aG,cU⟩,?_,bP,h9⟩;have:=Pa (as:=[wY (w_ P T) (fY bg y)]) (vs:=[v]) (pd:=tK e4 z) (cH:=cH) rfl;rw[aK,fA] at this;exact this
  ·cases hp
theorem afY{P:Program}{w:World}:∀{laid:List (String×DataW Unit)} {ps:List MemPlace} {n:String} {d:DataW Unit},DataW.LaidVars P w laid ps->(n,d)∈laid->∃cg,DataW.LaidVars P w [(n,d)] cg:=by
 intro laid;induction laid with
 |nil=>intro ps n d _ hm;cases hm
 |cons x laid ih=>
  obtain⟨n0,d0⟩:=x;intro ps n d h hm;obtain⟨g,t,cs,mN,p,q,h1,h2,h3,aD,bn,cl⟩:=h;rcases bR.1 hm with e|hm
  ·cases e;exact⟨_,g,t,cs,mN,p,[],h1,h2,h3,aD,rfl,rfl⟩
  ·exact ih bn hm
theorem Sw{P:Program}{W:World}{laid:List (String×DataW Unit)}{name:String}{k:IntKind}{zs:List Int}{g:Nat}{t e:TypeId}{n i:Nat}(hg:P.globalNamed name=some g)(ayl:(P.globals[g]?).map (·.type)=some t)(ay:P.underlying t=some (.array n e))
  (he:P.underlying e=some (.int k)) (uV:P.cellsOf e=1) (ayR:P.cellsOf t=n) (hm:laid[i]? =some (name,Lib.tabData k zs)) (h:laidMet P laid W):oP W g k zs:=by
 obtain⟨ps,h,_⟩:=h;obtain⟨cg,cO,bw,cs,mN,p,q,hg',n4,at4,aa,_,_⟩:=afY h (eK hm);obtain rfl:=Option.some.inj (hg.symm.trans hg');obtain rfl:=Option.some.inj (ayl.symm.trans n4);have hc:=Lib.cells_of_tab ay he uV ayR aa;refine akz hg ?_
 show W.var? P name=_;rw[at4,<-hc]
def LawOk(S:aI)(ps:List (Bool×List ef)):Prop:=∀y:ya ps,LM ps y->∃r,(S (tK ps y)).comp=some r/\(S (tK ps y)).fH r=[.aq (.d (.bool true))]
theorem aff{W dr:World}(hl:laidOutB P=true){sp':Nat->Bool}(kj:∀b,b<W.heap.size->sp' b=true)(hb:Below W.heap.size W dr):∀{di:List TypeId} {vs:List Value} {ds:List (DataW H)} {p:List MemPlace},
  (∀t,t∈di->P.readableRec t=true/\t<P.types.size)->(∀x∈p,x.block<W.heap.size)->DataW.TrodAll kJ P W 0 (fun _=>true) true di vs ds p->DataW.TrodAll kJ P dr 0 sp' true di vs ds p:=by
 intro di;induction di with
 |nil=>intro vs ds p _ _ aa;obtain⟨rfl,rfl,rfl⟩:=trodAll_nil aa;rfl
 |cons T di ih=>
  intro vs ds p hr hlt aa;obtain⟨v,cH,d,ln,iS,jx,rfl,rfl,rfl,hd1,hd2⟩:=trodAll_cons aa;refine⟨iS,jx,?_,ih (fun t ay=>hr t (ci _ ay)) (fun x hx=>hlt x (bo.2 (.inr hx))) hd2,rfl⟩
  exact WideElems.Trod_stays hl (hr T cj).1 (hr T cj).2 hd1 (fun x hx=>hb.same (hlt x (bo.2 (.inl hx)))) (fun x hx=>kj _ (hlt x (bo.2 (.inl hx))))
theorem afI{di:List TypeId}{vs:List Value}{ds:List (DataW H)}{p:List MemPlace}(h:DataW.TrodAll kJ P w base spare held di vs ds p):ds.length=di.length:=by
 induction di generalizing vs ds p with
 |nil=>obtain⟨rfl,rfl,rfl⟩:=trodAll_nil h;rfl
 |cons T di ih=>
  obtain⟨v,cH,d,ln,iS,jx,rfl,rfl,rfl,_,hd2⟩:=trodAll_cons h;simp[ih hd2]
def Dp(P:Program):List String->Bool
 |[]=>true
 |n::ns=>(match P.globalNamed n with
  |some g=>match(P.globals[g]?).map (·.type) with
   |some t=>P.readableRec t&&decide (t<P.types.size)
   |none=>true
  |none=>true)&&Dp P ns
theorem ae7{W dr:World}(hl:laidOutB P=true){sp':Nat->Bool}(kj:∀b,b<W.heap.size->sp' b=true)(hb:Below W.heap.size W dr):∀{ns:List String} {gs:List (DataW H)} {q:List MemPlace},
  Dp P ns=true->(∀x∈q,x.block<W.heap.size)->DataW.TrodVars kJ P W (fun _=>true) ns gs q->DataW.TrodVars kJ P dr sp' ns gs q:=by
 intro ns;induction ns with
 |nil=>intro gs q _ _ h;obtain⟨rfl,rfl⟩:=trodVars_none h;rfl
 |cons n ns ih=>
  intro gs q hr hlt h;cases gs with
  |nil=>exact h.elim
  |cons d ds=>
   obtain⟨g,t,cs,mN,p,fT,h1,h2,h3,aD,hs,rfl⟩:=h;simp only[Dp,h1,h2,bz,dW] at hr;have hg:g<W.heap.size:=by
    have Nt:=h3;simp only[World.var?,h1,Y] at Nt;split at Nt
    ·rename_i hc;exact(Array.getElem?_eq_some_iff.1 hc).1
    ·cases Nt
   have aa:DataW.Trod kJ P W 0 (fun _=>true) true t (.agg cs) d p:=⟨mN,aD⟩
   have hx:∀x∈p,x.block<W.heap.size:=fun x hx=>hlt x (bo.2 (.inl (bo.2 (.inr hx))))
   obtain⟨arV,o'⟩:=WideElems.Trod_stays (sp':=sp') hl hr.1.1 hr.1.2 aa (fun x h=>hb.same (hx x h)) (fun x h=>kj _ (hx x h))
   refine⟨g,t,cs,arV,p,fT,h1,h2,?_,o',ih hr.2 (fun x h=>hlt x (bo.2 (.inr h))) hs,rfl⟩
   simp only[World.var?,h1,Y] at h3 ⊢;rw[hb.block g hg];exact h3
theorem afH{mj:Nat->Bool}:∀{ns:List String} {gs:List (DataW H)} {q:List MemPlace},DataW.TrodVars kJ P w mj ns gs q->gs.length=ns.length:=by
 intro ns;induction ns with
 |nil=>intro gs q h;obtain⟨rfl,rfl⟩:=trodVars_none h;rfl
 |cons n ns ih=>
  intro gs q h;cases gs with
  |nil=>exact h.elim
  |cons d ds=>
   obtain⟨g,t,cs,mN,p,fT,h1,h2,h3,aD,hs,rfl⟩:=h;simp[ih hs]
theorem afX{f:FuncId}{fn:Func}{S:aI}{s:ChangeSpec}{N8:TypeId}{m:Nat}{ps:List (Bool×List ef)}(e5:aF P f S)(he:∀vs w,(callFunc f vs).run P w=.ok (.enter f vs) w)(hl:laidOutB P=true)
  (arK:∀t,t∈fn.params.toList->P.readableRec t=true/\t<P.types.size) (kG:fn.resultTypes=#[N8]) (ayn:P.underlying N8=some .bool) (arG:Dp P s.vars=true)
  (n6:∀ds gs:List (DataW H),ds.length=fn.params.toList.length->gs.length=s.vars.length->s.fn H (ds++gs)={results:=[.lit (.bool true)],args:=ds,vars:=gs}) (o6:vV tt P m fn.params.toList=some ps) (Lx:LawOk S ps)
  (W:World) (hG:n7 W) (sD:Nat) (args:Array Value) (ds gs:List (DataW H)) (before:List MemPlace) (jo:∀(j:Nat) t v,fn.params[j]? =some t->args[j]? =some v->Value.okWide P W .any sD t v)
  (hW:DataW.Whole kJ P fn.params.toList s.vars false W args.toList ds gs before):
  Calls P f args W fun e dr=>∃v,e=.returned v/\s.post kJ P fn false true false false W args v dr:=by
 have hlt:=hW.lt;have Nq:=hW;obtain⟨p,q,er,aen,rfl,_,_⟩:=hW;obtain⟨y,h1,h2,h3⟩:=aow (av:=fun b=>False\/b∈([]:List Nat)) (fun b hb=>by simp at hb) o6 (fun j t v g1 g2=>jo j t v (by simpa using g1) (by simpa using g2)) er
 obtain⟨r,aD,bn⟩:=Lx y h3;have key:=e5 _ r aD W (fun _=>False) args.toList [] h1 List.nodup_nil (fun b hb=>by simp at hb) (fun b hb=>hb.elim) ⟨hG,fun b _ h=>(by cases h),fun _ _ h=>h,azm hG⟩
 rcases key with⟨_,hc⟩|⟨v,w',hv,_⟩
 ·have e:args.toList.toArray=args:=by simp
  rw[e] at hc;refine hc.mono fun E1 dr h=>?_
  cases E1 with
  |returned v=>
   obtain⟨eO,eN,rv,eV,hB,hR,hv,_,_⟩:=h;refine⟨v,rfl,?_⟩;rw[bn] at hR;match rv,hR with
   |[v1],⟨c1,c2,e1,⟨_,hr⟩,_⟩=>
    have hr:bU dr _ (.bool true) v1:=hr;have qp:v1=.bool true:=by cases hr;rfl
    subst qp;have hv:v=.bool true:=hv;subst hv;have LD:Below W.heap.size W dr:=⟨eV.os,eV.tape,eV.output,eV.size,fun k hk=>eV.block k hk (by simp)⟩
    have ho:=n6 ds gs (afI er) (afH aen);refine⟨ds,gs,p++q,[],p,q,Nq,?_,?_,?_,LD.frame _,fun h=>by cases h⟩
    ·rw[ho,kG];exact trodAll_mk1 (shut_bool ayn _)
    ·rw[ho];exact aff hl (fun b hb=>by simpa using hb) LD arK (fun x hx=>hlt x (bo.2 (.inl hx))) er
    ·rw[ho];exact ae7 hl (fun b hb=>by simpa using hb) LD arG (fun x hx=>hlt x (bo.2 (.inr hx))) aen
  |panicked c=>exact h.elim
  |outgrown=>exact h.elim
 ·rw[he] at hv;cases hv
end
end Go.Jk
namespace Go.Jk
def bO(c:UInt8):B->List B
 |[]=>[[]]
 |b::r=>bif b==c then []::bO c r else match bO c r with
  |x::xs=>(b::x)::xs
  |[]=>[[b]]
def IC(st:ao)(cO:FuncId):bb->Option ((B×UInt8)×List (Nat×Site))
 |.av (.aq (.clo g [(gN,s1),(gM,s2),(iq,h5)]))=>bif Nat.beq g cO&&gg [gN,gM,iq] then
   match gl st gN s1,gl st gM s2,gl st iq h5 with
   |some [.d (.str [c])],some [.d (.str s)],some [.d (.int .i64 (.ofNat 0))]=>some ((s,c),[(gN,.dead s1),(gM,.dead s2),(iq,.dead h5)])
   |_,_,_=>none
  else none
 |_=>none
def GL(st:ao):List Nat->List (Nat×bb)
 |[]=>[]
 |t::r=>(t,st.get t)::GL st r
def ao.back(st:ao)(cv:List Nat):ao:=⟨GL st cv,st.sites,st.nt⟩
def Out.back(cv:List Nat):Out->Out
 |.norm st=>.norm (st.back cv)
 |.exit id st=>.exit id (st.back cv)
 |.ret st=>.ret (st.back cv)
def iZ{J bx:Type}(aW:B->J->Option (Sum J bx))(fin:J->Option bx):List B->J->Option bx
 |[],y=>fin y
 |x::xs,y=>match aW x y with
  |none=>none
  |some (.inl y')=>iZ aW fin xs y'
  |some (.inr b)=>some b
noncomputable def JV(C:io)(assign body:Code)(p fj:Nat)(be:Shape)(os:List aR)(x:B)(y:be.J):Option (Sum be.J (aH os)):=
 exec C assign (2*p) ((be.st y).set fj (one (.str x))) fun
  |.norm st=>exec C body (2*p+1) st fun
   |.norm st=>(be.ex (st.back (keys be.c8))).map .inl
   |D=>(hZ os (D.back (keys be.c8))).map .inr
  |_=>none
def kZ:Nat:=4611686018427387904
noncomputable def s3(cO:FuncId)(t:Nat)(be:Shape)(os:List aR)(aW:B->be.J->Option (Sum be.J (aH os)))(fin:be.J->Option (aH os)):iw:=fun st=>
 ⟨aH os,(IC st cO (st.get t)).bind fun q=>(be.ex (st.iI q.2)).bind fun y=>bif Nat.ble q.1.1.length kZ then iZ aW fin (bO q.1.2 q.1.1) y else none,mc os,Df os,SS os⟩
def wJ(P:Program)(cO:FuncId):Prop:=
 (∀args w,(callFunc cO args).run P w=.ok (.enter cO args) w)/\
 ∀(l b1 b2 b3:Nat) (p s:ByteArray) (c:UInt8) (dv eW gv:TypeId) (W:World) (ft:List B->World->Prop) (kq:World->Prop),p.data.toList=[c]->s.data.toList.length<=kZ->b1≠b2->b1≠b3->b2≠b3->
  W.heap[b1]? =some (.cells #[.string p] dv)->W.heap[b2]? =some (.cells #[.string s] eW)->W.heap[b3]? =some (.cells #[.int .i64 0] gv)->
  (∀r W dr,ft r W->Fr [b2] W dr->ft r dr)->(∀W dr,kq W->Fr [b2] W dr->kq dr)->(∀r W,ft r W->jg W [b2] fun _=>False)->(∀W,kq W->jg W [b2] fun _=>False)->
  (∀x rest W jd,ft (x::rest) W->b1<W.heap.size->b2<W.heap.size->b3<W.heap.size->jd.data.toList=x->YieldAt (e8 none) 0 P l #[.string jd] W fun e dr=>
   (e=.returned (.bool true)/\ft rest dr/\W.heap.size<=dr.heap.size/\dr.heap[b1]? =W.heap[b1]? /\dr.heap[b2]? =W.heap[b2]? /\dr.heap[b3]? =W.heap[b3]?)\/(e=.returned (.bool false)/\kq dr))->
  ft (bO c s.data.toList) W->
  CallsIn (e8 none) 0 P cO (#[.func (.yield l) #[] #[]]++#[.pointer (some ⟨b1,0,none⟩),.pointer (some ⟨b2,0,none⟩),.pointer (some ⟨b3,0,none⟩)]) W fun e dr=>(∃v,e=.returned v)/\(ft [] dr\/kq dr)
section
variable {P:Program}{U:World}{Z:List Nat}{X:Nat->Prop}{F:Nat->Value}{st:ao}{M:Array Value}{w:World}
theorem amh(st:ao)(cv:List Nat)(t:Nat):(st.back cv).get t=st.get t/\t∈cv\/(st.back cv).get t=.av (.aq .any):=by
 unfold ao.back ao.get;induction cv with
 |nil=>exact .inr rfl
 |cons u cv ih=>
  simp only[GL,look];cases hb:u.beq t with
  |true=>
   have:=ce hb;subst this;left;simp only[ad,ao.get];exact⟨trivial,cj⟩
  |false=>
   simp only[ak];rcases ih with⟨h1,h2⟩|h
   ·exact .inl ⟨h1,ci _ h2⟩
   ·exact .inr h
theorem az.back(S:az U Z X F st M w){ca:Array Value}{cv:List Nat}(ay:∀t,t∈cv->M.getD t undef=ca.getD t undef)(hs:ca.size=M.size):az U Z X F (st.back cv) ca w:=by
 refine⟨hs.trans S.nt,fun t=>?_,S.sites,S.eD,S.cF,S.frame,S.old,S.fw⟩
 rcases amh st cv t with⟨h,hm⟩|h
 ·rw[h,<-ay t hm];exact S.c8 t
 ·rw[h];trivial
theorem az.other(S:az U Z X F st M w){w':World}{L:List Nat}(aW:Fr L w w')(ee:∀b,b∈L->X b/\(b∈Z\/U.heap.size<=b)):az U Z X F st M w':=by
 have Et:∀b,¬aN X F st.sites b->b∉L:=fun b hb h=>hb (.inl (ee b h).1)
 have G:iK F F st.sites st.sites w w' (aN X F st.sites) (aN X F st.sites):=
  ⟨fun o ai h=>⟨ai,h,Nat.le_refl _,fun _=>rfl⟩,fun b hb hlt=>aW.block b hlt (Et b hb),fun _ h _=>h⟩
 have hlt:∀b,aN X F st.sites b->b<w'.heap.size:=fun b hb=>Nat.lt_of_lt_of_le (S.lt hb) aW.size
 refine⟨S.nt,fun t=>(S.c8 t).goes G aW.size hlt,fun o ai h=>?_,S.eD,S.cF,?_,fun b hb=>Nat.lt_of_lt_of_le (S.old b hb) aW.size,S.fw⟩
 ·exact(S.sites o ai h).goes G aW.size hlt rfl fun hl b hb=>aW.block b (S.gf ⟨ai,h,hl⟩ hb) fun hm=>(S.cF o b ⟨ai,h,hl⟩ hb).1 (ee b hm).1
 ·refine⟨aW.os.trans S.frame.os,aW.tape.trans S.frame.tape,aW.output.trans S.frame.output,Nat.le_trans S.frame.size aW.size,fun b hb hn=>?_⟩
  have h1:b∉L:=fun h=>by
   rcases(ee b h).2 with h2|h2
   ·exact hn h2
   ·omega
  rw[aW.block b (Nat.lt_of_lt_of_le hb S.frame.size) h1];exact S.frame.block b hb hn
theorem Fr.putObj(w:World)(l:Nat)(D:Obj):Fr [l] w (w.putObj l D):=
 ⟨rfl,rfl,rfl,by simp,fun b _ hn=>World.putObj_heap_other fun e=>hn (by simp[e])⟩
theorem Fr.mono{Z nf:List Nat}{U w:World}(aW:Fr Z U w)(h:∀b,b∈Z->b∈nf):Fr nf U w:=⟨aW.os,aW.tape,aW.output,aW.size,fun b hb hn=>aW.block b hb fun an=>hn (h b an)⟩
theorem az.Ch(S:az U Z X F st M w){nf:List Nat}(h:∀o b,cD st.sites o->b0 (F o)=some b->b∈nf)(hg:∀b,b∈nf->b∈Z\/U.heap.size<=b):az w nf X F st M w:=
 ⟨S.nt,S.c8,S.sites,S.eD,fun o b h1 h2=>⟨(S.cF o b h1 h2).1,.inl (h o b h1 h2)⟩,Fr.refl _ _,S.old,⟨S.ly.1,fun b hb hm=>(hg b hm).elim (S.fw.Z b hb) fun h=>by have:=S.fw.lt b hb;omega,S.fw.X,fun b hb=>(S.ly.2 b hb).2⟩⟩
theorem az.base(S:az U Z X F st M w){nf:List Nat}(h:∀b,b∈nf->b∈Z\/U.heap.size<=b):iM U Z X w nf X:=by
 refine⟨fun w' aW=>?_,fun b hb=>?_,fun b hb=>hb⟩
 ·refine⟨aW.os.trans S.frame.os,aW.tape.trans S.frame.tape,aW.output.trans S.frame.output,Nat.le_trans S.frame.size aW.size,fun b hb hn=>?_⟩
  have h1:b∉nf:=fun an=>by
   rcases h b an with h2|h2
   ·exact hn h2
   ·omega
  rw[aW.block b (Nat.lt_of_lt_of_le hb S.frame.size) h1];exact S.frame.block b hb hn
 ·rcases hb with hb|hb
  ·exact h b hb
  ·exact .inr (Nat.le_trans S.frame.size hb)
theorem az.BY{a':World}{ec:List Nat}{dp:Nat->Prop}(bx:iM U Z X a' ec dp)(G:jg U Z X)(S:az a' ec dp F st M w):az U Z dp F st M w:=
 ⟨S.nt,S.c8,S.sites,S.eD,fun o b h1 h2=>⟨(S.cF o b h1 h2).1,bx.cF b (S.cF o b h1 h2).2⟩,bx.c4 _ S.frame,S.old,⟨G.ok,G.Z,S.fw.X,G.lt⟩⟩
def Hg(sites:List (Nat×Site)):List Nat:=(keys sites).filter fun o=>match look sites o with|some s=>s.live|none=>false
theorem O8{sites:List (Nat×Site)}{o:Nat}:o∈Hg sites <-> cD sites o:=by
 unfold Hg cD;rw[List.mem_filter];constructor
 ·rintro⟨_,h⟩;split at h
  ·rename_i s hs;exact⟨s,hs,h⟩
  ·cases h
 ·rintro⟨s,hs,hl⟩;refine⟨?_,by simp only[hs];exact hl⟩
  have:=TY hs;clear hl hs;induction sites with
  |nil=>cases this
  |cons p sites ih=>
   rcases bR.1 this with h|h
   ·simp only[keys];rw[<-h];exact cj
   ·simp only[keys];exact ci _ (ih h)
def jj(F:Nat->Value)(sites:List (Nat×Site)):List Nat:=dy F (Hg sites)
theorem oq{sites:List (Nat×Site)}{b:Nat}:b∈jj F sites <-> ∃o,cD sites o/\b0 (F o)=some b:=by
 unfold jj;rw[oi];constructor
 ·rintro⟨o,h1,h2⟩;exact⟨o,O8.1 h1,h2⟩
 ·rintro⟨o,h1,h2⟩;exact⟨o,O8.2 h1,h2⟩
def mC(eB:ao->Prop):Out->Exit->Prop
 |.norm st,.normal=>eB st
 |.exit id st,.exit jv=>id=jv/\eB st
 |.ret st,.ret=>eB st
 |_,_=>False
theorem mC.some{eB:ao->Prop}{D:Out}{e:Exit}(h:mC eB D e):∃st,eB st:=by
 cases D<;>cases e<;>first|exact⟨_,h⟩|exact⟨_,h.2⟩|exact h.elim
theorem Us{eB:ao->Prop}(MN:∀(be:Shape) st y,be.ex st=some y->eB st->eB (be.st y)):∀{os:List aR} {x:Out} {y:aH os} {e:Exit},hZ os x=some y->mC eB x e->mC eB (mc os y) e:=by
 have one:∀{k:Kind} {x:Out} {st:ao} {be:Shape} {y:be.J} {e:Exit},k.h' x=some st->be.ex st=some y->mC eB x e->mC eB (k.mk (be.st y)) e:=by
  intro k x st be y e h hy hl;cases k<;>cases x<;>simp only[Kind.h'] at h<;>try(cases h;done)
  ·cases h;cases e<;>try exact hl.elim
   exact MN be _ y hy hl
  ·rename_i id jv au;cases hb:Nat.beq id jv with
   |false=>simp[hb] at h
   |true=>
    simp only[hb,ad,bH] at h;subst h;cases e<;>try exact hl.elim
    exact⟨(ce hb).trans hl.1,MN be _ y hy hl.2⟩
  ·cases h;cases e<;>try exact hl.elim
   exact MN be _ y hy hl
 intro os;induction os with
 |nil=>intro x y;exact y.elim
 |cons D os ih=>
  intro x y e h hl;cases os with
  |nil=>
   simp only[hZ] at h;split at h
   ·rename_i st hk;exact one hk h hl
   ·cases h
  |cons dm r=>
   simp only[hZ] at h;split at h
   ·rename_i st hk;obtain⟨cV,aG,aK⟩:=Option.map_eq_some_iff.1 h;subst aK;exact one hk aG hl
   ·obtain⟨cV,aG,aK⟩:=Option.map_eq_some_iff.1 h;subst aK;exact ih aG hl
theorem agr{cO:FuncId}{v:bb}{q:(B×UInt8)×List (Nat×Site)}(h:IC st cO v=some q):∃gN s1 gM s2 iq h5 c s,v=.av (.aq (.clo cO [(gN,s1),(gM,s2),(iq,h5)]))/\(gN≠gM/\gN≠iq/\gM≠iq)/\
  gl st gN s1=some [.d (.str [c])]/\gl st gM s2=some [.d (.str s)]/\gl st iq h5=some [.d (.int .i64 0)]/\q=((s,c),[(gN,.dead s1),(gM,.dead s2),(iq,.dead h5)]):=by
 unfold IC at h;split at h
 ·rename_i g gN s1 gM s2 iq h5;cases hb:Nat.beq g cO&&gg [gN,gM,iq] with
  |false=>simp[hb] at h
  |true=>
   simp only[hb,ad] at h;simp only[bz] at hb;have hg:=ce hb.1;subst hg;have hn:=(sO _).1 hb.2;simp only[List.nodup_cons,bR,List.not_mem_nil,or_false,not_or,not_false_eq_true,List.nodup_nil,and_true] at hn;split at h
   ·rename_i c s h1 h2 h3;cases h;exact⟨gN,s1,gM,s2,iq,h5,c,s,rfl,⟨hn.1.1,hn.1.2,hn.2⟩,h1,h2,h3,rfl⟩
   ·cases h
 ·cases h
theorem FP{J bx:Type}{aW:B->J->Option (Sum J bx)}{fin:J->Option bx}{x:B}{xs:List B}{y:J}{b:bx}(h:iZ aW fin (x::xs) y=some b):(∃y',aW x y=some (.inl y')/\iZ aW fin xs y'=some b)\/aW x y=some (.inr b):=by
 simp only[iZ] at h;split at h
 ·cases h
 ·rename_i y' hy;exact .inl ⟨y',hy,h⟩
 ·rename_i bS hy;cases h;exact .inr hy
end
theorem KP{be:Shape}{st:ao}{y:be.J}(h:be.ex st=some y):st.nt=be.nt:=by
 unfold Shape.ex at h;simp only at h;cases hb:(st.iI (q4 st be.c8++q5 st be.sites)).nt.beq be.nt with
 |false=>rw[hb] at h;cases h
 |true=>rw[<-S1 (q4 st be.c8++q5 st be.sites) st];exact ce hb
def ud(n:Nat):List aR->Bool
 |[]=>true
 |D::r=>Nat.beq D.2.nt n&&ud n r
def Out.st:Out->ao
 |.norm st|.exit _ st|.ret st=>st
theorem T'{k:Kind}{x:Out}{st:ao}(h:k.h' x=some st):x.st=st:=by
 cases k<;>cases x<;>simp only[Kind.h'] at h<;>try(cases h;done)
 ·cases h;rfl
 ·rename_i id jv au;cases hb:Nat.beq id jv with
  |false=>simp[hb] at h
  |true=>simp only[hb,ad,bH] at h;exact h
 ·cases h;rfl
theorem ap5{n:Nat}:∀{os:List aR} {x:Out} {y:aH os},hZ os x=some y->ud n os=true->x.st.nt=n:=by
 intro os;induction os with
 |nil=>intro x y;exact y.elim
 |cons D os ih=>
  intro x y h hn;simp only[ud,bz] at hn;have hno:=ce hn.1;cases os with
  |nil=>
   simp only[hZ] at h;split at h
   ·rename_i st hk;rw[T' hk,KP h,hno]
   ·cases h
  |cons dm r=>
   simp only[hZ] at h;split at h
   ·rename_i st hk;obtain⟨cV,aG,_⟩:=Option.map_eq_some_iff.1 h;rw[T' hk,KP aG,hno]
   ·obtain⟨cV,aG,_⟩:=Option.map_eq_some_iff.1 h;exact ih aG hn.2
section
variable {P:Program}{C:io}
theorem ahy(H:aT P C.toCtx){cO:FuncId}(vh:wJ P cO){t fj p:Nat}{assign body:Code}{be:Shape}{os:List aR}(ay2:gL P C assign (2*p))(ay1:gL P C body (2*p+1))
  {aW:B->be.J->Option (Sum be.J (aH os))} {fin:be.J->Option (aH os)} (eV:∀x y,aW x y=JV C assign body p fj be os x y) (xd:∀y,fin y=hZ os (.norm (be.st y)))
  (LB:fv (keys be.c8) (fj::(cJ assign++cJ body))=true) (Lv:hH assign=true) (Lu:hH body=true) (Lr:fj<be.nt) (rZ:ud be.nt os=true):
  aV P (.rangeFunc (.tmp t) #[fj] assign body) (s3 cO t be os aW fin):=by
 intro rn hn U Z X st y hy F M w ds S;have ayu:rn=none:=hn.elim id fun h=>by cases h
 subst ayu;simp only[s3] at hy y ⊢;obtain⟨q,aC,hy⟩:=Option.bind_eq_some_iff.1 hy;obtain⟨dT,MO,p2⟩:=Option.bind_eq_some_iff.1 hy;obtain⟨gN,s1,gM,s2,iq,h5,c,s,hv,⟨jt,ME,js⟩,hb1,hb2,hb3,rfl⟩:=agr aC;obtain⟨hlen,p2⟩:s.length<=kZ/\iZ aW fin (bO c s) dT=some y:=by
  cases hb:Nat.ble s.length kZ with
  |false=>rw[hb] at p2;cases p2
  |true=>rw[hb] at p2;exact⟨Nat.le_of_ble_eq_true hb,p2⟩
 have jJ:=S.c8 t;rw[hv] at jJ;obtain⟨vs,jo,mW,rJ⟩:=jJ;match vs,mW with
 |[v1,v2,v3],_=>
 have r1:v1=F gN:=Ref.at (rJ 0 (by simp) (by simp)) (hC hb1) rfl
 have r2:v2=F gM:=Ref.at (rJ 1 (by simp) (by simp)) (hC hb2) rfl
 have dE:v3=F iq:=Ref.at (rJ 2 (by simp) (by simp)) (hC hb3) rfl
 have KQ:∀{o k:Nat} {d:bk},gl st o k=some [.d d]->∃b T u,F o=.pointer (some ⟨b,0,none⟩)/\w.heap[b]? =some (.cells #[u] T)/\bU w (aN X F st.sites) d u:=by
  intro o k d h;obtain⟨b,T,cur,g1,g2,g3,g4,_,g5⟩:=S.sites o _ (hC h);match cur,g3 with
  |[u],_=>exact⟨b,T,u,g1,g2,g5 0 (by simp) (by simp)⟩
 obtain⟨b1,dv,u1,i1,h1,d1⟩:=KQ hb1;obtain⟨b2,eW,u2,i2,h2,d2⟩:=KQ hb2;obtain⟨b3,gv,sx,i3,h3,d3⟩:=KQ hb3;obtain⟨h6,rfl,Es⟩:=gX d1;obtain⟨aQ,rfl,gp⟩:=gX d2;have bE:sx=.int .i64 0:=iW d3;subst bE;have MH:cD st.sites gN:=⟨_,hC hb1,rfl⟩;have Ef:cD st.sites gM:=⟨_,hC hb2,rfl⟩;have MG:cD st.sites iq:=⟨_,hC hb3,rfl⟩;have aG:b0 (F gN)=some b1:=by rw[i1];rfl
 have aK:b0 (F gM)=some b2:=by rw[i2];rfl
 have bP:b0 (F iq)=some b3:=by rw[i3];rfl
 have m12:b1≠b2:=fun e=>jt (S.eD gN gM b1 MH Ef aG (e▸aK))
 have m13:b1≠b3:=fun e=>ME (S.eD gN iq b1 MH MG aG (e▸bP))
 have m23:b2≠b3:=fun e=>js (S.eD gM iq b2 Ef MG aK (e▸bP))
 have xM:=S.gf MH aG;have acu:=S.gf Ef aK;have xL:=S.gf MG bP;have arx:=(S.cF gM b2 Ef aK).2;obtain⟨dp,ayX,dO,MK,acx,acw⟩:∃dp:Nat->Prop,(∀b,X b->dp b)/\az U Z dp F (st.iI [(gN,.dead s1),(gM,.dead s2),(iq,.dead h5)]) M w/\dp b1/\dp b2/\dp b3:=by
  have A:=S.kill (hC hb1) rfl;have fU:look (cI st.sites gN (.dead s1)) gM=some (.box s2 [.d (.str s)]):=by rw[dn,if_neg jt];exact hC hb2
  have bx:=A.kill (st:={st with sites:=cI st.sites gN (.dead s1)}) fU rfl
  have u':look (cI (cI st.sites gN (.dead s1)) gM (.dead s2)) iq=some (.box h5 [.d (.int .i64 0)]):=by rw[dn,if_neg js,dn,if_neg ME];exact hC hb3
  have bk:=bx.kill (st:={st with sites:=cI (cI st.sites gN (.dead s1)) gM (.dead s2)}) u' rfl
  exact⟨_,fun b hb=>.inl (.inl (.inl hb)),bk,.inl (.inl (.inr aG)),.inl (.inr aK),.inr bP⟩
 obtain⟨iN,iC,_⟩:=Shape.gK dO MO;have aC6:M.size=be.nt:=iC.nt;refine gI.of (n:=0) (wpIn_rangeFunc ?_);intro fn _;obtain⟨rec,oS⟩:∃rec:LoopState->Option Code->Loop,rec=fun st aBx=>{state:=st,pending:=aBx,fn,tmps:=M,params:=#[fj],assign,body,defers:=w.heap.size}:=⟨_,rfl⟩
 obtain⟨W1,hW1⟩:∃W1,(w.alloc (.deferred (some []))).alloc (.loop (rec .ready none))=W1:=⟨_,rfl⟩;obtain⟨l,hl⟩:∃l,l=w.heap.size+1:=⟨_,rfl⟩;obtain⟨bk,fV⟩:∃bk,bk=w.heap.size:=⟨_,rfl⟩;have hsz:W1.heap.size=w.heap.size+2:=by rw[<-hW1];simp
 have ay5:W1.heap[l]? =some (.loop (rec .ready none)):=by
  rw[<-hW1,hl];have:=World.alloc_heap_new (w.alloc (.deferred (some []))) (.loop (rec .ready none));rwa[World.size_alloc] at this
 have ac3:W1.heap[bk]? =some (.deferred (some [])):=by
  rw[<-hW1,fV];exact(RowKit.Below.heap_alloc _ _ _ (by simp only[World.size_alloc];omega)).trans (World.alloc_heap_new w _)
 have hold:∀b,b<w.heap.size->W1.heap[b]? =w.heap[b]? :=fun b hb=>by
  rw[<-hW1,RowKit.Below.heap_alloc _ _ _ (by simp only[World.size_alloc];omega),RowKit.Below.heap_alloc _ _ _ hb]
 have aur:Fr Z U W1:=⟨by rw[<-hW1];exact S.frame.os,by rw[<-hW1];exact S.frame.tape,by rw[<-hW1];exact S.frame.output,by have:=S.frame.size;omega,fun b hb hn=>by
  have:=S.frame.size;rw[hold b (by omega)];exact S.frame.block b hb hn⟩
 have p0:=S.frame.size;have jA:=iC.jump (w':=W1) (fun b _ hb=>hold b hb) (by omega) aur
 obtain⟨cP,nc⟩:∃cP:Nat->Prop,cP=fun b=>dp b\/(w.heap.size<=b/\b<W1.heap.size):=⟨_,rfl⟩
 rw[<-nc] at jA;have N4:cP l:=by rw[nc];exact .inr ⟨by omega,by omega⟩
 have N5:cP bk:=by rw[nc];exact .inr ⟨by omega,by omega⟩
 have ep:cP b1:=by rw[nc];exact .inl MK
 have gr:cP b2:=by rw[nc];exact .inl acx
 have jX:cP b3:=by rw[nc];exact .inl acw
 have No:∀b,X b->cP b:=fun b hb=>by rw[nc];exact .inl (ayX b hb)
 obtain⟨fK,xe⟩:∃fK,fK=l::b2::jj iN (be.st dT).sites:=⟨_,rfl⟩;have Vi:∀b,b∈jj iN (be.st dT).sites->¬cP b/\(b∈Z\/U.heap.size<=b):=fun b hb=>by
  obtain⟨o,g1,g2⟩:=oq.1 hb;exact jA.cF o b g1 g2
 have aBB:l∈fK:=by rw[xe];exact cj
 have ac9:b2∈fK:=by rw[xe];exact ci _ cj
 have aCc:bk∉fK:=by
  rw[xe];intro h;rcases bR.1 h with h|h
  ·omega
  ·rcases bR.1 h with h|h
   ·omega
   ·exact(Vi bk h).1 N5
 have Wg:∀b,b∈fK->b∈Z\/U.heap.size<=b:=fun b hb=>by
  rw[xe] at hb;rcases bR.1 hb with h|h
  ·exact .inr (by omega)
  ·rcases bR.1 h with h|h
   ·rw[h];exact arx
   ·exact(Vi b h).2
 have mo:az W1 fK cP iN (be.st dT) M W1:=jA.Ch (fun o b g1 g2=>by rw[xe];exact ci _ (ci _ (oq.2 ⟨o,g1,g2⟩))) Wg
 have aBf:iM U Z X W1 fK cP:=by
  have:=jA.base Wg;exact⟨this.c4,this.cF,No⟩
 obtain⟨ft,nj⟩:∃ft:List B->World->Prop,∀r W,ft r W <-> ∃F z,az W1 fK cP F (be.st z) M W/\iZ aW fin r z=some y/\W.heap[l]? =some (.loop (rec .ready none))/\W.heap[bk]? =some (.deferred (some [])):=⟨_,fun _ _=>Iff.rfl⟩
 obtain⟨kq,x7⟩:∃kq:World->Prop,∀W,kq W <-> ∃j e,((j=.ret/\e=.ret)\/∃id,j=.exit id/\e=.exit id)/\mC (fun st=>∃F,az W1 fK cP F st M W) (mc os y) e/\
   W.heap[l]? =some (.loop (rec .done (some j)))/\W.heap[bk]? =some (.deferred (some [])):=⟨_,fun _=>Iff.rfl⟩
 have Xn:∀{F:Nat->Value} {st:ao} {W:World},az W1 fK cP F st M W->jg W [b2] fun _=>False:=fun S=>
  ⟨S.ly.1,fun b hb h=>S.fw.Z b hb (by rw[List.mem_singleton.1 h];exact ac9),fun _ _ h=>h,fun b hb=>(S.ly.2 b hb).2⟩
 have aBA:l<W1.heap.size:=by omega
 have aBC:bk<W1.heap.size:=by omega
 have ZN:l≠b2:=by omega
 have abe:bk≠b2:=by omega
 have anQ:∀{eB ad4:ao->Prop} {D:Out} {e:Exit},(∀st,eB st->ad4 st)->mC eB D e->mC ad4 D e:=fun h k=>by
  rename_i D e;cases D<;>cases e<;>first|exact h _ k|exact⟨k.1,h _ k.2⟩|exact k.elim
 have WO:∀{F:Nat->Value} {st:ao} {W dr:World},az W1 fK cP F st M W->Fr [b2] W dr->az W1 fK cP F st M dr:=fun S aW=>S.other aW fun b hb=>by
  rw[List.mem_singleton.1 hb];exact⟨gr,.inl ac9⟩
 have KE:∀{F:Nat->Value} {st:ao} {M:Array Value} {W:World} {X':Nat->Prop} (D:Obj),(∀b,cP b->X' b)->az W1 fK X' F st M W->az W1 fK X' F st M (W.putObj l D):=fun D hx S=>S.other (Fr.putObj _ l D) fun b hb=>by
  rw[List.mem_singleton.1 hb];exact⟨hx _ N4,.inl aBB⟩
 refine⟨l,[mark bk],W1,{target:=.fn (.func cO) #[.pointer (some ⟨b1,0,none⟩),.pointer (some ⟨b2,0,none⟩),.pointer (some ⟨b3,0,none⟩)],args:=#[.func (.yield l) #[] #[]]},W1,cO,
  #[.func (.yield l) #[] #[]]++#[.pointer (some ⟨b1,0,none⟩),.pointer (some ⟨b2,0,none⟩),.pointer (some ⟨b3,0,none⟩)],W1,?_,?_,fun _ _=>trivial,?_,fun h=>by simp[e8,Fence.wide] at h,?_⟩
 ·rw[<-hW1,oS,hl,fV];exact run_enterLoop_outer _ _ _ _ _
 ·have arH:Act.eval ⟨M,ds⟩ (.tmp t)=.func (.func cO) #[] #[.pointer (some ⟨b1,0,none⟩),.pointer (some ⟨b2,0,none⟩),.pointer (some ⟨b3,0,none⟩)]:=by
   show M.getD t undef=_;rw[jo,r1,r2,dE,i1,i2,i3]
  simp only[rangeCall,resolve,arH];simp[Deferred.ofValue,Act.eval]
 ·simp[invoke,vh.1]
 ·refine CallsIn.mono (vh.2 l b1 b2 b3 h6 aQ c dv eW gv W1 ft kq Es (by rw[gp];exact hlen) m12 m13 m23 ((hold b1 xM).trans h1) ((hold b2 acu).trans h2) ((hold b3 xL).trans h3) ?_ ?_ ?_ ?_ ?_ ?_) ?_
  ·-- aos two rounds uD aCf turns ax3 aCm box
   intro r W dr hj aW;obtain⟨F,z,g1,g2,g3,g4⟩:=(nj _ _).1 hj;have r6:=Nat.lt_of_lt_of_le aBA g1.frame.size;have uZ:=Nat.lt_of_lt_of_le aBC g1.frame.size;exact(nj _ _).2 ⟨F,z,WO g1 aW,g2,(aW.block l r6 (by simpa using ZN)).trans g3,(aW.block bk uZ (by simpa using abe)).trans g4⟩
  ·intro W dr hj aW;obtain⟨j,e,g1,g2,g3,g4⟩:=(x7 _).1 hj;have r6:l<W.heap.size:=(Array.getElem?_eq_some_iff.1 g3).1;have uZ:bk<W.heap.size:=(Array.getElem?_eq_some_iff.1 g4).1;exact(x7 _).2 ⟨j,e,g1,anQ (fun st ⟨F,h⟩=>⟨F,WO h aW⟩) g2,(aW.block l r6 (by simpa using ZN)).trans g3,(aW.block bk uZ (by simpa using abe)).trans g4⟩
  ·intro r W hj;obtain⟨F,z,g1,_⟩:=(nj _ _).1 hj;exact Xn g1
  ·intro W hj;obtain⟨j,e,_,g2,_⟩:=(x7 _).1 hj;obtain⟨st,F,g1⟩:=g2.some;exact Xn g1
  ·-- aDm aCx
   intro x rest W jd hj q1 q2 dU xQ;obtain⟨F,z,kp,hz,r6,uZ⟩:=(nj _ _).1 hj;have hlt:l<W.heap.size:=(Array.getElem?_eq_some_iff.1 r6).1;have auh:bk<W.heap.size:=(Array.getElem?_eq_some_iff.1 uZ).1;refine⟨fn,M.setIfInBounds fj (.string jd),assign,body,?_,?_⟩
   ·have:=run_yield (P:=P) (args:=#[.string jd]) r6 (by rw[oS];rfl)
    rw[oS] at this;simpa using this
   refine roundIn_of_wpIn (n:=0) trivial ?_
   show gI (some l) P assign _ _ _;obtain⟨s,hs⟩:∃s,aW x z=some s:=by
    rcases FP hz with⟨fm,h,_⟩|h
    ·exact⟨_,h⟩
    ·exact⟨_,h⟩
   have Eo:=hs;rw[eV] at hs;have vf:az W1 fK cP F ((be.st z).set fj (one (.str x))) (M.setIfInBounds fj (.string jd)) W:=kp.put (t:=fj) Lr (bU.str _ _ xQ);have atQ:∀o b,cD ((be.st z).set fj (one (.str x))).sites o->b0 (F o)=some b->b∈jj F (be.st z).sites:=fun o b g1 g2=>oq.2 ⟨o,g1,g2⟩
   have yI:=vf.Ch atQ fun b hb=>by
    obtain⟨o,g1,g2⟩:=oq.1 hb;exact(kp.cF o b g1 g2).2
   have XX:∀b,b∈jj F (be.st z).sites->¬cP b/\(b∈fK\/W1.heap.size<=b):=fun b hb=>by
    obtain⟨o,g1,g2⟩:=oq.1 hb;exact kp.cF o b g1 g2
   have ON:iM W1 fK cP W (jj F (be.st z).sites) cP:=vf.base fun b hb=>(XX b hb).2
   refine j5 (rn:=some l) H assign (2*p) (.inr Lv) ay2 W _ cP _ F _ W [] _ _ hs yI ?_
   intro o1 e1 a1 a' r_ hY;cases o1 with
   |exit id e7=>cases r_
   |ret e7=>cases r_
   |norm e7=>
   cases e1<;>try exact hY.elim
   obtain⟨EU,Oh,lB,ld,aeG,qJ,_,_,adg,arD⟩:=hY;have vi:Fr (jj F (be.st z).sites) W a':=qJ.c4 _ adg.frame;have aej:∀b,cP b->b∉jj F (be.st z).sites:=fun b hb h=>(XX b h).1 hb
   have hY:a'.heap[l]? =some (.loop (rec .ready none)):=(vi.block l hlt (aej l N4)).trans r6;refine⟨a'.putObj l (.loop {rec .ready none with state:=.busy}),run_beginRound hY (by rw[oS]),?_⟩
   obtain⟨w2,xR⟩:∃w2,w2=a'.putObj l (.loop {rec .ready none with state:=.busy}):=⟨_,rfl⟩
   rw[<-xR];have azU:az W1 fK lB ld e7 a1.tmps a':=az.BY (ON.trans qJ) mo.fw adg;have po:az W1 fK lB ld e7 a1.tmps w2:=by rw[xR];exact KE _ qJ.x azU
   have K9:∀b,b∈jj ld e7.sites->¬lB b/\(b∈fK\/W1.heap.size<=b):=fun b hb=>by
    obtain⟨o,g1,g2⟩:=oq.1 hb;exact po.cF o b g1 g2
   have E6:=po.Ch (nf:=jj ld e7.sites) (fun o b g1 g2=>oq.2 ⟨o,g1,g2⟩) fun b hb=>(K9 b hb).2
   have cw:iM W1 fK lB w2 (jj ld e7.sites) lB:=po.base fun b hb=>(K9 b hb).2
   have o8:w2.heap[l]? =some (.loop {rec .ready none with state:=.busy}):=by rw[xR];exact World.putObj_heap_same (Nat.lt_of_lt_of_le hlt vi.size)
   have axI:w2.heap.size=a'.heap.size:=by rw[xR];simp
   show gI (some l) P body _ a1 _;have Nn:a1=⟨a1.tmps,a1.defers⟩:=rfl;rw[Nn];refine j5 (rn:=some l) H body (2*p+1) (.inr Lu) ay1 w2 _ lB e7 ld a1.tmps w2 a1.defers _ _ r_ E6 ?_
   intro D e a cr hk gE;have acr:∀b,lB b->b∉jj ld e7.sites:=fun b hb h=>(K9 b h).1 hb
   have ZP:∀{u_ fl yH},iM w2 (jj ld e7.sites) lB u_ fl yH->Fr fl u_ cr->∀b,cP b->b<W.heap.size->b≠l->cr.heap[b]? =W.heap[b]? :=fun bx aW b hb qe hne=>by
    have yM:=bx.c4 _ aW;have hb1:b<a'.heap.size:=Nat.lt_of_lt_of_le qe vi.size;rw[yM.block b (by omega) (acr b (qJ.x b hb)),xR,World.putObj_heap_other hne,vi.block b qe (aej b hb)]
   have fin:∀(gO:ao),gO.nt=be.nt->eX w2 (jj ld e7.sites) lB a1.defers a1.tmps (cJ body) gO a cr->∀(jump:Option Code),
     (Instr.endRound l jump).run P cr=.ok (.bool jump.isNone) (cr.putObj l (.loop (rec (if jump.isNone then .ready else .done) jump)))/\
     (∃ir,az W1 fK cP ir (gO.back (keys be.c8)) M (cr.putObj l (.loop (rec (if jump.isNone then .ready else .done) jump))))/\
     (cr.putObj l (.loop (rec (if jump.isNone then .ready else .done) jump))).heap[l]? =some (.loop (rec (if jump.isNone then .ready else .done) jump))/\
     (cr.putObj l (.loop (rec (if jump.isNone then .ready else .done) jump))).heap[bk]? =some (.deferred (some []))/\
     W.heap.size<=(cr.putObj l (.loop (rec (if jump.isNone then .ready else .done) jump))).heap.size/\
     (∀b,cP b->b<W.heap.size->b≠l->(cr.putObj l (.loop (rec (if jump.isNone then .ready else .done) jump))).heap[b]? =W.heap[b]?):=by
    rintro gO aCO ⟨u_,fl,yH,ir,aeF,yo,_,_,jV,arC⟩ jump;have yM:=yo.c4 _ jV.frame;have hlt2:l<w2.heap.size:=by rw[axI];exact Nat.lt_of_lt_of_le hlt vi.size
    have Eu:cr.heap[l]? =some (.loop {rec .ready none with state:=.busy}):=(yM.block l hlt2 (acr l (qJ.x l N4))).trans o8
    have aui:=Nat.lt_of_lt_of_le hlt2 yM.size;have Z6:=run_endRound (P:=P) jump Eu;have auC:({({rec .ready none with state:=.busy}:Loop) with state:=if jump.isNone then .ready else .done,pending:=jump}:Loop)=rec (if jump.isNone then .ready else .done) jump:=by rw[oS]
    rw[auC] at Z6;have azT:az W1 fK yH ir gO a.tmps cr:=az.BY ((cw.trans yo)) po.fw jV;have azS:az W1 fK cP ir gO a.tmps cr:=azT.shrink fun b hb=>yo.x b (qJ.x b hb)
    have azR:=KE (.loop (rec (if jump.isNone then .ready else .done) jump)) (fun _ h=>h) azS
    have jQ:∀bw,bw∈keys be.c8->bw≠fj/\bw∉cJ assign/\bw∉cJ body:=fun bw n4=>by
     have hm:bw∉(fj::(cJ assign++cJ body)):=fun h=>by
      have:=sX n4 h;rw[LB] at this;cases this
     simp only[bR,bo,not_or] at hm;exact⟨hm.1,hm.2.1,hm.2.2⟩
    refine⟨Z6,⟨ir,azR.back (fun bw n4=>?_) ?_⟩,World.putObj_heap_same aui,?_,?_,fun b hb qe hne=>?_⟩
    ·obtain⟨g1,g2,g3⟩:=jQ bw n4;rw[arC bw g3,arD bw g2];simp only[Array.getD_eq_getD_getElem?,Array.getElem?_setIfInBounds_ne (show fj≠bw from fun e=>g1 e.symm)]
    ·have e1:a.tmps.size=gO.nt:=jV.nt;omega
    ·rw[World.putObj_heap_other (by omega)]
     exact(ZP yo jV.frame bk N5 auh (by omega)).trans uZ
    ·simp only[World.putObj_size];have:=vi.size;have:=yM.size;omega
    ·rw[World.putObj_heap_other hne];exact ZP yo jV.frame b hb qe hne
   have C6:∀(gO:ao) (jX:Out) (j:Code) (bE:Exit),((j=.ret/\bE=.ret)\/∃id,j=.exit id/\bE=.exit id)->jX.st=gO->(∀eB:ao->Prop,eB (gO.back (keys be.c8))->mC eB (jX.back (keys be.c8)) bE)->
     (hZ os (jX.back (keys be.c8))).map Sum.inr=some s->eX w2 (jj ld e7.sites) lB a1.defers a1.tmps (cJ body) gO a cr->
     ∃v w',(Instr.endRound l (some j)).run P cr=.ok v w'/\((Ending.returned v=.returned (.bool true)/\ft rest w'/\W.heap.size<=w'.heap.size/\w'.heap[b1]? =W.heap[b1]? /\w'.heap[b2]? =W.heap[b2]? /\w'.heap[b3]? =W.heap[b3]?)\/(Ending.returned v=.returned (.bool false)/\kq w')):=by
    intro gO jX j bE Na aye Ls hex nb;obtain⟨b,hb,eS⟩:=Option.map_eq_some_iff.1 hex;have ayB:gO.nt=be.nt:=by
     have:=ap5 hb rZ;have e:(jX.back (keys be.c8)).st.nt=jX.st.nt:=by cases jX<;>rfl
     rw[e,aye] at this;exact this
    obtain⟨f1,⟨ir,f2⟩,f3,f4,f5,f6⟩:=fin gO ayB nb (some j);refine⟨_,_,f1,.inr ⟨rfl,(x7 _).2 ⟨j,bE,Na,?_,f3,f4⟩⟩⟩;have km:b=y:=by
     rcases FP hz with⟨fm,h,_⟩|h
     ·rw[Eo] at h;cases h;cases eS
     ·rw[Eo] at h;cases h;cases eS;rfl
    subst km;refine Us (fun axL au y' LA ⟨a_,cA⟩=>?_) hb (Ls _ ⟨ir,f2⟩)
    obtain⟨KX,NR,_⟩:=Shape.gK cA LA;exact⟨KX,NR⟩
   cases D with
   |norm gO=>
    cases e<;>try exact gE.elim
    obtain⟨fm,nX,hzs⟩:=Option.map_eq_some_iff.1 hk;obtain⟨f1,⟨ir,f2⟩,f3,f4,f5,f6⟩:=fin gO (show(gO.back (keys be.c8)).nt=be.nt from KP nX) gE none
    obtain⟨awY,f7,_⟩:=Shape.gK f2 nX;refine⟨_,_,f1,.inl ⟨rfl,(nj _ _).2 ⟨awY,fm,f7,?_,f3,f4⟩,f5,f6 b1 ep q1 (by omega),f6 b2 gr q2 (by omega),f6 b3 jX dU (by omega)⟩⟩
    rcases FP hz with⟨z2,h,h2⟩|h
    ·rw[Eo] at h;cases h;cases hzs;exact h2
    ·rw[Eo] at h;cases h;cases hzs
   |exit id gO=>
    cases e<;>try exact gE.elim
    obtain⟨rfl,gE⟩:=gE;exact C6 gO (.exit id gO) (.exit id) (.exit id) (.inr ⟨id,rfl,rfl⟩) rfl (fun eB h=>⟨rfl,h⟩) hk gE
   |ret gO=>
    cases e<;>try exact gE.elim
    exact C6 gO (.ret gO) .ret .ret (.inl ⟨rfl,rfl⟩) rfl (fun eB h=>h) hk gE
  ·exact(nj _ _).2 ⟨iN,dT,mo,by rw[gp];exact p2,ay5,ac3⟩
  ·-- aCq aDk aCg
   have land:∀{j1:World} {e:Exit} (dm:Obj),mC (fun st=>∃F,az W1 fK cP F st M j1) (mc os y) e->j1.heap[l]? ≠none->j1.heap[bk]? =some (.deferred (some []))->
     fD U Z X ds M (cJ (.rangeFunc (.tmp t) #[fj] assign body)) (mc os y) e ⟨M,[mark bk]++ds⟩ (j1.putObj l dm):=by
    intro j1 e dm h _ aDe;have mk:∀st,(∃F,az W1 fK cP F st M j1)->eX U Z X ds M (cJ (.rangeFunc (.tmp t) #[fj] assign body)) st ⟨M,[mark bk]++ds⟩ (j1.putObj l dm):=by
     rintro st ⟨F,S⟩;refine⟨W1,fK,cP,F,[bk],aBf,⟨by simp,fun OK h=>by rw[List.mem_singleton.1 h];omega,fun OK h=>by rw[List.mem_singleton.1 h];exact⟨ac3,aCc,N5⟩⟩,⟨rfl,fun h=>absurd cj h⟩,KE _ (fun _ h=>h) S,fun _ _=>rfl⟩
    cases hm:mc os y<;>rw[hm] at h<;>cases e<;>first|exact mk _ h|exact⟨h.1,mk _ h.2⟩|exact h.elim
   rintro e j1 ⟨⟨v,rfl⟩,hj|hj⟩
   ·obtain⟨F,z,g1,g2,g3,g4⟩:=(nj _ _).1 hj;refine⟨none,j1.putObj l (.loop {rec .ready none with state:=.exhausted}),?_,?_⟩
    ·have:=run_endLoop (P:=P) g3 (by rw[oS];simp)
     rw[oS] at this ⊢;exact this
    ·simp only[iZ,xd] at g2;refine land _ ?_ (by rw[g3];simp) g4
     refine Us (fun axL au y' LA ⟨a_,cA⟩=>?_) g2 ⟨F,g1⟩
     obtain⟨KX,NR,_⟩:=Shape.gK cA LA;exact⟨KX,NR⟩
   ·obtain⟨j,e,Na,g1,g3,g4⟩:=(x7 _).1 hj;refine⟨some j,j1.putObj l (.loop {rec .done (some j) with state:=.exhausted}),?_,?_⟩
    ·have:=run_endLoop (P:=P) g3 (by rw[oS];simp)
     rw[oS] at this ⊢;exact this
    ·have:=land (.loop {rec .done (some j) with state:=.exhausted}) g1 (by rw[g3];simp) g4
     rcases Na with⟨rfl,rfl⟩|⟨id,rfl,rfl⟩
     ·exact wpIn_ret this
     ·exact wpIn_exit this
end
def opsOf:Code->Array Oper
 |.region _ D _=>D
 |_=>#[]
section
variable {P:Program}
theorem RC{D:Oper}{M:Array Value}{ds:List Deferred}{W:World}{a b:Nat}{ty:Array TypeId}{l:Nat}{jd:ByteArray}{K:Act->World->Prop}{Q:Exit->Act->World->Prop}{R:Ending->World->Prop}
  (aP:D.op=.call {callee:=.value (.tmp a),args:=#[.tmp b],argTypes:=ty}) (ha:M.getD a undef=.func (.yield l) #[] #[]) (hb:M.getD b undef=.string jd)
  (aBE:YieldAt (e8 none) 0 P l #[.string jd] W R) (hR:∀e dr,R e dr->∃v,e=.returned v/\K ⟨cQ M D.dst v,ds⟩ dr):D.wpIn (e8 none) 0 P ⟨M,ds⟩ W K Q:=by
 obtain⟨fn,tmps,assign,body,hy,ay0⟩:=aBE;refine⟨fun f _=>Dk none f,?_⟩
 have dL:(D.semAt none (Act.eval ⟨M,ds⟩)).run P W=.ok (.round l fn tmps assign body) W:=by
  rw[Oper.semAt_none];have yC:Act.eval ⟨M,ds⟩ (.tmp a)=.func (.yield l) #[] #[]:=ha;have yB:Act.eval ⟨M,ds⟩ (.tmp b)=.string jd:=hb;unfold execOp;simp only[aP,resolve,yC,Deferred.ofValue,Sem.run_bind,Sem.run_pure,Result.andThen_ok,invoke,List.map_toArray,List.map_cons,List.map_nil,yB];simpa using hy
 show D.uponIn (e8 none) 0 P _ K Q ((D.semAt none (Act.eval ⟨M,ds⟩)).run P W);rw[dL];refine⟨fun h=>by simp[e8,Fence.wide] at h,RoundIn.mono ay0 fun e dr he=>?_⟩
 obtain⟨v,rfl,hk⟩:=hR e dr he;rw[<-vI] at hk;exact hk
def fF(k:Nat)(more:List (Nat×fy)):Shape:=⟨[(1,.aq (.eZ [.str] 0)),(2,.aq (.ptr 1001 0)),(3,.aq (.eZ [.int .i64] 0))]++more,[(1001,.box [.d .str],.same)],k⟩
structure jO(b1 b2 b3:Nat)(p:ByteArray)(dv gv:TypeId)(l k:Nat)(r:B)(M:Array Value)(W:World):Prop where
 size:M.size=k
 dT:M.getD 0 undef=.func (.yield l) #[] #[]
 cV:M.getD 1 undef=.pointer (some ⟨b1,0,none⟩)
 dD:M.getD 2 undef=.pointer (some ⟨b2,0,none⟩)
 dZ:M.getD 3 undef=.pointer (some ⟨b3,0,none⟩)
 h1:W.heap[b1]? =some (.cells #[.string p] dv)
 h2:∃s eW,W.heap[b2]? =some (.cells #[.string s] eW)/\s.data.toList=r
 h3:W.heap[b3]? =some (.cells #[.int .i64 0] gv)
 ly:jg W [b2] fun _=>False
theorem jO.jP{b1 b2 b3:Nat}{p:ByteArray}{dv gv:TypeId}{l k:Nat}{r:B}{M:Array Value}{W:World}(I:jO b1 b2 b3 p dv gv l k r M W)(jt:b1≠b2)(js:b2≠b3){c:UInt8}(hp:p.data.toList=[c]):
  az W [b2] (fun _=>False) (fun _=>.pointer (some ⟨b2,0,none⟩)) ((fF k []).st ((([c],()),((),(((0,()),())))),(((r,()),())))) M W:=by
 obtain⟨s,eW,h2,hs⟩:=I.h2;have xM:b1<W.heap.size:=(Array.getElem?_eq_some_iff.1 I.h1).1;have acu:b2<W.heap.size:=(Array.getElem?_eq_some_iff.1 h2).1;have xL:b3<W.heap.size:=(Array.getElem?_eq_some_iff.1 I.h3).1;have wy:((fF k []).st ((([c],()),((),(((0,()),())))),(((r,()),())))).sites=[(1001,.box 0 [.d (.str r)])]:=rfl;have c9:∀o,cD [(1001,Site.box 0 [.d (.str r)])] o->o=1001:=fun o ⟨s,h,_⟩=>by
  simp only[look] at h;cases hb:Nat.beq 1001 o with
  |true=>exact(ce hb).symm
  |false=>simp[hb] at h
 have cq:∀b,aN (fun _=>False) (fun _=>Value.pointer (some ⟨b2,0,none⟩)) [(1001,Site.box 0 [.d (.str r)])] b->b=b2:=by
  rintro b (h|⟨o,_,h⟩)
  ·exact h.elim
  ·simp only[b0,bH] at h;exact h.symm
 refine⟨I.size,fun t=>?_,fun o ai h=>?_,fun o ae b h1 h2 _ _=>?_,fun o b h1 h2=>?_,Fr.refl _ _,fun b h=>h.elim,I.ly⟩
 ·rw[wy];show cy _ _ _ _ (match look [(1,cf (.eZ [.str [c]] 0)),(2,cf (.ptr 1001 0 0)),(3,cf (.eZ [.int .i64 0] 0))] t with|some v=>v|none=>.av (.aq .any)) _
  simp only[look];by_cases e1:t=1
  ·subst e1;refine⟨b1,0,I.cV,fun h=>jt (cq _ h),xM,[.string p],rfl,fun j u hu=>?_,fun j h an=>?_⟩
   ·match j,hu with
    |0,hu=>cases hu;simp[World.cell?,I.h1]
   ·match j,h,an with
    |0,_,_=>exact .str _ _ hp
  ·by_cases e2:t=2
   ·subst e2;exact⟨b2,I.dD,_,rfl,Nat.le_refl _,fun _=>rfl⟩
   ·by_cases bE:t=3
    ·subst bE;refine⟨b3,0,I.dZ,fun h=>js (cq _ h).symm,xL,[.int .i64 0],rfl,fun j u hu=>?_,fun j h an=>?_⟩
     ·match j,hu with
      |0,hu=>cases hu;simp[World.cell?,I.h3]
     ·match j,h,an with
      |0,_,_=>exact .int _ _
    ·rw[ke (fun e=>e1 e.symm),ke (fun e=>e2 e.symm),ke (fun e=>bE e.symm)]
     trivial
 ·rw[wy] at h ⊢;simp only[look] at h;cases hb:Nat.beq 1001 o with
  |false=>simp[hb] at h
  |true=>
   simp only[hb,ad,bH] at h;subst h;refine⟨b2,eW,[.string s],rfl,h2,rfl,fun u hu=>?_,(fun h=>by cases h),fun j h an=>?_⟩
   ·rw[List.mem_singleton.1 hu];rfl
   ·match j,h,an with
    |0,_,_=>exact bU.str _ _ hs
 ·rw[c9 o h1,c9 ae h2]
 ·simp only[b0,bH] at h2;exact⟨fun h=>h,.inl (by simp[h2])⟩
theorem jO.of{b1 b2 b3:Nat}{p:ByteArray}{dv gv:TypeId}{l k:Nat}{r e4:B}{M ca:Array Value}{W dr:World}(I:jO b1 b2 b3 p dv gv l k r M W)(jt:b1≠b2)(js:b2≠b3){more:List (Nat×fy)}{y:(fF k more).J}{F:Nat->Value}
  {X:Nat->Prop} (S:az W [b2] X F ((fF k more).st y) ca dr) (ay:∀t,t<4->ca.getD t undef=M.getD t undef) (hy:y.2=((e4,()),())):jO b1 b2 b3 p dv gv l k e4 ca dr:=by
 have xM:b1<W.heap.size:=(Array.getElem?_eq_some_iff.1 I.h1).1;have xL:b3<W.heap.size:=(Array.getElem?_eq_some_iff.1 I.h3).1;refine⟨S.nt,(ay 0 (by omega)).trans I.dT,(ay 1 (by omega)).trans I.cV,(ay 2 (by omega)).trans I.dD,(ay 3 (by omega)).trans I.dZ,(S.frame.block b1 xM (by simp[jt])).trans I.h1,?_,(S.frame.block b3 xL (by simp[js.symm])).trans I.h3,⟨S.ly.1,S.fw.Z,fun _ _ h=>h,fun b hb=>(S.ly.2 b hb).2⟩⟩
 have g_:look ((fF k more).st y).sites 1001=some (.box 0 [.d (.str e4)]):=by
  show look (kV (fF k more).sites y.2) 1001=_;rw[hy];rfl
 have jJ:=S.c8 2;have hg:((fF k more).st y).get 2=cf (.ptr 1001 0 0):=rfl;rw[hg] at jJ;obtain⟨b,hb,hr⟩:=jJ;have dd:=Ref.at hr g_ rfl;rw[ay 2 (by omega),I.dD] at hb
 simp only[Value.pointer.injEq,bH,Addr.mk.injEq,and_true] at hb;obtain⟨bS,T,cur,g1,g2,g3,g4,_,g5⟩:=S.sites 1001 _ g_;rw[dd] at g1;simp only[Value.pointer.injEq,bH,Addr.mk.injEq,and_true] at g1;match cur,g3 with
 |[u],_=>
  obtain⟨s,jT,rX⟩:=gX (g5 0 (by simp) (by simp))
  simp only[List.getElem_cons_zero] at jT;subst jT;exact⟨s,T,by rw[hb,g1];exact g2,rX⟩
end
theorem px(c:UInt8)(s:B):bO c s≠[]:=by
 cases s with
 |nil=>simp[bO]
 |cons b r=>
  simp only[bO];cases b==c
  ·simp only[ak];split<;>simp
  ·simp
theorem agt{c:UInt8}{s:B}(h:Lib.indexByte s c<0):bO c s=[s]:=by
 induction s with
 |nil=>rfl
 |cons b r ih=>
  simp only[Lib.indexByte] at h;split at h
  ·omega
  ·rename_i hb;split at h
   ·rename_i h1;have h1:Lib.indexByte r c=-1:=by simpa using h1
    have:=ih (by omega)
    have hb:(b==c)=false:=by simpa using hb
    simp only[bO,hb,ak,this]
   ·rename_i h1;have:=Lib.indexByte_ge r c;have h1:¬Lib.indexByte r c=-1:=by simpa using h1
    omega
theorem ags{c:UInt8}{s:B}(h:0<=Lib.indexByte s c):bO c s=s.take (Lib.indexByte s c).toNat::bO c (s.drop ((Lib.indexByte s c).toNat+1))/\(Lib.indexByte s c).toNat<s.length:=by
 induction s with
 |nil=>simp[Lib.indexByte] at h
 |cons b r ih=>
  simp only[Lib.indexByte] at h ⊢;by_cases hb:(b==c)=true
  ·simp only[hb,if_true] at h ⊢;simp[bO,hb]
  ·have eA:(b==c)=false:=by simpa using hb
   simp only[eA,Bool.false_eq_true,if_false] at h ⊢;by_cases h1:(Lib.indexByte r c==-1)=true
   ·simp only[h1,if_true] at h;omega
   ·have h1':(Lib.indexByte r c==-1)=false:=by simpa using h1
    simp only[h1',Bool.false_eq_true,if_false] at h ⊢;have hge:=Lib.indexByte_ge r c;have h1:¬Lib.indexByte r c=-1:=by simpa using h1
    obtain⟨g1,g2⟩:=ih (by omega)
    have e:(Lib.indexByte r c+1).toNat=(Lib.indexByte r c).toNat+1:=by omega
    rw[e];refine⟨?_,by simp;omega⟩
    simp only[bO,eA,ak,g1,List.take_succ_cons,List.drop_succ_cons]
def lx(k:Nat)(c:UInt8)(r:B):(fF k []).J:=((([c],()),((),((0,()),()))),((r,()),()))
def nW(k:Nat)(c:UInt8)(r:B):ao:=(fF k []).st (lx k c r)
def Dy(k:Nat):Out->Option (fF k []).J
 |.norm st=>(fF k []).ex st
 |_=>none
def Ln(k t7 t8:Nat):Out->Option (Sum (fF k []).J ((Int×B)×(fF k []).J))
 |.norm st=>match st.get t7,st.get t8 with
  |.av (.aq (.d (.int .i64 i))),.av (.aq (.d (.str x)))=>((fF k []).ex st).map fun y=>.inr ((i,x),y)
  |_,_=>none
 |_=>none
noncomputable def xN(C:io)(k t7 t8:Nat)(r7:Code)(p7:Nat):Out->Option (Sum (fF k []).J ((Int×B)×(fF k []).J))
 |.exit id st=>bif Nat.beq id 2 then((fF k []).ex st).map .inl else none
 |.norm st=>exec C r7 p7 st (Ln k t7 t8)
 |_=>none
noncomputable def Dx(C:io)(k t7 t8:Nat)(c6 r7:Code)(p6 p7:Nat):Out->Option (Sum (fF k []).J ((Int×B)×(fF k []).J))
 |.norm st=>exec C c6 p6 st (xN C k t7 t8 r7 p7)
 |_=>none
noncomputable def two(k:Nat)(C:Ctx)(st:ao)(o0 o1:Oper)(a b:Nat):Option ((Value×B)×(fF k []).J):=
 kX C st o0 fun st=>kX C st o1 fun st=>match st.get a,st.get b with
  |.av (.aq (.de v)),.av (.aq (.d (.str x)))=>((fF k []).ex st).map fun y=>((v,x),y)
  |_,_=>none
noncomputable def uh(k:Nat)(C:Ctx)(st:ao)(o3:Oper)(t42:Nat):Option (Bool×(fF k []).J):=
 kX C st o3 fun st=>match st.get t42 with
  |.av (.aq (.d (.bool b)))=>((fF k []).ex st).map fun y=>(b,y)
  |_=>none
section
variable {P:Program}{U:World}{Z:List Nat}{X:Nat->Prop}{F:Nat->Value}{st:ao}{M:Array Value}{w:World}
theorem R_(S:az U Z X F st M w){t:Nat}{k:IntKind}{n:Int}(h:st.get t=.av (.aq (.d (.int k n)))):M.getD t undef=.int k n:=by
 have:=S.c8 t;rw[h] at this;exact iW this
theorem R9(S:az U Z X F st M w){t:Nat}{x:B}(h:st.get t=.av (.aq (.d (.str x)))):∃b,M.getD t undef=.string b/\b.data.toList=x:=by
 have:=S.c8 t;rw[h] at this;exact gX this
theorem Ga(S:az U Z X F st M w){t:Nat}{x:Bool}(h:st.get t=.av (.aq (.d (.bool x)))):M.getD t undef=.bool x:=by
 have:=S.c8 t;rw[h] at this;exact j6 this
theorem akG(S:az U Z X F st M w){t:Nat}{x:Value}(h:st.get t=.av (.aq (.de x))):M.getD t undef=x:=by
 have:=S.c8 t;rw[h] at this;exact this
theorem UJ{C:Ctx}(H:aT P C){k:Nat}{o0 o1:Oper}{a b:Nat}{v:Value}{x:B}{y:(fF k []).J}(h:two k C st o0 o1 a b=some ((v,x),y))(S:az U Z X F st M w){ds:List Deferred}{K:Act->World->Prop}{Q:Exit->Act->World->Prop}
  (b6:∀ca w' jd a_,ca.getD a undef=v->ca.getD b undef=.string jd->jd.data.toList=x->(∀t,t∉o0.dst.toList++o1.dst.toList->ca.getD t undef=M.getD t undef)->
   az U Z X a_ ((fF k []).st y) ca w'->K ⟨ca,ds⟩ w'):o0.wpIn (e8 none) 0 P ⟨M,ds⟩ w (fun c' w'=>o1.wpIn (e8 none) 0 P c' w' K Q) Q:=by
 refine oo S H h fun e7 hh is a' e1 dO n3=>?_
 refine oo dO H e1 fun xC iN qm w2 e2 iC me=>?_
 split at e2
 ·rename_i v' iQ ha hb;obtain⟨y',hy,he⟩:=Option.map_eq_some_iff.1 e2;cases he;obtain⟨jd,g1,g2⟩:=R9 iC hb;obtain⟨ir,jA,_⟩:=Shape.gK iC hy;refine b6 qm w2 jd ir (akG iC ha) g1 g2 (fun t ay=>?_) jA
  simp only[bo,not_or] at ay;rw[me t ay.2,n3 t ay.1]
 ·cases e2
theorem anR{C:Ctx}(H:aT P C){k:Nat}{o3:Oper}{t42:Nat}{b:Bool}{y:(fF k []).J}(h:uh k C st o3 t42=some (b,y))(S:az U Z X F st M w){ds:List Deferred}{K:Act->World->Prop}{Q:Exit->Act->World->Prop}
  (b6:∀ca w' a_,ca.getD t42 undef=.bool b->(∀t,t∉o3.dst.toList->ca.getD t undef=M.getD t undef)->az U Z X a_ ((fF k []).st y) ca w'->K ⟨ca,ds⟩ w'):o3.wpIn (e8 none) 0 P ⟨M,ds⟩ w K Q:=by
 refine oo S H h fun e7 hh is a' e1 dO n3=>?_
 split at e1
 ·rename_i bS hb;obtain⟨y',hy,he⟩:=Option.map_eq_some_iff.1 e1;cases he;obtain⟨ir,jA,_⟩:=Shape.gK dO hy;exact b6 is a' ir (Ga dO hb) n3 jA
 ·cases e1
structure aml(P:Program)(C:io)(cO:FuncId)(fn:Func)(k:Nat)(A r5 c6 r7 r9:Code)(o0 o1 o2 o3 q0 q1 q2:Oper)(pA p5 p6 p7 p9 t7 t8 a1 a2 t41 t42 u1 u2:Nat)(ty D9:Array TypeId):Prop where
 ZR:P.funcs[cO]? =some fn
 nt:fn.ntmps=k
 cU:4<=k
 fH:fn.results=#[]
 ac8:∀args w,(callFunc cO args).run P w=.ok (.enter cO args) w
 body:∃i8 i10,fn.body=some (.seq A (.seq (.block 2 (.loop (.block 3 (.seq r5 (.seq c6 (.seq r7 (.seq (.seq (.region i8 #[o0,o1,o2,o3] false) (.cond (.tmp t42) .ret .skip)) r9))))))) (.region i10 #[q0,q1,q2] false)))
 yt:(hH A&&(hH r5&&(hH c6&&(hH r7&&hH r9))))=true
 wr:fv [0,1,2,3] (cJ A++(cJ r5++(cJ c6++(cJ r7++cJ r9))))=true
 aY:o0.guard=none/\o1.guard=none/\o2.guard=none/\o3.guard=none/\q0.guard=none/\q1.guard=none/\q2.guard=none
 ad8:fv [0,1,2,3,t7] (o0.dst.toList++(o1.dst.toList++(o3.dst.toList++[t41])))=true
 ad7:fv [0,1,2,3] (q0.dst.toList++q1.dst.toList)=true
 d2:o2.dst=some t41
 Li:t41<k
 c2:o2.op=.call {callee:=.value (.tmp a1),args:=#[.tmp a2],argTypes:=ty}
 d5:q2.op=.call {callee:=.value (.tmp u1),args:=#[.tmp u2],argTypes:=D9}
 k7:gL P C A pA/\gL P C r5 p5/\gL P C c6 p6/\gL P C r7 p7/\gL P C r9 p9
 er:∀c r,exec C A pA (nW k c r) (Dy k)=some (lx k c r)
 hB:∀c r,exec C r5 p5 (nW k c r) (Dx C k t7 t8 c6 r7 p6 p7)=bif decide (Lib.indexByte r c<0) then some (.inl (lx k c r)) else(bq r 0 (IntKind.i64.wrap (Lib.indexByte r c+0))).bind fun x=>some (.inr ((Lib.indexByte r c,x),lx k c r))
 bp:∀c r i x v,two k C.toCtx ((((nW k c r).set t7 (one (.int .i64 i))).set t8 (one (.str x))).set 0 (cf (.de v))) o0 o1 a1 a2=some ((v,x),lx k c r)
 h3:∀c r b,uh k C.toCtx ((nW k c r).set t41 (one (.bool b))) o3 t42=some (!b,lx k c r)
 ac5:(kX C.toCtx ⟨[(t41,one (.bool false))],[],k⟩ o3 fun st=>match st.get t42 with|.av (.aq (.d (.bool b)))=>some b|_=>none)=some true
 yA:∀c r i,exec C r9 p9 ((nW k c r).set t7 (one (.int .i64 i))) (Dy k)=(bq r (IntKind.i64.wrap (i+(([c]:B).length:Int))) r.length).bind fun x=>some (lx k c x)
 EZ:∀c r v,two k C.toCtx ((nW k c r).set 0 (cf (.de v))) q0 q1 u1 u2=some ((v,r),lx k c r)
end
end Go.Jk
