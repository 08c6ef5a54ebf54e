/- FnDiskOver: the last complete root is recovered. (part 2 of 7: JkCall3, JkCall4, JkCall5, JkBld, JkCall6, JkDraw1, JkLogic, JkWalk0, JkDraw2, JkDraw3, JkWalk1, JkShape, JkShape2, JkWalk2, JkWalk3, JkWalk4, JkHand, JkHand2, JkLaw0, JkRange, JkRange2, JkIter, JkIte) Conditions: none beyond the statement. -/
import Derived.Test.YthhecoidfjkmeaaGreatDoorZFnDiskOver0
import Derived.RangeFuncRecord
import Derived.Below
import Derived.RangeFuncSeq
import Derived.Orders
import Derived.OrdersIn
import Derived.ControlIn
import Derived.LoopIn
import Derived.RangeFuncCalls
import Derived.RangeFuncLeaves
import Derived.Lib.Bytealg
import Derived.Laws.Externs
import Derived.Lib.LaidTab
import Derived.Lib.ItoaNum
import Derived.Deep.Draws
import Derived.Sort.Grow
import Derived.Deep.Slices
import Derived.ChangeSame
import Derived.Carry
import Derived.ProofKit
import Derived.OpenShut
set_option linter.unusedVariables false
set_option linter.unusedSimpArgs false
namespace Go.Jk
theorem vP(n:Nat)(l:List Nat):gA n l=true <-> n∈l:=by
 induction l with
 |nil=>simp[gA]
 |cons m l ih=>
  simp only[gA,Bool.or_eq_true,ih,bO];constructor
  ·rintro(h|h)
   ·exact .inl (cg h)
   ·exact .inr h
  ·rintro(rfl|h)
   ·exact .inl (Nat.beq_refl n)
   ·exact .inr h
theorem sQ(l:List Nat):gf l=true <-> l.Nodup:=by
 induction l with
 |nil=>simp[gf]
 |cons n l ih=>
  simp only[gf,bC,ih,List.nodup_cons,Bool.not_eq_true'];constructor
  ·rintro⟨h1,h2⟩;exact⟨fun h=>(by rw[(vP n l).2 h] at h1;cases h1),h2⟩
  ·rintro⟨h1,h2⟩;refine⟨?_,h2⟩;cases h:gA n l with
   |false=>rfl
   |true=>exact absurd ((vP n l).1 h) h1
theorem Rt(l m:List Nat):fs l m=true <-> ∀n,n∈l->n∉m:=by
 induction l with
 |nil=>simp[fs]
 |cons n l ih=>
  simp only[fs,bC,ih,Bool.not_eq_true',bO];constructor
  ·rintro⟨h1,h2⟩ k (rfl|hk)
   ·intro h;rw[(vP k m).2 h] at h1;cases h1
   ·exact h2 k hk
  ·intro h;refine⟨?_,fun k hk=>h k (.inr hk)⟩
   cases an:gA n m with
   |false=>rfl
   |true=>exact absurd ((vP n m).1 an) (h n (.inl rfl))
theorem ol{sites us:List (Nat×Site)}{o:Nat}(h:o∉keys us):look (bB sites us) o=look sites o:=by
 induction us generalizing sites with
 |nil=>rfl
 |cons p us ih=>
  obtain⟨n,s⟩:=p;simp only[keys,bO,not_or] at h;simp only[bB];rw[ih h.2,dm];have:¬n=o:=fun e=>h.1 e.symm
  simp[this]
theorem Hh{aD:Type}{us:List (Nat×aD)}{o:Nat}{s:aD}(h:(o,s)∈us):o∈keys us:=by
 induction us with
 |nil=>simp at h
 |cons p us ih=>
  rcases bO.1 h with rfl|h
  ·exact ci
  ·exact cf _ (ih h)
theorem Aj{aD:Type}{us:List (Nat×aD)}{o:Nat}(h:o∈keys us):∃s,(o,s)∈us:=by
 induction us with
 |nil=>simp[keys] at h
 |cons p us ih=>
  obtain⟨n,s⟩:=p;rcases bO.1 h with h|h
  ·exact⟨s,by rw[h];exact ci⟩
  ·obtain⟨aQ,an⟩:=ih h;exact⟨aQ,cf _ an⟩
section
variable {U:World}{Z:List Nat}{X:Nat->Prop}{F:Nat->Value}{st:ao}{M:Array Value}{w:World}
theorem az.arx:∀{us:List (Nat×Site)} {st:ao} {X:Nat->Prop},az U Z X F st M w->hN st.sites us->(keys us).Nodup->
  az U Z (fun b=>X b\/b∈dz F (keys us)) F {st with sites:=bB st.sites us} M w:=by
 intro us;induction us with
 |nil=>intro st X S _ _;exact S.shrink fun b h=>by rcases h with h|h;exact h;simp[keys,dz] at h
 |cons p us ih=>
  obtain⟨o,aQ⟩:=p;intro st X S hg hn;obtain⟨ai,h1,h2,rfl⟩:=hg o aQ ci;simp only[keys,List.nodup_cons] at hn;have dO:=S.kill h1 h2;have iB:=ih dO (fun ae s hm=>by
   obtain⟨t,aI,aJ,bS⟩:=hg ae s (cf _ hm);have:¬o=ae:=fun e=>hn.1 (by rw[e];exact Hh hm)
   exact⟨t,by simp[dm,this,aI],aJ,bS⟩) hn.2
  refine iB.shrink fun b h=>?_
  rcases h with h|h
  ·exact .inl (.inl h)
  ·simp only[keys,dz,List.filterMap_cons] at h;cases hb:bZ (F o) with
   |none=>simp only[hb] at h;exact .inr h
   |some c=>
    simp only[hb,bO] at h;rcases h with rfl|h
    ·exact .inl (.inr rfl)
    ·exact .inr h
structure ki(U:World)(Z:List Nat)(X X':Nat->Prop)(F a_:Nat->Value)(st:ao)(M:Array Value)(w:World)(us:List (Nat×Site)):Prop where
 jQ:az U Z X' a_ {st with sites:=bB st.sites us} M w
 le:∀c,aN X' a_ (bB st.sites us) c->aN X F st.sites c
 go:∀{a v},cy F st.sites w (aN X F st.sites) a v->cy a_ (bB st.sites us) w (aN X' a_ (bB st.sites us)) a v
 same:∀o,o∉keys us->a_ o=F o
theorem ki.nil{X':Nat->Prop}(S:az U Z X F st M w)(h:∀b,X' b->X b):ki U Z X X' F F st M w []:=
 ⟨S.shrink h,fun c hc=>by
  rcases hc with hc|hc
  ·exact .inl (h c hc)
  ·exact .inr hc,fun k=>k.hS (fun c hc=>by
   rcases hc with hc|hc
   ·exact .inl (h c hc)
   ·exact .inr hc) (fun c hc=>(S.shrink h).lt hc),fun _ _=>rfl⟩
theorem ki.trans{dp cO:Nat->Prop}{ho iN:Nat->Value}{us vs:List (Nat×Site)}(A:ki U Z X dp F ho st M w us)(bx:ki U Z dp cO ho iN {st with sites:=bB st.sites us} M w vs):
  ki U Z X cO F iN st M w (us++vs):=by
 refine⟨?_,?_,?_,fun o h=>?_⟩
 ·rw[lH];exact bx.jQ
 ·rw[lH];exact fun c hc=>A.le c (bx.le c hc)
 ·rw[lH];exact fun h=>bx.go (A.go h)
 ·rw[kt,bp,not_or] at h;rw[bx.same o h.2,A.same o h.1]
theorem ki.one{X':Nat->Prop}{n:Nat}{b':Site}{nv:Value}(S:az U Z X F st M w)(gr:∀b,X' b->X b)
  (ei:(∀ai,look st.sites n=some ai->ai.cK<b'.cK)\/(F n=nv/\∀ai,look st.sites n=some ai->ai.cK=b'.cK/\ai.live=false))
  (hb:∀b,bZ nv=some b->X b/\¬X' b/\(b∈Z\/U.heap.size<=b))
  (f_:∀{b_:List (Nat×Site)} {a_:Nat->Value},b_=cI st.sites n b'->a_ n=nv->(∀{a v},cy F st.sites w (aN X F st.sites) a v->cy a_ b_ w (aN X' a_ b_) a v)->
   (∀b,aN X' a_ b_ b->aN X F st.sites b)->kA a_ b_ w (aN X' a_ b_) n b'):
  ki U Z X X' F (fun ae=>if ae=n then nv else F ae) st M w [(n,b')]:=by
 obtain⟨h1,h2,h3⟩:=S.w7 gr ei hb f_;exact⟨h1,h2,h3,fun o h=>by
  simp only[keys,List.mem_singleton] at h;simp[h]⟩
theorem FS{av cz:Nat->Prop}{l:aU}{v:Value}{sites:List (Nat×Site)}(hf:∀t xs,l≠.fresh t xs)(h:eu mN [] w av l v)(hle:∀b,cz b->av b)(hlt:∀b,cz b->b<w.heap.size):eu F sites w cz l v:=by
 have hS:∀{d:bk} {v:Value},bT w av d v->bT w cz d v:=fun h=>cy.hS (F:=F) (sites:=[]) (a:=one _) hle hlt h
 cases l with
 |d x=>exact hS h
 |nil t=>exact h
 |own o s=>obtain⟨_,_,h,_⟩:=h;cases h
 |ptr o s off=>obtain⟨_,_,_,h,_⟩:=h;cases h
 |eV cells off=>
  obtain⟨b,D,h1,h2,h3,cs,aF,bo,cp⟩:=h;exact⟨b,D,h1,fun hx=>h2 (hle b hx),h3,cs,aF,bo,fun j g1 g2=>hS (cp j g1 g2)⟩
 |fm o s t k off=>obtain⟨_,_,_,h,_⟩:=h;cases h
 |clo g bM=>
  obtain⟨vs,h1,h2,h3⟩:=h;match bM,vs,h2 with
  |[],[],_=>exact⟨[],h1,rfl,fun i h=>by simp at h⟩
  |c::bM,v::vs,_=>obtain⟨_,h,_⟩:=h3 0 (by simp) (by simp);cases h
 |dd u=>exact h
 |fresh t xs=>exact absurd rfl (hf t xs)
 |dN=>trivial
 |any=>trivial
theorem cM.go{a_:Nat->Value}{sites b_:List (Nat×Site)}{w':World}{av cz:Nat->Prop}(go:∀{a:bb} {v:Value},cy F sites w av a v->cy a_ b_ w' cz a v){al:List aU}{vs:List Value}
  (h:cM F sites w av al vs):cM a_ b_ w' cz al vs:=Cr go h
structure Left(U:World)(Z:List Nat)(X:Nat->Prop)(F:Nat->Value)(st:ao)(av:Nat->Prop)(bs:List Nat):Prop where
 nodup:bs.Nodup
 cF:∀b,b∈bs->¬X b/\(b∈Z\/U.heap.size<=b)
 le:∀c,aN (fun b=>X b\/b∈bs) F st.sites c->av c
def l0(bL:ao)(sites:List (Nat×Site))(gI:List Nat):Prop:=∀m,m∈gI->∀ai,look sites m=some ai->ai.cK<bG bL m
theorem l0.step{bL:ao}{sites us:List (Nat×Site)}{gI:List Nat}(h:l0 bL sites gI)(aa:∀n,n∈keys us->n∉gI):l0 bL (bB sites us) gI:=by
 intro m hm ai hs;rw[ol (fun an=>aa m an hm)] at hs
 exact h m hm ai hs
theorem agF{u:Bool}{e:TypeId}{s:Nat}{v:Value}{n:Nat}{cs:List Value}(h:rowAt w u e s v n cs):v.oneCell'=true:=by
 rcases h.2 with⟨h,_⟩|⟨g,cap,cur,fz,h,_⟩<;>rw[h]<;>rfl
theorem S4{av:Nat->Prop}(bL:ao):∀(al:List aU) (n:Nat) {F:Nat->Value} {st:ao} {vs:List Value} {bs rest:List Nat},az U Z (fun b=>X b\/b∈bs++rest) F st M w->l1 w av al vs bs->
  Left U Z X F st av (bs++rest)->l0 bL st.sites (keys (take bL n al).2)->(keys (take bL n al).2).Nodup->
  ∃a_,ki U Z (fun b=>X b\/b∈bs++rest) (fun b=>X b\/b∈rest) F a_ st M w (take bL n al).2/\cM a_ (bB st.sites (take bL n al).2) w (aN (fun b=>X b\/b∈rest) a_ (bB st.sites (take bL n al).2)) (take bL n al).1 vs/\
   Left U Z X a_ {st with sites:=bB st.sites (take bL n al).2} av rest:=by
 intro al;induction al with
 |nil=>
  intro n F st vs bs rest S h L e4 aa;match vs,h with
  |[],h=>
   have h:bs=[]:=h;subst h;exact⟨F,.nil S (fun b hb=>hb),.nil,L⟩
 |cons l al ih=>
  intro n F st vs bs rest S h L e4 aa;match vs,h with
  |v::vs,⟨b1,b2,eQ,h1,h2⟩=>
   subst eQ;by_cases hf:∃t xs,l=.fresh t xs
   ·obtain⟨t,xs,rfl⟩:=hf;obtain⟨hb1,e,cs,aP,hr⟩:=h1;simp only[take,keys,List.nodup_cons] at aa e4;have lm:=L.nodup;rw[List.append_assoc,hb1] at lm;have dw:ki U Z (fun b=>X b\/b∈b1++b2++rest) (fun b=>X b\/b∈b2++rest) F (fun ae=>if ae=n then v else F ae) st M w [(n,.row (bG bL n) t xs)]:=by
     refine .one S (fun b hb=>?_) (.inl fun ai hs=>e4 n ci ai hs) (fun b hb=>?_) (fun gm kI go le=>?_)
     ·rcases hb with hb|hb
      ·exact .inl hb
      ·exact .inr (by rw[List.append_assoc];exact bp.2 (.inr hb))
     ·have hm:b∈b1:=by rw[hb1,hb];simp
      have nb:b∈b1++b2++rest:=by rw[List.append_assoc];exact bp.2 (.inl hm)
      refine⟨.inr nb,?_,(L.cF b nb).2⟩;rintro(hx|hx)
      ·exact(L.cF b nb).1 hx
      ·rw[hb] at lm;simp only[Option.toList_some,List.singleton_append,List.nodup_cons] at lm;exact lm.1 hx
     ·refine⟨e,cs,by rw[kI];exact aP,fun j g1 g2=>?_⟩
      have k:=hr.2 j g1 g2;have hle:∀b,aN (fun b=>X b\/b∈b2++rest) _ _ b->av b:=fun b hb=>L.le b (le b hb)
      exact cy.hS (F:=F) (sites:=[]) (a:=one _) hle (fun b hb=>S.lt (le b hb)) k
    have sK:Left U Z X (fun ae=>if ae=n then v else F ae) {st with sites:=bB st.sites [(n,.row (bG bL n) t xs)]} av (b2++rest):=by
     refine⟨(List.nodup_append.1 (by rw[List.append_assoc] at L;exact L.nodup)).2.1,fun b hb=>L.cF b (by rw[List.append_assoc];exact bp.2 (.inr hb)),fun c hc=>L.le c (dw.le c hc)⟩
    obtain⟨a_,eT,h3,aF⟩:=ih (n+1) (st:={st with sites:=bB st.sites [(n,.row (bG bL n) t xs)]}) dw.jQ h2 sK
     (l0.step (us:=[(n,.row (bG bL n) t xs)]) (fun m hm=>e4 m (cf _ hm)) (fun m hm=>by simp only[keys,List.mem_singleton] at hm;subst hm;exact aa.1)) aa.2
    refine⟨a_,dw.trans eT,?_,aF⟩;refine cM.cons ?_ h3;have:eu (fun ae=>if ae=n then v else F ae) (bB st.sites [(n,.row (bG bL n) t xs)]) w (aN (fun b=>X b\/b∈b2++rest) (fun ae=>if ae=n then v else F ae) (bB st.sites [(n,.row (bG bL n) t xs)])) (.own n (bG bL n)) v:=
     ⟨agF aP,Ref.mk (ai:=.row (bG bL n) t xs) (by simp[bB,dm]) rfl (by simp)⟩
    exact eT.go (a:=ch (.own n (bG bL n))) (v:=v) this
   ·have M4:∀t xs,l≠.fresh t xs:=fun t xs h=>hf ⟨t,xs,h⟩
    have arT:take bL n (l::al)=(l::(take bL (n+1) al).1,(take bL (n+1) al).2):=by
     cases l<;>first|rfl|exact absurd rfl (M4 _ _)
    have h1':b1=[]/\eu mN [] w av l v:=by
     cases l<;>first|exact h1|exact absurd rfl (M4 _ _)
    obtain⟨rfl,h1'⟩:=h1';rw[arT] at aa e4 ⊢;simp only[List.nil_append] at S L ⊢;obtain⟨a_,eT,h3,aF⟩:=ih (n+1) S h2 L e4 aa;refine⟨a_,eT,?_,aF⟩;refine cM.cons ?_ h3;exact FS M4 h1' (fun b hb=>L.le b (eT.le b hb)) (fun b hb=>eT.jQ.lt hb)
end
section
variable {U:World}{Z:List Nat}{X:Nat->Prop}{F:Nat->Value}{st:ao}{M:Array Value}{w:World}
def p'(F:Nat->Value)(sites:List (Nat×Site))(w:World)(av:Nat->Prop)(as:List b4)(vs:List Value):Prop:=
 vs.length=as.length/\∀j (h:j<as.length) (an:j<vs.length),hT F sites w av (as[j]) (vs[j])
theorem p'.cons{sites:List (Nat×Site)}{av:Nat->Prop}{a:b4}{as:List b4}{v:Value}{vs:List Value}(h:hT F sites w av a v)(hs:p' F sites w av as vs):p' F sites w av (a::as) (v::vs):=
 ⟨by simp[hs.1],fun j h1 h2=>by
  cases j with
  |zero=>exact h
  |succ j=>exact hs.2 j (by simpa using h1) (by simpa using h2)⟩
theorem Left.rest{av:Nat->Prop}{a b:List Nat}(L:Left U Z X F st av (a++b)){a_:Nat->Value}{au:ao}(h:∀c,aN (fun c=>X c\/c∈b) a_ au.sites c->aN (fun c=>X c\/c∈a++b) F st.sites c):Left U Z X a_ au av b:=
 ⟨(List.nodup_append.1 L.nodup).2.1,fun c hc=>L.cF c (bp.2 (.inr hc)),fun c hc=>L.le c (h c hc)⟩
theorem aiE{bL:ao}{n:Nat}{al:List aU}(h:(take bL n al).1.head?=some .dN):al.head?=some .dN:=by
 cases al with
 |nil=>cases h
 |cons l al=>cases l<;>first|exact h|cases h
theorem take_one(bL:ao)(n:Nat)(l:aU):∃gW,(take bL n [l]).1=[gW]:=by cases l<;>exact⟨_,rfl⟩
theorem akv{av:Nat->Prop}(bL:ao):∀(as:List b4) (n:Nat) {F:Nat->Value} {st:ao} {vs:List Value} {bs rest:List Nat},az U Z (fun b=>X b\/b∈bs++rest) F st M w->lS w av as vs bs->
  Left U Z X F st av (bs++rest)->l0 bL st.sites (keys (ez bL n as).2)->(keys (ez bL n as).2).Nodup->
  ∃a_,ki U Z (fun b=>X b\/b∈bs++rest) (fun b=>X b\/b∈rest) F a_ st M w (ez bL n as).2/\p' a_ (bB st.sites (ez bL n as).2) w (aN (fun b=>X b\/b∈rest) a_ (bB st.sites (ez bL n as).2)) (ez bL n as).1 vs/\
   Left U Z X a_ {st with sites:=bB st.sites (ez bL n as).2} av rest:=by
 intro as;induction as with
 |nil=>
  intro n F st vs bs rest S h L e4 aa;match vs,h with
  |[],h=>
   have h:bs=[]:=h;subst h;exact⟨F,.nil S (fun b hb=>hb),⟨rfl,fun j h=>by simp[ez] at h⟩,L⟩
 |cons a as ih=>
  intro n F st vs bs rest S h L e4 aa;match vs,h with
  |v::vs,⟨b1,b2,eQ,h1,h2⟩=>
   subst eQ;have go:∀(al:List aU) (us:List Value),l1 w av al us b1->(ez bL n (a::as)).2=(take bL n al).2++(ez bL (n+100) as).2->
     ∃a_,ki U Z (fun b=>X b\/b∈b1++b2++rest) (fun b=>X b\/b∈rest) F a_ st M w (ez bL n (a::as)).2/\cM a_ (bB st.sites (ez bL n (a::as)).2) w (aN (fun b=>X b\/b∈rest) a_ (bB st.sites (ez bL n (a::as)).2)) (take bL n al).1 us/\
      p' a_ (bB st.sites (ez bL n (a::as)).2) w (aN (fun b=>X b\/b∈rest) a_ (bB st.sites (ez bL n (a::as)).2)) (ez bL (n+100) as).1 vs/\Left U Z X a_ {st with sites:=bB st.sites (ez bL n (a::as)).2} av rest:=by
    intro al us bU e;rw[e] at e4 aa ⊢;rw[kt] at e4 aa;obtain⟨d1,d2,d3⟩:=List.nodup_append.1 aa;rw[List.append_assoc] at S L ⊢;obtain⟨ho,dw,aI,sK⟩:=S4 bL al n S bU L (fun m hm=>e4 m (bp.2 (.inl hm))) d1
    obtain⟨iN,eT,aJ,vk⟩:=ih (n+100) (st:={st with sites:=bB st.sites (take bL n al).2}) dw.jQ h2 sK
     (l0.step (fun m hm=>e4 m (bp.2 (.inr hm))) (fun m hm nb=>d3 m hm m nb rfl)) d2
    refine⟨iN,dw.trans eT,?_,?_,?_⟩
    ·rw[lH];exact aI.go eT.go
    ·rw[lH];exact aJ
    ·rw[lH];exact vk
   cases a with
   |aq l=>
    have h1:nL w av l v b1:=h1;obtain⟨a_,T,aI,aJ,bS⟩:=go [l] [v] ⟨b1,[],by simp,h1,rfl⟩ rfl
    refine⟨a_,T,?_,bS⟩;obtain⟨gW,gT⟩:=take_one bL n l;have:(ez bL n (b4.aq l::as)).1=b4.aq gW::(ez bL (n+100) as).1:=by simp only[ez,gT]
    rw[this];refine p'.cons ?_ aJ;rw[gT] at aI;exact aI.2 0 (by simp) (by simp)
   |agg al=>
    obtain⟨us,e,h1⟩:=h1;obtain⟨a_,T,aI,aJ,bS⟩:=go al us h1 rfl;refine⟨a_,T,?_,bS⟩;have:(ez bL n (b4.agg al::as)).1=b4.agg (take bL n al).1::(ez bL (n+100) as).1:=rfl;rw[this];exact p'.cons ⟨us,e,aI.1,aI.2⟩ aJ
def ob(F:Nat->Value):List (Nat×Nat)->List Nat->Prop
 |[],[]=>True
 |p::r,b::dT=>F p.1=.pointer (some ⟨b,0,none⟩)/\ob F r dT
 |_,_=>False
theorem ob.of:∀{boxes:List (Nat×Nat)},(∀o s,(o,s)∈boxes->∃b,F o=.pointer (some ⟨b,0,none⟩))->ob F boxes (dz F (keys boxes)):=by
 intro boxes;induction boxes with
 |nil=>intro _;trivial
 |cons q boxes ih=>
  obtain⟨ρ,r⟩:=q;intro h;obtain⟨c,hc⟩:=h ρ r ci;have:=ih fun o s hm=>h o s (cf _ hm)
  have e:dz F (keys ((ρ,r)::boxes))=c::dz F (keys boxes):=by simp[dz,keys,hc,bZ]
  rw[e];exact⟨hc,this⟩
theorem ob.congr{a_:Nat->Value}:∀{boxes:List (Nat×Nat)} {dT:List Nat},ob F boxes dT->(∀ae,ae∈keys boxes->a_ ae=F ae)->ob a_ boxes dT:=by
 intro boxes;induction boxes with
 |nil=>
  intro dT h _;match dT,h with
  |[],_=>trivial
 |cons q boxes ih=>
  intro dT h an;match dT,h with
  |b::dT,⟨h1,h2⟩=>exact⟨by rw[an q.1 ci];exact h1,ih h2 fun ae b6=>an ae (cf _ b6)⟩
theorem PO{av:Nat->Prop}{bL:ao}{ae:Nat}:∀{boxes:List (Nat×Nat)} {c9:List (List aU)} {dT bs:List Nat},ob F boxes dT->jI w av dT c9 bs->ae∈keys boxes->ae∈keys (hL bL boxes c9):=by
 intro boxes;induction boxes with
 |nil=>intro c9 dT bs _ _ h;simp[keys] at h
 |cons q boxes ih=>
  obtain⟨ρ,r⟩:=q;intro c9 dT bs hl bU hm;match dT,c9,hl,bU with
  |c::dT,cs::c9,⟨_,hl⟩,⟨_,_,_,_,bU⟩=>
   simp only[hL,kt,keys,bp,bO];rcases bO.1 hm with rfl|hm
   ·exact .inr (.inl rfl)
   ·exact .inr (.inr (ih hl bU hm))
theorem RR{av:Nat->Prop}(bL:ao):∀(boxes:List (Nat×Nat)) {c9:List (List aU)} {F:Nat->Value} {st:ao} {dT bs rest:List Nat},az U Z (fun b=>X b\/b∈bs++rest) F st M w->ob F boxes dT->jI w av dT c9 bs->
  (∀o s,(o,s)∈boxes->look st.sites o=some (.dead s))->
  Left U Z X F st av (bs++rest)->l0 bL st.sites (keys (hL bL boxes c9))->(keys (hL bL boxes c9)).Nodup->
  ∃a_,ki U Z (fun b=>X b\/b∈bs++rest) (fun b=>X b\/b∈rest) F a_ st M w (hL bL boxes c9)/\Left U Z X a_ {st with sites:=bB st.sites (hL bL boxes c9)} av rest:=by
 intro boxes;induction boxes with
 |nil=>
  intro c9 F st dT bs rest S fh h hB L e4 aa;match dT,c9,fh,h with
  |[],[],_,h=>
   have h:bs=[]:=h;subst h;exact⟨F,.nil S (fun b hb=>hb),L⟩
 |cons p boxes ih=>
  obtain⟨o,s⟩:=p;intro c9 F st dT bs rest S fh h hB L e4 aa;have bH:=hB o s ci;match dT,c9,fh,h with
  |b::dT,cs::c9,⟨hb,fh⟩,⟨b1,b2,eQ,⟨T,cur,qD,e1,e2,bz,dn⟩,h2⟩=>
   subst eQ e1;have hb:F o=.pointer (some ⟨b,0,none⟩):=hb;have sC:hL bL ((o,s)::boxes) (cs::c9)=(take bL (1000000+o*100) cs).2++([(o,Site.box s (take bL (1000000+o*100) cs).1)]++hL bL boxes c9):=rfl;rw[sC] at e4 aa ⊢;rw[kt,kt] at e4 aa;obtain⟨d1,d2,d3⟩:=List.nodup_append.1 aa;obtain⟨d4,d5,d6⟩:=List.nodup_append.1 d2;have De:∀c,c∈b::qD++b2++rest <-> c∈qD++(b::(b2++rest)):=by intro c;simp[or_assoc,or_left_comm]
   have azZ:=L.nodup;have dO:az U Z (fun c=>X c\/c∈qD++(b::(b2++rest))) F st M w:=S.shrink fun c hc=>hc.imp id (De c).2
   have sK:Left U Z X F st av (qD++(b::(b2++rest))):=by
    refine⟨?_,fun c hc=>L.cF c ((De c).2 hc),fun c hc=>L.le c ?_⟩
    ·have:List.Perm (b::qD++b2++rest) (qD++(b::(b2++rest))):=by
      simp only[List.cons_append,List.append_assoc];exact List.perm_middle.symm
     exact this.nodup_iff.1 azZ
    ·rcases hc with hc|hc
     ·exact .inl (hc.imp id (De c).2)
     ·exact .inr hc
   obtain⟨ho,dw,aI,vk⟩:=S4 bL cs (1000000+o*100) dO dn.2 sK (fun m hm=>e4 m (bp.2 (.inl hm))) d1
   have ZT:o∉keys (take bL (1000000+o*100) cs).2:=fun h=>d3 o h o (by simp[keys]) rfl
   have Lp:ho o=F o:=dw.same o ZT;have hX:look (bB st.sites (take bL (1000000+o*100) cs).2) o=some (.dead s):=by rw[ol ZT,bH]
   have ac5:=vk.nodup;simp only[List.nodup_cons] at ac5;have eT:ki U Z (fun c=>X c\/c∈b::(b2++rest)) (fun c=>X c\/c∈b2++rest) ho (fun ae=>if ae=o then F o else ho ae) {st with sites:=bB st.sites (take bL (1000000+o*100) cs).2} M w [(o,Site.box s (take bL (1000000+o*100) cs).1)]:=by
    refine .one dw.jQ (fun c hc=>hc.imp id (cf _)) (.inr ⟨Lp,fun ai hs=>?_⟩) (fun c hc=>?_) (fun gm kI go le=>?_)
    ·have hs:look (bB st.sites (take bL (1000000+o*100) cs).2) o=some ai:=hs;rw[hX] at hs;cases hs;exact⟨rfl,rfl⟩
    ·rw[hb] at hc;cases hc;refine⟨.inr ci,?_,(vk.cF b ci).2⟩;rintro(hx|hx)
     ·exact(vk.cF b ci).1 hx
     ·exact ac5.1 hx
    ·have:=Cr go aI;exact⟨b,T,cur,by rw[kI,hb],e2,this.1,bz,fun bU=>dn.1 (aiE bU),this.2⟩
   have Oz:Left U Z X (fun ae=>if ae=o then F o else ho ae) {st with sites:=bB (bB st.sites (take bL (1000000+o*100) cs).2) [(o,Site.box s (take bL (1000000+o*100) cs).1)]} av (b2++rest):=
    Left.rest (a:=[b]) (st:={st with sites:=bB st.sites (take bL (1000000+o*100) cs).2}) vk eT.le
   have hbk:∀ae,ae∈keys boxes->(fun ae=>if ae=o then F o else ho ae) ae=F ae:=by
    intro ae b6;have hk:=PO (bL:=bL) fh h2 b6;by_cases e:ae=o
    ·subst e;simp
    ·simp only[e,if_false];exact dw.same ae fun hm=>d3 ae hm ae (bp.2 (.inr hk)) rfl
   obtain⟨a_,gu,Oy⟩:=ih (st:={st with sites:=bB (bB st.sites (take bL (1000000+o*100) cs).2) [(o,Site.box s (take bL (1000000+o*100) cs).1)]}) eT.jQ (fh.congr hbk) h2
    (fun ae r hm=>by
     have hk:=PO (bL:=bL) fh h2 (Hh hm);show look (bB (bB st.sites _) _) ae=_;rw[ol (fun h=>d6 ae h ae hk rfl),ol (fun h=>d3 ae h ae (bp.2 (.inr hk)) rfl)]
     exact hB ae r (cf _ hm))
    Oz
    (l0.step (l0.step (fun m hm=>e4 m (bp.2 (.inr (bp.2 (.inr hm))))) (fun m hm nb=>d3 m hm m (bp.2 (.inr nb)) rfl)) (fun m hm nb=>d6 m hm m nb rfl)) d5
   refine⟨a_,?_,?_⟩
   ·have azO:=dw.trans eT;have Ot:ki U Z (fun c=>X c\/c∈b::qD++b2++rest) (fun c=>X c\/c∈qD++(b::(b2++rest))) F F st M w []:=.nil S fun c hc=>hc.imp id (De c).2
    have auC:=Ot.trans (vs:=(take bL (1000000+o*100) cs).2++[(o,Site.box s (take bL (1000000+o*100) cs).1)]) azO;have:=auC.trans (vs:=hL bL boxes c9) (by simpa only[List.nil_append,lH] using gu)
    simpa only[List.nil_append,List.append_assoc] using this
   ·simpa only[lH] using Oy
end
theorem Fm{us:List (Nat×Site)}:∀{sites:List (Nat×Site)} {o:Nat} {s:Site},(keys us).Nodup->(o,s)∈us->look (bB sites us) o=some s:=by
 induction us with
 |nil=>intro sites o s _ h;simp at h
 |cons p us ih=>
  obtain⟨n,aQ⟩:=p;intro sites o s hn hm;simp only[keys,List.nodup_cons] at hn;simp only[bB];rcases bO.1 hm with hm|hm
  ·cases hm;rw[ol hn.1,dm];simp
  ·exact ih hn.2 hm
section plain
variable {w:World}{av cz:Nat->Prop}
theorem Ss{d:bk}{v:Value}(h:aU.pQ (.d d)=false)(r:bT w av d v):bT w cz d v:=by
 cases r with
 |int k n=>exact .int k n
 |bool b=>exact .bool b
 |str l s hs=>exact .str l s hs
 |nil t=>cases h
 |sl=>cases h
 |fn=>cases h
 |xh=>cases h
 |map=>cases h
 |xt T=>exact .xt T
 |err T n=>exact .err T n
theorem ajU{t:bi}(h:t.pQ=false)(x:den t):∀d,d∈enc t x->aU.pQ (.d d)=false:=by
 cases t<;>first|(cases h;done)|(intro d aa;simp only[enc,bO,List.not_mem_nil,or_false] at aa;(rcases aa with rfl|rfl|rfl|rfl|rfl);all_goals rfl)|skip
 all_goals(intro d aa;simp only[enc,bO,List.not_mem_nil,or_false] at aa)
 all_goals first|(subst aa;rfl)|(rcases aa with rfl|rfl<;>rfl)|(rcases aa with rfl|rfl|rfl<;>rfl)|(rcases aa with rfl|rfl|rfl|rfl<;>rfl)
theorem aiX{t:bi}{xs:List (den t)}{cs:List Value}(h:t.pQ=false)(r:dj w av (flat t xs) cs):dj w cz (flat t xs) cs:=by
 refine⟨r.1,fun j g1 g2=>Ss ?_ (r.2 j g1 g2)⟩
 have hm:(flat t xs)[j]∈flat t xs:=List.getElem_mem g1;simp only[flat,List.mem_flatMap] at hm;obtain⟨x,_,hx⟩:=hm;exact ajU h x _ hx
theorem Pz{l:aU}{v:Value}{bs:List Nat}(h:l.pQ=false)(k:nL w av l v bs):nL w cz l v bs:=by
 cases l with
 |d x=>exact⟨k.1,Ss h k.2⟩
 |fresh t xs=>
  obtain⟨h1,e,cs,h2,h3⟩:=k;exact⟨h1,e,cs,h2,aiX h h3⟩
 |dd v=>exact k
 |dN=>exact k
 |_=>cases h
theorem Px:∀{al:List aU} {vs:List Value} {bs:List Nat},s3 al=false->l1 w av al vs bs->l1 w cz al vs bs:=by
 intro al;induction al with
 |nil=>
  intro vs bs _ k;match vs,k with
  |[],k=>exact k
 |cons l al ih=>
  intro vs bs h k;simp only[s3,Bool.or_eq_false_iff] at h;match vs,k with
  |v::vs,⟨b1,b2,aI,aJ,bS⟩=>exact⟨b1,b2,aI,Pz h.1 aJ,ih h.2 bS⟩
theorem af6:∀{as:List b4} {vs:List Value} {bs:List Nat},sU as=false->lS w av as vs bs->lS w cz as vs bs:=by
 intro as;induction as with
 |nil=>
  intro vs bs _ k;match vs,k with
  |[],k=>exact k
 |cons a as ih=>
  intro vs bs h k;simp only[sU,Bool.or_eq_false_iff] at h;match vs,k with
  |v::vs,⟨b1,b2,aI,aJ,bS⟩=>
   refine⟨b1,b2,aI,?_,ih h.2 bS⟩;cases a with
   |aq l=>
    have h1:=h.1;simp only[b4.cells,s3,Bool.or_false] at h1;exact Pz h1 aJ
   |agg al=>
    obtain⟨us,e,aJ⟩:=aJ;exact⟨us,e,Px h.1 aJ⟩
theorem af5:∀{c9:List (List aU)} {dT bs:List Nat},sT c9=false->jI w av dT c9 bs->jI w cz dT c9 bs:=by
 intro c9;induction c9 with
 |nil=>
  intro dT bs _ k;match dT,k with
  |[],k=>exact k
 |cons a as ih=>
  intro dT bs h k;simp only[sT,Bool.or_eq_false_iff] at h;match dT,k with
  |b::dT,⟨b1,b2,aI,⟨T,cur,pf,e1,e2,bz,dn,e5⟩,bS⟩=>
   exact⟨b1,b2,aI,⟨T,cur,pf,e1,e2,bz,dn,Px h.1 e5⟩,ih h.2 bS⟩
theorem SH{l:aU}{v:Value}{bs:List Nat}(k:nL w av l v bs):∀b,b∈bs->b<w.heap.size:=by
 cases l with
 |fresh t xs=>
  obtain⟨h1,e,cs,h2,h3⟩:=k;intro b hb;rw[h1] at hb;rcases h2.2 with⟨h,_⟩|⟨g,cap,cur,fz,h,_,hg,_⟩
  ·rw[h] at hb;simp[bZ] at hb
  ·rw[h] at hb;simp[bZ] at hb;subst hb;exact(Array.getElem?_eq_some_iff.1 hg).1
 |_=>intro b hb;rw[k.1] at hb;simp at hb
theorem SG:∀{al:List aU} {vs:List Value} {bs:List Nat},l1 w av al vs bs->∀b,b∈bs->b<w.heap.size:=by
 intro al;induction al with
 |nil=>
  intro vs bs k;match vs,k with
  |[],k=>have k:bs=[]:=k;intro b hb;rw[k] at hb;simp at hb
 |cons l al ih=>
  intro vs bs k;match vs,k with
  |v::vs,⟨b1,b2,aI,aJ,bS⟩=>
   intro b hb;rw[aI] at hb;rcases bp.1 hb with hb|hb
   ·exact SH aJ b hb
   ·exact ih bS b hb
theorem ajM:∀{as:List b4} {vs:List Value} {bs:List Nat},lS w av as vs bs->∀b,b∈bs->b<w.heap.size:=by
 intro as;induction as with
 |nil=>
  intro vs bs k;match vs,k with
  |[],k=>have k:bs=[]:=k;intro b hb;rw[k] at hb;simp at hb
 |cons a as ih=>
  intro vs bs k;match vs,k with
  |v::vs,⟨b1,b2,aI,aJ,bS⟩=>
   intro b hb;rw[aI] at hb;rcases bp.1 hb with hb|hb
   ·cases a with
    |aq l=>exact SH (show nL w av l v b1 from aJ) b hb
    |agg al=>obtain⟨us,e,aJ⟩:=aJ;exact SG aJ b hb
   ·exact ih bS b hb
theorem Rk:∀{c9:List (List aU)} {dT bs:List Nat},jI w av dT c9 bs->∀b,b∈bs->b<w.heap.size:=by
 intro c9;induction c9 with
 |nil=>
  intro dT bs k;match dT,k with
  |[],k=>have k:bs=[]:=k;intro b hb;rw[k] at hb;simp at hb
 |cons a as ih=>
  intro dT bs k;match dT,k with
  |c::dT,⟨b1,b2,aI,⟨T,cur,pf,e1,e2,bz,_,dn⟩,bS⟩=>
   intro b hb;rw[aI] at hb;rcases bp.1 hb with hb|hb
   ·rw[e1] at hb;rcases bO.1 hb with rfl|hb
    ·exact(Array.getElem?_eq_some_iff.1 e2).1
    ·exact SG dn b hb
   ·exact ih bS b hb
end plain
section
variable {P:Program}{U:World}{Z:List Nat}{X:Nat->Prop}{F:Nat->Value}{st:ao}{M:Array Value}{w:World}{D:Oper}
theorem om{gI:List Nat}{b:Nat}:b∈dz F gI <-> ∃o,o∈gI/\bZ (F o)=some b:=by simp[dz]
theorem O9(S:az U Z X F st M w):∀{gI:List Nat},gI.Nodup->(∀o,o∈gI->cD st.sites o)->(dz F gI).Nodup:=by
 intro gI;induction gI with
 |nil=>intro _ _;exact List.nodup_nil
 |cons o gI ih=>
  intro hn hl;rw[List.nodup_cons] at hn;have:=ih hn.2 fun ae b6=>hl ae (cf _ b6)
  simp only[dz,List.filterMap_cons] at this ⊢;cases hb:bZ (F o) with
  |none=>simpa using this
  |some b=>
   simp only[List.nodup_cons];refine⟨fun hm=>?_,this⟩
   obtain⟨ae,h1,h2⟩:=om.1 hm;have:=S.eB o ae b (hl o ci) (hl ae (cf _ h1)) hb h2;subst this;exact hn.1 h1
structure auF(U:World)(Z:List Nat)(X:Nat->Prop)(F:Nat->Value)(st:ao)(M:Array Value)(w:World)(a:kM)(vs:List Value):Prop where
 fz:eh st.sites a.fe
 lb:∀o,o∈a.gx->cD st.sites o
 oh:hN st.sites a.gone
 arg:∀av,fW U Z X F st M w a.fe a.gx av->jE w av a.as vs (dz F (keys a.gone))
 dT:ep a.as vs=dz F (keys a.boxes)
 fN:∀o s,(o,s)∈a.boxes->(o,.dead s)∈a.gone/\∃b,F o=.pointer (some ⟨b,0,none⟩)
theorem PC{us:List (Nat×Site)}{sites:List (Nat×Site)}(aW:eh sites us){o:Nat}(h:cD (bB sites us) o):cD sites o:=by
 obtain⟨ai,h1,h2⟩:=h;rcases ms aW o with h|⟨s,t,xs,aF,bo⟩
 ·exact⟨ai,h▸h1,h2⟩
 ·rw[bo] at h1;cases h1;cases h2
theorem ama(S:az U Z X F st M w){g:FuncId}{aA:aH}(eZ:aE P g aA){a:kM}{vs:List Value}(A:auF U Z X F st M w a vs){d:Nat}(aa:cE st D.dst=true)
  (dM:(execOp (Act.eval ⟨M,[]⟩) D).run P w=(callFunc g vs.toArray).run P w):Holds (p_ d st aA a) (c4 P U Z X st M w D):=by
 intro y hy hc;simp only[p_] at y hy hc ⊢;simp only[bC] at hc;obtain⟨⟨⟨⟨c1,c2⟩,c3⟩,dv⟩,hA⟩:=hc;rw[sQ] at c1 c3;rw[Rt] at c2 dv;have sW:∀o,o∈keys a.gone->cD st.sites o:=fun o bH=>by
  obtain⟨s,hs⟩:=Aj bH;obtain⟨ai,h1,h2,_⟩:=A.oh o s hs;exact⟨ai,h1,h2⟩
 have Rg:∀o,o∈keys a.gone->o∉keys a.fe:=fun o h1 h2=>c2 o (bp.2 (.inl h2)) h1
 have aBJ:∃X':Nat->Prop,∀b,X' b <-> (aN X F (bB st.sites a.fe) b/\b∉dz F (keys a.gone)/\∀o,o∈a.gx->bZ (F o)≠some b):=⟨_,fun b=>Iff.rfl⟩
 obtain⟨X',uY⟩:=aBJ;have dX:fW U Z X F st M w a.fe a.gx (fun b=>X' b\/b∈dz F (keys a.gone)):=by
  refine⟨⟨S,A.fz⟩,fun b hb=>?_,fun o bH b hb hx=>?_⟩
  ·rcases hb with hb|hb
   ·exact((uY b).1 hb).1
   ·obtain⟨o,h1,h2⟩:=om.1 hb;obtain⟨ai,h3,aF⟩:=sW o h1;exact .inr ⟨o,⟨ai,by rw[ol (Rg o h1)];exact h3,aF⟩,h2⟩
  ·rcases hx with hx|hx
   ·exact((uY b).1 hx).2.2 o bH hb
   ·obtain⟨ae,h1,h2⟩:=om.1 hx;have:=S.eB o ae b (A.lb o bH) (sW ae h1) hb h2;subst this;exact c2 o (bp.2 (.inr bH)) h1
 have EI:(dz F (keys a.gone)).Nodup:=O9 S c1 sW;have HC:∀b,b∈dz F (keys a.gone)->¬X b/\(b∈Z\/U.heap.size<=b):=fun b hb=>by
  obtain⟨o,h1,h2⟩:=om.1 hb;exact S.cF o b (sW o h1) h2
 have adi:∀b,X b->X' b:=fun b hb=>(uY b).2 ⟨.inl hb,fun h=>(HC b h).1 hb,fun o bH h=>(S.cF o b (A.lb o bH) h).1 hb⟩
 have hG:jg w (dz F (keys a.gone)) X':=by
  obtain⟨g1,g2⟩:=S.lz;refine⟨g1,fun b hb h=>?_,fun b hb h=>?_,fun b hb=>(g2 b hb).2⟩
  ·obtain⟨o,h1,h2⟩:=om.1 h;exact(g2 b hb).1 (.inr ⟨o,sW o h1,h2⟩)
  ·rcases((uY b).1 h).1 with h|⟨o,h1,h2⟩
   ·exact(g2 b hb).1 (.inl h)
   ·exact(g2 b hb).1 (.inr ⟨o,PC A.fz h1,h2⟩)
 have E:=eZ a.as y hy w X' vs (dz F (keys a.gone)) (A.arg _ dX) EI (fun b hb hx=>((uY b).1 hx).2.1 hb) (fun b hb=>dX.lt (.inl hb)) hG
 intro K Q b5;have core:∀v w',(∃eN eM rv,Fr (dz F (keys a.gone)) w w'/\jI w' (fun b=>X' b\/b∈eN++eM) (ep a.as vs) ((aA a.as).fN y) eN/\lS w' (fun b=>X' b\/b∈eN++eM) ((aA a.as).fH y) rv eM/\
   v=oK rv/\(eN++eM).Nodup/\∀b,b∈eN++eM->¬X' b/\(b∈dz F (keys a.gone)\/w.heap.size<=b))->K ⟨cP M D.dst v,[]⟩ w':=by
  rintro v w' ⟨eN,eM,rv,aW,hB,en,rfl,lm,hm⟩;obtain⟨sl,iP⟩:∃sl,(sU ((aA a.as).fH y)||sT ((aA a.as).fN y))=sl:=⟨_,rfl⟩;rw[iP] at hA b5;obtain⟨dE,EF⟩:∃dE,(bif sl then a.fe else [])=dE:=⟨_,rfl⟩
  rw[EF] at b5;have _b:eh st.sites dE:=by rw[<-EF];cases sl;exact .nil;exact A.fz
  have ary:∀o,o∈keys dE->o∈keys a.fe:=by rw[<-EF];cases sl;intro o h;simp[keys] at h;exact fun o h=>h
  have dO:az U Z X F {st with sites:=bB st.sites dE} M w:=S.BU _b
  have EJ:hN (bB st.sites dE) a.gone:=fun o s hs=>by
   obtain⟨ai,h1,h2,h3⟩:=A.oh o s hs;exact⟨ai,by rw[ol (fun h=>Rg o (Hh hs) (ary o h))];exact h1,h2,h3⟩
  have iB:=dO.arx EJ c1;have jA:=iB.jump (w':=w') (fun b hb hlt=>aW.block b hlt (fun h=>hb (.inr h))) aW.size
   ⟨aW.os.trans S.frame.os,aW.tape.trans S.frame.tape,aW.output.trans S.frame.output,Nat.le_trans S.frame.size aW.size,fun b hlt hb=>by
    rw[aW.block b (Nat.lt_of_lt_of_le hlt S.frame.size) (fun h=>by rcases(HC b h).2 with an|an;exact hb an;omega)]
    exact S.frame.block b hlt hb⟩
  have axT:∀b,b∈eN++eM->b<w'.heap.size:=fun b hb=>by
   rcases bp.1 hb with hb|hb
   ·exact Rk hB b hb
   ·exact ajM en b hb
  have mr:az U Z (fun b=>X b\/b∈eN++(eM++[])) F {st with sites:=bB (bB st.sites dE) a.gone} M w':=jA.shrink fun b hb=>by
   rcases hb with hb|hb
   ·exact .inl (.inl hb)
   ·rw[List.append_nil] at hb;rcases(hm b hb).2 with h|h
    ·exact .inl (.inr h)
    ·exact .inr ⟨h,axT b hb⟩
  obtain⟨av,Z',aum,aul⟩:∃av:Nat->Prop,jI w' av (ep a.as vs) ((aA a.as).fN y) eN/\lS w' av ((aA a.as).fH y) rv eM/\
    ∀c,aN (fun b=>X b\/b∈eN++(eM++[])) F (bB (bB st.sites dE) a.gone) c->av c:=by
   cases sl with
   |false=>
    rw[Bool.or_eq_false_iff] at iP;exact⟨_,af5 iP.2 hB,af6 iP.1 en,fun c hc=>hc⟩
   |true=>
    refine⟨_,hB,en,fun c hc=>?_⟩
    rcases hc with(hc|hc)|⟨o,⟨ai,h1,h2⟩,h3⟩
    ·exact .inl (adi c hc)
    ·rw[List.append_nil] at hc;exact .inr hc
    ·refine .inl ((uY c).2 ?_);have bH:o∉keys a.gone:=fun h=>by
      obtain⟨s,hs⟩:=Aj h;rw[Fm c1 hs] at h1;obtain⟨_,_,_,e⟩:=A.oh o s hs;cases h1;rw[e] at h2;cases h2
     rw[ol bH] at h1;have auo:a.fe=dE:=EF;rw[<-auo] at h1;have live:cD st.sites o:=PC A.fz ⟨ai,h1,h2⟩;refine⟨.inr ⟨o,⟨ai,h1,h2⟩,h3⟩,fun h=>?_,fun ae b6 h=>?_⟩
     ·obtain⟨ae,aI,aJ⟩:=om.1 h;have:=S.eB o ae c live (sW ae aI) h3 aJ;subst this;exact bH aI
     ·simp only[bu,Bool.false_or,List.isEmpty_iff] at hA;rw[hA] at b6;simp at b6
  have L:Left U Z X F {st with sites:=bB (bB st.sites dE) a.gone} av (eN++(eM++[])):=by
   refine⟨by simpa using lm,fun b hb=>?_,aul⟩
   rw[List.append_nil] at hb;obtain⟨h1,h2⟩:=hm b hb;refine⟨fun hx=>h1 (adi b hx),?_⟩
   rcases h2 with h2|h2
   ·exact(HC b h2).2
   ·exact .inr (Nat.le_trans S.frame.size h2)
  have W7:∀gI,l0 st (bB (bB st.sites dE) a.gone) gI:=fun gI m _ ai hs=>by
   have h1:∀ai,look (bB st.sites dE) m=some ai->ai.cK<bG st m:=fun ai hs=>by
    rcases ms _b m with h|⟨s,t,xs,aF,bo⟩
    ·rw[h] at hs;exact mu hs
    ·rw[bo] at hs;cases hs;rcases aF with aF|aF<;>(have q:=mu aF;exact q)
   by_cases hk:m∈keys a.gone
   ·obtain⟨s,gm⟩:=Aj hk;rw[Fm c1 gm] at hs;obtain⟨b',e1,_,bz⟩:=EJ m s gm;rw[bz] at hs;cases hs;exact h1 b' e1
   ·rw[ol hk] at hs;exact h1 ai hs
  rw[kt] at c3;obtain⟨d1,d2,d3⟩:=List.nodup_append.1 c3;rw[A.dT] at Z';obtain⟨ho,dw,sK⟩:=RR st a.boxes (st:={st with sites:=bB (bB st.sites dE) a.gone}) mr (ob.of fun o s hs=>(A.fN o s hs).2) Z'
   (fun o s hs=>Fm c1 (A.fN o s hs).1) L (W7 _) d1
  obtain⟨iN,eT,kJ,_⟩:=akv st ((aA a.as).fH y) (2000000+d*10000) (st:={st with sites:=bB (bB (bB st.sites dE) a.gone) (hL st a.boxes ((aA a.as).fN y))}) dw.jQ aum sK
   (l0.step (W7 _) (fun n h1 h2=>d3 n h1 n h2 rfl)) d2
  have Ov:az U Z X iN {st with sites:=bB st.sites (dE++a.gone++hL st a.boxes ((aA a.as).fN y)++(ez st (2000000+d*10000) ((aA a.as).fH y)).2)} M w':=by
   have:=eT.jQ.shrink (X':=X) fun b hb=>.inl hb
   simpa only[lH] using this
  refine b5 iN _ w' (az.df Ov aa (v:=WT (ez st (2000000+d*10000) ((aA a.as).fH y)).1) ?_);have Xj:p' iN (bB st.sites (dE++a.gone++hL st a.boxes ((aA a.as).fN y)++(ez st (2000000+d*10000) ((aA a.as).fH y)).2)) w'
    (aN X iN (bB st.sites (dE++a.gone++hL st a.boxes ((aA a.as).fN y)++(ez st (2000000+d*10000) ((aA a.as).fH y)).2))) (ez st (2000000+d*10000) ((aA a.as).fH y)).1 rv:=by
   have e:(fun b=>X b\/b∈([]:List Nat))=X:=by funext b;simp
   rw[e] at kJ;simpa only[lH] using kJ
  generalize(ez st (2000000+d*10000) ((aA a.as).fH y)).1=axU at Xj;match axU,rv,Xj with
  |[],[],h=>exact⟨[],rfl,rfl,fun j h=>by simp at h⟩
  |[l],[v],h=>exact h.2 0 (by simp) (by simp)
  |l::fU::al,v::v2::cH,h=>exact⟨v::v2::cH,rfl,h.1,h.2⟩
 rcases E with⟨h1,h2⟩|⟨v,w',h1,h2⟩
 ·unfold Oper.wp;rw[dM,h1,Oper.upon_enter];refine h2.mono fun e w' he=>?_
  cases e with
  |returned v=>
   have:=core v w' he;cases dV:D.dst with
   |none=>rw[dV] at this;simpa[Act.put,cP] using this
   |some t=>rw[dV] at this;simpa[Act.put,cP] using this
  |panicked c=>exact he.elim
  |outgrown=>exact he.elim
 ·exact pO (dM.trans h1) (core v w' h2)
end
def C5(P:Program)(g:FuncId):Prop:=
 ∀(b:Nat) (p v:Value) (w:World),w.heap[b]? =some (.cells #[p,v] sj (0,0))->(p=.pointer none\/p=.pointer (some ⟨b,0,none⟩))->
  Enters P g #[.pointer (some ⟨b,0,none⟩)] w fun r w'=>r=.tuple #[]/\w'=w.setRow b #[.pointer (some ⟨b,0,none⟩),v]
def Dn(P:Program)(g:FuncId):Prop:=
 ∀(b:Nat) (p v:Value) (T:TypeId) (xs:List Int) (w:World),w.heap[b]? =some (.cells #[p,v] T (0,0))->rowAt w true nh 1 v xs.length (xs.map (Value.int .u8))->
  Enters P g #[.pointer (some ⟨b,0,none⟩)] w fun r w'=>r=.string ⟨(strOf xs).toArray⟩/\w'.os=w.os/\w'.tape=w.tape/\w'.output=w.output/\w.heap.size<=w'.heap.size/\
   (∀c,c<w.heap.size->bZ v≠some c->w'.heap[c]? =w.heap[c]?)/\∀c cur e fz,bZ v=some c->w.heap[c]? =some (.cells cur e fz)->∃fz',w'.heap[c]? =some (.cells cur e fz')
section
variable {P:Program}{U:World}{Z:List Nat}{X:Nat->Prop}{F:Nat->Value}{st:ao}{M:Array Value}{w:World}{D:Oper}
theorem az.alW(S:az U Z X F st M w){o s:Nat}{t:bi}{xs:List (den t)}(hl:look st.sites o=some (.row s t xs)){w':World}(h1:w'.os=w.os)(h2:w'.tape=w.tape)(h3:w'.output=w.output)(aF:w.heap.size<=w'.heap.size)
  (bo:∀c,c<w.heap.size->bZ (F o)≠some c->w'.heap[c]? =w.heap[c]?) (cp:∀c cur e fz,bZ (F o)=some c->w.heap[c]? =some (.cells cur e fz)->∃fz',w'.heap[c]? =some (.cells cur e fz')):
  az U Z X F {st with sites:=cI st.sites o (.dF s t xs)} M w':=by
 have c8:cD st.sites o:=⟨_,hl,rfl⟩;have eF:∀ae,cD (cI st.sites o (.dF s t xs)) ae->cD st.sites ae/\ae≠o:=by
  rintro ae ⟨ai,h1,h2⟩;rw[dm] at h1;by_cases e:o=ae
  ·subst e;simp at h1;subst h1;cases h2
  ·simp only[e,if_false] at h1;exact⟨⟨ai,h1,h2⟩,fun h=>e h.symm⟩
 have cq:∀bQ,aN X F (cI st.sites o (.dF s t xs)) bQ->aN X F st.sites bQ:=by
  rintro bQ (h|⟨ae,h1,h2⟩)
  ·exact .inl h
  ·exact .inr ⟨ae,(eF ae h1).1,h2⟩
 have aW:=S.frame;refine S.rE (fun ae ai b6=>?_) (fun bQ h hb=>bo bQ hb (fun an=>h (.inr ⟨o,c8,an⟩))) (fun bQ h _ an=>h (cq bQ an)) (fun go ae ai b6=>?_) (fun ae ρ bQ h1 h2=>S.eB ae ρ bQ (eF ae h1).1 (eF ρ h2).1)
  (fun ae bQ h=>S.cF ae bQ (eF ae h).1) (fun ae bQ h hb=>Nat.lt_of_lt_of_le (S.gd (eF ae h).1 hb) aF)
  ⟨h1.trans aW.os,h2.trans aW.tape,h3.trans aW.output,Nat.le_trans aW.size aF,fun b hb hn=>by
   have hs:=aW.size;rw[bo b (by omega) (fun an=>by
    rcases(S.cF o b c8 an).2 with an|an
    ·exact hn an
    ·omega)]
   exact aW.block b hb hn⟩ aF
 ·rw[dm];by_cases e:o=ae
  ·subst e;rw[hl] at b6;cases b6;exact⟨.dF s t xs,by simp,Nat.le_refl _,fun _=>rfl⟩
  ·exact⟨ai,by simp[e,b6],Nat.le_refl _,fun _=>rfl⟩
 ·rw[dm] at b6;by_cases e:o=ae
  ·subst e;simp only[if_true,bE] at b6;subst b6;refine .inr ?_
   show bT _ _ (.sl t xs) (F o)/\DW (F o);obtain⟨cU,cs,aI,aJ⟩:=S.sites o _ hl;rcases aI.2 with⟨hn,h0⟩|⟨g,cap,cur,fz,hv,_,hg,hnc,_,_,htk⟩
   ·have:xs=[]:=fP h0;subst this;rw[hn];exact⟨.nil t,.inl rfl⟩
   ·obtain⟨fz',hg'⟩:=cp g cur cU fz (by rw[hv];rfl) hg
    rw[hv];refine⟨?_,.inr ⟨_,_,_,rfl⟩⟩;have hlen:cs.length=(flat t xs).length:=by rw[fr];exact aI.1
    refine .sl t xs _ cap cs xs.length rfl hnc (fun _=>?_) hlen (fun j u hu=>?_) (fun j g1 g2=>pY go (aJ j g1 g2))
    ·rintro(hx|⟨ae,g1,g2⟩)
     ·exact(S.cF o g c8 (by rw[hv];rfl)).1 hx
     ·obtain⟨g3,g4⟩:=eF ae g1;exact g4 (S.eB ae o g g3 c8 g2 (by rw[hv];rfl))
    ·rw[hK,Nat.zero_add,cell_of_row w' g j cur cU fz' hg'];rw[<-htk,List.getElem?_take] at hu;split at hu
     ·simpa using hu
     ·cases hu
  ·simp only[e,if_false] at b6;refine .inl ⟨b6,rfl,fun um b hb=>bo b (S.gd ⟨_,b6,um⟩ hb) fun h=>e (S.eB o ae b c8 ⟨_,b6,um⟩ h hb)⟩
theorem GL{g:FuncId}{vs:List Value}{post:Value->World->Prop}(dM:(execOp (Act.eval ⟨M,[]⟩) D).run P w=(callFunc g vs.toArray).run P w)(eZ:Enters P g vs.toArray w post){K:Act->World->Prop}{Q:Exit->Act->World->Prop}
  (core:∀v w',post v w'->K ⟨cP M D.dst v,[]⟩ w'):D.wp P ⟨M,[]⟩ w K Q:=by
 rcases eZ with⟨h1,h2⟩|⟨v,w',h1,h2⟩
 ·unfold Oper.wp;rw[dM,h1,Oper.upon_enter];refine h2.mono fun e w' he=>?_
  cases e with
  |returned v=>
   have:=core v w' he;cases dV:D.dst with
   |none=>rw[dV] at this;simpa[Act.put,cP] using this
   |some t=>rw[dV] at this;simpa[Act.put,cP] using this
  |panicked c=>exact he.elim
  |outgrown=>exact he.elim
 ·exact pO (dM.trans h1) (core v w' h2)
theorem al7(S:az U Z X F st M w){g:FuncId}(eZ:C5 P g){cQ:List bb}{vs:List Value}(hl:cQ.length=vs.length)
  (hv:∀i (h:i<cQ.length) (an:i<vs.length),cy F st.sites w (aN X F st.sites) (cQ[i]) (vs[i])) (aa:cE st D.dst=true) (dM:(execOp (Act.eval ⟨M,[]⟩) D).run P w=(callFunc g vs.toArray).run P w):
  Holds (copyV st cQ) (c4 P U Z X st M w D):=by
 unfold copyV;split
 ·rename_i o s;split
  ·rename_i aQ l g';have g':look st.sites o=some (.box aQ [.dN,l]):=g';cases mc:aQ.beq s with
   |false=>exact .fail
   |true=>
    have:=cg mc;subst this;refine Holds.fZ ?_
    intro K Q b5;match vs,hl,hv,dM with
    |[sv],_,hv,dM=>
    obtain⟨sF,hb0,me⟩:eu F st.sites w (aN X F st.sites) (.ptr o aQ 0) sv:=hv 0 (by simp) (by simp)
    have me:=Ref.at me g' rfl;obtain⟨b,T,cur,e1,e2,bz,dn,e5,mo⟩:=S.sites o _ g';rw[e1] at me;have me:b=sF:=by cases me;rfl
    subst me;subst hb0;match cur,e2,bz,dn,e5,mo with
    |[p,v],e2,_,dn,e5,mo=>
     obtain⟨rfl,hp⟩:=e5 rfl;have hp:p=.pointer none\/p=.pointer (some ⟨b,0,none⟩):=by simpa using hp
     refine GL dM (eZ b p v w e2 hp) ?_
     rintro r w' ⟨rfl,rfl⟩;have cA:az U Z X F {st with sites:=cI st.sites o (.box aQ [.dN,l])} M (w.setRow b #[.pointer (some ⟨b,0,none⟩),v]):=by
      refine S.write g' rfl rfl rfl (by rw[e1];rfl) e2 (fun hs hw hg' go=>⟨b,sj,[.pointer (some ⟨b,0,none⟩),v],e1,hg',rfl,fun u hu=>?_,fun _=>⟨rfl,.inr rfl⟩,fun j h an=>?_⟩)
      ·rcases bO.1 hu with rfl|hu
       ·rfl
       ·exact dn u (cf _ hu)
      ·match j,h,an with
       |0,_,_=>trivial
       |1,_,_=>exact go (a:=ch l) (mo 1 (by simp) (by simp))
     exact b5 _ _ _ (az.df (us:=[(o,.box aQ [.dN,l])]) cA aa (v:=.kj []) ⟨[],rfl,rfl,fun j h=>by simp at h⟩)
  ·exact .fail
 ·exact .fail
theorem aku{av:Nat->Prop}{xs:List Int}{cs:List Value}(h0:cs.length=xs.length)(h:∀j (h:j<(flat .u8 (xs:List (den .u8))).length) (an:j<cs.length),bT w av ((flat .u8 (xs:List (den .u8)))[j]) (cs[j])):cs=xs.map (Value.int .u8):=by
 refine List.ext_getElem (by rw[List.length_map];exact h0) fun j g1 g2=>?_
 have adb:j<xs.length:=by simpa using g2
 have:=h j (by rw[fr];simpa[bg] using adb) g1
 rw[List.getElem_map];generalize aa:(flat .u8 (xs:List (den .u8)))[j]'(by rw[fr];simpa[bg] using adb)=d at this
 have hd2:d=.int .u8 xs[j]:=by
  rw[<-aa];simp only[tm,List.getElem_map]
 subst hd2;generalize cs[j]=v at this;cases this;rfl
theorem ahm(S:az U Z X F st M w){g:FuncId}(eZ:Dn P g){cQ:List bb}{vs:List Value}(hl:cQ.length=vs.length)
  (hv:∀i (h:i<cQ.length) (an:i<vs.length),cy F st.sites w (aN X F st.sites) (cQ[i]) (vs[i])) (aa:cE st D.dst=true) (dM:(execOp (Act.eval ⟨M,[]⟩) D).run P w=(callFunc g vs.toArray).run P w):
  Holds (tb st cQ) (c4 P U Z X st M w D):=by
 unfold tb;split
 ·rename_i o s;match vs,hl,hv,dM with
  |[sv],_,hv,dM=>
  have n4:eu F st.sites w (aN X F st.sites) (.ptr o s 0) sv:=hv 0 (by simp) (by simp)
  split
  ·rename_i aep mQ;have g':=hD mQ;obtain⟨b,T,cur,db,rfl,hg,_,hc⟩:=S.box g' n4;refine Holds.ok ?_
   intro K Q b5;obtain⟨p,r1,rfl,_,hc⟩:=hc.inv;obtain⟨v,r2,rfl,x1,hc⟩:=hc.inv;have:r2=[]:=fP hc.1;subst this;have x1:v=.slice none 0 0:=x1;subst x1;refine GL dM (eZ b p _ T [] w hg (Gi w true nh 1)) ?_
   rintro r w' ⟨rfl,aI,aJ,bS,cY,gq,iT⟩;have dO:=S.jump (w':=w') (fun c _ hc=>gq c hc (by simp[bZ])) cY ⟨aI.trans S.frame.os,aJ.trans S.frame.tape,bS.trans S.frame.output,Nat.le_trans S.frame.size cY,fun c hc hn=>by
    rw[gq c (Nat.lt_of_lt_of_le hc S.frame.size) (by simp[bZ])]
    exact S.frame.block c hc hn⟩
   have iB:az U Z X F {st with sites:=bB st.sites []} M w':=dO.shrink fun b hb=>.inl hb
   exact b5 _ _ _ (az.df (us:=[]) iB aa (v:=one (.str [])) (bT.str _ _ rfl))
  ·rename_i aep ae u mQ;have g':=hD mQ;obtain⟨b,T,cur,db,rfl,hg,_,hc⟩:=S.box g' n4;split
   ·rename_i b7 xs hrow;have hrow:look st.sites ae=some (.row b7 .u8 xs):=hrow;cases ayg:b7.beq u with
    |false=>exact .fail
    |true=>
     have:=cg ayg;subst this;refine Holds.fZ ?_
     intro K Q b5;obtain⟨p,r1,rfl,_,hc⟩:=hc.inv;obtain⟨v,r2,rfl,x1,hc⟩:=hc.inv;have:r2=[]:=fP hc.1;subst this;have ZW:v=F ae:=Ref.at x1.2 hrow rfl;obtain⟨e,cs,h1,h2⟩:=S.sites ae _ hrow;have hlen:cs.length=xs.length:=by have:=h1.1;simpa[bg] using this
     have hcs:cs=List.map (Value.int .u8) xs:=aku hlen h2;have l6:rowAt w true nh 1 v xs.length (List.map (Value.int .u8) xs):=by
      rw[<-hcs,ZW];refine⟨h1.1,?_⟩;rcases h1.2 with h|⟨cN,cap,cur',fz,q1,q2,ec⟩
      ·exact .inl h
      ·have:=q2.1 rfl;subst this;exact .inr ⟨cN,cap,cur',fz,q1,q2,ec⟩
     refine GL dM (eZ b p v T xs w hg l6) ?_
     rintro r w' ⟨rfl,aI,aJ,bS,cY,gq,iT⟩;rw[ZW] at gq iT;have iB:=S.alW hrow aI aJ bS cY gq iT;exact b5 _ _ _ (az.df (us:=[(ae,.dF b7 .u8 xs)]) iB aa (v:=one (.str (strOf xs))) (bT.str _ _ (by simp)))
   ·exact .fail
  ·exact .fail
 ·exact .fail
end
def B0(P:Program)(g cN:FuncId):Prop:=
 ∀(a b:ByteArray) (w:World),Enters P g #[.string a,.string b] w fun v w'=>∃dw eT,v=.func (.func cN) #[] #[.pointer (some ⟨w.heap.size+1,0,none⟩),.pointer (some ⟨w.heap.size,0,none⟩),.pointer (some ⟨w.heap.size+2,0,none⟩)]/\
  w'=((w.alloc (.cells #[.string a] dw)).alloc (.cells #[.string b] dw)).alloc (.cells #[.int .i64 0] eT)
def C3(P:Program)(g:FuncId):Prop:=
 ∀(xs:List Int) (v:Value) (w:World) (av:Nat->Prop),bT w av (.sl .u8 xs) v->Enters P g #[v] w fun v' w'=>∃u T,bT w av (.sl .u8 (xs.take 2000)) u/\v'=.pointer (some ⟨w.heap.size,0,none⟩)/\w'=w.alloc (.cells #[u,.int .i64 0] T)
structure aT(P:Program)(C:Ctx):Prop extends CtxOk P C where
 b0:∀g S,C.b0 g=some S->aE P g S
 N':P.follows .mixedOrders=true
 mh:∀g cN,C.mh g=some cN->B0 P g cN
 op:∀g,C.op g=true->C3 P g
 kU:∀g,C.kU g=true->C5 P g
 bs:∀g,C.bs g=true->Dn P g
section
variable {P:Program}{U:World}{Z:List Nat}{X:Nat->Prop}{F:Nat->Value}{st:ao}{M:Array Value}{w:World}{D:Oper}
theorem Rw:∀{bM:List (Nat×Nat)} {cs:List (List bk)} {us:List (Nat×Site)} {bs:List Nat},lR st bM=some (cs,us,bs)->eh st.sites us/\∀o,o∈bs->cD st.sites o:=by
 intro bM;induction bM with
 |nil=>intro cs us bs h;simp only[lR] at h;cases h;exact⟨.nil,fun o h=>by simp at h⟩
 |cons c bM ih=>
  obtain⟨o,s⟩:=c;intro cs us bs h;simp only[lR] at h;split at h
  ·rename_i cells mQ;split at h
   ·rename_i ds u1 rest u2 b2 hq p1;cases h;obtain⟨aI,aJ⟩:=ih p1;refine⟨(JA hq).append aI,fun ae b6=>?_⟩
    rcases bO.1 b6 with rfl|b6
    ·exact⟨_,hD mQ,rfl⟩
    ·exact aJ ae b6
   ·cases h
  ·cases h
theorem IN{l gW:aU}{us:List (Nat×Site)}{bs:List Nat}(h:nO st l=some (gW,us,bs)):eh st.sites us/\∀o,o∈bs->cD st.sites o:=by
 unfold nO at h;split at h
 ·cases h;exact⟨.nil,fun o h=>by simp at h⟩
 ·split at h
  ·rename_i hc;cases h;exact Rw hc
  ·cases h
 ·split at h
  ·rename_i aa;cases h;exact⟨Wk aa,fun o h=>by simp at h⟩
  ·cases h
theorem alH:∀{al gS:List aU} {us:List (Nat×Site)} {bs:List Nat},mH st al=some (gS,us,bs)->eh st.sites us/\∀o,o∈bs->cD st.sites o:=by
 intro al;induction al with
 |nil=>intro gS us bs h;simp only[mH] at h;cases h;exact⟨.nil,fun o h=>by simp at h⟩
 |cons l al ih=>
  intro gS us bs h;simp only[mH] at h;split at h
  ·rename_i a u1 b1 as u2 b2 h1 h2;cases h;obtain⟨aI,aJ⟩:=IN h1;obtain⟨bS,cY⟩:=ih h2;refine⟨aI.append bS,fun o bH=>?_⟩
   rcases bp.1 bH with h|h
   ·exact aJ o h
   ·exact cY o h
  ·cases h
theorem ajw:∀{cQ:List bb} {a:kM},jH st cQ=some a->eh st.sites a.fe/\∀o,o∈a.gx->cD st.sites o:=by
 intro cQ;induction cQ with
 |nil=>intro a h;simp only[jH] at h;cases h;exact⟨.nil,fun o h=>by simp at h⟩
 |cons sy cQ ih=>
  intro a h;unfold jH at h;split at h
  ·cases ‹sy::cQ=[]›
  ·rename_i cj;cases cj;split at h
   ·rename_i hr;split at h
    ·cases h;have q:=ih hr;exact q
    ·cases h
   ·cases h
  ·rename_i cj;cases cj;split at h
   ·rename_i h1 hr;cases h;obtain⟨aI,aJ⟩:=IN h1;obtain⟨bS,cY⟩:=ih hr;refine⟨aI.append bS,fun o bH=>?_⟩
    rcases bp.1 bH with h|h
    ·exact aJ o h
    ·exact cY o h
   ·cases h
  ·rename_i cj;cases cj;split at h
   ·rename_i h1 hr;cases h;obtain⟨aI,aJ⟩:=alH h1;obtain⟨bS,cY⟩:=ih hr;refine⟨aI.append bS,fun o bH=>?_⟩
    rcases bp.1 bH with h|h
    ·exact aJ o h
    ·exact cY o h
   ·cases h
  ·cases h
theorem ajO{l gW:aU}{gs us:List (Nat×Site)}{bs:List Nat}(h:pT st l=some (gW,gs,us,bs)):eh st.sites us/\∀o,o∈bs->cD st.sites o:=by
 unfold pT at h;split at h
 ·split at h
  ·cases h;exact⟨.nil,fun o h=>by simp at h⟩
  ·cases h
 ·cases h;exact⟨.nil,fun o h=>by simp at h⟩
 ·split at h
  ·rename_i hl;cases h;exact IN hl
  ·cases h
theorem ahN:∀{cQ:List bb} {a:kM},mA st cQ=some a->eh st.sites a.fe/\∀o,o∈a.gx->cD st.sites o:=by
 intro cQ;induction cQ with
 |nil=>intro a h;simp only[mA] at h;cases h;exact⟨.nil,fun o h=>by simp at h⟩
 |cons sy cQ ih=>
  intro a h;unfold mA at h;split at h
  ·cases ‹sy::cQ=[]›
  ·rename_i cj;cases cj;split at h
   ·rename_i h1 hr;cases h;obtain⟨aI,aJ⟩:=ajO h1;obtain⟨bS,cY⟩:=ih hr;refine⟨aI.append bS,fun o bH=>?_⟩
    rcases bp.1 bH with h|h
    ·exact aJ o h
    ·exact cY o h
   ·cases h
  ·cases h
theorem ahL{b:Bool}{cQ:List bb}{a:kM}(h:tc b st cQ=some a):eh st.sites a.fe/\∀o,o∈a.gx->cD st.sites o:=by
 cases b
 ·exact ajw h
 ·exact ahN h
theorem ap2(S:az U Z X F st M w)(C:Ctx):∀(xs:List Operand) (dh:List TypeId),(gU C st xs dh).length=(xs.map (Act.eval ⟨M,[]⟩)).length/\
  ∀i (h:i<(gU C st xs dh).length) (an:i<(xs.map (Act.eval ⟨M,[]⟩)).length),cy F st.sites w (aN X F st.sites) ((gU C st xs dh)[i]) ((xs.map (Act.eval ⟨M,[]⟩))[i]):=by
 intro xs;induction xs with
 |nil=>intro dh;cases dh<;>exact⟨rfl,fun i h=>by simp[gU] at h⟩
 |cons x xs ih=>
  intro dh;have key:∀(T:TypeId) (NE:List TypeId),gU C st (x::xs) dh=bj C st T x::gU C st xs NE->(gU C st (x::xs) dh).length=((x::xs).map (Act.eval ⟨M,[]⟩)).length/\
    ∀i (h:i<(gU C st (x::xs) dh).length) (an:i<((x::xs).map (Act.eval ⟨M,[]⟩)).length),cy F st.sites w (aN X F st.sites) ((gU C st (x::xs) dh)[i]) (((x::xs).map (Act.eval ⟨M,[]⟩))[i]):=by
   intro T NE e;obtain⟨aI,aJ⟩:=ih NE;refine⟨by rw[e];simp[aI],fun i h an=>?_⟩
   simp only[e];cases i with
   |zero=>exact dU S C T x
   |succ i=>
    simp only[List.getElem_cons_succ,List.map_cons];exact aJ i (by simpa[e] using h) (by simpa using an)
  cases dh with
  |nil=>exact key 0 [] rfl
  |cons T dh=>exact key T dh rfl
theorem aiH(S:az U Z X F st M w){g cN:FuncId}(eZ:B0 P g cN){n:Nat}{cQ:List bb}{vs:List Value}(hl:cQ.length=vs.length)
  (hv:∀i (h:i<cQ.length) (an:i<vs.length),cy F st.sites w (aN X F st.sites) (cQ[i]) (vs[i])) (aa:cE st D.dst=true) (dM:(execOp (Act.eval ⟨M,[]⟩) D).run P w=(callFunc g vs.toArray).run P w):
  Holds (ts cN n st cQ) (c4 P U Z X st M w D):=by
 unfold ts;split
 ·rename_i s p;refine Holds.fZ ?_
  intro K Q b5;match vs,hl,hv,dM with
  |[sv,vb],_,hv,dM=>
  obtain⟨a,ha,fJ⟩:=gY (hv 0 (by simp) (by simp))
  obtain⟨b,hb,ew⟩:=gY (hv 1 (by simp) (by simp))
  simp only[List.getElem_cons_zero,List.getElem_cons_succ] at ha hb;subst ha hb;have core:∀v w',(∃dw eT,v=.func (.func cN) #[] #[.pointer (some ⟨w.heap.size+1,0,none⟩),.pointer (some ⟨w.heap.size,0,none⟩),.pointer (some ⟨w.heap.size+2,0,none⟩)]/\
    w'=((w.alloc (.cells #[.string a] dw)).alloc (.cells #[.string b] dw)).alloc (.cells #[.int .i64 0] eT))->K ⟨cP M D.dst v,[]⟩ w':=by
   rintro v w' ⟨dw,eT,rfl,hw⟩;have hsz:w'.heap.size=w.heap.size+3:=by rw[hw];simp
   have hold:∀b,b<w.heap.size->w'.heap[b]? =w.heap[b]? :=fun b hb=>by
    rw[hw];rw[RowKit.Below.heap_alloc _ _ _ (by simp;omega),RowKit.Below.heap_alloc _ _ _ (by simp;omega),RowKit.Below.heap_alloc _ _ _ hb]
   have h0:w'.heap[w.heap.size]? =some (.cells #[.string a] dw):=by
    rw[hw,RowKit.Below.heap_alloc _ _ _ (by simp only[World.size_alloc];omega),RowKit.Below.heap_alloc _ _ _ (by simp only[World.size_alloc];omega)];exact World.alloc_heap_new w _
   have h1:w'.heap[w.heap.size+1]? =some (.cells #[.string b] dw):=by
    rw[hw,RowKit.Below.heap_alloc _ _ _ (by simp only[World.size_alloc];omega)]
    have:=World.alloc_heap_new (w.alloc (.cells #[.string a] dw)) (.cells #[.string b] dw);rwa[World.size_alloc] at this
   have h2:w'.heap[w.heap.size+2]? =some (.cells #[.int .i64 0] eT):=by
    rw[hw];have:=World.alloc_heap_new ((w.alloc (.cells #[.string a] dw)).alloc (.cells #[.string b] dw)) (.cells #[.int .i64 0] eT);rwa[World.size_alloc,World.size_alloc] at this
   have Nh:Fr Z U w':=⟨by rw[hw];exact S.frame.os,by rw[hw];exact S.frame.tape,by rw[hw];exact S.frame.output,by have:=S.frame.size;omega,fun b hb hn=>by
    have:=S.frame.size;rw[hold b (by omega)];exact S.frame.block b hb hn⟩
   have p0:=S.frame.size;have dO:=S.jump (w':=w') (fun b _ hb=>hold b hb) (by omega) Nh
   have mk:∀{F:Nat->Value} {sites:List (Nat×Site)} {av:Nat->Prop} {m k:Nat} {T:TypeId} {x:Value} {d:bk},F m=.pointer (some ⟨k,0,none⟩)->w'.heap[k]? =some (.cells #[x] T)->bT w' av d x->
     kA F sites w' av m (.box (bG st m) [.d d]):=by
    intro F sites av m k T x d e1 e2 bz;refine⟨k,T,[x],e1,e2,rfl,fun u hu=>?_,(fun h=>by cases h),fun j h an=>?_⟩
    ·rw[List.mem_singleton.1 hu];exact bz.j6
    ·match j,h,an with
     |0,_,_=>exact bz
   obtain⟨OM,_,_⟩:=dO.w7 (X':=fun b=>(X b\/(w.heap.size<=b/\b<w'.heap.size))/\b≠w.heap.size+1) (n:=n) (b':=.box (bG st n) [.d (.str p)]) (nv:=.pointer (some ⟨w.heap.size+1,0,none⟩)) (fun b h=>h.1)
    (.inl fun ai h=>mu h) (fun b h=>by simp only[bZ,bE] at h;subst h;exact⟨.inr ⟨by omega,by omega⟩,fun h=>h.2 rfl,.inr (by omega)⟩) (fun _ e _ _=>mk e h1 (.str _ _ ew))
   obtain⟨OL,_,_⟩:=OM.w7 (X':=fun b=>((X b\/(w.heap.size<=b/\b<w'.heap.size))/\b≠w.heap.size+1)/\b≠w.heap.size) (n:=n+1) (b':=.box (bG st (n+1)) [.d (.str s)]) (nv:=.pointer (some ⟨w.heap.size,0,none⟩)) (fun b h=>h.1)
    (.inl fun ai h=>by
     have h:look (cI st.sites n _) (n+1)=some ai:=h;rw[dm,if_neg (by omega)] at h
     exact mu h) (fun b h=>by simp only[bZ,bE] at h;subst h;exact⟨⟨.inr ⟨by omega,by omega⟩,by omega⟩,fun h=>h.2 rfl,.inr (by omega)⟩) (fun _ e _ _=>mk e h0 (.str _ _ fJ))
   obtain⟨OK,_,_⟩:=OL.w7 (X':=X) (n:=n+2) (b':=.box (bG st (n+2)) [.d (.int .i64 0)]) (nv:=.pointer (some ⟨w.heap.size+2,0,none⟩)) (fun b h=>by have:=S.old b h;exact⟨⟨.inl h,by omega⟩,by omega⟩)
    (.inl fun ai h=>by
     have h:look (cI (cI st.sites n _) (n+1) _) (n+2)=some ai:=h;rw[dm,if_neg (by omega),dm,if_neg (by omega)] at h
     exact mu h) (fun b h=>by simp only[bZ,bE] at h;subst h;exact⟨⟨⟨.inr ⟨by omega,by omega⟩,by omega⟩,by omega⟩,fun h=>by have:=S.old _ h;omega,.inr (by omega)⟩) (fun _ e _ _=>mk e h2 (.int _ _))
   refine b5 _ _ w' (az.df (us:=[(n,.box (bG st n) [.d (.str p)]),(n+1,.box (bG st (n+1)) [.d (.str s)]),(n+2,.box (bG st (n+2)) [.d (.int .i64 0)])]) OK aa (v:=ch (.clo cN _)) ?_);refine⟨[.pointer (some ⟨w.heap.size+1,0,none⟩),.pointer (some ⟨w.heap.size,0,none⟩),.pointer (some ⟨w.heap.size+2,0,none⟩)],rfl,rfl,fun i hi jV=>?_⟩
   match i,hi,jV with
   |0,_,_=>exact⟨.box (bG st n) [.d (.str p)],by simp[bB,dm],Nat.le_refl _,fun _=>by simp⟩
   |1,_,_=>exact⟨.box (bG st (n+1)) [.d (.str s)],by simp[bB,dm],Nat.le_refl _,fun _=>by simp⟩
   |2,_,_=>exact⟨.box (bG st (n+2)) [.d (.int .i64 0)],by simp[bB,dm],Nat.le_refl _,fun _=>by simp⟩
  rcases eZ a b w with⟨h1,h2⟩|⟨v,w',h1,h2⟩
  ·unfold Oper.wp;rw[dM,h1,Oper.upon_enter];refine h2.mono fun e w' he=>?_
   cases e with
   |returned v=>
    have:=core v w' he;cases dV:D.dst with
    |none=>rw[dV] at this;simpa[Act.put,cP] using this
    |some t=>rw[dV] at this;simpa[Act.put,cP] using this
   |panicked c=>exact he.elim
   |outgrown=>exact he.elim
  ·exact pO (dM.trans h1) (core v w' h2)
 ·exact .fail
theorem alu(S:az U Z X F st M w){g:FuncId}(eZ:C3 P g){n:Nat}{cQ:List bb}{vs:List Value}(hl:cQ.length=vs.length)
  (hv:∀i (h:i<cQ.length) (an:i<vs.length),cy F st.sites w (aN X F st.sites) (cQ[i]) (vs[i])) (aa:cE st D.dst=true) (dM:(execOp (Act.eval ⟨M,[]⟩) D).run P w=(callFunc g vs.toArray).run P w):
  Holds (tS n st cQ) (c4 P U Z X st M w D):=by
 unfold tS;split
 ·rename_i xs;refine Holds.fZ ?_
  intro K Q b5;match vs,hl,hv,dM with
  |[sv],_,hv,dM=>
  have ej:bT w (aN X F st.sites) (.sl .u8 xs) sv:=hv 0 (by simp) (by simp)
  have core:∀v w',(∃u T,bT w (aN X F st.sites) (.sl .u8 (xs.take 2000)) u/\v=.pointer (some ⟨w.heap.size,0,none⟩)/\w'=w.alloc (.cells #[u,.int .i64 0] T))->K ⟨cP M D.dst v,[]⟩ w':=by
   rintro v w' ⟨u,T,hu,rfl,hw⟩;have hsz:w'.heap.size=w.heap.size+1:=by rw[hw];simp
   have hold:∀b,b<w.heap.size->w'.heap[b]? =w.heap[b]? :=fun b hb=>by
    rw[hw,RowKit.Below.heap_alloc _ _ _ hb]
   have h0:w'.heap[w.heap.size]? =some (.cells #[u,.int .i64 0] T):=by rw[hw];exact World.alloc_heap_new w _
   have Nh:Fr Z U w':=⟨by rw[hw];exact S.frame.os,by rw[hw];exact S.frame.tape,by rw[hw];exact S.frame.output,by have:=S.frame.size;omega,fun b hb hn=>by
    have:=S.frame.size;rw[hold b (by omega)];exact S.frame.block b hb hn⟩
   have p0:=S.frame.size;have dO:=S.jump (w':=w') (fun b _ hb=>hold b hb) (by omega) Nh
   have gr:∀b,X b->b<w.heap.size:=S.old;have at7:∀b,aN (fun b=>X b\/(w.heap.size<=b/\b<w'.heap.size)) F st.sites b->b<w'.heap.size:=fun b hb=>dO.lt hb
   have MU:cy F st.sites w' (aN (fun b=>X b\/(w.heap.size<=b/\b<w'.heap.size)) F st.sites) (one (.sl .u8 (xs.take 2000))) u:=by
    have G:iK F F st.sites st.sites w w' (aN X F st.sites) (aN (fun b=>X b\/(w.heap.size<=b/\b<w'.heap.size)) F st.sites):=
     ⟨fun ae s h=>⟨s,h,Nat.le_refl _,fun _=>rfl⟩,fun b _ ew=>hold b ew,fun b hb ew an=>by
      rcases an with(an|an)|an
      ·exact hb (.inl an)
      ·omega
      ·exact hb (.inr an)⟩
    exact cy.goes (a:=one (.sl .u8 (xs.take 2000))) G (by omega) at7 hu
   obtain⟨OM,aC4,aDj⟩:=dO.w7 (X':=X) (n:=n) (b':=.box (bG st n) [.d (.sl .u8 (xs.take 2000)),.d (.int .i64 0)]) (nv:=.pointer (some ⟨w.heap.size,0,none⟩)) (fun b h=>.inl h)
    (.inl fun ai h=>mu h) (fun b h=>by simp only[bZ,bE] at h;subst h;exact⟨.inr ⟨by omega,by omega⟩,fun h=>by have:=gr _ h;omega,.inr (by omega)⟩) (fun hs e go _=>by
     have MT:=go MU;refine⟨w.heap.size,T,[u,.int .i64 0],e,h0,rfl,fun x hx=>?_,(fun h=>by cases h),fun j h an=>?_⟩
     ·rcases bO.1 hx with rfl|hx
      ·exact bT.j6 hu
      ·rw[List.mem_singleton.1 hx];rfl
     ·match j,h,an with
      |0,_,_=>exact MT
      |1,_,_=>exact bT.int .i64 0)
   refine b5 _ _ w' (az.df (us:=[(n,.box (bG st n) [.d (.sl .u8 (xs.take 2000)),.d (.int .i64 0)])]) OM aa (v:=ch (.ptr n (bG st n) 0)) ?_);exact⟨w.heap.size,rfl,.box (bG st n) [.d (.sl .u8 (xs.take 2000)),.d (.int .i64 0)],by simp[bB,dm],Nat.le_refl _,fun _=>by simp⟩
  rcases eZ xs sv w _ ej with⟨h1,h2⟩|⟨v,w',h1,h2⟩
  ·unfold Oper.wp;rw[dM,h1,Oper.upon_enter];refine h2.mono fun e w' he=>?_
   cases e with
   |returned v=>
    have:=core v w' he;cases dV:D.dst with
    |none=>rw[dV] at this;simpa[Act.put,cP] using this
    |some t=>rw[dV] at this;simpa[Act.put,cP] using this
   |panicked c=>exact he.elim
   |outgrown=>exact he.elim
  ·exact pO (dM.trans h1) (core v w' h2)
 ·exact .fail
theorem PG(S:az U Z X F st M w){C:Ctx}(H:aT P C){c:Go.Call}{f:Operand}(aP:D.op=.call c)(hf:c.callee=.value f)(aa:cE st D.dst=true)(d:Nat)(T:TypeId):
  Holds (mz C d st (bj C st T f) (gU C st c.args.toList c.argTypes.toList)) (c4 P U Z X st M w D):=by
 have bK:=dU S C T f;obtain⟨e1,e2⟩:=ap2 S C c.args.toList c.argTypes.toList;have run:∀{g:FuncId} {fv:List Value},Act.eval ⟨M,[]⟩ f=.func (.func g) #[] fv.toArray->
   (execOp (Act.eval ⟨M,[]⟩) D).run P w=(callFunc g (c.args.toList.map (Act.eval ⟨M,[]⟩)++fv).toArray).run P w:=by
  intro g fv hv;have yH:(#[]++c.args.map (Act.eval ⟨M,[]⟩))++fv.toArray=(c.args.toList.map (Act.eval ⟨M,[]⟩)++fv).toArray:=by apply Array.ext';simp
  unfold execOp;simp only[aP,resolve,hf,hv,Deferred.ofValue,Sem.run_bind,Sem.run_pure,Result.andThen_ok,invoke,yH]
 have go:∀{g:FuncId} {aA:aH} {a:kM} {cs:List (List bk)} {us:List (Nat×Site)} {bs:List Nat} {fv:List Value} {gb:Bool},C.b0 g=some aA->tc gb st (gU C st c.args.toList c.argTypes.toList)=some a->
   Act.eval ⟨M,[]⟩ f=.func (.func g) #[] fv.toArray->(eh st.sites us/\∀o,o∈bs->cD st.sites o)->
   (∀{dE fp av},fW U Z X F st M w dE fp av->(∀p,p∈us->p∈dE)->(∀o,o∈bs->o∈fp)->k3 w av cs fv)->
   Holds (p_ d st aA {a with as:=a.as++oH cs,fe:=a.fe++us,gx:=a.gx++bs}) (c4 P U Z X st M w D):=by
  intro g aA a cs us bs fv gb hg ha hv hz hcap;obtain⟨fx,z2⟩:=ahL ha;have hfz:eh st.sites (a.fe++us):=fx.append hz.1;have EG:fW U Z X F st M w (a.fe++us) (a.gx++bs) (fun _=>False):=⟨⟨S,hfz⟩,fun b h=>h.elim,fun _ _ _ _ h=>h⟩
  obtain⟨m1,m2,m3,m4⟩:=P0 EG ha e1 e2 (fun p hp=>bp.2 (.inl hp)) (fun p hp=>bp.2 (.inl hp))
  refine ama (a:={a with as:=a.as++oH cs,fe:=a.fe++us,gx:=a.gx++bs}) S (H.b0 g aA hg) (vs:=c.args.toList.map (Act.eval ⟨M,[]⟩)++fv) ⟨hfz,fun o bH=>?_,m2,fun av dX=>?_,?_,m4⟩ aa (run hv)
  ·rcases bp.1 bH with h|h
   ·exact z2 o h
   ·exact hz.2 o h
  ·obtain⟨n1,_,_,_⟩:=P0 dX ha e1 e2 (fun p hp=>bp.2 (.inl hp)) (fun p hp=>bp.2 (.inl hp))
   have n2:=ah4 (hcap dX (fun p hp=>bp.2 (.inr hp)) (fun p hp=>bp.2 (.inr hp)))
   have:=n1.append n2;rwa[List.append_nil] at this
  ·show ep (a.as++oH cs) _=_;rw[O8 m1.length,m3,ah6,List.append_nil]
 unfold mz;split
 ·rename_i g bM Ni;rw[Ni] at bK;obtain⟨fv,h1,h2,h3⟩:=bK;split
  ·rename_i cN km;split
   ·have hcv:fv=[]:=fP (by simpa using h2)
    subst hcv;have r:=run h1;rw[List.append_nil] at r;exact aiH S (H.mh g cN km) e1 e2 aa r
   ·exact .fail
  ·cases M2:C.op g with
   |true=>
    simp only[ad];split
    ·have hcv:fv=[]:=fP (by simpa using h2)
     subst hcv;have r:=run h1;rw[List.append_nil] at r;exact alu S (H.op g M2) e1 e2 aa r
    ·exact .fail
   |false=>
    simp only[ak];have W5:bM=[]->(execOp (Act.eval ⟨M,[]⟩) D).run P w=(callFunc g (c.args.toList.map (Act.eval ⟨M,[]⟩)).toArray).run P w:=by
     rintro rfl;have hcv:fv=[]:=fP (by simpa using h2)
     subst hcv;have r:=run h1;rwa[List.append_nil] at r
    cases ac0:C.kU g with
    |true=>
     simp only[ad];split
     ·exact al7 S (H.kU g ac0) e1 e2 aa (W5 rfl)
     ·exact .fail
    |false=>
     simp only[ak];cases eQ:C.bs g with
     |true=>
      simp only[ad];split
      ·exact ahm S (H.bs g eQ) e1 e2 aa (W5 rfl)
      ·exact .fail
     |false=>
      simp only[ak];split
      ·rename_i aA a cs us bs hg ha hc;exact go hg ha h1 (Rw hc) (fun dX hu hb=>Rv dX hc hu hb h2 h3)
      ·exact .fail
 ·rename_i g bM Ni;rw[Ni] at bK;obtain⟨fv,h1,_⟩:=k3.WW bK;split
  ·rename_i aA a hg ha;have:=go (us:=[]) (bs:=[]) (cs:=bM) (gb:=false) hg ha h1 ⟨.nil,fun o h=>by simp at h⟩ (fun {dE fp av} dX _ _=>by
    obtain⟨aCS,aI,aJ⟩:=k3.WW (dX.xL (bK:bT w (aN X F st.sites) (.fn g bM) _));rw[h1] at aI;simp only[Value.func.injEq,Fn.func.injEq,true_and] at aI;have e:=congrArg Array.toList aI;simp only at e;rw[e];exact aJ)
   simpa only[List.append_nil] using this
  ·exact .fail
 ·exact .fail
theorem amz(S:az U Z X F st M w){C:Ctx}(H:aT P C)(aa:cE st D.dst=true):Holds (step C st D) (c4 P U Z X st M w D):=by
 unfold step;split
 ·rename_i x aP;exact Holds.ok (TU S (.inl aP) aa _)
 ·rename_i x aP;exact Holds.ok (TU S (.inr aP) aa _)
 ·rename_i c a b aP;split
  ·rename_i hc;exact Holds.ok (TM S aP aa hc)
  ·rename_i hc;exact Holds.ok (TM S aP aa hc)
  ·exact .fail
 ·rename_i elem aP;split
  ·rename_i o e t n dV bn;exact aj4 S H.toCtxOk bn aP aa
  ·rename_i o dV _;split
   ·rename_i z hz;exact Holds.fZ (ami S H.toCtxOk aP dV hz aa)
   ·exact .fail
  ·exact .fail
 ·rename_i elem x aP;split
  ·rename_i o e t n dV bn;exact aon S H.toCtxOk bn aP aa
  ·rename_i o dV _;split
   ·rename_i a ha;cases ei:h_ a.cells with
    |false=>exact .fail
    |true=>
     have bK:=dU S C elem x;rw[qS ha] at bK;exact Holds.fZ (aqa S aP dV bK ei aa)
   ·exact .fail
  ·exact .fail
 ·rename_i t parts aP;split
  ·rename_i b0 n z eq bn;exact amb S H.toCtxOk bn aP aa
  ·rename_i e ty n bn;split
   ·rename_i z hz;exact aj1 S H.toCtxOk bn hz aP aa
   ·exact .fail
  ·exact .fail
 ·rename_i t len parts aP;split
  ·rename_i o e ty bytes dV bn;cases hb:(parts.toList.length.beq len&&tf 0 parts.toList&&Nat.ble (len*bg ty) 1000) with
   |false=>exact .fail
   |true=>
    simp only[bC] at hb;obtain⟨⟨b1,b2⟩,b3⟩:=hb;simp only[ad];split
    ·rename_i as has;split
     ·rename_i xs us kK;exact Holds.fZ (aft S H.toCtxOk bn aP dV aa (cg b1) b2 (Nat.le_of_ble_eq_true b3) has kK)
     ·exact .fail
    ·exact .fail
  ·exact .fail
 ·rename_i t a aP;split
  ·rename_i e ty n bn;exact alC S H.toCtxOk bn aP aa
  ·cases hk:(C.tt t).known with
   |false=>exact .fail
   |true=>exact anS S H.toCtxOk aP aa hk
 ·rename_i t a x aP;split
  ·rename_i v hv;split
   ·rename_i e ty n bn;exact aiF S H.toCtxOk bn aP aa hv
   ·cases hk:(C.tt t).known with
    |false=>exact .fail
    |true=>exact akz S H.toCtxOk aP aa hk hv
  ·exact .fail
 ·rename_i x aP;split
  ·rename_i hx;exact Holds.ok (FB S aP aa hx fun vv h=>by obtain⟨b,h,_⟩:=h;exact⟨_,h⟩)
  ·rename_i hx;exact Holds.ok (FB S aP aa hx fun vv h=>by obtain⟨b,D,h,_⟩:=h;exact⟨_,h⟩)
  ·rename_i hx;exact Holds.ok (FB S aP aa hx fun vv h=>by obtain⟨b,h,_⟩:=h;exact⟨_,h⟩)
  ·exact .fail
 ·rename_i op t x y oc aP;cases hn:Cw y with
  |true=>exact ajS S H.toCtxOk aP aa hn
  |false=>exact aoq S H.toCtxOk aP aa
 ·rename_i op t x aP;split
  ·rename_i b hx;exact Holds.ok (agn S aP aa hx)
  ·rename_i k n hx;exact Holds.ok (ago S aP aa hx)
  ·rename_i k n hx;exact Holds.ok (agm (T:=D.type) S aP aa hx)
  ·exact .fail
 ·rename_i src dst x aP;split
  ·rename_i o dV;exact al8 S H.toCtxOk aP dV aa
  ·exact .fail
 ·rename_i fn first captured aP
  split
  ·rename_i g;cases hf:first.toList.isEmpty with
   |false=>exact .fail
   |true=>
    simp only[ad];split
    ·rename_i bM hc;exact Holds.ok (agL S aP aa hf hc)
    ·exact .fail
  ·exact .fail
 ·rename_i t l c aP;split
  ·rename_i o e ty bytes yB n yC m dV bn hl hc;split
   ·rename_i z hz;split
    ·rename_i ds us hq;split
     ·rename_i fj n3;exact Holds.ik fun r hr=>afW S H.toCtxOk bn aP dV aa hl hc hz hq n3 r hr
     ·exact .fail
    ·exact .fail
   ·exact .fail
  ·exact .fail
 ·rename_i t x de hi E3 aP;split
  ·split
   ·rename_i e ty n bn;exact aiJ S H.toCtxOk bn aP aa
   ·exact akF S H.toCtxOk aP aa
  ·exact .fail
 ·rename_i s x f aP;split
  ·rename_i b0 n z eq bn;split
   ·rename_i off N6 hf;exact af8 S H.toCtxOk bn aP aa hf
   ·exact .fail
  ·exact .fail
 ·rename_i t x i aP;split
  ·rename_i e ty bytes k n bn hi;exact af4 S H.toCtxOk bn hi aP aa
  ·rename_i e ty m k n bn hi;exact afp S H.toCtxOk bn hi aP aa
  ·exact .fail
 ·rename_i t x i aP;split
  ·rename_i s k n bn hx hi;exact alN S H.toCtxOk aP aa bn hx hi
  ·rename_i e ty m k n bn hi;exact ajK S H.toCtxOk bn hi aP aa
  ·exact .fail
 ·rename_i t i aP;split
  ·rename_i as hx;split
   ·rename_i a ha;exact Holds.ok (ahV S aP aa hx ha)
   ·exact .fail
  ·exact .fail
 ·rename_i c aP;split
  ·rename_i f hf;split
   ·exact PG S H aP hf aa _ _
   ·exact PG S H aP hf aa _ _
  ·rename_i b hb;obtain⟨callee,args,argTypes⟩:=c;simp only at hb aP ⊢;subst hb;split
   ·rename_i x t oO Lq;have e1:args=#[x]:=Array.ext' oO;have e2:argTypes=#[t]:=Array.ext' Lq;subst e1 e2;exact apM S H.toCtxOk aP aa
   ·rename_i o s x t u dV oO Lq;have e1:args=#[s,x]:=Array.ext' oO;have e2:argTypes=#[t,u]:=Array.ext' Lq;subst e1 e2;split
    ·rename_i bn ht;exact aj3 S H.toCtxOk bn ht aP dV aa
    ·rename_i bn ht;exact aia S H.toCtxOk bn ht aP dV aa
    ·exact .fail
   ·rename_i x y oO;have e1:args=#[x,y]:=Array.ext' oO;subst e1;split
    ·rename_i hx hy;exact Holds.ok (Rb (tX:=true) S aP aa hx hy)
    ·exact .fail
   ·rename_i x y z u v oO;have e1:args=#[x,y,z,u,v]:=Array.ext' oO;subst e1;split
    ·rename_i hx hy hz hu hv;exact Holds.ok (anP S aP aa hx hy hz hu hv)
    ·exact .fail
   ·rename_i x y oO;have e1:args=#[x,y]:=Array.ext' oO;subst e1;split
    ·rename_i hx hy;exact Holds.ok (Rb (tX:=false) S aP aa hx hy)
    ·exact .fail
   ·exact .fail
  ·exact .fail
 ·exact ahO S H.toCtxOk aa
end
section
variable {st au:ao}
theorem np{o:Nat}(h:st.ai o=au.ai o)(s:Nat):rowOf st o s=rowOf au o s:=by unfold rowOf;rw[h]
theorem vt{o:Nat}(h:st.ai o=au.ai o)(s:Nat):gi st o s=gi au o s:=by unfold gi;rw[h]
theorem nn{o:Nat}(h:st.ai o=au.ai o):bG st o=bG au o:=by unfold bG;rw[h]
abbrev cV(st au:ao)(N:List Nat):Prop:=∀o,o∈N->st.ai o=au.ai o
theorem cV.left{N fA:List Nat}(h:cV st au (N++fA)):cV st au N:=fun o bH=>h o (bp.2 (.inl bH))
theorem cV.right{N fA:List Nat}(h:cV st au (N++fA)):cV st au fA:=fun o bH=>h o (bp.2 (.inr bH))
theorem cV.head{n:Nat}{fA:List Nat}(h:cV st au (n::fA)):st.ai n=au.ai n:=h n ci
theorem cV.tail{n:Nat}{fA:List Nat}(h:cV st au (n::fA)):cV st au fA:=fun o bH=>h o (cf _ bH)
theorem s0{N:List Nat}(h:cV st au (fl st N)):cV st au N:=by
 induction N with
 |nil=>intro o bH;cases bH
 |cons n N ih=>
  intro o bH;rcases bO.1 bH with rfl|bH
  ·exact h.head
  ·exact ih h.tail.right o bH
theorem SP{N:List Nat}(h:cV st au (fl st N)){o:Nat}(bH:o∈N):cV st au (zn st o):=by
 induction N with
 |nil=>cases bH
 |cons n N ih=>
  rcases bO.1 bH with rfl|bH
  ·exact h.tail.left
  ·exact ih h.tail.right bH
theorem GM{N fA:List Nat}:fl st (N++fA)=fl st N++fl st fA:=by
 induction N with
 |nil=>rfl
 |cons n N ih=>simp[fl,ih]
theorem Ru{l:aU}(h:cV st au l.names):kq st l=kq au l:=by
 cases l<;>try rfl
 case own o s=>simp only[kq,mS];rw[np (h.head) s,h.head]
 case clo g bM=>cases bM<;>rfl
theorem zd{al:List aU}(h:cV st au (d_ al)):gD st al=gD au al:=by
 induction al with
 |nil=>rfl
 |cons l al ih=>
  simp only[d_] at h;simp only[gD,Ru h.left,ih h.right]
theorem FG{o s:Nat}{cells:List aU}(h:gi st o s=some cells):zn st o=d_ cells:=by
 unfold gi at h;cases hs:st.ai o with
 |none=>rw[hs] at h;cases h
 |some x=>
  rw[hs] at h;cases x with
  |box aQ cs=>
   have h:(bif aQ.beq s then some cs else none)=some cells:=h
   unfold zn;rw[hs];cases hb:aQ.beq s with
   |true=>simp only[hb,ad,bE] at h;subst h;rfl
   |false=>simp[hb] at h
  |row _ _ _=>cases h
  |dF _ _ _=>cases h
  |map _ _ _=>cases h
  |dead _=>cases h
theorem agM{agg:Bool}{n:Nat}{a:bb}(h:cV st au a.names):tV agg n st a=tV agg n au a:=by
 unfold tV;split
 ·rename_i o s off;rw[vt (show st.ai o=au.ai o from h o (by simp[bb.names,b4.cells,d_,aU.names]))]
 ·rfl
 ·rename_i o s u k off;rw[np (show st.ai o=au.ai o from h o (by simp[bb.names,b4.cells,d_,aU.names]))]
 ·rfl
theorem afL{n:Nat}{a:bb}{v:b4}(h:cV st au a.names)(hv:cV st au (d_ v.cells)):tq n st a v=tq n au a v:=by
 unfold tq;congr 1
 split
 ·rename_i o s off;rw[vt (show st.ai o=au.ai o from h o (by simp[bb.names,b4.cells,d_,aU.names]))]
 ·rename_i o s u k off;rw[show st.ai o=au.ai o from h o (by simp[bb.names,b4.cells,d_,aU.names]),zd hv]
 ·rfl
theorem aeU{u:bi}{x:bb}{i:Int}(h:cV st au x.names):sR u st x i=sR u au x i:=by
 unfold sR;split
 ·rfl
 ·rename_i o s;rw[np (show st.ai o=au.ai o from h o (by simp[bb.names,b4.cells,d_,aU.names]))]
 ·rfl
theorem afO{ti:cu}{x:bb}{de hi:Option bb}(h:cV st au x.names):tu ti st x de hi=tu ti au x de hi:=by
 unfold tu;split
 ·rfl
 ·rfl
 ·rfl
 ·rename_i o s;simp only[mS];rw[np (show st.ai o=au.ai o from h o (by simp[bb.names,b4.cells,d_,aU.names])),show st.ai o=au.ai o from h o (by simp[bb.names,b4.cells,d_,aU.names])]
 ·rfl
theorem Pu{l:aU}(h:cV st au l.names):mapOf st l=mapOf au l:=by
 cases l<;>try rfl
 case own o s=>simp only[mapOf];rw[h.head]
 case d v=>cases v<;>rfl
theorem ahQ{ti:cu}{x:bb}(h:cV st au x.names):uj ti st x=uj ti au x:=by
 unfold uj;split<;>try rfl
 rotate_left
 ·rename_i l;rw[Pu (l:=l) (fun o bH=>h o (by simp[bb.names,b4.cells,d_,bH]))]
 rename_i o s;rw[np (show st.ai o=au.ai o from h o (by simp[bb.names,b4.cells,d_,aU.names]))]
theorem ags{x:bb}(h:cV st au x.names):tP st x=tP au x:=by
 unfold tP;split<;>try rfl
 rename_i o s;rw[np (show st.ai o=au.ai o from h o (by simp[bb.names,b4.cells,d_,aU.names]))]
theorem aeP{o dst s:Nat}(aa:st.ai dst=au.ai dst):bG (st.iU o (.dead s)) dst=bG (au.iU o (.dead s)) dst:=by
 apply nn;rw[ao.yT,ao.yT,aa]
theorem OW{bytes:Nat}{t:bi}{dst:Nat}{s:bb}{bm:List (den t)}(h:cV st au s.names)(aa:st.ai dst=au.ai dst):rj bytes t dst st s bm=rj bytes t dst au s bm:=by
 unfold rj;split
 ·simp only[nn aa]
 ·rename_i o s;simp only[show st.ai o=au.ai o from h o (by simp[bb.names,b4.cells,d_,aU.names]),aeP aa]
 ·rfl
theorem afu{bytes:Nat}{t:bi}{dst:Nat}{s x:bb}(h:cV st au s.names)(hx:cV st au x.names)(aa:st.ai dst=au.ai dst):to bytes t dst st s x=to bytes t dst au s x:=by
 unfold to;rw[ags hx];split
 ·rfl
 ·split
  ·split
   ·exact OW h aa
   ·rfl
  ·rfl
theorem afv{bytes:Nat}{t:bi}{dst:Nat}{s x:bb}(h:cV st au s.names)(aa:st.ai dst=au.ai dst):tp bytes t dst st s x=tp bytes t dst au s x:=by
 unfold tp;split
 ·split
  ·exact OW h aa
  ·rfl
 ·rfl
theorem PZ{o:Nat}{t:bi}{n:Nat}{xs:List (den t)}(aa:st.ai o=au.ai o):rI o st t n xs=rI o au t n xs:=by
 unfold rI;rw[nn aa]
theorem agb{o:Nat}{t:bi}{n:Nat}(aa:st.ai o=au.ai o):tL o st t n=tL o au t n:=by
 unfold tL;split<;>first|exact PZ aa|rfl
theorem ah7{o:Nat}{t:bi}{n:Nat}{v:bb}(aa:st.ai o=au.ai o):uv o st t n v=uv o au t n v:=by
 unfold uv;split
 ·split<;>first|exact PZ aa|rfl
 ·rfl
theorem agN{t:bi}{n:Nat}{a:bb}(h:cV st au a.names):tW st t n a=tW au t n a:=by
 unfold tW;split
 ·rename_i o s u;rw[np (show st.ai o=au.ai o from h o (by simp[bb.names,b4.cells,d_,aU.names]))]
 ·rfl
theorem afM{t:bi}{n:Nat}{a:bb}{v:b4}(h:cV st au a.names):tr st t n a v=tr au t n a v:=by
 unfold tr;split
 ·rename_i o s u al;rw[show st.ai o=au.ai o from h o (by simp[bb.names,b4.cells,d_,aU.names])]
 ·rfl
theorem aeV{C:Ctx}{t:bi}{n:Nat}{x:bb}{i:Int}(h:cV st au x.names):sS C st t n x i=sS C au t n x i:=by
 unfold sS;split
 ·rename_i o s u;rw[np (show st.ai o=au.ai o from h o (by simp[bb.names,b4.cells,d_,aU.names]))]
 ·rfl
 ·rfl
theorem afP{t:bi}{n:Nat}{x:bb}{de hi:Option bb}(h:cV st au x.names):tv st t n x de hi=tv au t n x de hi:=by
 unfold tv;split
 ·rename_i o s u;simp only[mS];rw[np (show st.ai o=au.ai o from h o (by simp[bb.names,b4.cells,d_,aU.names])),show st.ai o=au.ai o from h o (by simp[bb.names,b4.cells,d_,aU.names])]
 ·rfl
theorem ah2{t:bi}{as:List b4}(h:cV st au (s_ as)):l_ t st as=l_ t au as:=by
 induction as with
 |nil=>rfl
 |cons a as ih=>
  simp only[s_] at h;simp only[l_,zd h.left,ih h.right]
theorem ag0{C:Ctx}{src dst:TypeId}{o:Nat}{x:bb}(h:cV st au x.names)(aa:st.ai o=au.ai o):ub C src dst o st x=ub C src dst o au x:=by
 unfold ub;split<;>try rfl
 ·rename_i ae s _ _;rw[np (show st.ai ae=au.ai ae from h ae (by simp[bb.names,b4.cells,d_,aU.names]))]
 ·rw[nn aa]
theorem O7{bM:List (Nat×Nat)}(h:cV st au (fl st (keys bM))):lR st bM=lR au bM:=by
 induction bM with
 |nil=>rfl
 |cons p bM ih=>
  obtain⟨o,s⟩:=p;simp only[keys,fl] at h;simp only[lR];rw[<-vt h.head,<-ih h.tail.right];cases hb:gi st o s with
  |none=>rfl
  |some cells=>
   have:=h.tail.left;rw[FG hb] at this;simp only[zd this]
theorem FO{l:aU}(h:cV st au (fl st l.names)):nO st l=nO au l:=by
 have aa:=Ru (s0 h);unfold nO;split
 ·rfl
 ·rename_i g c cs;simp only[aU.names] at h;rw[O7 h]
 ·rw[aa]
theorem agP{al:List aU}(h:cV st au (fl st (d_ al))):mH st al=mH au al:=by
 induction al with
 |nil=>rfl
 |cons l al ih=>
  simp only[d_,GM] at h;simp only[mH,FO h.left,ih h.right]
theorem PA{l:aU}(h:cV st au l.names):oP st l=oP au l:=by
 unfold oP;split<;>try rfl
 rename_i o s;rw[show st.ai o=au.ai o from h.head]
theorem ahU{al:List aU}(h:cV st au (d_ al)):lc st al=lc au al:=by
 induction al with
 |nil=>rfl
 |cons l al ih=>
  simp only[d_] at h;simp only[lc,PA h.left,ih h.right]
def hF:List bb->List Nat
 |[]=>[]
 |v::vs=>v.names++hF vs
theorem O3{vs:List bb}(h:cV st au (fl st (hF vs))):jH st vs=jH au vs:=by
 induction vs with
 |nil=>rfl
 |cons v vs ih=>
  simp only[hF,GM] at h;have ih:=ih h.right;have h:=h.left;cases v with
  |kj as=>rfl
  |av a=>
   cases a with
   |agg al=>
    simp only[jH];rw[agP (by simpa[bb.names,b4.cells] using h),ih]
   |aq l=>
    have hl:cV st au (fl st l.names):=by simpa[bb.names,b4.cells,d_] using h
    unfold jH;split
    ·rfl
    ·rename_i o s axr cj;cases cj;have hl:cV st au (fl st [o]):=by simpa[bb.names,b4.cells,d_,aU.names] using h
     simp only[fl] at hl;rw[<-vt hl.head,<-ih];cases hb:gi st o s with
     |none=>rfl
     |some cells=>
      have:=hl.tail.left;rw[FG hb] at this;cases jH st vs with
      |none=>rfl
      |some r=>simp only[ahU this]
    ·rename_i gW axr _ cj;cases cj;rw[FO hl,ih]
    ·rename_i cj;cases cj
    ·rfl
theorem af7{l:aU}(h:cV st au (fl st l.names)):pT st l=pT au l:=by
 unfold pT;split
 ·rw[PA (s0 h)]
 ·rfl
 ·rw[FO h]
theorem afm{vs:List bb}(h:cV st au (fl st (hF vs))):mA st vs=mA au vs:=by
 induction vs with
 |nil=>rfl
 |cons v vs ih=>
  simp only[hF,GM] at h;have ih:=ih h.right;have h:=h.left;cases v with
  |kj as=>rfl
  |av a=>
   cases a with
   |agg al=>rfl
   |aq l=>
    have hl:cV st au (fl st l.names):=by simpa[bb.names,b4.cells,d_] using h
    simp only[mA,af7 hl,ih]
theorem afl{b:Bool}{vs:List bb}(h:cV st au (fl st (hF vs))):tc b st vs=tc b au vs:=by
 cases b
 ·exact O3 h
 ·exact afm h
theorem vr(hb:∀o,1000000<=o->st.ai o=au.ai o){o:Nat}(h:1000000<=o):bG st o=bG au o:=nn (hb o h)
theorem FJ(hb:∀o,1000000<=o->st.ai o=au.ai o):∀{al:List aU} {n:Nat},1000000<=n->take st n al=take au n al:=by
 intro al;induction al with
 |nil=>intro n _;rfl
 |cons l al ih=>
  intro n hn;cases l<;>simp only[take,ih (show 1000000<=n+1 by omega),vr hb hn]
theorem agq(hb:∀o,1000000<=o->st.ai o=au.ai o):∀{as:List b4} {n:Nat},1000000<=n->ez st n as=ez au n as:=by
 intro as;induction as with
 |nil=>intro n _;rfl
 |cons a as ih=>
  intro n hn;cases a with
  |aq l=>simp only[ez];rw[FJ hb hn,ih (show 1000000<=n+100 by omega)]
  |agg al=>simp only[ez];rw[FJ hb hn,ih (show 1000000<=n+100 by omega)]
theorem agp(hb:∀o,1000000<=o->st.ai o=au.ai o):∀{bs:List (Nat×Nat)} {c9:List (List aU)},hL st bs c9=hL au bs c9:=by
 intro bs;induction bs with
 |nil=>intro c9;cases c9<;>rfl
 |cons p bs ih=>
  obtain⟨o,s⟩:=p;intro c9;cases c9 with
  |nil=>rfl
  |cons cs c9=>simp only[hL];rw[FJ hb (by omega),ih]
theorem PF(hb:∀o,1000000<=o->st.ai o=au.ai o){dst:Nat}{S:aH}{a:kM}:p_ dst st S a=p_ dst au S a:=by
 unfold p_;simp only[agp hb,agq hb (show 1000000<=2000000+dst*10000 by omega)]
theorem afN{g:FuncId}{n:Nat}{vs:List bb}(hb:∀o,1000000<=o->st.ai o=au.ai o)(hn:1000000<=n):ts g n st vs=ts g n au vs:=by
 unfold ts;rw[vr hb hn,vr hb (show 1000000<=n+1 by omega),vr hb (show 1000000<=n+2 by omega)]
theorem agG{n:Nat}{vs:List bb}(hb:∀o,1000000<=o->st.ai o=au.ai o)(hn:1000000<=n):tS n st vs=tS n au vs:=by
 unfold tS;rw[vr hb hn]
theorem agZ{vs:List bb}(h:cV st au (fl st (hF vs))):copyV st vs=copyV au vs:=by
 unfold copyV;split
 ·rename_i o s;rw[show st.ai o=au.ai o from s0 h o (by simp[hF,bb.names,b4.cells,d_,aU.names])]
 ·rfl
theorem afi{vs:List bb}(h:cV st au (fl st (hF vs))):tb st vs=tb au vs:=by
 unfold tb;split
 ·rename_i o s;have h0:o∈hF [bb.av (.aq (.ptr o s 0))]:=by simp[hF,bb.names,b4.cells,d_,aU.names]
  rw[<-vt (s0 h o h0)];split
  ·rfl
  ·rename_i aep ae u hb;have:=SP h h0;rw[FG hb] at this;rw[show st.ai ae=au.ai ae from this ae (by simp[d_,aU.names])]
  ·rfl
 ·rfl
theorem OT{C:Ctx}(hb:∀o,1000000<=o->st.ai o=au.ai o){dst:Nat}{f:bb}{vs:List bb}(hf:cV st au (fl st f.names))(h:cV st au (fl st (hF vs))):mz C dst st f vs=mz C dst au f vs:=by
 unfold mz;split
 ·rename_i g bM;have:cV st au (fl st (keys bM)):=by simpa[bb.names,b4.cells,d_,aU.names] using hf
  simp only[afl h,O7 this,PF hb,afN hb (show 1000000<=3000000+dst*10 by omega),agG hb (show 1000000<=4000000+dst by omega),agZ h,afi h]
 ·simp only[O3 h,PF hb]
 ·rfl
theorem alZ{C:Ctx}{x:Operand}{T:TypeId}(h:∀t,x=.tmp t->st.get t=au.get t):bj C st T x=bj C au T x:=by
 cases x with
 |tmp t=>exact h t rfl
 |_=>rfl
theorem afs{ti:cu}{v:Value}:(wo ti v).names=[]:=by
 unfold wo;split<;>try rfl
 all_goals(split<;>rfl)
theorem Ax{C:Ctx}{x:Operand}{T:TypeId}:∀{xs:List Operand},x∈xs->∀o,o∈(bj C st T x).names->o∈oC st xs:=by
 intro xs;induction xs with
 |nil=>intro h;cases h
 |cons y xs ih=>
  intro h o bH;rcases bO.1 h with rfl|h
  ·cases x with
   |tmp t=>simp only[oC];exact bp.2 (.inl bH)
   |const v=>simp only[bj,afs] at bH;cases bH
   |global g=>simp[bj,bb.names,b4.cells,d_,aU.names,ch] at bH
   |func g=>simp[bj,bb.names,b4.cells,d_,aU.names,ch,keys] at bH
  ·have:=ih h o bH;cases y<;>simp only[oC]<;>first|exact bp.2 (.inr this)|exact this
theorem agH{t:Nat}:∀{xs:List Operand},.tmp t∈xs->t∈pI xs:=by
 intro xs;induction xs with
 |nil=>intro h;cases h
 |cons y xs ih=>
  intro h;rcases bO.1 h with h|h
  ·subst h;simp only[pI];exact ci
  ·have:=ih h;cases y<;>simp only[pI]<;>first|exact cf _ this|exact this
theorem Qb{v:bb}{a:b4}(h:mU v=some a):d_ a.cells=v.names:=by
 cases v with
 |av b=>simp only[mU,bE] at h;subst h;rfl
 |kj _=>cases h
theorem ag3{vs:List bb}:∀{as:List b4},oR vs=some as->∀o,o∈s_ as->o∈hF vs:=by
 induction vs with
 |nil=>intro as h;simp only[oR,bE] at h;subst h;intro o bH;cases bH
 |cons v vs ih=>
  intro as h o bH;simp only[oR] at h;split at h
  ·rename_i a pg h1 h2;simp only[bE] at h;subst h;simp only[s_,bp] at bH;simp only[hF,bp];rcases bH with bH|bH
   ·exact .inl (by rw[Qb h1] at bH;exact bH)
   ·exact .inr (ih h2 o bH)
  ·cases h
end
theorem ahn{C:Ctx}{st au:ao}{D:Oper}(hs:∀t,t∈pI (lV D.op)->st.get t=au.get t)(hn:cV st au (KQ C st D))(hb:Cx D.op=true->∀o,1000000<=o->st.ai o=au.ai o):
  step C st D=step C au D:=by
 have he:∀x,x∈lV D.op->∀T,bj C st T x=bj C au T x:=fun x hx T=>alZ fun t ay=>hs t (agH (ay▸hx))
 have Z9:looks D.op=true->cV st au (fl st (oC st (lV D.op))):=fun h=>by have:=hn.left.left;rw[h] at this;exact this
 have Z0:looks D.op=true->∀x,x∈lV D.op->∀T,cV st au (bj C st T x).names:=fun hl x hx T o bH=>s0 (Z9 hl) o (Ax hx o bH)
 have Wb:looks D.op=true->∀N:List Nat,(∀o,o∈N->o∈oC st (lV D.op))->cV st au (fl st N):=by
  intro hl N;have acY:=Z9 hl;induction N with
  |nil=>intro _ o bH;cases bH
  |cons n N ih=>
   intro h o bH;simp only[fl,bO,bp] at bH;rcases bH with rfl|bH|bH
   ·exact s0 acY o (h o ci)
   ·exact SP acY (h n ci) o bH
   ·exact ih (fun ae b6=>h ae (cf _ b6)) o bH
 have aa:∀d,D.dst=some d->st.ai d=au.ai d:=fun d h=>hn.left.right d (by simp[h])
 have hz:cV st au (KC C D.op):=hn.right;obtain⟨dst,op,type,pos,after,guard⟩:=D;simp only at he Z0 Wb aa hb hz;cases op<;>(try have hV:=Z0 rfl)<;>(try have KO:=Wb rfl)<;>(try simp only[lV,bO,List.not_mem_nil,or_false,forall_eq_or_imp,forall_eq] at he)<;>
  (try simp only[lV,bO,List.not_mem_nil,or_false,forall_eq_or_imp,forall_eq] at hV)<;>simp only[step]<;>try rfl
 case move x=>rw[he]
 case assign x=>rw[he]
 case makeMap t r=>
  simp only[lP];cases dst with
  |none=>rfl
  |some o=>
   have e:=nn (aa o rfl);cases C.tt t<;>try rfl
   cases r with
   |none=>simp only[e]
   |some x=>simp only[he x (by simp[lV]),e]
 case lookup t m k c=>
  simp only[lP];rw[he.1,he.2];have h1:=hV.1 t;rw[he.1] at h1;generalize bj C au t m=aee at h1 ⊢;split
  ·rename_i l n _ _;rw[Pu (l:=l) (fun o bH=>h1 o (by simp[bb.names,b4.cells,d_,bH]))]
  ·rfl
 case mapUpdate t m k x=>
  simp only[lP,lP.tA];rw[he.1,he.2.1,he.2.2];have h1:=hV.1 t;rw[he.1] at h1;generalize bj C au t m=aee at h1 ⊢;split
  ·rename_i o s n d _ _ _;rw[show st.ai o=au.ai o from h1 o (by simp[bb.names,b4.cells,d_,aU.names])]
  ·rfl
 case insert t m k x=>
  simp only[lP,lP.tA];rw[he.1,he.2.1,he.2.2];have h1:=hV.1 t;rw[he.1] at h1;generalize bj C au t m=aee at h1 ⊢;split
  ·rename_i o s n d _ _ _;rw[show st.ai o=au.ai o from h1 o (by simp[bb.names,b4.cells,d_,aU.names])]
  ·rfl
 case pick c a b=>rw[he.1,he.2.1,he.2.2]
 case alloc elem=>
  cases dst with
  |none=>rfl
  |some o=>
   have e:=nn (aa o rfl);cases bn:C.tt elem with
   |arr _ t n=>exact agb (aa o rfl)
   |_=>simp only[e]
 case box elem x=>
  rw[he];cases dst with
  |none=>rfl
  |some o=>
   have e:=nn (aa o rfl);cases bn:C.tt elem with
   |arr _ t n=>exact ah7 (aa o rfl)
   |_=>simp only[e]
 case build t ps=>
  have go:∀(b0:List (Nat×Nat)) (r:List (Nat×Operand)) (z:List aU),(∀x,x∈r.map (·.2)->∀T,bj C st T x=bj C au T x)->step.nE C st b0 z r=step.nE C au b0 z r:=by
    intro b0 r;induction r with
    |nil=>intro z _;rfl
    |cons p r ih=>
     obtain⟨i,x⟩:=p;intro z h;simp only[step.nE];rw[h x (by simp)]
     split
     ·rw[ih _ fun x hx=>h x (by simp only[List.map_cons,bO];exact .inr hx)]
     ·rfl
  split
  ·exact go _ _ _ he
  ·split
   ·exact go _ _ _ he
   ·rfl
  ·rfl
 case buildSlice t len ps=>
  cases dst with
  |none=>rfl
  |some o=>
   cases h2:C.tt t<;>try rfl
   rename_i e ty bytes;simp only;have h1:some o=some o:=rfl;have em:(ps.toList.map fun p=>bj C st e p.2)=ps.toList.map fun p=>bj C au e p.2:=by
    apply List.map_congr_left;intro p hp;exact he _ (List.mem_map.2 ⟨p,hp,rfl⟩) e
   have ll:cV st au (hF (ps.toList.map fun p=>bj C st e p.2)):=by
    have:∀l:List (Nat×Operand),(∀p,p∈l->p∈ps.toList)->cV st au (hF (l.map fun p=>bj C st e p.2)):=by
     intro l;induction l with
     |nil=>intro _ o bH;cases bH
     |cons p l ih=>
      intro h o bH;simp only[List.map_cons,hF,bp] at bH;rcases bH with bH|bH
      ·exact hV _ (List.mem_map.2 ⟨p,h p ci,rfl⟩) e o bH
      ·exact ih (fun q aC=>h q (cf _ aC)) o bH
    exact this _ fun _ h=>h
   rw[<-em,nn (aa o h1)];congr 1
   split
   ·rename_i as has;rw[ah2 fun ae b6=>ll ae (ag3 has ae b6)]
   ·rfl
 case load t a=>
  rw[<-he];split
  ·exact agN (hV _)
  ·rw[agM (hV _)]
 case store t a x=>
  rw[<-he.1,<-he.2];split
  ·rename_i v hv;split
   ·exact afM (hV.1 _)
   ·rw[afL (hV.1 _) (by rw[Qb hv];exact hV.2 _)]
  ·rfl
 case nilCheck x=>rw[he]
 case makeInterface t x=>simp only[lP];rw[he]
 case binOp op t x y ty=>rw[he.1,he.2]
 case unOp op t x=>rw[he]
 case convert src aDD x=>
  cases dst with
  |none=>rfl
  |some o=>simp only;rw[<-he,ag0 (hV _) (aa o rfl)]
 case makeFunc fn first captured=>
  split
  ·rename_i g;have go:∀(r:List Operand),(∀x,x∈r->∀T,bj C st T x=bj C au T x)->step.oQ C st r=step.oQ C au r:=by
    intro r;induction r with
    |nil=>intro _;rfl
    |cons x r ih=>
     intro h;simp only[step.oQ];rw[h x (by simp),ih fun x hx=>h x (cf _ hx)]
   rw[go _ he]
  ·rfl
 case makeSlice t l c=>
  rw[<-he.1,<-he.2];cases dst with
  |none=>rfl
  |some o=>
   cases h2:C.tt t<;>try rfl
   rename_i e ty bytes;simp only[KC,h2] at hz;have e1:=nn (aa o rfl);have e2:∀z,(C.tt e).zero=some z->gD st z=gD au z:=fun z hzz=>by
    simp only[hzz] at hz;exact zd hz
   generalize bj C st 0 l=eC;generalize bj C st 0 c=gn;have dn:∀n m aI aJ,eC=.av (.aq (.d (.int aI n)))->gn=.av (.aq (.d (.int aJ m)))->
     (match(C.tt e).zero with
      |some z=>match gD st z with
       |some (ds,_)=>match dec ty ds with
        |some fj=>dA.ik (kk bytes n m fj) (fun _=>ch (.own o (bG st o))) fun r=>[(o,.row (bG st o) ty r)]
        |none=>.fail
       |none=>.fail
      |none=>.fail)=(match(C.tt e).zero with
      |some z=>match gD au z with
       |some (ds,_)=>match dec ty ds with
        |some fj=>dA.ik (kk bytes n m fj) (fun _=>ch (.own o (bG au o))) fun r=>[(o,.row (bG au o) ty r)]
        |none=>.fail
       |none=>.fail
      |none=>.fail):=by
    intro n m aI aJ _ _;cases hzz:(C.tt e).zero with
    |none=>rfl
    |some z=>simp only[e2 z hzz,e1]
   rcases eC with(ed|_)|_<;>try rfl
   cases ed<;>try rfl
   rename_i d1;cases d1<;>try rfl
   rcases gn with(fU|_)|_<;>try rfl
   cases fU<;>try rfl
   rename_i d2;cases d2<;>try rfl
   exact dn _ _ _ _ rfl rfl
 case slice t x de hi E3=>
  cases E3 with
  |some _=>rfl
  |none=>
   simp only;have e1:de.map (bj C st 0)=de.map (bj C au 0):=by
    cases de with
    |none=>rfl
    |some y=>simp only[Option.map_some];rw[he.2 y (by simp)]
   have e2:hi.map (bj C st 0)=hi.map (bj C au 0):=by
    cases hi with
    |none=>rfl
    |some y=>simp only[Option.map_some];rw[he.2 y (by simp)]
   rw[<-he.1,e1,e2];split
   ·exact afP (hV.1 _)
   ·exact afO (hV.1 _)
 case fieldAddr s x f=>rw[he]
 case indexAddr t x i=>
  rw[<-he.1,<-he.2];split
  ·rw[aeU (hV.1 _)]
  ·rw[aeV (hV.1 _)]
  ·rfl
 case index t x i=>rw[he.1,he.2]
 case extract t i=>rw[he]
 case call c=>
  obtain⟨azC,args,Mv⟩:=c;simp only;cases azC with
  |invoke r m=>rfl
  |value f=>
   simp only[lV,bp,bO,List.not_mem_nil,or_false] at KO;simp only[Cx,forall_const] at hb;simp only[bp,bO,List.not_mem_nil,or_false] at he;have em:∀(xs:List Operand) (dh:List TypeId),(∀x,x∈xs->∀T,bj C st T x=bj C au T x)->gU C st xs dh=gU C au xs dh:=by
    intro xs;induction xs with
    |nil=>intro dh _;cases dh<;>rfl
    |cons x xs ih=>
     intro dh h;cases dh with
     |nil=>simp only[gU];rw[h x (by simp),ih [] fun y hy=>h y (cf _ hy)]
     |cons T dh=>simp only[gU];rw[h x (by simp),ih dh fun y hy=>h y (cf _ hy)]
   have E6:∀(xs bm:List Operand) (dh:List TypeId),(∀x,x∈xs->x∈bm)->∀o,o∈hF (gU C st xs dh)->o∈oC st bm:=by
    intro xs bm;induction xs with
    |nil=>intro dh _ o bH;cases dh<;>cases bH
    |cons x xs ih=>
     intro dh h o bH;cases dh with
     |nil=>
      simp only[gU,hF,bp] at bH;rcases bH with bH|bH
      ·exact Ax (h x ci) o bH
      ·exact ih [] (fun y hy=>h y (cf _ hy)) o bH
     |cons T dh=>
      simp only[gU,hF,bp] at bH;rcases bH with bH|bH
      ·exact Ax (h x ci) o bH
      ·exact ih dh (fun y hy=>h y (cf _ hy)) o bH
   have h1:cV st au (fl st (bj C st 0 f).names):=KO _ fun o bH=>Ax (bp.2 (.inl (by simp))) o bH
   have h2:cV st au (fl st (hF (gU C st args.toList Mv.toList))):=KO _ fun o bH=>E6 _ _ _ (fun x hx=>bp.2 (.inr hx)) o bH
   have h3:=he f (.inl rfl) 0;have aF:=em args.toList Mv.toList fun x hx=>he x (.inr hx)
   cases dst with
   |none=>show mz C 0 st _ _=mz C 0 au _ _;rw[<-h3,<-aF];exact OT hb h1 h2
   |some d=>show mz C d st _ _=mz C d au _ _;rw[<-h3,<-aF];exact OT hb h1 h2
  |builtin b=>
   simp only[List.nil_append] at he hV;generalize args.toList=xs at he hV;generalize Mv.toList=cv;cases b<;>try rfl
   case append=>
    rcases dst with _|o
    ·rfl
    rcases xs with _|⟨s,_|⟨x,_|_⟩⟩<;>try rfl
    rcases cv with _|⟨t,_|⟨u,_|_⟩⟩<;>try rfl
    have e1:=he s (by simp) t
    have e2:=he x (by simp) u
    dsimp only;cases C.tt t<;>try rfl
    cases C.tt u<;>try rfl
    all_goals dsimp only
    all_goals rw[<-e1,<-e2]
    all_goals first|exact afu (hV s (by simp) _) (hV x (by simp) _) (aa o rfl)|exact afv (hV s (by simp) _) (aa o rfl)
   case len=>
    rcases xs with _|⟨s,_|⟨x,_|_⟩⟩<;>try rfl
    rcases cv with _|⟨t,_|⟨u,_|_⟩⟩<;>try rfl
    have e1:=he s (by simp) t
    dsimp only;rw[<-e1];exact ahQ (hV s (by simp) _)
   case max=>
    rcases xs with _|⟨s,_|⟨x,_|⟨z,_|⟨u,_|⟨v,_|_⟩⟩⟩⟩⟩<;>try rfl
    ·have e1:=he s (by simp) type
     have e2:=he x (by simp) type
     dsimp only;rw[<-e1,<-e2]
    ·have e1:=he s (by simp) type
     have e2:=he x (by simp) type
     have bz:=he z (by simp) type
     have dn:=he u (by simp) type
     have e5:=he v (by simp) type
     dsimp only;rw[<-e1,<-e2,<-bz,<-dn,<-e5]
   case min=>
    rcases xs with _|⟨s,_|⟨x,_|_⟩⟩<;>try rfl
    have e1:=he s (by simp) type
    have e2:=he x (by simp) type
    dsimp only;rw[<-e1,<-e2]
def e6(r:Option Nat):Fence:={Fence.wide with round:=r}
abbrev gJ(r:Option Nat)(P:Program)(c:Code)(Q:Exit->Act->World->Prop)(a:Act)(w:World):Prop:=c.wpIn (e6 r) 0 P Q a w
theorem Dr(r:Option Nat)(f:FuncId):(e6 r).fn f:=trivial
theorem UA(r:Option Nat)(n:Nat):(e6 r).room n:=fun _ h=>by simp[e6,Fence.wide] at h
theorem gJ.any{r:Option Nat}{P:Program}{c:Code}{Q:Exit->Act->World->Prop}{a:Act}{w:World}(h:gJ r P c Q a w)(n:Nat):c.wpIn (e6 r) n P Q a w:=
 fun b k cs MY hb _=>h b k cs MY hb (UA r _)
theorem gJ.of{r:Option Nat}{P:Program}{c:Code}{Q:Exit->Act->World->Prop}{a:Act}{w:World}{n:Nat}(h:c.wpIn (e6 r) n P Q a w):gJ r P c Q a w:=
 fun b k cs MY hb _=>h b k cs MY hb (UA r _)
theorem gJ.wp{P:Program}{c:Code}{Q:Exit->Act->World->Prop}{a:Act}{w:World}(h:gJ none P c Q a w):c.wp P Q a w:=(wpIn_wide (n:=0)).1 h
theorem ah5{r:Option Nat}{n:Nat}{P:Program}{f:FuncId}{args:Array Value}{w:World}{R:Ending->World->Prop}(h:Calls P f args w R):CallsIn (e6 r) n P f args w R:=by
 cases r with
 |none=>exact callsIn_wide.2 h
 |some l=>exact CallsIn.inRound l (callsIn_wide.2 h)
theorem aiQ{r:Option Nat}{n:Nat}{P:Program}{row:String}{args:Array Value}{w:World}{R:Value->World->Prop}(h:Rows P row args w R):RowsIn (e6 r) n P row args w R:=by
 intro c cs _;obtain⟨v,w',hr,hs⟩:=h c cs;exact⟨v,w',hr,stepsIn_wide.2 hs⟩
theorem vO(M:Array Value)(ds:List Deferred)(dst:Option Nat)(v:Value):(⟨M,ds⟩:Act).put dst v=⟨cP M dst v,ds⟩:=by cases dst<;>rfl
theorem KL{P:Program}{D:Oper}{M:Array Value}{w:World}{K:Act->World->Prop}(b5:∀a w,K a w->a.defers=[])(h:D.wp P ⟨M,[]⟩ w K (fun _ _ _=>False))(r:Option Nat)(ds:List Deferred){Q:Exit->Act->World->Prop}:
  D.wpIn (e6 r) 0 P ⟨M,ds⟩ w (fun c_ w'=>∃v,c_=⟨cP M D.dst v,ds⟩/\K ⟨cP M D.dst v,[]⟩ w') Q:=by
 refine⟨fun f _=>Dr r f,?_⟩
 have bK:(⟨M,ds⟩:Act).eval=(⟨M,[]⟩:Act).eval:=by funext x;cases x<;>rfl
 rw[bK];unfold Oper.wp at h;have aa:∀c,D.op≠.defer c:=by
  intro c aP;have:(execOp (Act.eval ⟨M,[]⟩) D)=(do let d <-resolve (Act.eval ⟨M,[]⟩) c D.type;pure (.defer d)):=by
   unfold execOp;simp only[aP]
  rw[this] at h;simp only[Sem.run_bind] at h;cases hr:(resolve (Act.eval ⟨M,[]⟩) c D.type).run P w with
  |ok d w'=>
   rw[hr] at h;simp only[Result.andThen_ok,Sem.run_pure,Oper.upon] at h;have:=b5 _ _ h;cases dV:D.dst<;>rw[dV] at this<;>simp[Act.put] at this
  |halt x w'=>
   rw[hr] at h;cases x<;>simp[Result.andThen,Oper.upon] at h
 rw[Oper.semAt_eq _ _ _ aa];generalize(execOp (Act.eval ⟨M,[]⟩) D).run P w=fH at h;have hp:∀v,(⟨M,ds⟩:Act).put D.dst v=⟨cP M D.dst v,ds⟩:=vO M ds D.dst;have r3:∀v,(⟨M,[]⟩:Act).put D.dst v=⟨cP M D.dst v,[]⟩:=vO M [] D.dst;cases fH with
 |ok x w'=>
  cases x with
  |value v=>simp only[Oper.upon,Oper.uponIn,r3] at h ⊢;exact⟨v,hp v,h⟩
  |skip=>simp only[Oper.upon,Oper.uponIn,r3] at h ⊢;exact⟨undef,hp _,h⟩
  |defer d=>
   simp only[Oper.upon] at h;have:=b5 _ _ h;cases dV:D.dst<;>rw[dV] at this<;>simp[Act.put] at this
  |enter f args=>
   simp only[Oper.upon,Oper.uponIn] at h ⊢;refine⟨fun h=>by simp[e6,Fence.wide] at h,(ah5 h).mono fun e Ec he=>?_⟩
   cases e with
   |returned v=>simp only[r3] at he;exact⟨v,hp v,he⟩
   |panicked c=>exact he.elim
   |outgrown=>obtain⟨a0,U,aC⟩:=he;exact aC.elim
  |row row args=>
   simp only[Oper.upon,Oper.uponIn] at h ⊢;refine⟨fun h=>by simp[e6,Fence.wide] at h,(aiQ h).mono fun v Ec he=>?_⟩
   simp only[r3] at he;exact⟨v,hp v,he⟩
  |_=>simp only[Oper.upon] at h
 |halt x w'=>
  cases x<;>simp only[Oper.upon] at h
def i_:List Oper->List Nat
 |[]=>[]
 |D::r=>D.dst.toList++i_ r
def h':Nat:=1000000000
def cJ:Code->List Nat
 |.region _ ops _=>i_ ops.toList
 |.seq a b|.cond _ a b=>cJ a++cJ b
 |.block _ a|.loop a=>cJ a
 |.rangeFunc _ ps a b=>h'::(ps.toList++(cJ a++cJ b))
 |_=>[]
def hI:Code->Bool
 |.seq a b|.cond _ a b=>hI a&&hI b
 |.block _ a|.loop a=>hI a
 |.rangeFunc _ _ _ _=>false
 |_=>true
def mark(bk:Nat):Deferred:={target:=.collected bk,args:=#[]}
structure iM(U:World)(Z:List Nat)(X:Nat->Prop)(a':World)(eb:List Nat)(dp:Nat->Prop):Prop where
 cZ:∀w,Fr eb a' w->Fr Z U w
 cF:∀b,(b∈eb\/a'.heap.size<=b)->(b∈Z\/U.heap.size<=b)
 x:∀b,X b->dp b
structure Marks(U:World)(ef:List Nat)(a':World)(eb:List Nat)(dp:Nat->Prop):Prop where
 nodup:ef.Nodup
 new:∀bk,bk∈ef->U.heap.size<=bk
 h9:∀bk,bk∈ef->a'.heap[bk]? =some (.deferred (some []))/\bk∉eb/\dp bk
def eU(U:World)(Z:List Nat)(X:Nat->Prop)(ds:List Deferred)(e9:Array Value)(W:List Nat)(st:ao)(a:Act)(w:World):Prop:=
 ∃a' eb dp F ef,iM U Z X a' eb dp/\Marks U ef a' eb dp/\(a.defers=ef.map mark++ds/\(h'∉W->ef=[]))/\az a' eb dp F st a.tmps w/\∀t,t∉W->a.tmps.getD t undef=e9.getD t undef
def fB(U:World)(Z:List Nat)(X:Nat->Prop)(ds:List Deferred)(e9:Array Value)(W:List Nat):Out->Exit->Act->World->Prop
 |.norm st,.normal,a,w=>eU U Z X ds e9 W st a w
 |.exit id st,.exit jv,a,w=>id=jv/\eU U Z X ds e9 W st a w
 |.ret st,.ret,a,w=>eU U Z X ds e9 W st a w
 |_,_,_,_=>False
theorem iM.refl(U:World)(Z:List Nat)(X:Nat->Prop):iM U Z X U Z X:=⟨fun _ h=>h,fun _ h=>h,fun _ h=>h⟩
theorem iM.trans{U a' w2:World}{Z eb fi:List Nat}{X dp cO:Nat->Prop}(h:iM U Z X a' eb dp)(k:iM a' eb dp w2 fi cO):iM U Z X w2 fi cO:=
 ⟨fun w hw=>h.cZ w (k.cZ w hw),fun b hb=>h.cF b (k.cF b hb),fun b hb=>k.x b (h.x b hb)⟩
theorem Marks.nil(U a':World)(Z:List Nat)(X:Nat->Prop):Marks U [] a' Z X:=⟨List.nodup_nil,fun _ h=>by simp at h,fun _ h=>by simp at h⟩
theorem Marks.lt{U a':World}{Z:List Nat}{X:Nat->Prop}{ef:List Nat}(h:Marks U ef a' Z X){bk:Nat}(fo:bk∈ef):bk<a'.heap.size:=by
 have:=(h.h9 bk fo).1;exact(Array.getElem?_eq_some_iff.1 this).1
theorem Marks.trans{U a' w2:World}{Z eb fi:List Nat}{X dp cO:Nat->Prop}{ef EY:List Nat}(hb:iM U Z X a' eb dp)(h:Marks U ef a' eb dp)(k:iM a' eb dp w2 fi cO)(m:Marks a' EY w2 fi cO):
  Marks U (EY++ef) w2 fi cO:=by
 have hf:Fr eb a' w2:=k.cZ w2 (Fr.refl _ _);refine⟨List.nodup_append.2 ⟨m.nodup,h.nodup,fun a ha b hb e=>?_⟩,fun bk fo=>?_,fun bk fo=>?_⟩
 ·subst e;have h1:=m.new a ha;have h2:=h.lt hb;omega
 ·rcases bp.1 fo with fo|fo
  ·have h1:=m.new bk fo;have h2:Fr Z U a':=hb.cZ a' (Fr.refl _ _);have:=h2.size;omega
  ·exact h.new bk fo
 ·rcases bp.1 fo with fo|fo
  ·exact m.h9 bk fo
  ·obtain⟨h1,h2,h3⟩:=h.h9 bk fo;have hlt:=h.lt fo;refine⟨(hf.block bk hlt h2).trans h1,fun aF=>?_,k.x bk h3⟩
   rcases k.cF bk (.inl aF) with bo|bo
   ·exact h2 bo
   ·omega
section
variable {U:World}{Z:List Nat}{X:Nat->Prop}{ds:List Deferred}{e9:Array Value}{W:List Nat}
theorem eU.of{F:Nat->Value}{st:ao}{M:Array Value}{w:World}(S:az U Z X F st M w)(ay:∀t,t∉W->M.getD t undef=e9.getD t undef):eU U Z X ds e9 W st ⟨M,ds⟩ w:=
 ⟨U,Z,X,F,[],iM.refl _ _ _,Marks.nil _ _ _ _,⟨rfl,fun _=>rfl⟩,S,ay⟩
theorem eU.mono{dr:List Nat}(h:∀t,t∈W->t∈dr){st:ao}{a:Act}{w:World}(k:eU U Z X ds e9 W st a w):eU U Z X ds e9 dr st a w:=by
 obtain⟨a',eb,dp,F,ef,h1,h2,h3,aF,bo⟩:=k;exact⟨a',eb,dp,F,ef,h1,h2,⟨h3.1,fun hn=>h3.2 fun an=>hn (h _ an)⟩,aF,fun t ay=>bo t fun an=>ay (h t an)⟩
theorem fB.mono{dr:List Nat}(h:∀t,t∈W->t∈dr):∀{D:Out} {e:Exit} {a:Act} {w:World},fB U Z X ds e9 W D e a w->fB U Z X ds e9 dr D e a w:=by
 intro D e a w k;cases D<;>cases e<;>first|exact eU.mono h k|exact⟨k.1,eU.mono h k.2⟩|exact k.elim
theorem eU.trans{a':World}{eb:List Nat}{dp:Nat->Prop}{ef:List Nat}{W1 j1:List Nat}{ir:Array Value}(hb:iM U Z X a' eb dp)(hm:Marks U ef a' eb dp)(hr:h'∉W1->ef=[])(ay:∀t,t∉W1->ir.getD t undef=e9.getD t undef)
  {st:ao} {a:Act} {w:World} (k:eU a' eb dp (ef.map mark++ds) ir j1 st a w):eU U Z X ds e9 (W1++j1) st a w:=by
 obtain⟨w2,fi,cO,F,EY,h1,h2,h3,aF,bo⟩:=k;refine⟨w2,fi,cO,F,EY++ef,hb.trans h1,hm.trans hb h1 h2,⟨by rw[h3.1,List.map_append,List.append_assoc],fun hn=>by
  simp only[bp,not_or] at hn;rw[h3.2 hn.2,hr hn.1];rfl⟩,aF,fun t MV=>?_⟩
 simp only[bp,not_or] at MV;rw[bo t MV.2,ay t MV.1]
theorem fB.trans{a':World}{eb:List Nat}{dp:Nat->Prop}{ef:List Nat}{W1 j1:List Nat}{ir:Array Value}(hb:iM U Z X a' eb dp)(hm:Marks U ef a' eb dp)(hr:h'∉W1->ef=[])(ay:∀t,t∉W1->ir.getD t undef=e9.getD t undef)
  {D:Out} {e:Exit} {a:Act} {w:World} (k:fB a' eb dp (ef.map mark++ds) ir j1 D e a w):fB U Z X ds e9 (W1++j1) D e a w:=by
 cases D<;>cases e<;>first|exact eU.trans hb hm hr ay k|exact⟨k.1,eU.trans hb hm hr ay k.2⟩|exact k.elim
end
def aV(P:Program)(c:Code)(f:iv):Prop:=
 ∀r,r=none\/hI c=true->∀U Z X st y,(f st).comp=some y->∀F M w ds,az U Z X F st M w->gJ r P c (fB U Z X ds M (cJ c) ((f st).out y)) ⟨M,ds⟩ w
def gN(P:Program)(C:im):Code->Nat->Prop
 |.seq a b,p=>(∀f,C.oZ p=some f->aV P (.seq a b) f)/\gN P C a (2*p)/\gN P C b (2*p+1)
 |.cond c a b,p=>(∀f,C.oZ p=some f->aV P (.cond c a b) f)/\gN P C a (2*p)/\gN P C b (2*p+1)
 |.block id a,p=>(∀f,C.oZ p=some f->aV P (.block id a) f)/\gN P C a (2*p)
 |c,p=>∀f,C.oZ p=some f->aV P c f
def gz:Code->Nat->List (Nat×Code)
 |.seq a b,p=>(p,.seq a b)::(gz a (2*p)++gz b (2*p+1))
 |.cond c a b,p=>(p,.cond c a b)::(gz a (2*p)++gz b (2*p+1))
 |.block id a,p=>(p,.block id a)::gz a (2*p)
 |c,p=>[(p,c)]
theorem TQ{P:Program}{C:im}:∀(c:Code) (p:Nat),(∀q fM,(q,fM)∈gz c p->∀f,C.oZ q=some f->aV P fM f)->gN P C c p:=by
 intro c;induction c with
 |seq a b mY rU=>
  intro p h;simp only[gz] at h;exact⟨h p _ ci,mY _ fun q fM hm=>h q fM (cf _ (bp.2 (.inl hm))),rU _ fun q fM hm=>h q fM (cf _ (bp.2 (.inr hm)))⟩
 |cond D a b mY rU=>
  intro p h;simp only[gz] at h;exact⟨h p _ ci,mY _ fun q fM hm=>h q fM (cf _ (bp.2 (.inl hm))),rU _ fun q fM hm=>h q fM (cf _ (bp.2 (.inr hm)))⟩
 |block id a mY=>
  intro p h;simp only[gz] at h;exact⟨h p _ ci,mY _ fun q fM hm=>h q fM (cf _ hm)⟩
 |_=>intro p h;exact h p _ (by simp[gz])
section
variable {P:Program}{U:World}{Z:List Nat}{X:Nat->Prop}{F:Nat->Value}{st:ao}{M:Array Value}{w:World}
theorem az.nC(S:az U Z X F st M w){t:Nat}{v:bb}(hv:cy F st.sites w (aN X F st.sites) v (M.getD t undef)):az U Z X F (st.set t v) M w:=by
 refine⟨S.nt,fun u=>?_,S.sites,S.eB,S.cF,S.frame,S.old,S.ft⟩
 rw[ao.Ji];by_cases h:t=u
 ·subst h;simp only[if_true];exact hv
 ·simp only[h,if_false];exact S.c5 u
variable {R:Type}{C:Ctx}{ops:Array Oper}
theorem Q6(S:az U Z X F st M w)(H:aT P C){D:Oper}{K:ao->Option R}{r:R}(h:k0 C st D K=some r){N:Act->World->Prop}{Q:Exit->Act->World->Prop}
  (b5:∀au a_ ca w',K au=some r->az U Z X a_ au ca w'->N ⟨ca,[]⟩ w'):D.wp P ⟨M,[]⟩ w N Q:=by
 unfold k0 at h;cases aa:cE st D.dst with
 |false=>simp[aa] at h
 |true=>
  simp only[aa,ad] at h;have hs:=amz S H aa;cases hc:(step C st D).comp with
  |none=>simp[hc] at h
  |some y=>
   simp only[hc,Y] at h;cases hk:(step C st D).sk y with
   |false=>simp[hk] at h
   |true=>
    simp only[hk,ad] at h;exact hs y hc hk N Q fun a_ ca w' cA=>b5 _ a_ ca w' h cA
theorem ahr{T e:TypeId}(h:P.underlying T=some (.slice e))(a:Option Addr)(n c:Nat)(neg:Bool):
  (binOp (if neg then .neq else .eql) T (.slice a n c) (.slice none 0 0)).run P w=.ok (.bool (if neg then !a.isNone else a.isNone)) w:=by
 have e:(Op.equal T (.slice a n c) (.slice none 0 0)).run P w=.ok a.isNone w:=by
  have key:∀d:Nat,(Op.equalIn (d+1) T (.slice a n c) (.slice none 0 0)).run P w=.ok a.isNone w:=fun d=>by cases a<;>simp[Op.equalIn,run_underlying h]
  exact key 9999
 cases neg
 ·show((do pure (.bool (<-Op.equal T (.slice a n c) (.slice none 0 0)))):Sem Value).run P w=_
  simp only[Sem.run_bind,e,Result.andThen_ok,Sem.run_pure];rfl
 ·show((do pure (.bool (!(<-Op.equal T (.slice a n c) (.slice none 0 0))))):Sem Value).run P w=_
  simp only[Sem.run_bind,e,Result.andThen_ok,Sem.run_pure];rfl
theorem aeR{op:BinOp}{T:TypeId}{x y:Operand}{a b:Option Addr}{n c h6 fM:Nat}:(eqGuard op T x y (.slice a n c) (.slice b h6 fM)).run P w=.ok () w:=by
 unfold eqGuard;cases op<;>rfl
theorem ahH{D:Oper}{t:bi}{xs:List (den t)}{neg:Bool}(h:J4 C st D=some (⟨t,xs⟩,neg)):∃T x oc e ty bytes,D.op=.binOp (if neg then .neq else .eql) T x (.const (.slice none 0 0)) oc/\C.tt T=.slice e ty bytes/\bj C st T x=.av (.aq (.d (.sl t xs))):=by
 unfold J4 at h;split at h
 ·rename_i op T x oc aP;split at h
  ·rename_i e ty bytes bn;split at h
   ·split at h
    ·rename_i bw jq hx;cases h;exact⟨T,x,oc,e,ty,bytes,aP,bn,hx⟩
    ·cases h
   ·split at h
    ·rename_i bw jq hx;cases h;exact⟨T,x,oc,e,ty,bytes,aP,bn,hx⟩
    ·cases h
   ·cases h
  ·cases h
 ·cases h
theorem afg{t:bi}{xs:List (den t)}{a b:Option R}{r:R}(h:qU xs a b=some r):b=some r/\(xs=[]->a=some r):=by
 unfold qU at h;split at h
 ·rename_i ac3;exact⟨h,fun he=>(ac3 he).trans h⟩
 ·cases h
theorem akJ(S:az U Z X F st M w)(H:aT P C){D:Oper}{K:ao->Option R}{r:R}(h:wT C st D K=some r){N:Act->World->Prop}{Q:Exit->Act->World->Prop}
  (b5:∀au a_ ca w',K au=some r->az U Z X a_ au ca w'->N ⟨ca,[]⟩ w'):D.wp P ⟨M,[]⟩ w N Q:=by
 unfold wT at h;split at h
 ·rename_i t xs neg hn;cases aa:cE st D.dst with
  |false=>simp[aa] at h
  |true=>
   simp only[aa,ad] at h;obtain⟨h2,h1⟩:=afg h;obtain⟨T,x,oc,e,ty,bytes,aP,bn,hx⟩:=ahH hn;have hs:=dU S C T x;rw[hx] at hs;have bX:=H.tt T;rw[bn] at bX;have run:∀{a:Option Addr} {n c:Nat},Act.eval ⟨M,[]⟩ x=.slice a n c->(execOp (Act.eval ⟨M,[]⟩) D).run P w=.ok (.value (.bool (if neg then !a.isNone else a.isNone))) w:=by
    intro a n c hv;unfold execOp;have hc:Act.eval ⟨M,[]⟩ (.const (.slice none 0 0))=.slice none 0 0:=rfl;simp only[aP,hv,hc,Sem.run_bind,aeR,ahr bX.1.1,Result.andThen_ok,Sem.run_pure]
   have fin:∀b:Bool,(execOp (Act.eval ⟨M,[]⟩) D).run P w=.ok (.value (.bool b)) w->K (st.df D.dst (one (.bool b)) [])=some r->D.wp P ⟨M,[]⟩ w N Q:=by
    intro b hr hk;refine pO hr (b5 _ _ _ _ hk (az.df (us:=[]) S aa ?_));exact bT.bool b
   have hs:bT w (aN X F st.sites) (.sl t xs) (Act.eval ⟨M,[]⟩ x):=hs;generalize jo:Act.eval ⟨M,[]⟩ x=v at hs;cases hs with
   |nil=>
    have:=run jo;cases neg
    ·exact fin true this (h1 rfl)
    ·exact fin false this (h1 rfl)
   |sl t xs a cap cs n jc hcap hb hl hc hr=>
    have:=run jo;cases neg
    ·exact fin false this h2
    ·exact fin true this h2
 ·exact Q6 S H h b5
theorem aiK(S:az U Z X F st M w){D:Oper}{K:ao->Option R}{r:R}(h:tw st D K=some r){N:Act->World->Prop}
  (b5:∀au a_ ca w',K au=some r->az U Z X a_ au ca w'->N ⟨ca,[]⟩ w'):N ((⟨M,[]⟩:Act).put D.dst undef) w:=by
 unfold tw at h;cases aa:cE st D.dst with
 |false=>simp[aa] at h
 |true=>
  simp only[aa,ad] at h;have:(⟨M,[]⟩:Act).put D.dst undef=⟨cP M D.dst undef,[]⟩:=by cases D.dst<;>rfl
  rw[this];exact b5 _ _ _ _ h (az.df (us:=[]) S aa rfl)
theorem jF{M:Array Value}{dst:Option Nat}{v:Value}{t:Nat}(h:t∉dst.toList):(cP M dst v).getD t undef=M.getD t undef:=by
 cases dst with
 |none=>rfl
 |some d=>
  have:d≠t:=fun e=>h (by simp[e])
  simp[cP,Array.getD_eq_getD_getElem?,Array.getElem?_setIfInBounds_ne this]
variable {rn:Option Nat}{ds:List Deferred}
theorem Hc(S:az U Z X F st M w)(H:aT P C){D:Oper}{K:ao->Option R}{r:R}(h:wT C st D K=some r){N:Act->World->Prop}{Q:Exit->Act->World->Prop}
  (b5:∀au a_ ca w',K au=some r->az U Z X a_ au ca w'->(∀t,t∉D.dst.toList->ca.getD t undef=M.getD t undef)->N ⟨ca,ds⟩ w'):D.wpIn (e6 rn) 0 P ⟨M,ds⟩ w N Q:=by
 refine Oper.wpIn_mono ?_ (KL (K:=fun a w=>a.defers=[]/\∃au a_,K au=some r/\az U Z X a_ au a.tmps w) (fun _ _ h=>h.1) (akJ S H h fun au a_ ca w' hk cA=>⟨rfl,au,a_,hk,cA⟩) rn ds)
 rintro a w' ⟨v,rfl,_,au,a_,hk,cA⟩;exact b5 au a_ _ w' hk cA fun t ay=>jF ay
theorem ou(S:az U Z X F st M w)(H:aT P C){D:Oper}{K:ao->Option R}{r:R}(h:k0 C st D K=some r){N:Act->World->Prop}{Q:Exit->Act->World->Prop}
  (b5:∀au a_ ca w',K au=some r->az U Z X a_ au ca w'->(∀t,t∉D.dst.toList->ca.getD t undef=M.getD t undef)->N ⟨ca,ds⟩ w'):D.wpIn (e6 rn) 0 P ⟨M,ds⟩ w N Q:=by
 refine Oper.wpIn_mono ?_ (KL (K:=fun a w=>a.defers=[]/\∃au a_,K au=some r/\az U Z X a_ au a.tmps w) (fun _ _ h=>h.1) (Q6 S H h fun au a_ ca w' hk cA=>⟨rfl,au,a_,hk,cA⟩) rn ds)
 rintro a w' ⟨v,rfl,_,au,a_,hk,cA⟩;exact b5 au a_ _ w' hk cA fun t ay=>jF ay
theorem zl(S:az U Z X F st M w){D:Oper}{K:ao->Option R}{r:R}(h:tw st D K=some r){N:Act->World->Prop}
  (b5:∀au a_ ca w',K au=some r->az U Z X a_ au ca w'->(∀t,t∉D.dst.toList->ca.getD t undef=M.getD t undef)->N ⟨ca,ds⟩ w'):N ((⟨M,ds⟩:Act).put D.dst undef) w:=by
 rw[vO];refine aiK (N:=fun a w=>∀t0,a.tmps=t0->t0=cP M D.dst undef->N ⟨t0,ds⟩ w) S h (fun au a_ ca w' hk cA t0 e1 e2=>?_) (cP M D.dst undef) (by rw[vO]) rfl
 subst e1;exact b5 au a_ _ w' hk cA fun t ay=>by have e2:ca=cP M D.dst undef:=e2;rw[e2];exact jF ay
theorem aiP(H:aT P C){r:R}{W:List Nat}:∀(n k:Nat),ops.size=k+n->(∀D,D∈ops.toList.drop k->∀t,t∈D.dst.toList->t∈W)->∀(st:ao) (F:Nat->Value) (M:Array Value) (w:World) (K:ao->Option R) (Q:Exit->Act->World->Prop),az U Z X F st M w->
  wz C ops (ops.toList.drop k) st K=some r->(∀au a_ ca w',K au=some r->az U Z X a_ au ca w'->(∀t,t∉W->ca.getD t undef=M.getD t undef)->Q .normal ⟨ca,ds⟩ w')->wpOpsIn (e6 rn) 0 P ops Q (List.range' k n) ⟨M,ds⟩ w:=by
 intro n;induction n with
 |zero=>
  intro k hk _ st F M w K Q S h b5;rw[List.drop_eq_nil_of_le (by simp;omega)] at h
  exact b5 st F M w h S fun _ _=>rfl
 |succ n ih=>
  intro k hk hW st F M w K Q S h b5;have hlt:k<ops.size:=by omega
  have aP:ops[k]? =some ops[k]:=Array.getElem?_eq_getElem hlt;have w1:ops.toList.drop k=ops[k]::ops.toList.drop (k+1):=by
   rw[List.drop_eq_getElem_cons (by simpa using hlt)];simp
  rw[w1] at h hW;simp only[wz] at h;rw[show List.range' k (n+1)=k::List.range' (k+1) n from rfl]
  simp only[wpOpsIn,aP];have ayW:=hW _ ci;have Nq:=fun D aP=>hW D (cf _ aP)
  have next:∀au a_ ca w',wz C ops (ops.toList.drop (k+1)) au K=some r->az U Z X a_ au ca w'->(∀t,t∉(ops[k]).dst.toList->ca.getD t undef=M.getD t undef)->wpOpsIn (e6 rn) 0 P ops Q (List.range' (k+1) n) ⟨ca,ds⟩ w':=
   fun au a_ ca w' an cA ay=>ih (k+1) (by omega) Nq au a_ ca w' K Q cA an fun xK iN qm w2 hk2 iB mb=>b5 xK iN qm w2 hk2 iB fun t acJ=>(mb t acJ).trans (ay t fun an=>acJ (ayW t an))
  generalize ops[k]=D at h next ⊢
  have pr:∀f,D.about P w (Act.eval ⟨M,ds⟩)=some f->(e6 rn).fn f:=fun f _=>Dr rn f
  unfold Ug at h;cases hg:D.guard with
  |none=>
   simp only[hg] at h;rw[if_pos (by simp[Region.wanted,hg])]
   exact Hc S H h next
  |some Ob=>
   obtain⟨j,want⟩:=Ob;simp only[hg] at h;have hw:Region.wanted D (yielded ops M)=(yielded ops M j==some want):=by simp[Region.wanted,hg]
   cases hj:(ops[j]?).bind (·.dst) with
   |none=>simp[hj] at h
   |some t=>
    simp only[hj] at h;have jK:=S.c5 t;split at h
    ·rename_i b hb;rw[hb] at jK;have hv:=j8 jK;have hy:yielded ops M j=some b:=by
      have ay:t<M.size:=by
       rcases Nat.lt_or_ge t M.size with an|an
       ·exact an
       ·simp[Array.getD,Nat.not_lt.2 an,undef] at hv
      have:M[t]? =some (.bool b):=by
       rw[Array.getElem?_eq_getElem ay];simpa[Array.getD,ay] using hv
      simp[yielded,hj,this]
     rw[hy] at hw;have go:∀bQ,b=bQ->az U Z X F (st.set t (one (.bool bQ))) M w:=fun bQ e=>S.nC (by rw[hv,e];exact .bool _)
     cases b<;>cases want<;>simp only[ad,ak,bu,bJ] at h
     ·rw[if_pos (by rw[hw];rfl)];exact Hc (go false rfl) H h next
     ·rw[if_neg (by rw[hw];decide)];exact⟨pr,zl (go false rfl) h next⟩
     ·rw[if_neg (by rw[hw];decide)];exact⟨pr,zl (go true rfl) h next⟩
     ·rw[if_pos (by rw[hw];rfl)];exact Hc (go true rfl) H h next
    ·rename_i x hb;rw[hb] at jK;have hv:M.getD t undef=.tuple x:=jK;have hy:yielded ops M j=none:=by
      simp only[yielded,hj,Y];cases ay:M[t]? with
      |none=>rfl
      |some v=>
       have:M.getD t undef=v:=by simp[Array.getD_eq_getD_getElem?,ay]
       rw[this] at hv;rw[hv]
     rw[hy] at hw;rw[if_neg (by rw[hw];simp)]
     exact⟨pr,zl S h next⟩
    ·cases h
end
abbrev pw:=Nat⊕Nat
def eK(st:ao):pw->bb⊕Option Site
 |.inl t=>.inl (st.get t)
 |.inr o=>.inr (st.ai o)
def ow{aD:Type}:List (Nat×aD)->Nat->Option aD
 |[],_=>none
 |(k,v)::r,n=>match ow r n with
  |some x=>some x
  |none=>bif k.beq n then some v else none
def Rec.wr(x:Rec):pw->Option (bb⊕Option Site)
 |.inl t=>match x.D.dst with
  |some d=>bif d.beq t then some (.inl x.v) else none
  |none=>none
 |.inr o=>(ow x.us o).map fun s=>.inr (some s)
theorem aiA:∀(us:List (Nat×Site)) (st:ao) (o:Nat),(st.iI us).ai o=match ow us o with|some s=>some s|none=>st.ai o:=by
 intro us;induction us with
 |nil=>intro st o;rfl
 |cons p us ih=>
  obtain⟨k,s⟩:=p;intro st o;simp only[ao.iI,ih,ow];cases ow us o with
  |some x=>rfl
  |none=>
   simp only[ao.yT];by_cases h:k=o
   ·subst h;simp
   ·simp[h,kh h]
theorem RO:∀(us:List (Nat×Site)) (st:ao) (t:Nat),(st.iI us).get t=st.get t:=by
 intro us;induction us with
 |nil=>intro st t;rfl
 |cons p us ih=>intro st t;simp only[ao.iI,ih,ao.agS]
theorem S2:∀(us:List (Nat×Site)) (st:ao),(st.iI us).nt=st.nt:=by
 intro us;induction us with
 |nil=>intro st;rfl
 |cons p us ih=>intro st;simp only[ao.iI,ih,ao.ahG]
theorem Kw(st:ao)(d:Option Nat)(v:bb)(us:List (Nat×Site)):(st.df d v us).nt=st.nt:=by
 cases d<;>simp only[ao.df,ao.apJ,S2]
theorem zN(st:ao)(x:Rec)(l:pw):eK (st.df x.D.dst x.v x.us) l=match x.wr l with|some u=>u|none=>eK st l:=by
 cases l with
 |inl t=>
  simp only[eK,Rec.wr];cases x.D.dst with
  |none=>simp only[ao.df,RO]
  |some d=>
   simp only[ao.df,ao.Ji,RO];by_cases h:d=t
   ·subst h;simp
   ·simp[h,kh h]
 |inr o=>
  simp only[eK,Rec.wr];have:(st.df x.D.dst x.v x.us).ai o=(st.iI x.us).ai o:=by cases x.D.dst<;>simp only[ao.df,ao.akG]
  rw[this,aiA];cases ow x.us o<;>rfl
def eO(L:Nat->Bool):Nat->List Rec->ao->ao
 |_,[],st=>st
 |k,x::r,st=>eO L (k+1) r (bif L k then st.df x.D.dst x.v x.us else st)
theorem HQ{L:Nat->Bool}:∀{xs:List Rec} {k:Nat} {st:ao},(eO L k xs st).nt=st.nt:=by
 intro xs;induction xs with
 |nil=>intro k st;rfl
 |cons x xs ih=>intro k st;simp only[eO,ih];cases L k<;>simp[Kw]
theorem FX{L L':Nat->Bool}:∀{xs:List Rec} {k:Nat} {st au:ao} {l:pw},eK st l=eK au l->(∀j x,xs[j]? =some x->x.wr l≠none->L (k+j)=L' (k+j))->eK (eO L k xs st) l=eK (eO L' k xs au) l:=by
 intro xs;induction xs with
 |nil=>intro k st au l h _;exact h
 |cons x xs ih=>
  intro k st au l h dX;simp only[eO];refine ih ?_ fun j y hy hw=>?_
  ·cases hw:x.wr l with
   |none=>
    have e1:∀s:ao,eK (s.df x.D.dst x.v x.us) l=eK s l:=fun s=>by rw[zN,hw]
    cases L k<;>cases L' k<;>simp only[ad,ak,e1,h]
   |some u=>
    have:=dX 0 x rfl (by rw[hw];intro h;cases h)
    simp only[Nat.add_zero] at this;rw[this];cases L' k with
    |true=>simp only[ad,zN,hw]
    |false=>simp only[ak,h]
  ·have:=dX (j+1) y (by simpa using hy) hw
   rw[show k+(j+1)=k+1+j from by omega] at this
   exact this
theorem FY{xs:List Rec}:∀{k:Nat} {st:ao} {L:Nat->Bool},(∀j,k<=j->L j=false)->eO L k xs st=st:=by
 induction xs with
 |nil=>intro k st L _;rfl
 |cons x xs ih=>
  intro k st L h;simp only[eO,h k (Nat.le_refl _),ak];exact ih fun j hj=>h j (by omega)
theorem PH{L L':Nat->Bool}:∀{xs:List Rec} {k k':Nat} {st:ao},(∀j,j<xs.length->L (k+j)=L' (k'+j))->eO L k xs st=eO L' k' xs st:=by
 intro xs;induction xs with
 |nil=>intro k k' st _;rfl
 |cons x xs ih=>
  intro k k' st h;simp only[eO];have h0:=h 0 (by simp)
  simp only[Nat.add_zero] at h0;rw[h0];exact ih fun j hj=>by have:=h (j+1) (by simpa using hj);rw[show k+(j+1)=k+1+j from by omega,show k'+(j+1)=k'+1+j from by omega] at this;exact this
theorem ah9{L:Nat->Bool}:∀{xs:List Rec} {k i:Nat} {st:ao} {l:pw} {x:Rec} {u:bb⊕Option Site},xs[i]? =some x->L (k+i)=true->x.wr l=some u->
  (∀j y,i<j->xs[j]? =some y->y.wr l≠none->L (k+j)=false)->eK (eO L k xs st) l=u:=by
 intro xs;induction xs with
 |nil=>intro k i st l x u h;cases h
 |cons y xs ih=>
  intro k i st l x u h dX hw hj;simp only[eO];cases i with
  |zero=>
   simp only[List.getElem?_cons_zero,bE] at h;subst h;simp only[Nat.add_zero] at dX;rw[dX];simp only[ad];have e:eK (st.df y.D.dst y.v y.us) l=u:=by rw[zN,hw]
   rw[<-e];have e2:st.df y.D.dst y.v y.us=eO (fun _=>false) (k+1) xs (st.df y.D.dst y.v y.us):=(FY fun _ _=>rfl).symm
   conv=>rhs;rw[e2]
   refine FX rfl fun j z hz MR=>?_
   have:=hj (j+1) z (by omega) (by simpa using hz) MR
   rw[show k+(j+1)=k+1+j from by omega] at this
   exact this
  |succ i=>
   refine ih (by simpa using h) (by rw[show k+1+i=k+(i+1) from by omega];exact dX) hw fun j z qw hz MR=>?_
   have:=hj (j+1) z (by omega) (by simpa using hz) MR
   rw[show k+(j+1)=k+1+j from by omega] at this
   exact this
section
variable {P:Program}{ops:Array Oper}
def D3(ops:Array Oper)(L:Nat->Bool)(i:Nat):Prop:=∀D,ops[i]? =some D->∀e,e∈D.after.toList->Region.binds .any e=true->L e.on=true
def C6(ops:Array Oper)(L:Nat->Bool):Prop:=∀j,L j=true->D3 ops L j
def u_(ops:Array Oper)(k i:Nat):Prop:=∀L,C6 ops L->D3 ops L i->L k=true
theorem TY{aD:Type}{l:List (Nat×aD)}{n:Nat}{v:aD}(h:look l n=some v):(n,v)∈l:=by
 induction l with
 |nil=>cases h
 |cons p l ih=>
  obtain⟨m,u⟩:=p;simp only[look] at h;cases hb:m.beq n with
  |true=>
   simp only[hb,ad,bE] at h;rw[<-cg hb,h];exact ci
  |false=>simp only[hb,ak] at h;exact cf _ (ih h)
theorem ame{acc:List (Nat×Rec×List Nat)}(ha:∀k x b,(k,x,b)∈acc->∀m,m∈b->u_ ops m k){i:Nat}:∀{es:List Edge} {m:Nat},m∈mL acc es->∀L,C6 ops L->
  (∀e,e∈es->Region.binds .any e=true->L e.on=true)->L m=true:=by
 intro es;induction es with
 |nil=>intro m h;cases h
 |cons e es ih=>
  intro m h L hc hf;simp only[mL] at h;cases hb:Region.binds .any e with
  |false=>
   simp only[hb,ak] at h;exact ih h L hc fun cU nd=>hf cU (cf _ nd)
  |true=>
   simp only[hb,ad] at h;have h0:=hf e ci hb;split at h
   ·rename_i x hx;rcases bO.1 h with rfl|h
    ·exact h0
    ·rcases bp.1 h with h|h
     ·have hm:(e.on,x)∈acc:=TY hx;obtain⟨eC,gn⟩:=x;exact ha _ _ _ hm m h L hc (hc _ h0)
     ·exact ih h L hc fun cU nd=>hf cU (cf _ nd)
   ·exact ih h L hc fun cU nd=>hf cU (cf _ nd)
structure uf(C:Ctx)(ops:Array Oper)(st:ao)(D:Oper)(x:Rec):Prop where
 h9:x.D=D
 guard:∀j want,D.guard=some (j,want)->∃t,(ops[j]?).bind (·.dst)=some t/\t∈x.lx/\((∃b,st.get t=one (.bool b)/\(x.go=(b==want)))\/((∃u,st.get t=ch (.dd (.tuple u)))/\x.go=false))
 free:D.guard=none->x.go=true
 skip:x.go=false->x.v=B4/\x.us=[]
 run:x.go=true->∃y,(step C st D).comp=some y/\(step C st D).sk y=true/\x.v=(step C st D).val y/\x.us=(step C st D).us y/\(∀t,t∈pI (lV D.op)->t∈x.lx)/\(∀o,o∈KQ C st D->o∈x.rn)/\(Cx D.op=true->x.EK=true)
inductive lE(C:Ctx)(ops:Array Oper):List Oper->Nat->List (Nat×Rec×List Nat)->ao->List Rec->ao->Prop where
 |nil {i acc st}:lE C ops [] i acc st [] st
 |cons {D r i acc st x xs au} (aa:cE st D.dst=true) (he:tn i D.after.toList=true) (hx:uf C ops st D x) (hk:tz (mL acc D.after.toList) x acc=true)
   (h:lE C ops r (i+1) ((i,x,mL acc D.after.toList)::acc) (st.df D.dst x.v x.us) xs au):lE C ops (D::r) i acc st (x::xs) au
theorem ajD{R:Type}{g:Bool}{v:bb}{K:bb->Option R}{r:R}(h:Lk g v K=some r):K v=some r:=by
 unfold Lk at h;cases g with
 |false=>exact h
 |true=>
  simp only[ad] at h;split at h
  ·rename_i b;cases b<;>exact h
  ·exact h
theorem agW{R:Type}{C:Ctx}{g:Bool}{st:ao}{D:Oper}{K:Rec->Option R}{r:R}(h:Kv C ops g st D K=some r):∃x,uf C ops st D x/\K x=some r:=by
 have run:∀gs,BX C g st D gs K=some r->(∀j want,D.guard=some (j,want)->∃t,(ops[j]?).bind (·.dst)=some t/\t∈gs/\∃b,st.get t=one (.bool b)/\(b==want)=true)->∃x,uf C ops st D x/\K x=some r:=by
  intro gs h hg;unfold BX at h;obtain⟨y,hy,h⟩:=Option.bind_eq_some_iff.1 h;cases hc:(step C st D).sk y with
  |false=>simp[hc] at h
  |true=>
   simp only[hc,ad] at h;refine⟨_,⟨rfl,fun j want hj=>?_,fun _=>rfl,fun h=>(by cases h),fun _=>⟨y,hy,hc,rfl,rfl,fun t ay=>bp.2 (.inr ay),fun _ h=>h,fun h=>h⟩⟩,ajD h⟩
   obtain⟨t,h1,h2,b,h3,aF⟩:=hg j want hj;exact⟨t,h1,bp.2 (.inl h2),.inl ⟨b,h3,aF.symm⟩⟩
 have skip:∀gs,HO D gs K=some r->(∃j want,D.guard=some (j,want)/\∃t,(ops[j]?).bind (·.dst)=some t/\t∈gs/\((∃b,st.get t=one (.bool b)/\(b==want)=false)\/∃u,st.get t=ch (.dd (.tuple u))))->∃x,uf C ops st D x/\K x=some r:=by
  intro gs h hg;obtain⟨j,want,hj,t,h1,h2,h3⟩:=hg;refine⟨_,⟨rfl,fun aeq aCt ko=>?_,fun h=>(by rw[hj] at h;cases h),fun _=>⟨rfl,rfl⟩,fun h=>(by cases h)⟩,h⟩
  rw[hj] at ko;cases ko;refine⟨t,h1,h2,?_⟩;rcases h3 with⟨b,h3,aF⟩|h3
  ·exact .inl ⟨b,h3,aF.symm⟩
  ·exact .inr ⟨h3,rfl⟩
 unfold Kv at h;split at h
 ·rename_i hg;exact run [] h fun j want hj=>by rw[hg] at hj;cases hj
 ·rename_i j want hg;split at h
  ·rename_i t ay;split at h
   ·rename_i b hb;cases b<;>cases want<;>simp only[ad,ak,bu,bJ] at h
    ·exact run [t] h fun aeq w' ko=>by rw[hg] at ko;cases ko;exact⟨t,ay,List.mem_singleton.2 rfl,false,hb,rfl⟩
    ·exact skip [t] h ⟨j,true,hg,t,ay,List.mem_singleton.2 rfl,.inl ⟨false,hb,rfl⟩⟩
    ·exact skip [t] h ⟨j,false,hg,t,ay,List.mem_singleton.2 rfl,.inl ⟨true,hb,rfl⟩⟩
    ·exact run [t] h fun aeq w' ko=>by rw[hg] at ko;cases ko;exact⟨t,ay,List.mem_singleton.2 rfl,true,hb,rfl⟩
   ·rename_i u hu;exact skip [t] h ⟨j,want,hg,t,ay,List.mem_singleton.2 rfl,.inr ⟨u,hu⟩⟩
   ·cases h
  ·cases h
theorem ajW{R:Type}{C:Ctx}{K:ao->Option R}{r:R}:∀{os:List Oper} {i:Nat} {acc:List (Nat×Rec×List Nat)} {st:ao},CY C ops os i acc st K=some r->∃xs au,lE C ops os i acc st xs au/\K au=some r:=by
 intro os;induction os with
 |nil=>intro i acc st h;exact⟨[],st,.nil,h⟩
 |cons D os ih=>
  intro i acc st h;simp only[CY] at h;cases aa:cE st D.dst&&tn i D.after.toList with
  |false=>simp[aa] at h
  |true=>
   simp only[aa,ad] at h;obtain⟨x,hx,h⟩:=agW h;cases hk:tz (mL acc D.after.toList) x acc with
   |false=>simp[hk] at h
   |true=>
    simp only[hk,ad] at h;obtain⟨xs,au,h1,h2⟩:=ih h;simp only[bC] at aa;exact⟨x::xs,au,.cons aa.1 aa.2 hx hk h1,h2⟩
theorem lE.length{C:Ctx}{os:List Oper}{i:Nat}{acc:List (Nat×Rec×List Nat)}{st au:ao}{xs:List Rec}(h:lE C ops os i acc st xs au):xs.length=os.length:=by
 induction h with
 |nil=>rfl
 |cons _ _ _ _ _ ih=>simp[ih]
theorem lE.aus{C:Ctx}{os:List Oper}{i:Nat}{acc:List (Nat×Rec×List Nat)}{st au:ao}{xs:List Rec}(h:lE C ops os i acc st xs au):∀k,eO (fun _=>true) k xs st=au:=by
 induction h with
 |nil=>intro k;rfl
 |cons _ _ hx _ _ ih=>intro k;simp only[eO,ad,hx.h9];exact ih _
theorem lE.at_{C:Ctx}{os:List Oper}{i:Nat}{acc:List (Nat×Rec×List Nat)}{st au:ao}{xs:List Rec}(h:lE C ops os i acc st xs au):∀j x,xs[j]? =some x->
  ∃D,os[j]? =some D/\cE st D.dst=true/\tn (i+j) D.after.toList=true/\uf C ops (eO (fun k=>decide (k<j)) 0 xs st) D x:=by
 induction h with
 |nil=>intro j x h;cases h
 |@cons D r i acc st x xs au aa he hx hk h ih=>
  intro j y hy;cases j with
  |zero=>
   simp only[List.getElem?_cons_zero,bE] at hy;subst hy;refine⟨D,rfl,aa,he,?_⟩;rw[FY fun j _=>by simp[Nat.blt]]
   exact hx
  |succ j=>
   obtain⟨dk,h1,h2,h3,aF⟩:=ih j y (by simpa using hy)
   refine⟨dk,by simpa using h1,?_,by rw[show i+(j+1)=i+1+j from by omega];exact h3,?_⟩
   ·revert h2;cases dk.dst<;>simp[cE,Kw]
   ·simp only[eO];have fa:decide (0<j+1)=true:=by simp
    rw[fa,ad,hx.h9];rw[PH (L':=fun k=>decide (k<j)) (k':=0) fun m _=>by simp only[decide_eq_decide];omega]
    exact aF
theorem Ra{n:Nat}{l:List Nat}:gA n l=true <-> n∈l:=by
 induction l with
 |nil=>simp[gA]
 |cons m l ih=>
  simp only[gA,Bool.or_eq_true,ih,bO];constructor
  ·rintro(h|h)
   ·exact .inl (cg h)
   ·exact .inr h
  ·rintro(h|h)
   ·exact .inl (by rw[h];exact Nat.beq_refl m)
   ·exact .inr h
theorem ahF{yg:List Nat}{x:Rec}:∀{acc:List (Nat×Rec×List Nat)},tz yg x acc=true->∀k y b,(k,y,b)∈acc->k∈yg\/mO y x=false:=by
 intro acc;induction acc with
 |nil=>intro _ k y b h;cases h
 |cons p acc ih=>
  obtain⟨j,z,aDE⟩:=p;intro h k y b hm;simp only[tz,bC,Bool.or_eq_true] at h;rcases bO.1 hm with hm|hm
  ·cases hm;rcases h.1 with h1|h1
   ·exact .inl (Ra.1 h1)
   ·exact .inr (by simpa using h1)
  ·exact ih h.2 k y b hm
theorem lE.axJ{C:Ctx}{os:List Oper}{i:Nat}{acc:List (Nat×Rec×List Nat)}{st au:ao}{xs:List Rec}(h:lE C ops os i acc st xs au):∀(pre:List Rec),pre.length=i->(∀j,ops[i+j]? =os[j]?)->
  (∀k y,pre[k]? =some y->∃b,(k,y,b)∈acc)->(∀k x b,(k,x,b)∈acc->∀m,m∈b->u_ ops m k)->∀j x,xs[j]? =some x->∀k y,k<i+j->(pre++xs)[k]? =some y->u_ ops k (i+j)\/mO y x=false:=by
 induction h with
 |nil=>intro pre _ _ _ _ j x h;cases h
 |@cons D r i acc st x xs au aa he hx hk h ih=>
  intro pre hlen ZZ ZY jb j y hy k z ayB hz;have Z_:∀m,m∈mL acc D.after.toList->u_ ops m i:=fun m hm L hc hf=>by
   refine ame jb (i:=i) hm L hc fun e he hb=>hf D ?_ e he hb
   have:=ZZ 0;simpa using this
  cases j with
  |zero=>
   simp only[List.getElem?_cons_zero,bE] at hy;subst hy;simp only[Nat.add_zero] at ayB ⊢;rw[List.getElem?_append_left (by omega)] at hz
   obtain⟨b,hb⟩:=ZY k z hz;rcases ahF hk k z b hb with h1|h1
   ·exact .inl (Z_ k h1)
   ·exact .inr h1
  |succ j=>
   have:=ih (pre++[x]) (by simp[hlen]) (fun j=>by have:=ZZ (j+1);rw[show i+1+j=i+(j+1) from by omega];simpa using this)
    (fun k y hy=>?_) (fun k iQ b hm m acM=>?_) j y (by simpa using hy) k z (by omega) (by simpa using hz)
   ·rw[show i+(j+1)=i+1+j from by omega];exact this
   ·rcases Nat.lt_or_ge k pre.length with an|an
    ·rw[List.getElem?_append_left an] at hy;obtain⟨b,hb⟩:=ZY k y hy;exact⟨b,cf _ hb⟩
    ·rw[List.getElem?_append_right an] at hy;have h0:k-pre.length=0:=by
      rcases Nat.eq_zero_or_pos (k-pre.length) with h0|h0
      ·exact h0
      ·rw[List.getElem?_eq_none (by simp;omega)] at hy;cases hy
     rw[h0] at hy;simp only[List.getElem?_cons_zero,bE] at hy;subst hy;have:k=i:=by omega
     subst this;exact⟨_,ci⟩
   ·rcases bO.1 hm with hm|hm
    ·cases hm;exact Z_ m acM
    ·exact jb k iQ b hm m acM
end
section
variable {P:Program}{U:World}{Z:List Nat}{X:Nat->Prop}{F:Nat->Value}{st au:ao}{M:Array Value}{w:World}
theorem az.same(S:az U Z X F st M w)(hv:∀l,eK st l=eK au l)(hn:st.nt=au.nt):az U Z X F au M w:=by
 have hs:∀o,look st.sites o=look au.sites o:=fun o=>by have:=hv (.inr o);simpa[eK,ao.ai] using this
 have hg:∀t,st.get t=au.get t:=fun t=>by have:=hv (.inl t);simpa[eK] using this
 have hl:∀o,cD st.sites o <-> cD au.sites o:=fun o=>by unfold cD;rw[hs]
 have ha:aN X F au.sites=aN X F st.sites:=by
  funext b
  unfold aN;simp only[hl]
 have G:iK F F st.sites au.sites w w (aN X F st.sites) (aN X F au.sites):=by
  rw[ha];exact⟨fun o ai h=>⟨ai,by rw[<-hs];exact h,Nat.le_refl _,fun _=>rfl⟩,fun _ _ _=>rfl,fun _ h _=>h⟩
 have hlt:∀b,aN X F au.sites b->b<w.heap.size:=fun b hb=>S.lt (by rw[<-ha];exact hb)
 refine⟨S.nt.trans hn,fun t=>?_,fun o ai h=>?_,fun o ae b h1 h2=>S.eB o ae b ((hl o).2 h1) ((hl ae).2 h2),fun o b h=>S.cF o b ((hl o).2 h),S.frame,S.old,S.ft⟩
 ·rw[<-hg];exact(S.c5 t).goes G (Nat.le_refl _) hlt
 ·exact(S.sites o ai (by rw[hs];exact h)).goes G (Nat.le_refl _) hlt rfl (fun _ _ _=>rfl)
theorem az.drawn(S:az U Z X F st M w)(n:Nat):az U Z X F st M {w with drawn:=n}:=by
 have G:iK F F st.sites st.sites w {w with drawn:=n} (aN X F st.sites) (aN X F st.sites):=
  ⟨fun o ai h=>⟨ai,h,Nat.le_refl _,fun _=>rfl⟩,fun _ _ _=>rfl,fun _ h _=>h⟩
 refine⟨S.nt,fun t=>(S.c5 t).goes G (Nat.le_refl _) fun b hb=>S.lt hb,fun o ai h=>(S.sites o ai h).goes G (Nat.le_refl _) (fun b hb=>S.lt hb) rfl (fun _ _ _=>rfl),S.eB,S.cF,⟨S.frame.os,S.frame.tape,S.frame.output,S.frame.size,S.frame.block⟩,S.old,S.ft⟩
theorem afn{aD:Type}:∀{us:List (Nat×aD)} {o:Nat} {s:aD},ow us o=some s->o∈keys us:=by
 intro us;induction us with
 |nil=>intro o s h;cases h
 |cons p us ih=>
  obtain⟨k,v⟩:=p;intro o s h;simp only[ow] at h;split at h
  ·rename_i x hx;exact cf _ (ih hx)
  ·cases hb:k.beq o with
   |true=>rw[<-cg hb];exact ci
   |false=>simp[hb] at h
theorem Gm{n:Nat}{l:List Nat}:gA n l=true <-> n∈l:=Ra
theorem sZ{l m:List Nat}{n:Nat}(h1:n∈l)(h2:n∈m):fs l m=false:=by
 induction l with
 |nil=>cases h1
 |cons k l ih=>
  simp only[fs];rcases bO.1 h1 with rfl|h1
  ·rw[Gm.2 h2];rfl
  ·rw[ih h1,Bool.and_false]
theorem Qe{l:List Nat}{n:Nat}(h1:n∈l)(h2:1000000<=n):wN l=true:=by
 induction l with
 |nil=>cases h1
 |cons k l ih=>
  simp only[wN,Bool.or_eq_true];rcases bO.1 h1 with rfl|h1
  ·exact .inl (Nat.ble_eq_true_of_le h2)
  ·exact .inr (ih h1)
def Rec.at_(x:Rec):pw->Prop
 |.inl t=>t∈x.lx
 |.inr o=>o∈x.rn\/(x.EK=true/\1000000<=o)
theorem B3{x:Rec}{t:Nat}(h:x.wr (.inl t)≠none):x.D.dst=some t:=by
 simp only[Rec.wr] at h;split at h
 ·rename_i d aa;cases hb:d.beq t with
  |true=>rw[aa,cg hb]
  |false=>simp[hb] at h
 ·exact absurd rfl h
theorem B2{x:Rec}{o:Nat}(h:x.wr (.inr o)≠none):o∈keys x.us:=by
 simp only[Rec.wr] at h;cases hl:ow x.us o with
 |none=>simp[hl] at h
 |some s=>exact afn hl
theorem an1{a b:Rec}{l:pw}(h1:a.wr l≠none)(h2:b.at_ l):mO a b=true:=by
 unfold mO;cases l with
 |inl t=>
  have:=B3 h1;have h2:t∈b.lx:=h2;simp[this,ui,Gm.2 h2]
 |inr o=>
  have:=B2 h1;rcases h2 with h2|⟨h2,h3⟩
  ·have:fs (keys a.us) (b.rn++keys b.us)=false:=sZ this (bp.2 (.inl h2));simp[this]
  ·have:=Qe this h3;simp[this,h2]
theorem an2{a b:Rec}{l:pw}(h1:a.at_ l)(h2:b.wr l≠none):mO a b=true:=by
 unfold mO;cases l with
 |inl t=>
  have:=B3 h2;have h1:t∈a.lx:=h1;simp[this,ui,Gm.2 h1]
 |inr o=>
  have:=B2 h2;rcases h1 with h2|⟨h2,h3⟩
  ·have:fs (keys b.us) a.rn=false:=sZ this h2;simp[this]
  ·have:=Qe this h3;simp[this,h2]
theorem an0{a b:Rec}{l:pw}(h1:a.wr l≠none)(h2:b.wr l≠none):mO a b=true:=by
 unfold mO;cases l with
 |inl t=>
  have e1:=B3 h1;have e2:=B3 h2;simp[e1,e2,ui,gA]
 |inr o=>
  have e1:=B2 h1;have e2:=B2 h2;have:fs (keys a.us) (b.rn++keys b.us)=false:=sZ e1 (bp.2 (.inr e2));simp[this]
variable {C:Ctx}{ops:Array Oper}{rn:Option Nat}{ds:List Deferred}
def oW(L:Nat->Bool)(i:Nat):Nat->Bool:=fun j=>L j||decide (j=i)
theorem ajV(H:aT P C){xs:List Rec}{bL:ao}{i:Nat}{D:Oper}{x:Rec}(hx:xs[i]? =some x)(aa:cE bL D.dst=true)(hr:uf C ops (eO (fun k=>decide (k<i)) 0 xs bL) D x)
  (rM:∀j y,xs[j]? =some y->∀k z,k<j->xs[k]? =some z->u_ ops k j\/mO z y=false) {L:Nat->Bool} (hc:C6 ops L) (hi:L i=false) (hf:D3 ops L i) (ayv:ops[i]? =some D)
  (S:az U Z X F (eO L 0 xs bL) M w) {Q:Exit->Act->World->Prop} {K:Act->World->Prop} (b5:∀a_ ca w',az U Z X a_ (eO (oW L i) 0 xs bL) ca w'->(∀t,t∉D.dst.toList->ca.getD t undef=M.getD t undef)->K ⟨ca,ds⟩ w'):wpOpIn (e6 rn) 0 P ops Q i K ⟨M,ds⟩ w:=by
 have MB:∀l,x.at_ l->eK (eO (fun k=>decide (k<i)) 0 xs bL) l=eK (eO L 0 xs bL) l:=fun l hl=>by
  refine(FX rfl fun j y hy hw=>?_).symm
  simp only[Nat.zero_add];rcases Nat.lt_trichotomy j i with h|h|h
  ·rcases rM i x hx j y h hy with h1|h1
   ·rw[h1 L hc hf];simp[h]
   ·rw[an1 hw hl] at h1;cases h1
  ·subst h;rw[hi];simp
  ·have:L j=false:=by
    cases sh:L j with
    |false=>rfl
    |true=>
     rcases rM j y hy i x h hx with h1|h1
     ·have:=h1 L hc (hc j sh);rw[hi] at this;cases this
     ·rw[an2 hl hw] at h1;cases h1
   rw[this];simp;omega
 have XT:∀t,t∈x.lx->(eO (fun k=>decide (k<i)) 0 xs bL).get t=(eO L 0 xs bL).get t:=fun t ay=>by
  have:=MB (.inl t) ay;simpa[eK] using this
 have Db:∀l,eK ((eO L 0 xs bL).df x.D.dst x.v x.us) l=eK (eO (oW L i) 0 xs bL) l:=fun l=>by
  rw[zN];cases hw:x.wr l with
  |none=>
   simp only;refine FX rfl fun j y hy MS=>?_
   simp only[Nat.zero_add,oW];by_cases h:j=i
   ·subst h;rw[hx] at hy;cases hy;exact absurd hw MS
   ·simp[h]
  |some u=>
   simp only;refine(ah9 hx (by simp[oW]) hw fun j y qw hy MS=>?_).symm
   simp only[Nat.zero_add,oW];have:L j=false:=by
    cases sh:L j with
    |false=>rfl
    |true=>
     rcases rM j y hy i x qw hx with h1|h1
     ·have:=h1 L hc (hc j sh);rw[hi] at this;cases this
     ·rw[an0 (by rw[hw];intro h;cases h) MS] at h1;cases h1
   rw[this];simp;omega
 have acZ:cE (eO L 0 xs bL) D.dst=true:=by revert aa;cases D.dst<;>simp[cE,HQ]
 have fin:∀a_ ca w',az U Z X a_ ((eO L 0 xs bL).df x.D.dst x.v x.us) ca w'->(∀t,t∉D.dst.toList->ca.getD t undef=M.getD t undef)->K ⟨ca,ds⟩ w':=fun a_ ca w' cA=>b5 a_ ca w' (cA.same Db (by rw[Kw,HQ,HQ]))
 unfold wpOpIn;rw[ayv];simp only;have Dd:Region.wanted D (yielded ops M)=x.go:=by
  cases hg:D.guard with
  |none=>rw[hr.free hg];simp[Region.wanted,hg]
  |some Ob=>
   obtain⟨j,want⟩:=Ob;obtain⟨t,h1,h2,h3⟩:=hr.guard j want hg;rw[show Region.wanted D (yielded ops M)=(yielded ops M j==some want) by simp[Region.wanted,hg]]
   have jK:=S.c5 t;rw[<-XT t h2] at jK;rcases h3 with⟨b,h3,aF⟩|⟨⟨u,h3⟩,aF⟩
   ·rw[h3] at jK;have hv:=j8 jK;have hy:yielded ops M j=some b:=by
     have ay:t<M.size:=by
      rcases Nat.lt_or_ge t M.size with an|an
      ·exact an
      ·simp[Array.getD,Nat.not_lt.2 an,undef] at hv
     have:M[t]? =some (.bool b):=by
      rw[Array.getElem?_eq_getElem ay];simpa[Array.getD,ay] using hv
     simp[yielded,h1,this]
    rw[hy,aF];cases b<;>cases want<;>rfl
   ·rw[h3] at jK;have hv:M.getD t undef=.tuple u:=jK;have hy:yielded ops M j=none:=by
     simp only[yielded,h1,Y];cases ay:M[t]? with
     |none=>rfl
     |some v=>
      have:M.getD t undef=v:=by simp[Array.getD_eq_getD_getElem?,ay]
      rw[this] at hv;rw[hv]
    rw[hy,aF];rfl
 cases uU:x.go with
 |false=>
  rw[uU] at Dd;rw[if_neg (by rw[Dd];decide)]
  obtain⟨e1,e2⟩:=hr.skip uU;refine⟨fun f _=>Dr rn f,zl (R:=ao) (r:=(eO L 0 xs bL).df D.dst B4 []) S (K:=some) (by simp[tw,acZ]) fun e3 ho ir a' h1 dO=>?_⟩
  cases h1;refine fin ho ir a' ?_
  rw[hr.h9,e1,e2];exact dO
 |true=>
  rw[uU] at Dd;rw[if_pos Dd];obtain⟨y,g1,g2,g3,g4,g5,g6,g7⟩:=hr.run uU;have ei:step C (eO (fun k=>decide (k<i)) 0 xs bL) D=step C (eO L 0 xs bL) D:=by
   refine ahn (fun t ay=>XT t (g5 t ay)) (fun o bH=>?_) fun arO o bH=>?_
   ·have:=MB (.inr o) (.inl (g6 o bH));simpa[eK] using this
   ·have:=MB (.inr o) (.inr ⟨g7 arO,bH⟩);simpa[eK] using this
  revert y
  rw[ei];intro y g1 g2 g3 g4;refine ou (R:=ao) (r:=(eO L 0 xs bL).df D.dst x.v x.us) S H (K:=some) ?_ fun e3 ho ir a' h1 dO=>?_
  ·unfold k0;rw[acZ,ad,g1];simp only[Y,g2,ad,g3,g4]
  ·cases h1;refine fin ho ir a' ?_
   rw[hr.h9];exact dO
def xJ(listed:Array Bool):Nat:=listed.toList.count false
def gZ(listed:Array Bool):Nat->Bool:=fun j=>listed.getD j false
theorem amu{listed:Array Bool}{i:Nat}(h:listed.getD i true=false):xJ (listed.setIfInBounds i true)+1=xJ listed:=by
 unfold xJ;have hlt:i<listed.size:=by
  rcases Nat.lt_or_ge i listed.size with an|an
  ·exact an
  ·simp[Array.getD,Nat.not_lt.2 an] at h
 have hv:listed.toList[i]'(by simpa using hlt)=false:=by simpa[Array.getD,hlt] using h
 rw[Array.toList_setIfInBounds,List.count_set (by simpa using hlt)]
 rw[hv];have:0<listed.toList.count false:=List.count_pos_iff.2 (by rw[<-hv];exact List.getElem_mem _)
 have e1:(if(false==false)=true then 1 else 0)=1:=rfl
 have e2:(if(true==false)=true then 1 else 0)=0:=rfl
 rw[e1,e2];omega
theorem Rr{D:Oper}{t:Nat}:∀{l:List Oper},D∈l->t∈D.dst.toList->t∈i_ l:=by
 intro l;induction l with
 |nil=>intro h;cases h
 |cons p l ih=>
  intro h ay;simp only[i_,bp];rcases bO.1 h with rfl|h
  ·exact .inl ay
  ·exact .inr (ih h ay)
theorem al4(H:aT P C){bL Eh:ao}{xs:List Rec}(bn:lE C ops ops.toList 0 [] bL xs Eh){Q:Exit->Act->World->Prop}{e9:Array Value}(E5:∀F M w,az U Z X F Eh M w->(∀t,t∉i_ ops.toList->M.getD t undef=e9.getD t undef)->Q .normal ⟨M,ds⟩ w):
  ∀(mR:Nat) (listed:Array Bool) (F:Nat->Value) (M:Array Value) (w:World),listed.size=ops.size->xJ listed<=mR->C6 ops (gZ listed)->az U Z X F (eO (gZ listed) 0 xs bL) M w->
   (∀t,t∉i_ ops.toList->M.getD t undef=e9.getD t undef)->wpAnyIn (e6 rn) 0 P .any ops Q mR listed ⟨M,ds⟩ w:=by
 have hlen:xs.length=ops.size:=by rw[bn.length];simp
 have rM:∀j y,xs[j]? =some y->∀k z,k<j->xs[k]? =some z->u_ ops k j\/mO z y=false:=fun j y hy k z hk hz=>by
  have:=bn.axJ [] rfl (fun j=>by simp) (fun k y h=>by simp at h) (fun k x b h=>by simp at h) j y hy k z (by omega) (by simpa using hz)
  simpa using this
 have all:∀listed:Array Bool,listed.size=ops.size->(∀j,j<ops.size->gZ listed j=true)->∀F M w,az U Z X F (eO (gZ listed) 0 xs bL) M w->(∀t,t∉i_ ops.toList->M.getD t undef=e9.getD t undef)->Q .normal ⟨M,ds⟩ w:=fun listed hs hl F M w S ay=>by
  refine E5 F M w ?_ ay;rw[<-bn.aus 0];rw[PH (L':=gZ listed) (k':=0) fun j hj=>by simp only[Nat.zero_add];rw[hl j (by omega)]]
  exact S
 have done:∀listed:Array Bool,listed.size=ops.size->Region.ready .any ops listed=[]->∀j,j<ops.size->gZ listed j=true:=fun listed hs hr j=>by
  induction j using Nat.strongRecOn with
  |_ j ih=>
   intro hj;cases sh:gZ listed j with
   |true=>rfl
   |false=>
    exfalso
    have hx:xs[j]? =some (xs[j]'(by omega)):=dZ _
    obtain⟨D,h1,_,h3,_⟩:=bn.at_ j _ hx;have h1:ops[j]? =some D:=by simpa using h1
    have hm:j∈Region.ready .any ops listed:=by
     rw[mem_ready];refine⟨?_,D,h1,fun e he hb=>?_⟩
     ·have hlt:j<listed.size:=by omega
      simpa[gZ,Array.getD,hlt] using sh
     ·have:e.on<j:=by
       have nd:e∈D.after.toList:=by simpa using he
       clear he hr;revert h3
       simp only[Nat.zero_add];generalize D.after.toList=es at nd;induction es with
       |nil=>cases nd
       |cons cU es ax4=>
        intro h3;simp only[tn,bC] at h3;rcases bO.1 nd with rfl|nd
        ·rw[hb] at h3;simpa using h3.1
        ·exact ax4 nd h3.2
      have:=ih e.on this (by omega)
      simpa[gZ] using this
    rw[hr] at hm;cases hm
 intro mR;induction mR with
 |zero=>
  intro listed F M w hs hu hc S ay;have nR:∀j,j<ops.size->gZ listed j=true:=fun j hj=>by
   have h0:listed.toList.count false=0:=Nat.le_zero.1 hu;rw[List.count_eq_zero] at h0;cases sh:gZ listed j with
   |true=>rfl
   |false=>
    exfalso
    have hlt:j<listed.size:=by omega
    apply h0;have:listed.toList[j]'(by simpa using hlt)=false:=by simpa[gZ,Array.getD,hlt] using sh
    rw[<-this];exact List.getElem_mem _
  refine⟨?_,all listed hs nR F M w S ay⟩;rw[List.eq_nil_iff_forall_not_mem];intro j hj;rw[mem_ready] at hj;obtain⟨h1,D,h2,_⟩:=hj;have hj:j<ops.size:=(Array.getElem?_eq_some_iff.1 h2).1;have:=nR j hj;have hlt:j<listed.size:=by omega
  simp[gZ,Array.getD,hlt] at this h1;rw[h1] at this;cases this
 |succ mR ih=>
  intro listed F M w hs hu hc S ay;refine⟨fun hr=>all listed hs (done listed hs hr) F M w S ay,fun i hi=>?_⟩
  have jV:=mem_ready.1 hi;obtain⟨h1,D,h2,h3⟩:=jV;have uT:i<ops.size:=(Array.getElem?_eq_some_iff.1 h2).1;have hx:xs[i]? =some (xs[i]'(by omega)):=dZ _
  obtain⟨dk,g1,g2,g3,g4⟩:=bn.at_ i _ hx;have g1:ops[i]? =some dk:=by simpa using g1
  rw[h2] at g1;cases g1;have hlt:i<listed.size:=by omega
  have ay3:gZ listed i=false:=by simpa[gZ,Array.getD,hlt] using h1
  have hf:D3 ops (gZ listed) i:=fun o2 x6 e he hb=>by
   rw[h2] at x6;cases x6;have:=h3 e (by simpa using he) hb
   simpa[gZ] using this
  have xk:gZ (listed.setIfInBounds i true)=oW (gZ listed) i:=by
   funext j
   simp only[gZ,oW];by_cases h:j=i
   ·subst h;simp[hlt]
   ·simp[h,Array.getElem?_setIfInBounds_ne (show i≠j from fun e=>h e.symm)]
  refine ajV H hx g2 g4 rM hc ay3 hf h2 S fun a_ ca w' cA n7=>ih _ a_ ca w' (by simpa using hs) (by have:=amu h1;omega) ?_ (by rw[xk];exact cA) fun t htn=>(n7 t fun an=>htn (Rr (l:=ops.toList) (by simpa using Array.mem_of_getElem? h2) an)).trans (ay t htn)
  rw[xk];intro j hj o2 x6 e he hb;simp only[oW,Bool.or_eq_true,dY] at hj;simp only[oW,Bool.or_eq_true,dY];rcases hj with hj|hj
  ·exact .inl (hc j hj o2 x6 e he hb)
  ·subst hj;exact .inl (hf o2 x6 e he hb)
theorem ajP:∀l:List Nat,eh st.sites (CM st l):=by
 intro l;induction l with
 |nil=>exact .nil
 |cons t l ih=>
  refine eh.append ?_ ih;unfold Xp;split
  ·rename_i o s _;split
   ·rename_i aQ t xs hs;cases hb:aQ.beq s with
    |false=>exact .nil
    |true=>
     intro ae ai hm;simp only[ad,List.mem_singleton,Prod.mk.injEq] at hm;obtain⟨rfl,rfl⟩:=hm;exact⟨aQ,t,xs,rfl,.inl hs⟩
   ·exact .nil
  ·exact .nil
theorem ah0(H:aT P C)(hm:P.follows .mixedOrders=true){R:Type}{r:R}{K:ao->Option R}{id:Nat}{Q:Exit->Act->World->Prop}(S:az U Z X F st M w)(h:Uu C ops st K=some r)
  (b5:∀au a_ ca w',K au=some r->az U Z X a_ au ca w'->(∀t,t∉i_ ops.toList->ca.getD t undef=M.getD t undef)->Q .normal ⟨ca,ds⟩ w'):gJ rn P (Code.region id ops true) Q ⟨M,ds⟩ w:=by
 obtain⟨xs,Eh,bn,hk⟩:=ajW h;have S:az U Z X F (st.iI (CM st (G' ops.toList ops.toList))) M w:=by rw[ao.vU];exact S.BU (ajP _)
 refine wpIn_region_any hm (al4 H bn (fun F M w S=>b5 Eh F M w hk S) _ _ F M _ (by simp) ?_ ?_ ?_ (fun _ _=>rfl))
 ·unfold xJ;simp
 ·intro j hj;simp only[gZ] at hj;exfalso
  rw[Array.getD_eq_getD_getElem?,Array.getElem?_replicate] at hj;split at hj<;>cases hj
 ·rw[FY fun j _=>by
   simp only[gZ];rw[Array.getD_eq_getD_getElem?,Array.getElem?_replicate];split<;>rfl]
  exact S.drawn _
end
def ug(r:Option Nat)(c:Code):Prop:=r=none\/hI c=true
theorem ug.left{r:Option Nat}{a b:Bool}(h:r=none\/(a&&b)=true):r=none\/a=true:=by
 rcases h with h|h
 ·exact .inl h
 ·simp only[bC] at h;exact .inr h.1
theorem ug.right{r:Option Nat}{a b:Bool}(h:r=none\/(a&&b)=true):r=none\/b=true:=by
 rcases h with h|h
 ·exact .inl h
 ·simp only[bC] at h;exact .inr h.2
theorem j7{P:Program}{C:im}(H:aT P C.toCtx){R:Type}{r:R}{rn:Option Nat}:∀(c:Code) (p:Nat),(rn=none\/hI c=true)->gN P C c p->∀(U:World) (Z:List Nat) (X:Nat->Prop) (st:ao) (F:Nat->Value) (M:Array Value) (w:World)
  (ds:List Deferred) (K:Out->Option R)
  (Q:Exit->Act->World->Prop),exec C c p st K=some r->az U Z X F st M w->(∀D e a w',K D=some r->fB U Z X ds M (cJ c) D e a w'->Q e a w')->gJ rn P c Q ⟨M,ds⟩ w:=by
 have piece:∀(c:Code) (p:Nat),(rn=none\/hI c=true)->(∀f,C.oZ p=some f->aV P c f)->∀(U:World) (Z:List Nat) (X:Nat->Prop) (st:ao) (F:Nat->Value) (M:Array Value) (w:World) (ds:List Deferred) (K:Out->Option R) (Q:Exit->Act->World->Prop) (x:Option R),
   wrap C p st K x=some r->az U Z X F st M w->(∀D e a w',K D=some r->fB U Z X ds M (cJ c) D e a w'->Q e a w')->(x=some r->gJ rn P c Q ⟨M,ds⟩ w)->gJ rn P c Q ⟨M,ds⟩ w:=by
  intro c p hn hf U Z X st F M w ds K Q x h S b5 hx;unfold wrap at h;cases aP:C.oZ p with
  |none=>simp only[aP] at h;exact hx h
  |some f=>
   simp only[aP] at h;cases hc:(f st).comp with
   |none=>simp[hc] at h
   |some y=>
    simp only[hc,Y,(f st).run_eq] at h;exact wpIn_mono (hf f aP rn hn U Z X st y hc F M w ds S) fun e a w' hl=>b5 _ e a w' h hl
 intro c;induction c with
 |skip=>
  intro p _ _ U Z X st F M w ds K Q h S b5;exact wpIn_skip (b5 (.norm st) .normal _ _ h (eU.of S fun _ _=>rfl))
 |region id ops draw=>
  intro p hn eI U Z X st F M w ds K Q h S b5;cases draw with
  |false=>
   simp only[exec] at h;refine piece _ p hn eI U Z X st F M w ds K Q _ h S b5 fun an=>?_
   refine wpIn_region ?_
   rw[List.range_eq_range'];refine aiP H (W:=i_ ops.toList) ops.size 0 (by omega) (fun D aP t ay=>Rr (by simpa using aP) ay) st F M w _ Q S an ?_
   intro au a_ ca w' hk cA ay;exact b5 (.norm au) .normal _ _ hk (eU.of cA ay)
  |true=>
   simp only[exec] at h;refine piece _ p hn eI U Z X st F M w ds K Q _ h S b5 fun an=>?_
   exact ah0 H H.N' S an fun au a_ ca w' hk cA ay=>b5 (.norm au) .normal _ _ hk (eU.of cA ay)
 |seq a b mY rU=>
  intro p hn eI U Z X st F M w ds K Q h S b5;simp only[exec] at h;refine piece _ p hn eI.1 U Z X st F M w ds K Q _ h S b5 fun an=>?_
  refine wpIn_seq (mY _ (ug.left hn) eI.2.1 U Z X st F M w ds _ _ an S ?_);intro D e c_ w' hk hl;have up:∀{D e c_ w'},fB U Z X ds M (cJ a) D e c_ w'->fB U Z X ds M (cJ (.seq a b)) D e c_ w':=fun hl=>hl.mono fun t ay=>bp.2 (.inl ay)
  cases D with
  |norm au=>
   cases e<;>try exact hl.elim
   obtain⟨a',eb,dp,a_,ef,h1,h2,h3,cA,bo⟩:=hl;obtain⟨ca,Og⟩:=c_;obtain⟨h3,aze⟩:=h3;have h3:Og=ef.map mark++ds:=h3;subst h3;exact rU _ (ug.right hn) eI.2.2 a' eb dp au a_ ca w' _ K Q hk cA fun D e a2 w2 hk2 o'=>b5 D e a2 w2 hk2 (fB.trans h1 h2 aze bo o')
  |exit id au=>
   cases e<;>try exact hl.elim
   exact b5 _ _ _ _ hk (up hl)
  |ret au=>
   cases e<;>try exact hl.elim
   exact b5 _ _ _ _ hk (up hl)
 |cond D a b mY rU=>
  intro p hn eI U Z X st F M w ds K Q h S b5;simp only[exec] at h;refine piece _ p hn eI.1 U Z X st F M w ds K Q _ h S b5 fun an=>?_
  split at an
  ·rename_i t ay;have hv:=Jx S ay;have hv:Act.eval ⟨M,ds⟩ D=.bool t:=by cases D<;>exact hv
   cases t with
   |true=>exact wpIn_cond hv (mY _ (ug.left hn) eI.2.1 U Z X st F M w ds K Q an S fun D e a2 w2 hk2 o'=>b5 D e a2 w2 hk2 (o'.mono fun t ay=>bp.2 (.inl ay)))
   |false=>exact wpIn_cond hv (rU _ (ug.right hn) eI.2.2 U Z X st F M w ds K Q an S fun D e a2 w2 hk2 o'=>b5 D e a2 w2 hk2 (o'.mono fun t ay=>bp.2 (.inr ay)))
  ·cases an
 |block id a mY=>
  intro p hn eI U Z X st F M w ds K Q h S b5;simp only[exec] at h;refine piece _ p hn eI.1 U Z X st F M w ds K Q _ h S b5 fun an=>?_
  refine wpIn_block (mY _ hn eI.2 U Z X st F M w ds _ _ an S ?_);intro D e c_ w' hk hl;cases D with
  |norm au=>
   cases e<;>try exact hl.elim
   exact b5 _ _ _ _ hk hl
  |exit jv au=>
   cases e<;>try exact hl.elim
   rename_i aC5;obtain⟨rfl,hl⟩:=hl;simp only[Exit.inBlock];cases hb:jv.beq id with
   |true=>
    simp only[hb,ad] at hk;have:=cg hb;subst this;simp only[if_true];exact b5 _ _ _ _ hk hl
   |false=>
    simp only[hb,ak] at hk;have:jv≠id:=by rintro rfl;rw[Nat.beq_refl] at hb;cases hb
    simp only[this,if_false];exact b5 _ _ _ _ hk ⟨rfl,hl⟩
  |ret au=>
   cases e<;>try exact hl.elim
   exact b5 _ _ _ _ hk hl
 |loop a _=>
  intro p hn eI U Z X st F M w ds K Q h S b5;simp only[exec] at h;exact piece _ p hn eI U Z X st F M w ds K Q _ h S b5 fun an=>by cases an
 |rangeFunc=>
  intro p hn eI U Z X st F M w ds K Q h S b5;simp only[exec] at h;exact piece _ p hn eI U Z X st F M w ds K Q _ h S b5 fun an=>by cases an
 |exit id=>
  intro p _ _ U Z X st F M w ds K Q h S b5;exact wpIn_exit (b5 (.exit id st) (.exit id) _ _ h ⟨rfl,eU.of S fun _ _=>rfl⟩)
 |ret=>
  intro p _ _ U Z X st F M w ds K Q h S b5;exact wpIn_ret (b5 (.ret st) .ret _ _ h (eU.of S fun _ _=>rfl))
 |_=>
  intro p _ _ U Z X st F M w ds K Q h S b5;simp only[exec] at h;cases h
inductive ee:Type where
 |int (k:IntKind)
 |bool
 |str
 |sl (t:bi)
 |map (t:bi)
 |err (T:Nat)
@[reducible] def ee.J:ee->Type
 |.int _=>Int
 |.bool=>Bool
 |.str=>B
 |.sl t=>List (den t)
 |.map t=>List (B×den t)
 |.err _=>Option Int
def ee.mk:(s:ee)->s.J->bk
 |.int k,n=>.int k n
 |.bool,b=>.bool b
 |.str,s=>.str s
 |.sl t,xs=>.sl t xs
 |.map t,es=>.map t es
 |.err T,D=>.err T D
def ee.ex:(s:ee)->bk->Option s.J
 |.int k,.int k' n=>if k=k' then some n else none
 |.bool,.bool b=>some b
 |.str,.str s=>some s
 |.sl t,.sl bw xs=>if h:bw=t then some (h▸xs) else none
 |.map t,.map bw es=>if h:bw=t then some (h▸es) else none
 |.err T,.err gX D=>if gX=T then some D else none
 |_,_=>none
theorem ee.W8{s:ee}{d:bk}{y:s.J}(h:s.ex d=some y):s.mk y=d:=by
 unfold ee.ex at h;split at h
 ·split at h
  ·rename_i e;cases h;subst e;rfl
  ·cases h
 ·cases h;rfl
 ·cases h;rfl
 ·split at h
  ·rename_i e;cases h;subst e;rfl
  ·cases h
 ·split at h
  ·rename_i e;cases h;subst e;rfl
  ·cases h
 ·split at h
  ·rename_i e;cases h;subst e;rfl
  ·cases h
 ·cases h
@[reducible] def lq:List ee->Type
 |[]=>Unit
 |s::r=>s.J×lq r
def fX:(bf:List ee)->lq bf->List bk
 |[],_=>[]
 |s::r,(y,z)=>s.mk y::fX r z
def xr:(bf:List ee)->List bk->Option (lq bf)
 |[],[]=>some ()
 |s::r,d::ds=>match s.ex d,xr r ds with
  |some y,some z=>some (y,z)
  |_,_=>none
 |_,_=>none
theorem TV:∀{bf:List ee} {ds:List bk} {y:lq bf},xr bf ds=some y->fX bf y=ds:=by
 intro bf;induction bf with
 |nil=>intro ds y h;cases ds with
  |nil=>rfl
  |cons=>cases h
 |cons s bf ih=>
  intro ds y h;cases ds with
  |nil=>cases h
  |cons d ds=>
   simp only[xr] at h;split at h
   ·rename_i a b h1 h2;cases h;simp only[fX,ee.W8 h1,ih h2]
   ·cases h
@[reducible] def xv:List (List ee)->Type
 |[]=>Unit
 |s::r=>lq s×xv r
def wW:(bf:List (List ee))->xv bf->List (List bk)
 |[],_=>[]
 |s::r,(y,z)=>fX s y::wW r z
def Dj:(bf:List (List ee))->List (List bk)->Option (xv bf)
 |[],[]=>some ()
 |s::r,d::ds=>match xr s d,Dj r ds with
  |some y,some z=>some (y,z)
  |_,_=>none
 |_,_=>none
theorem alx:∀{bf:List (List ee)} {ds:List (List bk)} {y:xv bf},Dj bf ds=some y->wW bf y=ds:=by
 intro bf;induction bf with
 |nil=>intro ds y h;cases ds with
  |nil=>rfl
  |cons=>cases h
 |cons s bf ih=>
  intro ds y h;cases ds with
  |nil=>cases h
  |cons d ds=>
   simp only[Dj] at h;split at h
   ·rename_i a b h1 h2;cases h;simp only[wW,TV h1,ih h2]
   ·cases h
inductive dH:Type where
 |any
 |d (s:ee)
 |fn (g:FuncId) (c9:List (List ee))
 |eV (bf:List ee) (off:Nat)
 |own (n:Nat)
 |ptr (n off:Nat)
 |clo (g:FuncId) (ns:List Nat)
 |dN
 |DC -- uD nil interface
 |fm (n:Nat) (t:bi)
@[reducible] def dH.J:dH->Type
 |.d s=>s.J
 |.fn _ c9=>xv c9
 |.eV bf _=>lq bf
 |_=>Unit
def dH.mk:(s:dH)->s.J->aU
 |.any,_=>.any
 |.d s,y=>.d (s.mk y)
 |.fn g c9,y=>.d (.fn g (wW c9 y))
 |.eV bf off,y=>.eV (fX bf y) off
 |.own n,_=>.own n 0
 |.ptr n off,_=>.ptr n 0 off
 |.clo g ns,_=>.clo g (ns.map fun n=>(n,0))
 |.dN,_=>.dN
 |.DC,_=>.dd .nilIface
 |.fm n t,_=>.fm n 0 t 0 0
abbrev Ren:=List (Nat×Option (Nat×Nat))
def nG(ρ:Ren)(n o s:Nat):Bool:=match look ρ n with
 |some (some (abg,aQ))=>abg.beq o&&aQ.beq s
 |_=>false
def vY(ρ:Ren):List Nat->List (Nat×Nat)->Bool
 |[],[]=>true
 |n::ns,(o,s)::cs=>nG ρ n o s&&vY ρ ns cs
 |_,_=>false
def nz(ρ:Ren):List Nat
 :=match ρ with
 |[]=>[]
 |(_,some (o,_))::r=>o::nz r
 |(_,none)::r=>nz r
def dH.ex(st:ao)(ρ:Ren):(s:dH)->aU->Option s.J
 |.any,_=>some ()
 |.d s,.d v=>s.ex v
 |.d (.sl t),.nil _=>some ([]:List (den t))
 |.d (.err _),.dd .nilIface=>some (none:Option Int)
 |.d (.sl t),.own o s=>match st.ai o with
  |some (.dF aQ bw xs)=>bif aQ.beq s then(if h:bw=t then some (h▸xs:List (den t)) else none) else none
  |_=>none
 |.d (.map t),.own o s=>match st.ai o with
  |some (.map aQ bw es)=>bif aQ.beq s&&!gA o (nz ρ) then(if h:bw=t then some (h▸es:List (B×den t)) else none) else none
  |_=>none
 |.fn g c9,.d (.fn cN cs)=>bif Nat.beq g cN then Dj c9 cs else none
 |.fn g [],.clo cN []=>bif Nat.beq g cN then some () else none
 |.eV bf off,.eV ds qc=>bif Nat.beq off qc then xr bf ds else none
 |.own n,.own o s=>bif nG ρ n o s then some () else none
 |.own n,.nil _=>match look ρ n with|some none=>some ()|_=>none
 |.ptr n off,.ptr o s qc=>bif nG ρ n o s&&Nat.beq off qc then some () else none
 |.clo g ns,.clo cN cs=>bif Nat.beq g cN&&vY ρ ns cs then some () else none
 |.dN,.dN=>some ()
 |.DC,.dd .nilIface=>some ()
 |.fm n t,.fm o s bw 0 0=>bif nG ρ n o s then(if bw=t then some () else none) else none
 |_,_=>none
@[reducible] def rR:List dH->Type
 |[]=>Unit
 |s::r=>s.J×rR r
def tT:(bf:List dH)->rR bf->List aU
 |[],_=>[]
 |s::r,(y,z)=>s.mk y::tT r z
def rC(st:ao)(ρ:Ren):(bf:List dH)->List aU->Option (rR bf)
 |[],[]=>some ()
 |s::r,l::al=>match s.ex st ρ l,rC st ρ r al with
  |some y,some z=>some (y,z)
  |_,_=>none
 |_,_=>none
inductive fw:Type where
 |aq (s:dH)
 |agg (bf:List dH)
@[reducible] def fw.J:fw->Type
 |.aq s=>s.J
 |.agg bf=>rR bf
def fw.mk:(s:fw)->s.J->bb
 |.aq s,y=>ch (s.mk y)
 |.agg bf,y=>.av (.agg (tT bf y))
def fw.ex(st:ao)(ρ:Ren):(s:fw)->bb->Option s.J
 |.aq s,.av (.aq l)=>s.ex st ρ l
 |.agg bf,.av (.agg al)=>rC st ρ bf al
 |_,_=>none
@[reducible] def wO:List (Nat×fw)->Type
 |[]=>Unit
 |s::r=>s.2.J×wO r
def v_:(bf:List (Nat×fw))->wO bf->List (Nat×bb)
 |[],_=>[]
 |s::r,(y,z)=>(s.1,s.2.mk y)::v_ r z
def BV(st:ao)(ρ:Ren):(bf:List (Nat×fw))->Option (wO bf)
 |[]=>some ()
 |s::r=>match s.2.ex st ρ (st.get s.1),BV st ρ r with
  |some y,some z=>some (y,z)
  |_,_=>none
inductive eR:Type where
 |row (t:bi)
 |rF (t:bi) (n:Nat) -- aDG aCj row,aCs length h9 told
 |box (bf:List dH)
 |map (t:bi)
@[reducible] def eR.J:eR->Type
 |.row t=>List (den t)
 |.rF t _=>List (den t)
 |.box bf=>rR bf
 |.map t=>List (B×den t)
def DA{aD:Type}(z:aD):Nat->List aD->List aD
 |0,_=>[]
 |n+1,xs=>xs.headD z::DA z n xs.tail
theorem TO{aD:Type}(z:aD):∀(xs:List aD),DA z xs.length xs=xs
 |[]=>rfl
 |x::xs=>by simp only[cW,DA,List.headD_cons,List.tail_cons,TO z xs]
def pad{t:bi}(n:Nat)(xs:List (den t)):List (den t):=match yw t with
 |some z=>DA z n xs
 |none=>xs
theorem apH{t:bi}{n:Nat}{xs:List (den t)}(h:xs.length=n):pad n xs=xs:=by
 subst h;unfold pad;split
 ·exact TO _ _
 ·rfl
def eR.mk:(s:eR)->s.J->Site
 |.row t,xs=>.row 0 t xs
 |.rF t n,xs=>.row 0 t (pad n xs)
 |.box bf,y=>.box 0 (tT bf y)
 |.map t,es=>.map 0 t es
def eR.ex(st:ao)(ρ:Ren):(s:eR)->Option (Nat×Nat)->Option s.J
 |.row t,none=>some ([]:List (den t))
 |.row t,some (o,s)=>match st.ai o with
  |some (.row aQ bw xs)=>bif aQ.beq s then(if h:bw=t then some (h▸xs:List (den t)) else none) else none
  |_=>none
 |.rF _ _,none=>none
 |.rF t n,some (o,s)=>match st.ai o with
  |some (.row aQ bw xs)=>bif aQ.beq s then(if h:bw=t then(if xs.length=n then some (h▸xs:List (den t)) else none) else none) else none
  |_=>none
 |.box bf,some (o,s)=>match gi st o s with
  |some cells=>rC st ρ bf cells
  |none=>none
 |.box _,none=>none
 |.map t,some (o,s)=>match st.ai o with
  |some (.map aQ bw es)=>bif aQ.beq s then(if h:bw=t then some (h▸es:List (B×den t)) else none) else none
  |_=>none
 |.map _,none=>none
inductive Loc:Type where
 |same
 |slot (t j:Nat)
 |cell (o j:Nat)
def arv(st:ao):Loc->Option aU
 |.same=>none
 |.slot t j=>match st.get t with
  |.av (.aq l)=>bif Nat.beq j 0 then some l else none
  |.av (.agg al)=>al[j]?
  |_=>none
 |.cell o j=>match st.ai o with
  |some (.box _ cells)=>cells[j]?
  |_=>none
def KM(st:ao)(n:Nat)(l:Loc):Option (Option (Nat×Nat)):=
 match l with
 |.same=>match st.ai n with|some s=>some (some (n,s.cK))|none=>none
 |l=>match arv st l with
  |some (.own o s)=>some (some (o,s))
  |some (.ptr o s _)=>some (some (o,s))
  |some (.fm o s _ _ _)=>some (some (o,s))
  |some (.nil _)=>some none
  |_=>none
@[reducible] def tM:List (Nat×eR×Loc)->Type
 |[]=>Unit
 |s::r=>s.2.1.J×tM r
def kY:(bf:List (Nat×eR×Loc))->tM bf->List (Nat×Site)
 |[],_=>[]
 |s::r,(y,z)=>(s.1,s.2.1.mk y)::kY r z
def BW(st:ao)(ρ:Ren):(bf:List (Nat×eR×Loc))->Option (tM bf)
 |[]=>some ()
 |s::r=>match(look ρ s.1).bind fun D=>s.2.1.ex st ρ D,BW st ρ r with
  |some y,some z=>some (y,z)
  |_,_=>none
def rr(st:ao):List (Nat×eR×Loc)->Option Ren
 |[]=>some []
 |s::r=>match KM st s.1 s.2.2,rr st r with
  |some D,some ρ=>some ((s.1,D)::ρ)
  |_,_=>none
structure Shape where
 c5:List (Nat×fw)
 sites:List (Nat×eR×Loc)
 nt:Nat
@[reducible] def Shape.J(be:Shape):Type:=wO be.c5×tM be.sites
def Shape.st(be:Shape)(y:be.J):ao:=⟨v_ be.c5 y.1,kY be.sites y.2,be.nt⟩
def DK(st:ao):dH->aU->List (Nat×Site)
 |.d (.sl _),.own o s=>match st.ai o with
  |some (.row aQ t xs)=>bif aQ.beq s then [(o,.dF s t xs)] else []
  |_=>[]
 |_,_=>[]
def DJ(st:ao):List dH->List aU->List (Nat×Site)
 |s::bf,l::al=>DK st s l++DJ st bf al
 |_,_=>[]
def _e(st:ao):fw->bb->List (Nat×Site)
 |.aq s,.av (.aq l)=>DK st s l
 |.agg bf,.av (.agg al)=>DJ st bf al
 |_,_=>[]
def q6(st:ao):List (Nat×fw)->List (Nat×Site)
 |[]=>[]
 |s::r=>_e st s.2 (st.get s.1)++q6 st r
def _d(st:ao):eR->Option (Option (Nat×Nat))->List (Nat×Site)
 |.box bf,some (some (o,s))=>match gi st o s with
  |some cells=>DJ st bf cells
  |none=>[]
 |_,_=>[]
def q7(st:ao):List (Nat×eR×Loc)->List (Nat×Site)
 |[]=>[]
 |s::r=>_d st s.2.1 (KM st s.1 s.2.2)++q7 st r
def Shape.ex(be:Shape)(bL:ao):Option be.J:=
 let st:=bL.iI (q6 bL be.c5++q7 bL be.sites)
 bif st.nt.beq be.nt then
  match rr st be.sites with
  |some ρ=>bif gf (keys ρ)&&gf (nz ρ) then
    match BV st ρ be.c5,BW st ρ be.sites with
    |some y,some z=>some (y,z)
    |_,_=>none
   else none
  |none=>none
 else none
theorem Us{st:ao}{s:dH}{l:aU}:eh st.sites (DK st s l):=by
 unfold DK;split
 ·rename_i o s;split
  ·rename_i aQ t xs hl;cases hb:aQ.beq s with
   |false=>exact .nil
   |true=>
    have:=cg hb;subst this;intro ae ai hm;simp only[ad,List.mem_singleton,Prod.mk.injEq] at hm;obtain⟨rfl,rfl⟩:=hm;exact⟨_,_,_,rfl,.inl hl⟩
  ·exact .nil
 ·exact .nil
theorem Ur{st:ao}:∀{bf:List dH} {al:List aU},eh st.sites (DJ st bf al):=by
 intro bf;induction bf with
 |nil=>intro al;cases al<;>exact .nil
 |cons s bf ih=>
  intro al;cases al with
  |nil=>exact .nil
  |cons l al=>exact Us.append ih
theorem agT{st:ao}:∀{bf:List (Nat×fw)},eh st.sites (q6 st bf):=by
 intro bf;induction bf with
 |nil=>exact .nil
 |cons s bf ih=>
  refine eh.append ?_ ih;unfold _e;split
  ·exact Us
  ·exact Ur
  ·exact .nil
theorem agU{st:ao}:∀{bf:List (Nat×eR×Loc)},eh st.sites (q7 st bf):=by
 intro bf;induction bf with
 |nil=>exact .nil
 |cons s bf ih=>
  refine eh.append ?_ ih;unfold _d;split
  ·split
   ·exact Ur
   ·exact .nil
  ·exact .nil
def ue(st:ao)(ρ:Ren)(b_:List (Nat×Site)):Prop:=
 ∀n D,look ρ n=some D->(∃aQ,look b_ n=some aQ/\aQ.cK=0)/\∀o s,D=some (o,s)->∃ai,look st.sites o=some ai/\ai.cK=s/\ai.live=true
def gg(F:Nat->Value)(ρ:Ren)(n:Nat):Value:=
 match look ρ n with
 |some (some (o,_))=>F o
 |some none=>.slice none 0 0
 |none=>undef
theorem aht{ρ:Ren}{n o s:Nat}(h:nG ρ n o s=true):look ρ n=some (some (o,s)):=by
 unfold nG at h;split at h
 ·rename_i abg aQ hl;simp only[bC] at h;rw[hl,cg h.1,cg h.2]
 ·cases h
section
variable {U:World}{Z:List Nat}{X:Nat->Prop}{F:Nat->Value}{st:ao}{M:Array Value}{w:World}{ρ:Ren}{b_:List (Nat×Site)}{cz:Nat->Prop}
theorem Bl(S:az U Z X F st M w)(hR:ue st ρ b_){n o s:Nat}(h:nG ρ n o s=true){p h5:Prop}(hr:Ref st.sites o s p)(hp:gg F ρ n=F o->p->h5):Ref b_ n 0 h5:=by
 have hl:=aht h;obtain⟨⟨aQ,h1,h2⟩,h3⟩:=hR n _ hl;obtain⟨ai,aF,bo,_⟩:=h3 o s rfl;exact Ref.mk h1 h2 (hp (by simp[gg,hl]) (Ref.at hr aF bo))
theorem ahu(S:az U Z X F st M w)(hR:ue st ρ b_):∀{ns:List Nat} {cs:List (Nat×Nat)} {vs:List Value},vY ρ ns cs=true->vs.length=cs.length->
  (∀i (h:i<cs.length) (an:i<vs.length),Ref st.sites (cs[i]).1 (cs[i]).2 (vs[i]=F (cs[i]).1))->
  vs.length=(ns.map fun n=>(n,0)).length/\∀i (h:i<(ns.map fun n=>((n,0):Nat×Nat)).length) (an:i<vs.length),Ref b_ ((ns.map fun n=>((n,0):Nat×Nat))[i]).1 ((ns.map fun n=>((n,0):Nat×Nat))[i]).2 (vs[i]=gg F ρ ((ns.map fun n=>((n,0):Nat×Nat))[i]).1):=by
 intro ns;induction ns with
 |nil=>
  intro cs vs h hl _;match cs,h with
  |[],_=>exact⟨by simpa using hl,fun i h=>by simp at h⟩
 |cons n ns ih=>
  intro cs vs h hl hr;match cs,h with
  |(o,s)::cs,h=>
   simp only[vY,bC] at h;match vs,hl with
   |v::vs,hl=>
    obtain⟨aI,aJ⟩:=ih (vs:=vs) h.2 (by simpa using hl) (fun i g1 g2=>hr (i+1) (by simpa using g1) (by simpa using g2))
    refine⟨by simpa using aI,fun i g1 g2=>?_⟩
    cases i with
    |zero=>exact Bl S hR h.1 (hr 0 (by simp) (by simp)) (fun e p=>p.trans e.symm)
    |succ i=>exact aJ i (by simpa using g1) (by simpa using g2)
def Ds(F:Nat->Value)(st:ao)(ρ:Ren)(cz:Nat->Prop):Prop:=∀o,cD st.sites o->gA o (nz ρ)=false->∀b,bZ (F o)=some b->¬cz b
theorem dH.gM(S:az U Z X F st M w)(hR:ue st ρ b_)(cq:∀b,cz b->aN X F st.sites b)(eI:Ds F st ρ cz){s:dH}{l:aU}{y:s.J}{v:Value}(h:s.ex st ρ l=some y)(hv:eu F st.sites w (aN X F st.sites) l v):
  eu (gg F ρ) b_ w cz (s.mk y) v:=by
 have hS:∀{d:bk} {v:Value},bT w (aN X F st.sites) d v->bT w cz d v:=fun h=>cy.hS (F:=F) (sites:=[]) (a:=one _) cq (fun b hb=>S.lt (cq b hb)) h
 unfold dH.ex at h;split at h
 ·trivial
 ·rename_i s v';have:s.mk y=v':=ee.W8 h;show bT w cz (s.mk y) v;rw[this];exact hS hv
 ·rename_i t u;cases h;have hv:v=.slice none 0 0:=hv;rw[hv];exact bT.nil t
 ·rename_i T;cases h;have hv:v=.nilIface:=hv;rw[hv];exact bT.xt T
 ·rename_i t o s;split at h
  ·rename_i aQ bw xs hl;cases hb:aQ.beq s with
   |false=>simp[hb] at h
   |true=>
    simp only[hb,ad] at h;split at h
    ·rename_i e;subst e;cases h;have hs:=cg hb;subst hs;have hl:look st.sites o=some (.dF aQ bw xs):=hl;have n5:v=F o:=Ref.at hv.2 hl rfl;rw[n5];exact hS (S.sites o _ hl).1
    ·cases h
  ·cases h
 ·rename_i t o s;split at h
  ·rename_i aQ bw es hl;cases hb:(aQ.beq s&&!gA o (nz ρ)) with
   |false=>simp[hb] at h
   |true=>
    simp only[hb,ad] at h;simp only[bC,Bool.not_eq_true'] at hb;split at h
    ·rename_i e;subst e;cases h;have hs:=cg hb.1;subst hs;have hl:look st.sites o=some (.map aQ bw es):=hl;have n5:v=F o:=Ref.at hv.2 hl rfl;obtain⟨b,h1,h2⟩:=S.sites o _ hl;rw[n5,h1];exact bT.map bw es b (eI o ⟨_,hl,rfl⟩ hb.2 b (by rw[h1];rfl)) h2
    ·cases h
  ·cases h
 ·rename_i g c9 cN cs;cases hb:Nat.beq g cN with
  |false=>simp[hb] at h
  |true=>
   simp only[hb,ad] at h;have:=cg hb;subst this;show bT w cz (.fn g (wW c9 y)) v;rw[alx h];exact hS hv
 ·rename_i g cN;cases hb:Nat.beq g cN with
  |false=>simp[hb] at h
  |true=>
   have:=cg hb;subst this;obtain⟨vs,h1,h2,_⟩:=hv;rw[fP h2] at h1;rw[h1];exact k3.fn (bM:=[]) (vs:=[]) trivial
 ·rename_i bf off ds qc;cases hb:Nat.beq off qc with
  |false=>simp[hb] at h
  |true=>
   simp only[hb,ad] at h;have:=cg hb;subst this;have e:=TV h;obtain⟨b,D,h1,h2,h3,cs,aF,bo,cp⟩:=hv;show eu (gg F ρ) b_ w cz (.eV (fX bf y) off) v;rw[e];exact⟨b,D,h1,fun hx=>h2 (cq b hx),h3,cs,aF,bo,fun j g1 g2=>hS (cp j g1 g2)⟩
 ·rename_i n o s;cases hb:nG ρ n o s with
  |false=>simp[hb] at h
  |true=>exact⟨hv.1,Bl S hR hb hv.2 (fun e p=>p.trans e.symm)⟩
 ·rename_i n t;split at h
  ·rename_i hl;have hv:v=.slice none 0 0:=hv;obtain⟨⟨aQ,h1,h2⟩,_⟩:=hR n _ hl;exact⟨by rw[hv];rfl,Ref.mk h1 h2 (by simp[gg,hl,hv])⟩
  ·cases h
 ·rename_i n off o s qc;cases hb:(nG ρ n o s&&Nat.beq off qc) with
  |false=>simp[hb] at h
  |true=>
   simp only[bC] at hb;have:=cg hb.2;subst this;obtain⟨b,h1,h2⟩:=hv;exact⟨b,h1,Bl S hR hb.1 h2 (fun e p=>e.trans p)⟩
 ·rename_i g ns cN cs;cases hb:(Nat.beq g cN&&vY ρ ns cs) with
  |false=>simp[hb] at h
  |true=>
   simp only[bC] at hb;have:=cg hb.1;subst this;obtain⟨vs,h1,h2,h3⟩:=hv;obtain⟨aI,aJ⟩:=ahu S hR hb.2 h2 h3;exact⟨vs,h1,aI,aJ⟩
 ·trivial
 ·exact hv
 ·rename_i n t o s bw;cases hb:nG ρ n o s with
  |false=>simp[hb] at h
  |true=>
   simp only[hb,ad] at h;split at h
   ·rename_i e;subst e;obtain⟨b,h1,h2⟩:=hv;exact⟨b,h1,Bl S hR hb h2 (fun e p=>by rw[e];exact p)⟩
   ·cases h
 ·cases h
theorem ahY{bf:List dH}{al:List aU}{y:rR bf}(h:rC st ρ bf al=some y)(bU:(tT bf y).head?=some .dN):al.head?=some .dN:=by
 cases bf with
 |nil=>cases bU
 |cons s bf=>
  cases al with
  |nil=>cases h
  |cons l al=>
   simp only[rC] at h;split at h
   ·rename_i a b h1 h2;cases h;simp only[tT,List.head?_cons,bE] at bU ⊢;cases s with
    |dN=>cases l<;>first|rfl|cases h1
    |_=>cases bU
   ·cases h
theorem SO(S:az U Z X F st M w)(hR:ue st ρ b_)(cq:∀b,cz b->aN X F st.sites b)(eI:Ds F st ρ cz):∀{bf:List dH} {al:List aU} {y:rR bf} {vs:List Value},rC st ρ bf al=some y->
  cM F st.sites w (aN X F st.sites) al vs->cM (gg F ρ) b_ w cz (tT bf y) vs:=by
 intro bf;induction bf with
 |nil=>
  intro al y vs h hv;match al,h with
  |[],_=>rw[hv.oF];exact .nil
 |cons s bf ih=>
  intro al y vs h hv;match al,h with
  |l::al,h=>
   simp only[rC] at h;split at h
   ·rename_i a b h1 h2;cases h;obtain⟨v,cH,rfl,aI,aJ⟩:=hv.inv;exact .cons (dH.gM S hR cq eI h1 aI) (ih h2 aJ)
   ·cases h
theorem fw.gM(S:az U Z X F st M w)(hR:ue st ρ b_)(cq:∀b,cz b->aN X F st.sites b)(eI:Ds F st ρ cz){s:fw}{a:bb}{y:s.J}{v:Value}(h:s.ex st ρ a=some y)(hv:cy F st.sites w (aN X F st.sites) a v):
  cy (gg F ρ) b_ w cz (s.mk y) v:=by
 unfold fw.ex at h;split at h
 ·exact dH.gM S hR cq eI h hv
 ·obtain⟨vs,h1,h2,h3⟩:=hv;have:=SO S hR cq eI h ⟨h2,h3⟩;exact⟨vs,h1,this.1,this.2⟩
 ·cases h
theorem ahW:∀{bf:List (Nat×fw)} {y:wO bf},BV st ρ bf=some y->∀t v,look (v_ bf y) t=some v->∃s:fw,∃y':s.J,s.ex st ρ (st.get t)=some y'/\v=s.mk y':=by
 intro bf;induction bf with
 |nil=>intro y h t v hl;cases hl
 |cons s bf ih=>
  intro y h t v hl;simp only[BV] at h;split at h
  ·rename_i a b h1 h2;cases h;simp only[v_,look] at hl;cases hb:s.1.beq t with
   |true=>
    simp only[hb,ad,bE] at hl;have:=cg hb;subst this;exact⟨s.2,a,h1,hl.symm⟩
   |false=>
    simp only[hb,ak] at hl;exact ih h2 t v hl
  ·cases h
theorem ahX:∀{bf:List (Nat×eR×Loc)} {y:tM bf},BW st ρ bf=some y->∀n b',look (kY bf y) n=some b'->∃z:eR,∃y':z.J,∃D,look ρ n=some D/\z.ex st ρ D=some y'/\b'=z.mk y':=by
 intro bf;induction bf with
 |nil=>intro y h n b' hl;cases hl
 |cons s bf ih=>
  intro y h n b' hl;simp only[BW] at h;split at h
  ·rename_i a b h1 h2;cases h;simp only[kY,look] at hl;cases hb:s.1.beq n with
   |true=>
    simp only[hb,ad,bE] at hl;have:=cg hb;subst this;obtain⟨D,aI,aJ⟩:=Option.bind_eq_some_iff.1 h1;exact⟨s.2.1,a,D,aI,aJ,hl.symm⟩
   |false=>
    simp only[hb,ak] at hl;exact ih h2 n b' hl
  ·cases h
theorem eR.cK(z:eR)(y:z.J):(z.mk y).cK=0:=by cases z<;>rfl
theorem ahK{e3:ao}:∀{bf:List (Nat×eR×Loc)} {ρ:Ren} {y:tM bf},rr e3 bf=some ρ->∀n D,look ρ n=some D->(∃aQ,look (kY bf y) n=some aQ/\aQ.cK=0):=by
 intro bf;induction bf with
 |nil=>intro ρ y h n D hl;simp only[rr] at h;cases h;cases hl
 |cons s bf ih=>
  intro ρ y h n D hl;simp only[rr] at h;split at h
  ·rename_i a b h1 h2;cases h;obtain⟨cT,dC⟩:=y;simp only[kY,look] at hl ⊢;cases hb:s.1.beq n with
   |true=>simp only[ad];exact⟨_,rfl,eR.cK _ _⟩
   |false=>
    simp only[hb,ak] at hl ⊢;exact ih h2 n D hl
  ·cases h
theorem ahJ{e3:ao}:∀{bf:List (Nat×eR×Loc)} {ρ:Ren},rr e3 bf=some ρ->(keys ρ).Nodup->∀n z,(n,z,Loc.same)∈bf->∃s,look ρ n=some (some (n,s)):=by
 intro bf;induction bf with
 |nil=>intro ρ h _ n z hm;simp at hm
 |cons s bf ih=>
  intro ρ h hn n z hm;simp only[rr] at h;split at h
  ·rename_i a b h1 h2;cases h;simp only[keys,List.nodup_cons] at hn;rcases bO.1 hm with hm|hm
   ·subst hm;simp only[KM] at h1;split at h1
    ·cases h1;exact⟨_,by simp[look];rfl⟩
    ·cases h1
   ·obtain⟨aQ,gm⟩:=ih h2 hn.2 n z hm;refine⟨aQ,?_⟩;simp only[look];have:¬s.1=n:=by
     rintro rfl;have key:∀{ρ:Ren} {n:Nat} {D},look ρ n=some D->n∈keys ρ:=by
      intro ρ;induction ρ with
      |nil=>intro n D h;cases h
      |cons p ρ ax6=>
       obtain⟨m,q⟩:=p;intro n D h;simp only[look] at h;cases hb:m.beq n with
       |true=>have:=cg hb;subst this;exact ci
       |false=>simp only[hb,ak] at h;exact cf _ (ax6 h)
     exact hn.1 (key gm)
    rw[kh this];exact gm
  ·cases h
theorem FA:∀{ρ:Ren} {n o s:Nat},look ρ n=some (some (o,s))->o∈nz ρ:=by
 intro ρ;induction ρ with
 |nil=>intro n o s h;cases h
 |cons p ρ ih=>
  obtain⟨m,D⟩:=p;intro n o s h;simp only[look] at h;cases hb:m.beq n with
  |true=>
   simp only[hb,ad,bE] at h;subst h;exact ci
  |false=>
   simp only[hb,ak] at h;have:=ih h;cases D with
   |none=>exact this
   |some q=>exact cf _ this
theorem agy:∀{ρ:Ren} {n m o s aQ:Nat},(nz ρ).Nodup->look ρ n=some (some (o,s))->look ρ m=some (some (o,aQ))->n=m:=by
 intro ρ;induction ρ with
 |nil=>intro n m o s aQ _ h;cases h
 |cons p ρ ih=>
  obtain⟨k,D⟩:=p;intro n m o s aQ aa h an;simp only[look] at h an;have se:(nz ρ).Nodup:=by
   cases D with
   |none=>exact aa
   |some q=>exact(List.nodup_cons.1 aa).2
  cases hb:k.beq n with
  |true=>
   simp only[hb,ad,bE] at h;subst h;cases ew:k.beq m with
   |true=>rw[<-cg hb,<-cg ew]
   |false=>
    simp only[ew,ak] at an;exact absurd (FA an) (List.nodup_cons.1 aa).1
  |false=>
   simp only[hb,ak] at h;cases ew:k.beq m with
   |true=>
    simp only[ew,ad,bE] at an;subst an;exact absurd (FA h) (List.nodup_cons.1 aa).1
   |false=>
    simp only[ew,ak] at an;exact ih se h an
theorem Shape.gM(S:az U Z X F st M w){be:Shape}{y:be.J}(h:be.ex st=some y):∃a_,az U Z X a_ (be.st y) M w/\∀n z,(n,z,Loc.same)∈be.sites->a_ n=F n:=by
 unfold Shape.ex at h;have eS:eh st.sites (q6 st be.c5++q7 st be.sites):=agT.append agU;have dO:=S.BU eS;rw[<-ao.vU] at dO;generalize st.iI (q6 st be.c5++q7 st be.sites)=e3 at h dO;cases r4:e3.nt.beq be.nt with
 |false=>simp[r4] at h
 |true=>
  simp only[r4,ad] at h;split at h
  ·rename_i ρ acC;cases hc:(gf (keys ρ)&&gf (nz ρ)) with
   |false=>simp[hc] at h
   |true=>
    simp only[hc,ad] at h;simp only[bC,sQ] at hc;split at h
    ·rename_i cT dC h1 h2;cases h;have facts:=ahX h2;have WK:∀{z:eR} {y':z.J} {o s:Nat},z.ex e3 ρ (some (o,s))=some y'->∃ai,look e3.sites o=some ai/\ai.cK=s/\ai.live=true:=by
      intro z y' o s hz;cases z with
      |row t=>
       simp only[eR.ex] at hz;split at hz
       ·rename_i aQ bw xs hl;cases hb:aQ.beq s with
        |false=>simp[hb] at hz
        |true=>exact⟨_,hl,cg hb,rfl⟩
       ·cases hz
      |rF t n=>
       simp only[eR.ex] at hz;split at hz
       ·rename_i aQ bw xs hl;cases hb:aQ.beq s with
        |false=>simp[hb] at hz
        |true=>exact⟨_,hl,cg hb,rfl⟩
       ·cases hz
      |box bf=>
       simp only[eR.ex] at hz;split at hz
       ·rename_i hl;exact⟨_,hD hl,rfl,rfl⟩
       ·cases hz
      |map t=>
       simp only[eR.ex] at hz;split at hz
       ·rename_i aQ bw xs hl;cases hb:aQ.beq s with
        |false=>simp[hb] at hz
        |true=>exact⟨_,hl,cg hb,rfl⟩
       ·cases hz
     have hR:ue e3 ρ (kY be.sites dC):=by
      intro n D hn;obtain⟨aQ,jU,rZ⟩:=ahK (y:=dC) acC n D hn;refine⟨⟨aQ,jU,rZ⟩,fun o s e=>?_⟩
      obtain⟨z,y',dk,aI,aJ,_⟩:=facts n aQ jU;rw[hn] at aI;cases aI;subst e;exact WK aJ
     have live:∀n,cD (kY be.sites dC) n->∀b,bZ (gg F ρ n)=some b->∃o s,look ρ n=some (some (o,s))/\cD e3.sites o/\gg F ρ n=F o:=by
      rintro n ⟨b',hn,_⟩ b hb;obtain⟨z,y',D,aI,aJ,_⟩:=facts n b' hn;cases D with
      |none=>simp[gg,aI,bZ] at hb
      |some q=>
       obtain⟨o,s⟩:=q;obtain⟨ai,q1,_,ec⟩:=WK aJ;exact⟨o,s,aI,⟨ai,q1,ec⟩,by simp[gg,aI]⟩
     have cq:∀b,aN X (gg F ρ) (kY be.sites dC) b->aN X F e3.sites b:=by
      rintro b (hb|⟨n,hn,hb⟩)
      ·exact .inl hb
      ·obtain⟨o,s,_,q2,ec⟩:=live n hn b hb;exact .inr ⟨o,q2,by rw[<-ec];exact hb⟩
     have hS:∀{d:bk} {v:Value},bT w (aN X F e3.sites) d v->bT w (aN X (gg F ρ) (kY be.sites dC)) d v:=
      fun h=>cy.hS (F:=F) (sites:=[]) (a:=one _) cq (fun b hb=>dO.lt (cq b hb)) h
     have eI:Ds F e3 ρ (aN X (gg F ρ) (kY be.sites dC)):=by
      rintro o c8 hm b hb (hx|⟨n,hn,x7⟩)
      ·exact(dO.cF o b c8 hb).1 hx
      ·obtain⟨ae,s,q1,q2,ec⟩:=live n hn b x7;rw[ec] at x7;have e:=dO.eB o ae b c8 q2 hb x7;subst e;have hin:=FA q1;rw[<-vP] at hin;rw[hm] at hin;cases hin
     refine⟨gg F ρ,⟨?_,fun t=>?_,fun n b' hn=>?_,fun n m b ed fU g1 g2=>?_,fun n b ed g1=>?_,dO.frame,dO.old,dO.ft⟩,fun n z hm=>?_⟩
     ·rw[dO.nt];exact cg r4
     ·show cy _ _ _ _ (ao.get _ t) _;unfold ao.get;cases hl:look (v_ be.c5 cT) t with
      |none=>simp only[Shape.st,hl];trivial
      |some v=>
       simp only[Shape.st,hl];obtain⟨s,y',aI,aJ⟩:=ahW h1 t v hl;rw[aJ];exact fw.gM dO hR cq eI aI (dO.c5 t)
     ·have hn:look (kY be.sites dC) n=some b':=hn;obtain⟨z,y',D,aI,aJ,bS⟩:=facts n b' hn;rw[bS];cases z with
      |row t=>
       cases D with
       |none=>
        simp only[eR.ex] at aJ;cases aJ;exact⟨0,[],⟨by simp,.inl ⟨by simp[gg,aI],rfl⟩⟩,fun j h=>by simp[flat] at h⟩
       |some q=>
        obtain⟨o,s⟩:=q;simp only[eR.ex] at aJ;split at aJ
        ·rename_i aQ bw xs hl;cases hb:aQ.beq s with
         |false=>simp[hb] at aJ
         |true=>
          simp only[hb,ad] at aJ;split at aJ
          ·rename_i e;subst e;cases aJ;obtain⟨e,cs,q1,q2⟩:=dO.sites o _ hl;refine⟨e,cs,?_,fun j g1 g2=>hS (q2 j g1 g2)⟩
           have:gg F ρ n=F o:=by simp[gg,aI]
           rw[this];exact q1
          ·cases aJ
        ·cases aJ
      |rF t m=>
       cases D with
       |none=>cases aJ
       |some q=>
        obtain⟨o,s⟩:=q;simp only[eR.ex] at aJ;split at aJ
        ·rename_i aQ bw xs hl;cases hb:aQ.beq s with
         |false=>simp[hb] at aJ
         |true=>
          simp only[hb,ad] at aJ;split at aJ
          ·rename_i e;subst e;split at aJ
           ·rename_i hlen;cases aJ;obtain⟨e,cs,q1,q2⟩:=dO.sites o _ hl;simp only[eR.mk,apH hlen];refine⟨e,cs,?_,fun j g1 g2=>hS (q2 j g1 g2)⟩
            have:gg F ρ n=F o:=by simp[gg,aI]
            rw[this];exact q1
           ·cases aJ
          ·cases aJ
        ·cases aJ
      |box bf=>
       cases D with
       |none=>cases aJ
       |some q=>
        obtain⟨o,s⟩:=q;simp only[eR.ex] at aJ;split at aJ
        ·rename_i cells hl;obtain⟨b,T,cur,q1,q2,ec,nk,axG,E1⟩:=dO.sites o _ (hD hl);have:=SO dO hR cq eI aJ ⟨ec,E1⟩;exact⟨b,T,cur,by simp[gg,aI,q1],q2,this.1,nk,fun bU=>axG (ahY aJ bU),this.2⟩
        ·cases aJ
      |map t=>
       cases D with
       |none=>cases aJ
       |some q=>
        obtain⟨o,s⟩:=q;simp only[eR.ex] at aJ;split at aJ
        ·rename_i aQ bw es hl;cases hb:aQ.beq s with
         |false=>simp[hb] at aJ
         |true=>
          simp only[hb,ad] at aJ;split at aJ
          ·rename_i e;subst e;cases aJ;obtain⟨b,q1,q2⟩:=dO.sites o _ hl;have:gg F ρ n=F o:=by simp[gg,aI]
           exact⟨b,this.trans q1,q2⟩
          ·cases aJ
        ·cases aJ
     ·obtain⟨o,s,a1,a2,a3⟩:=live n ed b g1;obtain⟨ae,aQ,b1,b2,b3⟩:=live m fU b g2;rw[a3] at g1;rw[b3] at g2;have:=dO.eB o ae b a2 b2 g1 g2;subst this;exact agy hc.2 a1 b1
     ·obtain⟨o,s,a1,a2,a3⟩:=live n ed b g1;rw[a3] at g1;exact dO.cF o b a2 g1
     ·obtain⟨s,hs⟩:=ahJ acC hc.1 n z hm;simp[gg,hs]
    ·cases h
  ·cases h
end
inductive Kind:Type where
 |norm
 |exit (id:Nat)
 |ret
abbrev aR:=Kind×Shape
@[reducible] def aG:List aR->Type
 |[]=>Empty
 |[D]=>D.2.J
 |D::dk::r=>Sum D.2.J (aG (dk::r))
def Kind.mk:Kind->ao->Out
 |.norm,st=>.norm st
 |.exit id,st=>.exit id st
 |.ret,st=>.ret st
def ma:(os:List aR)->aG os->Out
 |[D],y=>D.1.mk (D.2.st y)
 |D::dk::r,y=>match y with
  |.inl y=>D.1.mk (D.2.st y)
  |.inr y=>ma (dk::r) y
def Kind.h9:Kind->Out->Option ao
 |.norm,.norm st=>some st
 |.exit id,.exit jv st=>bif Nat.beq id jv then some st else none
 |.ret,.ret st=>some st
 |_,_=>none
def hY:(os:List aR)->Out->Option (aG os)
 |[],_=>none
 |[D],x=>match D.1.h9 x with
  |some st=>D.2.ex st
  |none=>none
 |D::dk::r,x=>match D.1.h9 x with
  |some st=>(D.2.ex st).map Sum.inl
  |none=>(hY (dk::r) x).map Sum.inr
section
variable {U:World}{Z:List Nat}{X:Nat->Prop}{ds:List Deferred}{e9:Array Value}{W:List Nat}
theorem eU.ex{st:ao}{be:Shape}{y:be.J}{a:Act}{w:World}(hy:be.ex st=some y)(h:eU U Z X ds e9 W st a w):eU U Z X ds e9 W (be.st y) a w:=by
 obtain⟨a',eb,dp,F,ef,h1,h2,h3,S,bo⟩:=h;obtain⟨a_,cA,_⟩:=Shape.gM S hy;exact⟨a',eb,dp,a_,ef,h1,h2,h3,cA,bo⟩
theorem Kind.HB{k:Kind}{x:Out}{st:ao}{be:Shape}{y:be.J}{e:Exit}{a:Act}{w:World}(h:k.h9 x=some st)(hy:be.ex st=some y)(hl:fB U Z X ds e9 W x e a w):fB U Z X ds e9 W (k.mk (be.st y)) e a w:=by
 cases k<;>cases x<;>simp only[Kind.h9] at h<;>try(cases h;done)
 ·cases h;cases e<;>try exact hl.elim
  exact eU.ex hy hl
 ·rename_i id jv au;cases hb:Nat.beq id jv with
  |false=>simp[hb] at h
  |true=>
   simp only[hb,ad,bE] at h;subst h;cases e<;>try exact hl.elim
   exact⟨(cg hb).trans hl.1,eU.ex hy hl.2⟩
 ·cases h;cases e<;>try exact hl.elim
  exact eU.ex hy hl
theorem vI:∀{os:List aR} {x:Out} {y:aG os} {e:Exit} {a:Act} {w:World},hY os x=some y->fB U Z X ds e9 W x e a w->fB U Z X ds e9 W (ma os y) e a w:=by
 intro os;induction os with
 |nil=>intro x y;exact y.elim
 |cons D os ih=>
  intro x y e a w h hl;cases os with
  |nil=>
   simp only[hY] at h;split at h
   ·rename_i st hk;exact Kind.HB hk h hl
   ·cases h
  |cons dk r=>
   simp only[hY] at h;split at h
   ·rename_i st hk;obtain⟨cT,aI,aJ⟩:=Option.map_eq_some_iff.1 h;subst aJ;exact Kind.HB hk aI hl
   ·obtain⟨cT,aI,aJ⟩:=Option.map_eq_some_iff.1 h;subst aJ;exact ih aI hl
end
section
variable {J bx:Type}
def iter(f:J->Option (Sum J bx)):Nat->J->Option bx
 |0,_=>none
 |n+1,y=>match f y with
  |none=>none
  |some (.inl y')=>iter f n y'
  |some (.inr b)=>some b
theorem Ri{f:J->Option (Sum J bx)}:∀{n m:Nat} {y:J} {b:bx},n<=m->iter f n y=some b->iter f m y=some b:=by
 intro n;induction n with
 |zero=>intro m y b _ h;cases h
 |succ n ih=>
  intro m y b hle h;obtain⟨m,rfl⟩:∃k,m=k+1:=⟨m-1,by omega⟩
  simp only[iter] at h ⊢;split at h
  ·cases h
  ·exact ih (by omega) h
  ·exact h
open Classical in
noncomputable def bA(f:J->Option (Sum J bx))(y:J):Option bx:=
 if h:∃n b,iter f n y=some b then some (Classical.choose (Classical.choose_spec h)) else none
theorem Gp{f:J->Option (Sum J bx)}{y:J}{b:bx}:bA f y=some b <-> ∃n,iter f n y=some b:=by
 unfold bA;constructor
 ·intro h;split at h
  ·rename_i an;cases h;exact⟨_,Classical.choose_spec (Classical.choose_spec an)⟩
  ·cases h
 ·rintro⟨n,hn⟩;have h:∃n b,iter f n y=some b:=⟨n,b,hn⟩;rw[dif_pos h];have h1:=Classical.choose_spec (Classical.choose_spec h);have h2:=Ri (Nat.le_max_left (Classical.choose h) n) h1;have h3:=Ri (Nat.le_max_right (Classical.choose h) n) hn;rw[h2] at h3;exact h3
theorem Ai(f:J->Option (Sum J bx))(y:J):bA f y=match f y with
  |none=>none
  |some (.inl y')=>bA f y'
  |some (.inr b)=>some b:=by
 apply Option.ext;intro b;rw[Gp];cases hf:f y with
 |none=>
  simp only;constructor
  ·rintro⟨n,hn⟩;cases n with
   |zero=>cases hn
   |succ n=>simp only[iter,hf] at hn;cases hn
  ·intro h;cases h
 |some s=>
  cases s with
  |inl y'=>
   simp only;rw[Gp];constructor
   ·rintro⟨n,hn⟩;cases n with
    |zero=>cases hn
    |succ n=>simp only[iter,hf] at hn;exact⟨n,hn⟩
   ·rintro⟨n,hn⟩;exact⟨n+1,by simp only[iter,hf];exact hn⟩
  |inr bQ=>
   simp only;constructor
   ·rintro⟨n,hn⟩;cases n with
    |zero=>cases hn
    |succ n=>simp only[iter,hf] at hn;exact hn
   ·intro h;exact⟨1,by simp only[iter,hf];exact h⟩
theorem least{p:Nat->Prop}(h:∃n,p n):∃n,p n/\∀m,p m->n<=m:=by
 obtain⟨n,hn⟩:=h;induction n using Nat.strongRecOn with
 |_ n ih=>
  by_cases an:∃m,m<n/\p m
  ·obtain⟨m,h1,h2⟩:=an;exact ih m h1 h2
  ·exact⟨n,hn,fun m hm=>Nat.le_of_not_lt fun hlt=>an ⟨m,hlt,hm⟩⟩
end
noncomputable def tx(C:im)(c:Code)(p:Nat)(be:Shape)(os:List aR)(y:be.J):Option (Sum be.J (aG os)):=
 exec C c (2*p) (be.st y) fun
  |.norm st=>(be.ex st).map .inl
  |x=>(hY os x).map .inr
def Dm:(os:List aR)->(R:Type)->aG os->(Out->Option R)->Option R
 |[D],R,y,K=>K (D.1.mk (D.2.st y))
 |D::dk::r,R,y,K=>match y with
  |.inl y=>K (D.1.mk (D.2.st y))
  |.inr y=>Dm (dk::r) R y K
theorem SU:∀(os:List aR) (R:Type) (y:aG os) (K:Out->Option R),Dm os R y K=K (ma os y):=by
 intro os;induction os with
 |nil=>intro R y;exact y.elim
 |cons D os ih=>
  intro R y K;cases os with
  |nil=>rfl
  |cons dk r=>
   cases y with
   |inl y=>rfl
   |inr y=>exact ih R y K
def aX(be:Shape)(os:List aR)(g:be.J->Option (aG os)):iv:=fun st=>⟨aG os,(be.ex st).bind g,ma os,Dm os,SU os⟩
section
variable {P:Program}{C:im}
theorem ajB(H:aT P C.toCtx){c:Code}{p:Nat}{be:Shape}{os:List aR}(eI:gN P C c (2*p)){g:be.J->Option (aG os)}(hg:∀y,g y=bA (tx C c p be os) y):
  aV P (.loop c) (aX be os g):=by
 intro rn hn U Z X st y hy F M w ds S;simp only[aX] at hy y ⊢;obtain⟨dS,h1,h2⟩:=Option.bind_eq_some_iff.1 hy;obtain⟨mV,pv,_⟩:=Shape.gM S h1;rw[hg] at h2;obtain⟨n0,r6⟩:=Gp.1 h2;have aBK:∃fq:Nat->Act->World->Prop,∀n a w,fq n a w <-> ∃z,iter (tx C c p be os) n z=some y/\eU U Z X ds M (cJ c) (be.st z) a w:=⟨_,fun _ _ _=>Iff.rfl⟩
 obtain⟨fq,nl⟩:=aBK;classical
 refine wpIn_loop (I:=fun a w=>∃n,fq n a w) (μ:=fun a w=>if h:∃n,fq n a w then Classical.choose (least h) else 0) ⟨n0,(nl _ _ _).2 ⟨dS,r6,eU.of pv fun _ _=>rfl⟩⟩ ?_
 intro a w' dG;have at2:=(Classical.choose_spec (least dG)).1;obtain⟨z,hz,a',eb,dp,ho,ef,b1,b2,b3,dO,yJ⟩:=(nl _ _ _).1 at2;obtain⟨ir,Og⟩:=a;obtain⟨b3,azD⟩:=b3;have b3:Og=ef.map mark++ds:=b3;subst b3;have join:∀{D:Out} {e:Exit} {a2:Act} {w2:World},fB a' eb dp (ef.map mark++ds) ir (cJ c) D e a2 w2->fB U Z X ds M (cJ c) D e a2 w2:=fun hl=>
  (fB.trans b1 b2 azD yJ hl).mono fun t ay=>(bp.1 ay).elim id id
 cases jc:Classical.choose (least dG) with
 |zero=>rw[jc] at hz;cases hz
 |succ n=>
  rw[jc] at hz;simp only[iter] at hz;have go:∀s,tx C c p be os z=some s->gJ rn P c (fun e a w=>match s with
    |.inl fj=>fB U Z X ds M (cJ c) (.norm (be.st fj)) e a w
    |.inr b=>fB U Z X ds M (cJ c) (ma os b) e a w/\e≠.normal) ⟨ir,ef.map mark++ds⟩ w':=by
   intro s hs;refine j7 H c (2*p) hn eI a' eb dp (be.st z) ho ir w' _ _ _ hs dO ?_
   intro D e a w2 hk hl;have hl:=join hl;cases D with
   |norm xK=>
    obtain⟨fj,q1,q2⟩:=Option.map_eq_some_iff.1 hk;subst q2;exact Kind.HB (k:=.norm) rfl q1 hl
   |exit id xK=>
    obtain⟨fj,q1,q2⟩:=Option.map_eq_some_iff.1 hk;subst q2;exact⟨vI q1 hl,by rintro rfl;exact hl⟩
   |ret xK=>
    obtain⟨fj,q1,q2⟩:=Option.map_eq_some_iff.1 hk;subst q2;exact⟨vI q1 hl,by rintro rfl;exact hl⟩
  cases hr:tx C c p be os z with
  |none=>rw[hr] at hz;cases hz
  |some s=>
   cases s with
   |inl fj=>
    rw[hr] at hz;refine wpIn_mono (go _ hr) fun e a2 w2 hl=>?_
    cases e<;>try exact hl.elim
    have Nr:fq n a2 w2:=(nl _ _ _).2 ⟨fj,hz,hl⟩;refine⟨⟨n,Nr⟩,?_⟩;have hex:∃n,fq n a2 w2:=⟨n,Nr⟩;simp only[dif_pos hex,dif_pos dG,jc];have:Classical.choose (least hex)<=n:=(Classical.choose_spec (least hex)).2 n Nr;omega
   |inr b=>
    rw[hr] at hz;simp only[bE] at hz;subst hz;refine wpIn_mono (go _ hr) fun e a2 w2 hl=>?_
    cases e<;>first|exact absurd rfl hl.2|exact hl.1
noncomputable def Vi(C:im)(c:Code)(p:Nat)(be:Shape)(os:List aR)(y:be.J):Option (aG os):=exec C c p (be.st y) (hY os)
theorem ahE(H:aT P C.toCtx){c:Code}{p:Nat}{be:Shape}{os:List aR}(eI:gN P C c p){g:be.J->Option (aG os)}(hg:∀y,g y=Vi C c p be os y):aV P c (aX be os g):=by
 intro rn hn U Z X st y hy F M w ds S;simp only[aX] at hy y ⊢;obtain⟨dS,h1,h2⟩:=Option.bind_eq_some_iff.1 hy;obtain⟨mV,pv,_⟩:=Shape.gM S h1;rw[hg] at h2;exact j7 H c p hn eI U Z X (be.st dS) mV M w _ _ _ h2 pv fun D e a w' hk hl=>vI hk hl
end
def aU.TS:aU->Bool
 |.fresh _ _=>false
 |_=>true
def mx:List aU->Bool
 |[]=>true
 |l::al=>l.TS&&mx al
def q8(i:Nat):List Arg->Option (List (Nat×bb))
 |[]=>some []
 |.av a::r=>bif mx a.cells then(q8 (i+1) r).map fun l=>(i,.av a)::l else none
 |.fN _::r=>(q8 (i+1) r).map fun l=>(i,ch (.ptr (500000+i) 0 0))::l
def kw(i:Nat):List Arg->List (Nat×Nat)
 |[]=>[]
 |.av _::r=>kw (i+1) r
 |.fN _::r=>(500000+i,0)::kw (i+1) r
def C0:List Arg->List (List aU)
 |[]=>[]
 |.av _::r=>C0 r
 |.fN cs::r=>cs::C0 r
def oA(i:Nat):List Arg->List Nat
 |[]=>[]
 |.av _::r=>oA (i+1) r
 |.fN _::r=>i::oA (i+1) r
def lZ:List (Nat×Nat)->List (Nat×Site)
 |[]=>[]
 |(o,s)::r=>(o,.dead s)::lZ r
def CX(nt:Nat)(as:List Arg)(l:List (Nat×bb)):ao:=⟨l,lZ (kw 0 as),nt⟩
def Ku(nt:Nat)(as:List Arg)(l:List (Nat×bb)):List (Nat×Site):=hL (CX nt as l) (kw 0 as) (C0 as)
def entry(nt:Nat)(as:List Arg):Option ao:=bif Nat.ble as.length nt then(match q8 0 as with
 |some l=>bif gf (keys (Ku nt as l)) then some ⟨l,bB (lZ (kw 0 as)) (Ku nt as l),nt⟩ else none
 |none=>none) else none
def oy(st:ao):List Nat->Option (List (List aU)×List (Nat×Site))
 |[]=>some ([],[])
 |t::cv=>match st.get t with
  |.av (.aq (.ptr o s 0))=>match gi st o s,oy st cv with
   |some cells,some (c9,us)=>match lc st cells with
    |some (cs,gone)=>some (cs::c9,(o,.dead s)::(gone++us))
    |none=>none
   |_,_=>none
  |_=>none
def u3:List Nat->List Nat->Bool
 |[],[]=>true
 |n::r,m::s=>n.beq m&&u3 r s
 |_,_=>false
def arQ(st:ao):b4->Option (b4×List (Nat×Site))
 |.aq l=>(oP st l).map fun p=>(.aq p.1,p.2)
 |.agg al=>(lc st al).map fun p=>(.agg p.1,p.2)
def KJ(tt:TypeId->cu)(st:ao):ResultVar->Option b4
 |.tmp t=>mU (st.get t)
 |.cell a T=>match tt T with
  |.arr _ t n=>match st.get a with
   |.av (.aq (.fm o s u 0 0))=>match rowOf st o s with
    |some ⟨bw,xs⟩=>if bw=t/\bw=u then(long n xs).map fun xs=>.agg (DO bw xs n) else none
    |none=>none
   |_=>none
  |ti=>match st.get a with
   |.av (.aq (.ptr o s off))=>bif ti.known then(match gi st o s with
    |some cells=>(cut ti.agg off ti.size cells).bind mU
    |none=>none) else none
   |_=>none
def oG(tt:TypeId->cu)(st:ao):List ResultVar->Option (List b4×List (Nat×Site))
 |[]=>some ([],[])
 |t::cv=>match KJ tt st t with
  |some a=>match arQ st a,oG tt st cv with
   |some (c_,us),some (as,vs)=>some (c_::as,us++vs)
   |_,_=>none
  |none=>none
def atO(be:Shape):Out->Option be.J
 |.ret st=>be.ex st
 |.norm st=>be.ex st
 |.exit _ _=>none
noncomputable def KT(C:im)(c:Code)(k7 fV:Shape)(a:k7.J):Option fV.J:=exec C c 1 (k7.st a) (atO fV)
noncomputable def pM(tt:TypeId->cu)(nt:Nat)(k7 fV:Shape)(outs:List ResultVar)(fL:List Nat)(f:k7.J->Option fV.J):aH:=fun as=>
 match entry nt as with
 |some st=>bif u3 (oA 0 as) fL then⟨fV.J,(k7.ex st).bind f,fun y=>(match oy (fV.st y) fL with|some r=>r.1|none=>[]),fun y=>match oG tt (fV.st y) outs with|some r=>r.1|none=>[]⟩ else xw.fail
 |none=>xw.fail
section
variable {w:World}{av:Nat->Prop}
theorem afq:∀{al:List aU} {vs:List Value} {bs:List Nat},mx al=true->l1 w av al vs bs->bs=[]/\cM mN [] w av al vs:=by
 intro al;induction al with
 |nil=>
  intro vs bs _ h;match vs,h with
  |[],h=>exact⟨h,.nil⟩
 |cons l al ih=>
  intro vs bs hn h;simp only[mx,bC] at hn;match vs,h with
  |v::vs,⟨b1,b2,h1,h2,h3⟩=>
   obtain⟨aI,aJ⟩:=ih hn.2 h3;have:b1=[]/\eu mN [] w av l v:=by
    cases l<;>first|exact h2|cases hn.1
   exact⟨by rw[h1,this.1,aI];rfl,.cons this.2 aJ⟩
theorem afr{a:b4}{v:Value}{bs:List Nat}(hn:mx a.cells=true)(h:Dq w av a v bs):bs=[]/\hT mN [] w av a v:=by
 cases a with
 |aq l=>
  simp only[b4.cells,mx,Bool.and_true] at hn;cases l<;>first|exact h|cases hn
 |agg al=>
  obtain⟨vs,h1,h2⟩:=h;obtain⟨aI,aJ⟩:=afq hn h2;exact⟨aI,vs,h1,aJ.1,aJ.2⟩
def oT:Value->Nat
 |.pointer (some a)=>a.block
 |_=>0
theorem afV{al:List aU}(h:mx al=true){l:aU}(hl:l∈al):l.TS=true:=by
 induction al with
 |nil=>cases hl
 |cons a al ih=>
  simp only[mx,bC] at h;rcases bO.1 hl with rfl|hl
  ·exact h.1
  ·exact ih h.2 hl
theorem amg{F:Nat->Value}{cz:Nat->Prop}{a:b4}{v:Value}{sites:List (Nat×Site)}(hn:mx a.cells=true)(h:hT mN [] w av a v)(hle:∀b,cz b->av b)(hlt:∀b,cz b->b<w.heap.size):hT F sites w cz a v:=by
 cases a with
 |aq l=>exact FS (fun t xs e=>by subst e;cases hn) h hle hlt
 |agg al=>
  obtain⟨vs,h1,h2,h3⟩:=h;exact⟨vs,h1,h2,fun j g1 g2=>FS (fun t xs e=>by have:=afV hn (List.getElem_mem g1);rw[e] at this;cases this) (h3 j g1 g2) hle hlt⟩
theorem Fv:∀{as:List Arg} {i o s:Nat},(o,s)∈kw i as->s=0:=by
 intro as;induction as with
 |nil=>intro i o s h;cases h
 |cons a as ih=>
  intro i o s h;cases a with
  |av a=>exact ih h
  |fN c=>
   rcases bO.1 h with h|h
   ·cases h;rfl
   ·exact ih h
theorem P2{L:List (Nat×Nat)}(h:∀o s,(o,s)∈L->s=0){o s:Nat}(hm:(o,s)∈L):look (lZ L) o=some (.dead 0):=by
 induction L with
 |nil=>cases hm
 |cons p L ih=>
  obtain⟨k,r⟩:=p;simp only[lZ,look];cases hb:k.beq o with
  |true=>simp only[ad];rw[h k r ci]
  |false=>
   simp only[ak];refine ih (fun o s hm=>h o s (cf _ hm)) ?_
   rcases bO.1 hm with e|e
   ·cases e;rw[Nat.beq_refl] at hb;cases hb
   ·exact e
theorem Qa{L:List (Nat×Nat)}{o:Nat}{ai:Site}(h:look (lZ L) o=some ai):∃s,ai=.dead s:=by
 induction L with
 |nil=>cases h
 |cons p L ih=>
  obtain⟨k,r⟩:=p;simp only[lZ,look] at h;cases hb:k.beq o with
  |true=>simp only[hb,ad,bE] at h;exact⟨r,h.symm⟩
  |false=>simp only[hb,ak] at h;exact ih h
theorem ag4{F:Nat->Value}:∀{as:List Arg} {i:Nat} {l:List (Nat×bb)} {vs:List Value} {bs:List Nat},q8 i as=some l->jE w av as vs bs->(∀j,F (500000+i+j)=vs.getD j undef)->
  jI w av (ep as vs) (C0 as) bs/\ob F (kw i as) (ep as vs)/\ep as vs=(oA i as).map (fun t=>oT (vs.getD (t-i) undef))/\(∀t,t∈oA i as->i<=t)/\
  ∀t v,look l t=some v->i<=t/\((∃a,v=.av a/\mx a.cells=true/\hT mN [] w av a (vs.getD (t-i) undef))\/(v=ch (.ptr (500000+t) 0 0)/\(500000+t,0)∈kw i as/\∃b,vs.getD (t-i) undef=.pointer (some ⟨b,0,none⟩))):=by
 intro as;induction as with
 |nil=>
  intro i l vs bs h bU db;simp only[q8] at h;cases h;match vs,bU with
  |[],bU=>exact⟨bU,trivial,rfl,fun t h=>(by cases h),fun t v h=>(by cases h)⟩
 |cons a as ih=>
  intro i l vs bs h bU db;match vs,bU with
  |v::vs,⟨b1,b2,e,h2,h3⟩=>
  have kI:∀j,F (500000+(i+1)+j)=vs.getD j undef:=fun j=>by
   have:=db (j+1);rw[List.getD_cons_succ] at this;rw[<-this];congr 1;omega
  have shift:∀t,i+1<=t->(v::vs).getD (t-i) undef=vs.getD (t-(i+1)) undef:=fun t ay=>by
   obtain⟨m,hm⟩:∃m,t-i=m+1:=⟨t-i-1,by omega⟩
   have nb:t-(i+1)=m:=by omega
   rw[hm,List.getD_cons_succ,nb]
  have ZN:∀{L:List Nat},(∀t,t∈L->i+1<=t)->L.map (fun t=>oT (vs.getD (t-(i+1)) undef))=L.map (fun t=>oT ((v::vs).getD (t-i) undef)):=fun dX=>List.map_congr_left fun t ay=>by rw[shift t (dX t ay)]
  cases a with
  |fN c=>
   simp only[q8] at h;obtain⟨gW,h1,aF⟩:=Option.map_eq_some_iff.1 h;subst aF;obtain⟨b,hv,qy⟩:=h2;obtain⟨aI,aJ,bS,cY,gq⟩:=ih h1 h3 kI;have fh:ep (.fN c::as) (v::vs)=b::ep as vs:=by subst hv;rfl
   refine⟨by rw[fh];exact⟨b1,b2,e,qy,aI⟩,by rw[fh];exact⟨by have:=db 0;rw[Nat.add_zero] at this;rw[this];exact hv,aJ⟩,?_,fun t ay=>?_,fun t u hl=>?_⟩
   ·rw[fh,bS,ZN cY];simp only[oA,List.map_cons,Nat.sub_self,List.getD_cons_zero,hv,oT]
   ·rcases bO.1 ay with rfl|ay
    ·exact Nat.le_refl _
    ·exact Nat.le_trans (Nat.le_succ _) (cY t ay)
   ·simp only[look] at hl;cases hb:i.beq t with
    |true=>
     have:=cg hb;subst this;simp only[hb,ad,bE] at hl;subst hl;exact⟨Nat.le_refl _,.inr ⟨rfl,ci,b,by simp only[Nat.sub_self,List.getD_cons_zero];exact hv⟩⟩
    |false=>
     simp only[hb,ak] at hl;obtain⟨q1,q2⟩:=gq t u hl;refine⟨by omega,?_⟩
     rw[shift t q1];rcases q2 with q2|⟨r1,r2,dD⟩
     ·exact .inl q2
     ·exact .inr ⟨r1,cf _ r2,dD⟩
  |av a=>
   simp only[q8] at h;cases hn:mx a.cells with
   |false=>simp[hn] at h
   |true=>
    simp only[hn,ad] at h;obtain⟨gW,h1,aF⟩:=Option.map_eq_some_iff.1 h;subst aF;obtain⟨g1,g2⟩:=afr hn h2;obtain⟨aI,aJ,bS,cY,gq⟩:=ih h1 h3 kI;have fh:ep (.av a::as) (v::vs)=ep as vs:=by cases v<;>rfl
    refine⟨by rw[fh,e,g1];exact aI,by rw[fh];exact aJ,by rw[fh,bS,ZN cY];rfl,fun t ay=>Nat.le_trans (Nat.le_succ _) (cY t ay),fun t u hl=>?_⟩
    simp only[look] at hl;cases hb:i.beq t with
    |true=>
     have:=cg hb;subst this;simp only[hb,ad,bE] at hl;subst hl;exact⟨Nat.le_refl _,.inl ⟨a,rfl,hn,by simp only[Nat.sub_self,List.getD_cons_zero];exact g2⟩⟩
    |false=>
     simp only[hb,ak] at hl;obtain⟨q1,q2⟩:=gq t u hl;refine⟨by omega,?_⟩
     rw[shift t q1];exact q2
theorem ap4:∀{l m:List Nat},u3 l m=true->l=m:=by
 intro l;induction l with
 |nil=>intro m h;cases m<;>first|rfl|cases h
 |cons n l ih=>
  intro m h;cases m with
  |nil=>cases h
  |cons k m=>
   simp only[u3,bC] at h;rw[cg h.1,ih h.2]
end
section
variable {P:Program}{U:World}{Z:List Nat}{X:Nat->Prop}{F:Nat->Value}{st:ao}{M:Array Value}{w:World}{dE:List (Nat×Site)}{fp:List Nat}{av:Nat->Prop}
def rm(M:Array Value)(r:ResultVar):Sem Value:=
 match r with
 |.tmp t=>pure (M.getD t undef)
 |.cell a t=>do loadVar t (<-asAddr (M.getD a undef))
theorem als(S:az U Z X F st M w){C:Ctx}(H:CtxOk P C){r:ResultVar}{a:b4}(h:KJ C.tt st r=some a):∃v,(rm M r).run P w=.ok v w/\hT F st.sites w (aN X F st.sites) a v:=by
 cases r with
 |tmp t=>
  have hs:=S.c5 t;rw[qS h] at hs;exact⟨_,by simp only[rm,Sem.run_pure],hs⟩
 |cell x T=>
  simp only[KJ] at h;split at h
  ·rename_i e t n bn;split at h
   ·rename_i o s u hx;have hs:=S.c5 x;rw[hx] at hs;split at h
    ·rename_i bw xs hrow;split at h
     ·rename_i jT;obtain⟨rfl,rfl⟩:=jT;obtain⟨bm,hy,aya⟩:=Option.map_eq_some_iff.1 h;obtain⟨rfl,hlen⟩:=vD hy;subst aya;have bX:=H.tt T;rw[bn] at bX;obtain⟨he,_,_,fj,_,n3,_⟩:=oq bX.2.2;obtain⟨b,c,cs,hv,_,hc,hr⟩:=S.arr hrow hs;have hcl:cs.length=n:=by rw[hr.1,fr,he,hlen,Nat.mul_one]
      have dM:=vn (P:=P) (w:=w) bX (by rintro h;cases h) ⟨b,0,none⟩ cs hcl (fun j u hu=>by rw[hK];exact hc j u hu)
      refine⟨.agg cs.toArray,?_,?_⟩
      ·simp only[rm,hv,asAddr,Sem.run_bind,Sem.run_pure,Result.andThen_ok,dM];rfl
      ·subst hlen;have:=ie (F:=F) (sites:=st.sites) hr.1 hr.2;rw[<-Ux n3] at this;exact⟨cs,rfl,this.1,this.2⟩
     ·cases h
    ·cases h
   ·cases h
  split at h
  ·rename_i o s off hx;have hs:=S.c5 x;rw[hx] at hs;cases hk:(C.tt T).known with
   |false=>simp[hk] at h
   |true=>
    simp only[hk,ad] at h;split at h
    ·rename_i cells hb;obtain⟨v,hc,hv⟩:=Option.bind_eq_some_iff.1 h;have hv:=qS hv;subst hv;obtain⟨b,gX,cur,h1,h2,h3,aF,bo⟩:=S.box (hD hb) hs;obtain⟨aI,aJ⟩:=Wl hc HS bo;refine⟨_,?_,aJ⟩;have hl:(loadVar T ⟨b,off,none⟩).run P w=.ok (tR (C.tt T).agg ((cur.drop off).take (C.tt T).size)) w:=by
      refine vn (H.tt T) (Hy hk) _ _ (by simp;omega) fun j u hu=>?_
      rw[hK];have:=((iD.row h3).drop off).take (C.tt T).size j u hu;simpa using this
     simp only[rm,h2,asAddr,Sem.run_bind,Sem.run_pure,Result.andThen_ok,hl]
    ·cases h
  ·cases h
theorem P7{C:Ctx}(H:CtxOk P C)(L:fW U Z X F st M w dE fp av):∀{outs:List ResultVar} {as:List b4} {us:List (Nat×Site)},oG C.tt st outs=some (as,us)->
  ∃rv,(outs.mapM (rm M)).run P w=.ok rv w/\lS w av as rv (dz F (keys us))/\hN st.sites us:=by
 intro outs;induction outs with
 |nil=>intro as us h;simp only[oG] at h;cases h;exact⟨[],by simp,rfl,.nil⟩
 |cons t outs ih=>
  intro as us h;simp only[oG] at h;split at h
  ·rename_i a ha;split at h
   ·rename_i c_ u1 pg u2 h1 h2;cases h;obtain⟨rv,mj,aI,aJ⟩:=ih h2;obtain⟨v,q0,hs⟩:=als L.fz.old H ha;have:Dq w av c_ v (dz F (keys u1))/\hN st.sites u1:=by
     cases a with
     |aq l=>
      obtain⟨p,q1,q2⟩:=Option.map_eq_some_iff.1 h1;cases q2;exact Ak L q1 hs
     |agg al=>
      obtain⟨p,q1,q2⟩:=Option.map_eq_some_iff.1 h1;cases q2;obtain⟨vs,e1,e2,bz⟩:=hs;obtain⟨r1,r2⟩:=Jh L q1 ⟨e2,bz⟩;exact⟨⟨vs,e1,r1⟩,r2⟩
    refine⟨v::rv,?_,⟨_,_,by rw[kt,px],this.1,aI⟩,this.2.append aJ⟩
    simp only[List.mapM_cons,Sem.run_bind,q0,Result.andThen_ok,mj,Sem.run_pure]
   ·cases h
  ·cases h
theorem Py(L:fW U Z X F st M w dE fp av):∀{cv:List Nat} {c9:List (List aU)} {us:List (Nat×Site)},oy st cv=some (c9,us)->
  jI w av (cv.map fun t=>oT (M.getD t undef)) c9 (dz F (keys us))/\hN st.sites us:=by
 intro cv;induction cv with
 |nil=>intro c9 us h;simp only[oy] at h;cases h;exact⟨rfl,.nil⟩
 |cons t cv ih=>
  intro c9 us h;have hs:=L.fz.old.c5 t;simp only[oy] at h;split at h
  ·rename_i o s hx;rw[hx] at hs;split at h
   ·rename_i cells aCT nU mQ hr;split at h
    ·rename_i cs gone hg;cases h;obtain⟨aI,aJ⟩:=ih hr;have kd:=hD mQ;obtain⟨b,T,cur,e1,e2,bz,dn,e5⟩:=L.fz.old.box kd hs;obtain⟨g1,g2⟩:=Jh L hg e5;have Lr:nK cells T cur b:=by
      obtain⟨b2,eT,_f,q1,q2,_,_,ec,_⟩:=L.fz.old.sites o _ kd;rw[e1] at q1;cases q1;rw[bz] at q2;cases q2;exact ec
     have yG:oT (M.getD t undef)=b:=by rw[e2];rfl
     have azn:bZ (F o)=some b:=by rw[e1];rfl
     refine⟨⟨b::dz F (keys gone),dz F (keys nU),?_,?_,aI⟩,?_⟩
     ·simp only[keys,kt,px,List.cons_append];simp[dz,azn]
     ·show JE w av (oT (M.getD t undef)) cs _;rw[yG];exact⟨T,cur,_,rfl,bz,dn,fun bU=>Lr (Rl hg bU),g1⟩
     ·intro ae aQ hm;rcases bO.1 hm with hm|hm
      ·cases hm;exact⟨_,kd,rfl,rfl⟩
      ·exact(hN.append g2 aJ) ae aQ hm
    ·cases h
   ·cases h
  ·cases h
theorem Pr{fn:Func}{outs:List ResultVar}(h:fn.results=outs.toArray){M:Array Value}{w:World}{rv:List Value}(k:(outs.mapM (rm M)).run P w=.ok rv w):(results fn M).run P w=.ok (oK rv) w:=by
 have e:(results fn M)=(do let vs <-fn.results.mapM (rm M);pure (if h:vs.size=1 then vs[0] else .tuple vs)):=by
  unfold results;congr 2
 rw[e,h];simp only[List.mapM_toArray,Sem.run_bind,Sem.run_map];rw[k];match rv with
 |[]=>simp[oK]
 |[t]=>simp[oK]
 |t::t2::r=>simp[oK]
theorem az.atJ(S:az U Z X F st M w){bk:Nat}(gr:X bk)(fo:U.heap.size<=bk)(D:Obj):az U Z X F st M (w.putObj bk D):=by
 have hsz:(w.putObj bk D).heap.size=w.heap.size:=by simp[World.putObj]
 have Lu:∀b,b≠bk->(w.putObj bk D).heap[b]? =w.heap[b]? :=fun b hb=>World.putObj_heap_other hb
 have G:iK F F st.sites st.sites w (w.putObj bk D) (aN X F st.sites) (aN X F st.sites):=
  ⟨fun o ai h=>⟨ai,h,Nat.le_refl _,fun _=>rfl⟩,fun b hb _=>Lu b fun e=>hb (.inl (e▸gr)),fun _ h _=>h⟩
 have hlt:∀b,aN X F st.sites b->b<(w.putObj bk D).heap.size:=fun b hb=>by rw[hsz];exact S.lt hb
 refine⟨S.nt,fun t=>(S.c5 t).goes G (by rw[hsz];exact Nat.le_refl _) hlt,fun o ai h=>?_,S.eB,S.cF,?_,fun b hb=>by rw[hsz];exact S.old b hb,S.ft⟩
 ·exact(S.sites o ai h).goes G (by rw[hsz];exact Nat.le_refl _) hlt rfl fun hl b hb=>Lu b fun e=>(S.cF o b ⟨ai,h,hl⟩ hb).1 (e▸gr)
 ·exact⟨S.frame.os,S.frame.tape,S.frame.output,by rw[hsz];exact S.frame.size,fun b hb hn=>(Lu b (by omega)).trans (S.frame.block b hb hn)⟩
theorem afX{fn:Func}{R:Ending->World->Prop}:∀(ef:List Nat) (w:World),az U Z X F st M w->ef.Nodup->(∀bk,bk∈ef->U.heap.size<=bk/\X bk/\w.heap[bk]? =some (.deferred (some [])))->
  (∀w',az U Z X F st M w'->∃v,(results fn M).run P w'=.ok v w'/\R (.returned v) w')->LeavesInM Fence.wide 0 P fn M R (ef.map mark) .returning w:=by
 intro ef;induction ef with
 |nil=>intro w S _ _ hR;exact hR w S
 |cons bk ef ih=>
  intro w S hn fo hR;obtain⟨h1,h2,h3⟩:=fo bk ci;have hn:=List.nodup_cons.1 hn;refine⟨by simp,.inl ⟨bk,w.putObj bk (.deferred none),rfl,run_takeDeferred h3,ih _ (S.atJ h2 h1 _) hn.2 (fun OG ac8=>?_) hR⟩⟩
  obtain⟨g1,g2,g3⟩:=fo OG (cf _ ac8);exact⟨g1,g2,(World.putObj_heap_other (fun e=>hn.1 (by rw[<-e];exact ac8))).trans g3⟩
def TI(ey:Value->World->Prop):Ending->World->Prop
 |.returned v,w=>ey v w
 |_,_=>False
theorem al1{nt:Nat}{as:List Arg}{st:ao}{vs:List Value}{dP:List Nat}(he:entry nt as=some st)(bU:jE w (fun b=>X b\/b∈dP) as vs dP)(lm:dP.Nodup)(gr:∀b,b∈dP->¬X b)(hlt:∀b,X b->b<w.heap.size)(hG:jg w dP X):
  (∃F,az w dP X F st (vs.toArray++Array.replicate (nt-vs.toArray.size) undef) w)/\ep as vs=(oA 0 as).map (fun t=>oT (vs.getD t undef))/\(∀t,(vs.toArray++Array.replicate (nt-vs.toArray.size) undef).getD t undef=vs.getD t undef):=by
 unfold entry at he;cases hle:Nat.ble as.length nt with
 |false=>simp[hle] at he
 |true=>
  simp only[hle,ad] at he;split at he
  ·rename_i l hl;cases hn:gf (keys (Ku nt as l)) with
   |false=>simp[hn] at he
   |true=>
    simp only[hn,ad,bE] at he;subst he;rw[sQ] at hn;have hlen:=bU.length;have hle:=Nat.le_of_ble_eq_true hle;obtain⟨mV,ZU⟩:∃mV:Nat->Value,∀j,mV (500000+0+j)=vs.getD j undef:=⟨fun o=>vs.getD (o-500000) undef,fun j=>by simp⟩
    obtain⟨aI,aJ,bS,_,gq⟩:=ag4 hl bU ZU;have un:∀t,(vs.toArray++Array.replicate (nt-vs.toArray.size) undef).getD t undef=vs.getD t undef:=fun t=>by
     simp only[Array.getD_eq_getD_getElem?,List.getD_eq_getElem?_getD,Array.getElem?_append,List.size_toArray];by_cases h:t<vs.length
     ·simp[h]
     ·simp only[h,if_false];rw[List.getElem?_eq_none (Nat.le_of_not_lt h)];rw[Array.getElem?_replicate];split<;>rfl
    have mJ:∀o,¬cD (lZ (kw 0 as)) o:=fun o ⟨ai,h1,h2⟩=>by obtain⟨s,rfl⟩:=Qa h1;cases h2
    have EI:∀b,b∈dP->b<w.heap.size:=Rk aI;have cq:∀b,aN (fun b=>X b\/b∈dP++[]) mV (lZ (kw 0 as)) b->X b\/b∈dP:=by
     rintro b (h|⟨o,h,_⟩)
     ·simpa using h
     ·exact(mJ o h).elim
    have at4:∀b,aN (fun b=>X b\/b∈dP++[]) mV (lZ (kw 0 as)) b->b<w.heap.size:=fun b h=>(cq b h).elim (hlt b) (EI b)
    have pv:az w dP (fun b=>X b\/b∈dP++[]) mV (CX nt as l) (vs.toArray++Array.replicate (nt-vs.toArray.size) undef) w:=by
     refine⟨?_,fun t=>?_,fun o ai h=>?_,fun o ae b h=>(mJ o h).elim,fun o b h=>(mJ o h).elim,Fr.refl _ _,fun b hb=>?_,hG.arw fun b h=>by simpa using h⟩
     ·show(vs.toArray++_).size=nt;simp;omega
     ·rw[un];unfold ao.get;show cy mV (lZ (kw 0 as)) w _ (match look l t with|some v=>v|none=>.av (.aq .any)) _
      cases ay:look l t with
      |none=>simp only;trivial
      |some v=>
       simp only;obtain⟨_,k⟩:=gq t v ay;rw[Nat.sub_zero] at k;rcases k with⟨a,rfl,q1,q2⟩|⟨rfl,q1,b,q2⟩
       ·exact amg q1 q2 cq at4
       ·refine⟨b,q2,.dead 0,P2 (fun _ _ h=>Fv h) q1,Nat.le_refl _,fun _=>?_⟩
        have:=ZU t;rw[Nat.add_zero] at this;rw[this,q2]
     ·obtain⟨s,rfl⟩:=Qa h;trivial
     ·exact(show X b\/b∈dP by simpa using hb).elim (hlt b) (EI b)
    obtain⟨ho,T,_⟩:=RR (av:=fun b=>X b\/b∈dP) (rest:=[]) (CX nt as l) (kw 0 as) pv aJ aI (fun o s hm=>by
      have:=Fv hm;subst this;exact P2 (fun _ _ h=>Fv h) hm)
     ⟨by simpa using lm,fun b hb=>⟨gr b (by simpa using hb),.inl (by simpa using hb)⟩,cq⟩
     (fun m _ ai hs=>by
      have hs:look (lZ (kw 0 as)) m=some ai:=hs;have:(CX nt as l).ai m=some ai:=hs;unfold bG;rw[this];exact Nat.lt_succ_self _) hn
    exact⟨⟨ho,T.jQ.shrink fun b hb=>.inl hb⟩,by simpa using bS,un⟩
  ·cases he
theorem amw{C:im}(H:aT P C.toCtx){g:FuncId}{fn:Func}{c:Code}{k7 fV:Shape}{outs:List ResultVar}{fL:List Nat}{f:k7.J->Option fV.J}(n9:P.funcs[g]? =some fn)(t_:fn.body=some c)(ry:(fn.name== "runtime.NumGoroutine")=false)
  (kJ:fn.results=outs.toArray) (eI:gN P C c 1) (qv:fs fL (cJ c)=true) (rK:∀y,∃r po,oG C.tt (fV.st y) outs=some r/\oy (fV.st y) fL=some po/\gf (keys (po.2++r.2))=true) (hf:∀a,f a=KT C c k7 fV a):aE P g (pM C.tt fn.ntmps k7 fV outs fL f):=by
 intro as;unfold pM;cases he:entry fn.ntmps as with
 |none=>intro y hy;cases hy
 |some st=>
  simp only;cases pb:u3 (oA 0 as) fL with
  |false=>intro y hy;cases hy
  |true=>
  simp only[ad];have pb:=ap4 pb;rw[Rt] at qv;intro y hy w X vs dP bU lm gr hlt hG;obtain⟨a,Nn,ac4⟩:=Option.bind_eq_some_iff.1 hy;obtain⟨⟨mV,pv⟩,fh,un⟩:=al1 he bU lm gr hlt hG;obtain⟨ho,dO,_⟩:=Shape.gM pv Nn;rw[hf] at ac4;refine .inl ⟨?_,Calls.mono (R:=TI _) ((callsIn_wide (n:=0)).1 (callsIn_of_wp_marks n9 t_ trivial (j7 (rn:=none) H c 1 (.inl rfl) eI w dP X _ ho _ w [] _ _ ac4 dO fun D e c_ w' hk hl=>?_) rfl)) fun e w' h=>by cases e<;>first|exact h|exact h.elim⟩
  ·have apT:¬fn.name= "runtime.NumGoroutine" :=by simpa using ry
   simp[callFunc,n9,apT,t_]
  ·-- where it ends
   have fin:∀au,fV.ex au=some y->eU w dP X [] (vs.toArray++Array.replicate (fn.ntmps-vs.toArray.size) undef) (cJ c) au c_ w'->LeavesInM Fence.wide 0 P fn c_.tmps (TI fun v w'=>∃eN eM rv,Fr dP w w'/\
     jI w' (fun b=>X b\/b∈eN++eM) (ep as vs) (match oy (fV.st y) fL with|some r=>r.1|none=>[]) eN/\
     lS w' (fun b=>X b\/b∈eN++eM) (match oG C.tt (fV.st y) outs with|some r=>r.1|none=>[]) rv eM/\v=oK rv/\(eN++eM).Nodup/\∀b,b∈eN++eM->¬X b/\(b∈dP\/w.heap.size<=b)) c_.defers .returning w':=by
    rintro au M' ⟨a',eb,dp,iN,ef,b1,b2,b3,iB,kept⟩;obtain⟨iq,jW,_⟩:=Shape.gM iB M';rw[b3.1,List.append_nil];have jA:az w dP dp iq (fV.st y) c_.tmps w':=⟨jW.nt,jW.c5,jW.sites,jW.eB,fun o b h1 h2=>⟨(jW.cF o b h1 h2).1,b1.cF b (jW.cF o b h1 h2).2⟩,b1.cZ _ jW.frame,jW.old,⟨hG.ok,hG.Z,jW.ft.X,hG.lt⟩⟩
    refine afX ef w' jA b2.nodup (fun bk fo=>⟨b2.new bk fo,(b2.h9 bk fo).2.2,(jW.frame.block bk (b2.lt fo) (b2.h9 bk fo).2.1).trans (b2.h9 bk fo).1⟩) fun Ec azX=>?_
    have mr:=azX.shrink b1.x;obtain⟨⟨lx,us⟩,⟨c9,sx⟩,hr,MZ,hn⟩:=rK y;rw[sQ] at hn;have hn:(keys (sx++us)).Nodup:=hn;have EG:fW w dP X iq (fV.st y) c_.tmps Ec [] [] (fun _=>False):=⟨⟨mr,.nil⟩,fun b h=>h.elim,fun _ _ _ _ h=>h⟩
    obtain⟨_,_,_,EJ⟩:=P7 H.toCtxOk EG hr;have azg:=(Py EG MZ).2;have oh:=hN.append azg EJ;have Oa:∀o,o∈keys (sx++us)->cD (fV.st y).sites o:=fun o bH=>by
     obtain⟨s,hs⟩:=Aj bH;obtain⟨ai,h1,h2,_⟩:=oh o s hs;exact⟨ai,h1,h2⟩
    have dX:fW w dP X iq (fV.st y) c_.tmps Ec [] [] (fun b=>X b\/b∈dz iq (keys sx)++dz iq (keys us)):=by
     refine⟨⟨mr,.nil⟩,fun b hb=>?_,fun _ h=>by simp at h⟩
     rcases hb with hb|hb
     ·exact .inl hb
     ·rw[<-px,<-kt] at hb;obtain⟨o,h1,h2⟩:=om.1 hb;exact .inr ⟨o,Oa o h1,h2⟩
    obtain⟨rv,dM,en,_⟩:=P7 H.toCtxOk dX hr;have hB:=(Py dX MZ).1;have ayC:(fL.map fun t=>oT (c_.tmps.getD t undef))=ep as vs:=by
     rw[fh,pb];exact List.map_congr_left fun t ay=>by rw[kept t (qv t ay),un]
    rw[ayC] at hB;refine⟨_,Pr kJ dM,dz iq (keys sx),dz iq (keys us),rv,mr.frame,?_,?_,rfl,?_,fun b hb=>?_⟩
    ·rw[MZ];exact hB
    ·rw[hr];exact en
    ·rw[<-px,<-kt];exact O9 mr hn Oa
    ·rw[<-px,<-kt] at hb;obtain⟨o,h1,h2⟩:=om.1 hb;exact mr.cF o b (Oa o h1) h2
   cases D with
   |norm au=>
    cases e<;>try exact hl.elim
    exact fin au hk hl
   |ret au=>
    cases e<;>try exact hl.elim
    exact fin au hk hl
   |exit id au=>cases hk
end
def ap(c:Code)(q p:Nat):Code:=match look (gz c q) p with|some c=>c|none=>.skip
def di:Code->Code
 |.loop c=>c
 |_=>.skip
def codeOf(f:Func):Code:=match f.body with|some c=>c|none=>.skip
def VM:Code->Bool
 |.loop _=>true
 |_=>false
def tU:List (Nat×iv)->Nat->Option iv
 |[],_=>none
 |(k,v)::r,n=>bif k.beq n then some v else tU r n
def hJ(C:Ctx)(cZ:List (Nat×iv)):im:={C with oZ:=tU cZ}
def l2(P:Program)(c:Code)(q:Nat):List (Nat×iv)->Prop
 |[]=>True
 |(p,f)::r=>aV P (ap c q p) f/\l2 P c q r
theorem alB{aD:Type}{l:List (Nat×aD)}{n:Nat}{v:aD}(h:look l n=some v):(n,v)∈l:=by
 induction l with
 |nil=>cases h
 |cons p l ih=>
  obtain⟨m,u⟩:=p;simp only[look] at h;cases hb:m.beq n with
  |true=>
   simp only[hb,ad,bE] at h;rw[<-cg hb,h];exact ci
  |false=>simp only[hb,ak] at h;exact cf _ (ih h)
theorem alz{aD:Type}{l:List (Nat×aD)}{n:Nat}{v:aD}(hn:(keys l).Nodup)(h:(n,v)∈l):look l n=some v:=by
 induction l with
 |nil=>simp at h
 |cons p l ih=>
  obtain⟨m,u⟩:=p;simp only[keys,List.nodup_cons] at hn;simp only[look];rcases bO.1 h with h|h
  ·cases h;simp
  ·have:¬m=n:=by rintro rfl;exact hn.1 (ajx h)
   rw[kh this];exact ih hn.2 h
where
 ajx {aD:Type} {us:List (Nat×aD)} {o:Nat} {s:aD} (h:(o,s)∈us):o∈keys us:=by
  induction us with
  |nil=>simp at h
  |cons p us ih=>
   rcases bO.1 h with rfl|h
   ·exact ci
   ·exact cf _ (ih h)
theorem lK{P:Program}{C:Ctx}{c:Code}{q:Nat}{cZ:List (Nat×iv)}(hu:gf (keys (gz c q))=true)(h:l2 P c q cZ):gN P (hJ C cZ) c q:=by
 rw[sQ] at hu;refine TQ c q fun p fM hm f ya=>?_
 have hl:=alz hu hm;have hf:tU cZ p=some f:=ya;clear ya;clear hm;induction cZ with
 |nil=>cases hf
 |cons x cZ ih=>
  obtain⟨k,g⟩:=x;simp only[tU] at hf;cases hb:k.beq p with
  |true=>
   simp only[hb,ad,bE] at hf;have:=cg hb;subst this hf;have:=h.1;unfold ap at this;rw[hl] at this;exact this
  |false=>simp only[hb,ak] at hf;exact ih h.2 hf
theorem ag{P:Program}{c:Code}{q:Nat}:l2 P c q []:=trivial
theorem anQ{P:Program}{C:Ctx}(H:aT P C){c:Code}{q p:Nat}{be:Shape}{os:List aR}{cZ:List (Nat×iv)}{g:be.J->Option (aG os)}(hl:VM (ap c q p)=true)
  (hu:gf (keys (gz (di (ap c q p)) (2*p)))=true) (eS:l2 P (di (ap c q p)) (2*p) cZ)
  (hg:∀y,g y=bA (tx (hJ C cZ) (di (ap c q p)) p be os) y):aV P (ap c q p) (aX be os g):=by
 have:ap c q p=.loop (di (ap c q p)):=by
  generalize ap c q p=d at hl;cases d<;>first|rfl|cases hl
 rw[this];exact ajB (C:=hJ C cZ) H (lK hu eS) hg
theorem cm{P:Program}{C:Ctx}(H:aT P C){c:Code}{q p:Nat}{be:Shape}{os:List aR}{cZ:List (Nat×iv)}{g:be.J->Option (aG os)}
  (hu:gf (keys (gz (ap c q p) p))=true) (eS:l2 P (ap c q p) p cZ)
  (hg:∀y,g y=Vi (hJ C cZ) (ap c q p) p be os y):aV P (ap c q p) (aX be os g):=
 ahE (C:=hJ C cZ) H (lK hu eS) hg
theorem ap0{P:Program}{C:Ctx}(H:aT P C){g:FuncId}{fn:Func}{k7 fV:Shape}{outs:List ResultVar}{fL:List Nat}{cZ:List (Nat×iv)}{f:k7.J->Option fV.J}(n9:P.funcs[g]? =some fn)(t_:fn.body=some (codeOf fn))
  (ry:(fn.name== "runtime.NumGoroutine")=false) (kJ:fn.results=outs.toArray) (hu:gf (keys (gz (codeOf fn) 1))=true) (eS:l2 P (codeOf fn) 1 cZ) (hk:fs fL (cJ (codeOf fn))=true)
  (rK:∀y,∃r po,oG C.tt (fV.st y) outs=some r/\oy (fV.st y) fL=some po/\gf (keys (po.2++r.2))=true) (hf:∀a,f a=KT (hJ C cZ) (codeOf fn) k7 fV a):aE P g (pM C.tt fn.ntmps k7 fV outs fL f):=
 amw (C:=hJ C cZ) H n9 t_ ry kJ (lK hu eS) hk rK hf
def kb{A bx:Type}(ff:(A->Option bx)->A->Option bx):Nat->A->Option bx
 |0=>fun _=>none
 |n+1=>ff (kb ff n)
def kD:Nat:=4611686018427387904
theorem JY{P:Program}{g:FuncId}{tt:TypeId->cu}{nt:Nat}{mi lw:Shape}{outs:List ResultVar}{fL:List Nat}{ff:(mi.J->Option lw.J)->mi.J->Option lw.J}
  (h:∀aW,aE P g (pM tt nt mi lw outs fL aW)->aE P g (pM tt nt mi lw outs fL (ff aW))):∀n,aE P g (pM tt nt mi lw outs fL (kb ff n)):=by
 intro n;induction n with
 |zero=>
  intro as;unfold pM;cases entry nt as with
  |none=>intro y hy;cases hy
  |some st=>
   simp only;cases u3 (oA 0 as) fL with
   |false=>intro y hy;cases hy
   |true=>
    intro y hy;simp only[ad,kb] at hy;obtain⟨a,_,h2⟩:=Option.bind_eq_some_iff.1 hy;cases h2
 |succ n ih=>exact h _ ih
def Dx:List (Nat×cu)->TypeId->cu
 |[],_=>.none
 |(k,v)::r,n=>bif Nat.beq k n then v else Dx r n
def KU(P:Program):List (Nat×cu)->Prop
 |[]=>True
 |(k,v)::r=>v.ok P k/\KU P r
theorem amv{P:Program}:∀{l:List (Nat×cu)},KU P l->∀T,(Dx l T).ok P T:=by
 intro l;induction l with
 |nil=>intro _ T;trivial
 |cons p l ih=>
  obtain⟨k,v⟩:=p;intro h T;simp only[Dx];cases hb:Nat.beq k T with
  |true=>have:=cg hb;subst this;exact h.1
  |false=>exact ih h.2 T
theorem ahS{J bx:Type}{f g:J->Option (Sum J bx)}(h:∀y,f y=g y):∀y,bA f y=bA g y:=by
 have:f=g:=funext h;rw[this];exact fun _=>rfl
def tg:List Arg->Option (B×Int)
 |[.av (.aq (.d (.str s))),.av (.aq (.d (.int .u8 c)))]=>some (s,c)
 |_=>none
def GB:aH:=fun as=>match tg as with
 |some (s,c)=>⟨Unit,some (),fun _=>[],fun _=>[.aq (.d (.int .i64 (Lib.indexByte s c.toNat.toUInt8)))]⟩
 |none=>.fail
theorem Pw{as:List Arg}{s:B}{c:Int}(h:tg as=some (s,c)):as=[.av (.aq (.d (.str s))),.av (.aq (.d (.int .u8 c)))]:=by
 unfold tg at h;split at h
 ·cases h;rfl
 ·cases h
theorem af2{P:Program}{g:FuncId}{fn:Func}(hf:P.funcs[g]? =some fn)(ry:(fn.name== "runtime.NumGoroutine")=false)(hb:fn.body.isNone=true)(hn:Extern.findNext fn=none)
  (he:Extern.find fn=some Extern.BytealgIndexByte.indexByte):aE P g GB:=by
 intro as;unfold GB;cases aC:tg as with
 |none=>intro y hy;cases hy
 |some q=>
  obtain⟨s,c⟩:=q;have has:=Pw aC;subst has;intro y hy w X vs dP bU _ _ _ _;match vs,bU with
  |[v1,v2],⟨a1,a2,e1,h1,c1,c2,e2,h2,bz⟩=>
   obtain⟨fx,r1⟩:=h1;obtain⟨z2,r2⟩:=h2;subst fx z2 bz;simp only[List.append_nil] at e2;subst e2;simp only[List.append_nil] at e1;subst e1;obtain⟨b,rfl,ew⟩:=gY r1;have e:=iW r2;subst e;refine .inr ⟨.int .i64 (Lib.indexByte b.data.toList c.toNat.toUInt8),w,?_,[],[],[.int .i64 (Lib.indexByte s c.toNat.toUInt8)],Fr.refl _ _,?_,?_,?_,by simp,fun b hb=>by simp at hb⟩
   ·rw[run_callFunc_extern hf ry hb hn he];show((Extern.BytealgIndexByte.indexByte #[.string b,.int .u8 c]).run P w).andThen _=_;rw[Lib.run_indexByteString];rfl
   ·simp[ep,jI]
   ·exact⟨[],[],rfl,⟨rfl,.int _ _⟩,rfl⟩
   ·rw[ew];rfl
end Go.Jk
namespace Go.Jk
open Go.RowKit Go.Sort
theorem akw{P:Program}{w:World}{g:Nat}{name:String}{k:IntKind}{zs:List Int}(hg:P.globalNamed name=some g)(h:oS w g k zs):Lib.TabIs P w name k zs:=by
 obtain⟨T,fz,h⟩:=h;simp[Lib.TabIs,World.var?,hg,h]
theorem akx{P:Program}{w:World}{g:Nat}{name:String}{k:IntKind}{zs:List Int}(hg:P.globalNamed name=some g)(h:Lib.TabIs P w name k zs):oS w g k zs:=by
 simp only[Lib.TabIs,World.var?,hg,Y] at h;split at h
 ·rename_i cs T fz hc;cases h;exact⟨_,_,hc⟩
 ·cases h
def Dc:List Arg->Option Int
 |[.av (.aq (.d (.int .i64 n)))]=>some n
 |_=>none
theorem ajF{as:List Arg}{n:Int}(h:Dc as=some n):as=[.av (.aq (.d (.int .i64 n)))]:=by
 unfold Dc at h;split at h
 ·cases h;rfl
 ·cases h
def Hz:aH:=fun as=>match Dc as with
 |some n=>⟨Unit,if-9223372036854775808<=n/\n<=9223372036854775807 then some () else none,fun _=>[],fun _=>[.aq (.d (.str (Lib.itoa n)))]⟩
 |none=>.fail
theorem an3(w:World)(k:Nat)(os:Array Obj):Fr [] w (grow (w.drewN k) os):=
 ⟨rfl,rfl,rfl,by simp[grow,World.drewN],fun b hb _=>by
  show(w.heap++os)[b]? =w.heap[b]?;rw[Array.getElem?_append_left hb]⟩
theorem anX{P:Program}{g:FuncId}(he:∀args w,(callFunc g args).run P w=.ok (.enter g args) w)
  (h:∀n:Int,-9223372036854775808<=n->n<=9223372036854775807->∀w,n_ w->Calls P g #[.int .i64 n] w fun e w'=>e=.returned (.string ⟨(Lib.itoa n).toArray⟩)/\∃k os,w'=grow (w.drewN k) os):aE P g Hz:=by
 intro as;unfold Hz;cases aC:Dc as with
 |some n=>
  have has:=ajF aC;subst has;intro y hy w X vs dP bU _ gr hlt hG;have hy:(if-9223372036854775808<=n/\n<=9223372036854775807 then some () else none)=some y:=hy
  split at hy
  ·rename_i hn;match vs,bU with
   |[v1],⟨a1,a2,e1,h1,e2⟩=>
    obtain⟨fx,r1⟩:=h1;subst fx e2;simp only[List.append_nil] at e1;subst e1;have e:=iW r1;subst e;refine .inl ⟨he _ _,(h n hn.1 hn.2 w hG.ok).mono fun e w' hw=>?_⟩
    obtain⟨rfl,k,os,rfl⟩:=hw;exact⟨[],[],[.string ⟨(Lib.itoa n).toArray⟩],an3 w k os,rfl,⟨[],[],rfl,⟨rfl,.str _ _ rfl⟩,rfl⟩,rfl,by simp,fun b hb=>by simp at hb⟩
  ·cases hy
 |none=>intro y hy;cases hy
end Go.Jk
namespace Go.Jk
open Go.ChangeShapes Go.WideShapes Go.RowKit
def K5:bi->List ee
 |.i64=>[.int .i64]
 |.u8=>[.int .u8]
 |.u32=>[.int .u32]
 |.bool=>[.bool]
 |.str=>[.str]
 |.entry=>[.str,.int .i64,.int .i64,.str]
 |.need=>[.str,.int .i64,.str]
 |.pack=>[.str,.str,.sl .need,.sl .entry]
 |.file|.lt|.source|.piece=>[.str,.str]
 |.recipe=>[.str,.str,.sl .lt,.sl .need,.sl .need,.sl .source,.sl .piece,.sl .str]
 |.hunk=>[.int .i64,.sl .str]
 |.uc=>[.sl .bool]
inductive lr:bk->Prop where
 |int (k:IntKind) (n:Int):(Lit.int k n).wf=true->lr (.int k n)
 |bool (b:Bool):lr (.bool b)
 |str (s:B):s.length<=maxLen->lr (.str s)
 |sl (t:bi) (xs:List (den t)):xs.length<=maxLen->(∀x,x∈xs->∀d,d∈enc t x->lr d)->lr (.sl t xs)
theorem aof:∀(t:bi) (y:lq (K5 t)),∃x,enc t x=fX (K5 t) y:=by
 intro t y;cases t;case recipe=>obtain⟨a,b,c,d,e,f,g,h,_⟩:=y;exact⟨⟨a,b,c,d,e,f,g,h⟩,rfl⟩
 case entry=>obtain⟨a,b,c,d,_⟩:=y;exact⟨⟨a,b,c,d⟩,rfl⟩
 case pack=>obtain⟨a,b,c,d,_⟩:=y;exact⟨⟨a,b,c,d⟩,rfl⟩
 case need=>obtain⟨a,b,c,_⟩:=y;exact⟨⟨a,b,c⟩,rfl⟩
 case file=>obtain⟨a,b,_⟩:=y;exact⟨⟨a,b⟩,rfl⟩
 case lt=>obtain⟨a,b,_⟩:=y;exact⟨⟨a,b⟩,rfl⟩
 case source=>obtain⟨a,b,_⟩:=y;exact⟨⟨a,b⟩,rfl⟩
 case piece=>obtain⟨a,b,_⟩:=y;exact⟨⟨a,b⟩,rfl⟩
 case hunk=>obtain⟨a,b,_⟩:=y;exact⟨⟨a,b⟩,rfl⟩
 all_goals(obtain⟨a,_⟩:=y;exact⟨a,rfl⟩)
instance:DecidableEq ee:=fun a b=>by
 cases a<;>cases b<;>first|exact isTrue rfl|(rename_i x y;exact if h:x=y then isTrue (by rw[h]) else isFalse (fun e=>h (by cases e;rfl)))|exact isFalse (fun e=>by cases e)
def v8(P:Program)(r:TypeId->Option (List ee)):List Field->Nat->Option (List ee)
 |[],_=>some []
 |f::b0,D=>match r f.type,v8 P r b0 (D+P.cellsOf f.type) with
  |some a,some b=>if f.offset=D/\P.cellsOf f.type=a.length then some (a++b) else none
  |_,_=>none
def rb(tt:TypeId->cu)(P:Program):Nat->TypeId->Option (List ee)
 |0,_=>none
 |n+1,T=>match P.underlying T with
  |some (.int k)=>some [.int k]
  |some .bool=>some [.bool]
  |some .string=>some [.str]
  |some (.slice e)=>match tt T,rb tt P n e with
   |.slice _ t _,some bf=>if bf=K5 t/\P.cellsOf e=bg t then some [.sl t] else none
   |_,_=>none
  |some (.struct b0)=>match v8 P (rb tt P n) b0.toList 0 with
   |some bf=>if P.cellsOf T=bf.length then some bf else none
   |none=>none
  |_=>none
def wP(w:World)(av:Nat->Prop)(bf:List ee)(cs:List Value):Prop:=∃y:lq bf,dj w av (fX bf y) cs/\∀d,d∈fX bf y->lr d
theorem aly:∀(bf oX:List ee) (y:lq bf) (y':lq oX),∃z:lq (bf++oX),fX (bf++oX) z=fX bf y++fX oX y':=by
 intro bf;induction bf with
 |nil=>intro oX y y';exact⟨y',rfl⟩
 |cons s bf ih=>
  intro oX y y';obtain⟨a,b⟩:=y;obtain⟨z,hz⟩:=ih oX b y';exact⟨(a,z),by simp[fX,hz]⟩
theorem dj.cc{w:World}{av:Nat->Prop}{ds lp:List bk}{vs cH:List Value}(h:dj w av ds vs)(an:dj w av lp cH):dj w av (ds++lp) (vs++cH):=by
 refine⟨by rw[dx,dx,h.1,an.1],fun j g1 g2=>?_⟩
 rw[List.getElem_append,List.getElem_append];have:=h.1;simp only[dx] at g1 g2;by_cases hj:j<ds.length
 ·rw[dif_pos hj,dif_pos (by omega)]
  exact h.2 j hj (by omega)
 ·rw[dif_neg hj,dif_neg (by omega)]
  have:=an.2 (j-ds.length) (by omega) (by omega)
  simpa[h.1] using this
theorem wP.one{w:World}{av:Nat->Prop}{s:ee}{d:bk}{v:Value}(y:s.J)(aa:s.mk y=d)(h:bT w av d v)(hw:lr d):wP w av [s] [v]:=
 ⟨(y,()),⟨rfl,fun j h1 h2=>by
  simp only[fX,cW,List.length_nil] at h1;obtain rfl:j=0:=by omega
  simpa[fX,aa] using h⟩,fun aey an=>by simp only[fX,List.mem_singleton] at an;rw[an,aa];exact hw⟩
section
variable {H:Type}{kL:TypeId×Value->H}{P:Program}{w:World}{base:Nat}{spare:Nat->Bool}{held:Bool}{av:Nat->Prop}{tt:TypeId->cu}
theorem afU{r:TypeId->Option (List ee)}{n:Nat}{cs:List Value}(ih:∀{T:TypeId} {bf:List ee} {cs:List Value} {x:DataW H×List MemPlace},r T=some bf->DataW.trod kL P w base spare held n T cs=some x->wP w av bf cs):
  ∀(b0:List Field) (D:Nat) (bf:List ee),v8 P r b0 D=some bf->D+bf.length<=cs.length->(∀(i:Nat) (f:Field),b0[i]? =some f->∃x,DataW.trod kL P w base spare held n f.type ((cs.drop f.offset).take (P.cellsOf f.type))=some x)->
   wP w av bf ((cs.drop D).take bf.length):=by
 intro b0;induction b0 with
 |nil=>
  intro D bf h hl _;simp only[v8] at h;cases h;exact⟨(),⟨by simp[fX],fun j g=>by simp[fX] at g⟩,fun d aa=>by simp[fX] at aa⟩
 |cons f b0 ax3=>
  intro D bf h hl hx;simp only[v8] at h;split at h
  ·rename_i a b h1 h2;split at h
   ·rename_i hc;cases h;obtain⟨x,o5⟩:=hx 0 f rfl;have gT:D+a.length+b.length<=cs.length:=by simp only[dx] at hl;omega
    rw[hc.1,hc.2] at o5;rw[hc.2] at h2;obtain⟨cT,aI,aJ⟩:=ih h1 o5;obtain⟨dC,bS,cY⟩:=ax3 (D+a.length) b h2 gT (fun i g hg=>hx (i+1) g (by simpa using hg))
    obtain⟨z,hz⟩:=aly a b cT dC;have gl:(cs.drop D).take (a++b).length=(cs.drop D).take a.length++(cs.drop (D+a.length)).take b.length:=by
     rw[dx,List.take_add,List.drop_drop]
    refine⟨z,?_,?_⟩
    ·rw[hz,gl];exact aI.cc bS
    ·rw[hz];intro d aa;rcases bp.1 aa with aa|aa
     ·exact aJ d aa
     ·exact cY d aa
   ·cases h
  ·cases h
theorem ahD(cq:∀b,¬av b):∀(m:Nat) {T:TypeId} {bf:List ee} {n:Nat} {cs:List Value} {x:DataW H×List MemPlace},rb tt P m T=some bf->DataW.trod kL P w base spare held n T cs=some x->wP w av bf cs:=by
 intro m;induction m with
 |zero=>intro T bf n cs x h;cases h
 |succ m ih=>
  intro T bf n cs x h hx;simp only[rb] at h;split at h
  ·rename_i k hu;cases h;obtain⟨z,rfl,_,hw⟩:=DataW.trod_int hu hx;exact .one (s:=.int k) z rfl (.int k z) (.int k z hw)
  ·rename_i hu;cases h;obtain⟨b,rfl,_⟩:=DataW.trod_bool hu hx;exact .one (s:=.bool) b rfl (.bool b) (.bool b)
  ·rename_i hu;cases h;obtain⟨s,rfl,_,hl⟩:=DataW.trod_string hu hx;exact .one (s:=.str) s.data.toList rfl (.str _ _ rfl) (.str _ (by rw[Array.length_toList];exact hl))
  ·rename_i e hu;split at h
   ·rename_i cU t bytes oX jT mc;split at h
    ·rename_i hc;cases h;rcases DataW.trod_slice hu hx with⟨rfl,_⟩|⟨a,len,cap,aCx,rest,h6,rfl,rfl,_,hb,uP,hcm,nc,bK,_⟩
     ·exact .one (s:=.sl t) [] rfl (.nil t) (.sl t [] (Nat.zero_le _) (fun x h=>by cases h))
     ·have key:∀j,j<=len->∃xs:List (den t),∃cs:List Value,xs.length=j/\cs.length=j*bg t/\(∀i u,cs[i]? =some u->w.cell? (a.add i)=some u)/\dj w av (flat t xs) cs/\∀x,x∈xs->∀d,d∈enc t x->lr d:=by
       intro j;induction j with
       |zero=>intro _;exact⟨[],[],rfl,by simp,fun i u h=>by simp at h,⟨rfl,fun i h=>by simp[flat] at h⟩,fun x h=>by cases h⟩
       |succ j ax2=>
        intro hj;obtain⟨xs,cs,h1,h2,h3,aF,bo⟩:=ax2 (by omega)
        have ko:=bK j (by omega)
        rw[dZ (by omega)] at ko
        obtain⟨pe,aI,aJ⟩:=Option.bind_eq_some_iff.1 ko;obtain⟨bS,cY,gq⟩:=World.cells?_some aI;obtain⟨y,iT,pq⟩:=ih mc aJ;obtain⟨hc1,sf⟩:=hc;subst hc1;obtain⟨yx,hxe⟩:=aof t y;rw[<-hxe] at iT pq;have gT:pe.length=bg t:=by rw[cY,sf]
        refine⟨xs++[yx],cs++pe,by simp[h1],by rw[dx,h2,gT,Nat.succ_mul],fun i u hi=>?_,?_,fun x hx=>?_⟩
        ·by_cases hlt:i<cs.length
         ·rw[List.getElem?_append_left hlt] at hi;exact h3 i u hi
         ·rw[List.getElem?_append_right (by omega)] at hi
          have qe:i-cs.length<bg t:=by rw[<-gT];exact(List.getElem?_eq_some_iff.1 hi).1
          have:=gq (i-cs.length) (by rw[sf];exact qe)
          rw[Deep.add_add,sf,hi,show j*bg t+(i-cs.length)=i by omega] at this
          exact this
        ·rw[sO,show flat t [yx]=enc t yx by simp[flat]]
         exact aF.cc iT
        ·rcases bp.1 hx with hx|hx
         ·exact bo x hx
         ·rw[List.mem_singleton.1 hx];exact pq
      obtain⟨xs,cs,h1,h2,h3,aF,bo⟩:=key len (Nat.le_refl _);exact .one (s:=.sl t) xs rfl (.sl t xs a cap cs len h1.symm uP (fun _=>cq _) (by rw[h2,fr,h1]) h3 aF.2) (.sl t xs (by omega) bo)
    ·cases h
   ·cases h
  ·rename_i b0 hu;split at h
   ·rename_i oX ayL;split at h
    ·rename_i hc;cases h;obtain⟨xs,h6,_,_,hl,hlen,hf⟩:=DataW.trod_struct hu hx;have:=afU (cs:=cs) (fun h1 h2=>ih h1 h2) b0.toList 0 bf ayL (by omega) (fun i f acR=>by
      have:=hf i f (by simpa using acR)
      have hi:i<xs.length:=by
       rw[hlen];have:=(List.getElem?_eq_some_iff.1 acR).1;simpa using this
      exact⟨xs[i],by rw[this,dZ hi]⟩)
     rw[List.drop_zero,List.take_of_length_le (by omega)] at this
     exact this
    ·cases h
   ·cases h
  ·cases h
theorem vZ{w:World}{av:Nat->Prop}{d:bk}{ds:List bk}{vs:List Value}(h:dj w av (d::ds) vs):∃v cH,vs=v::cH/\bT w av d v/\dj w av ds cH:=by
 obtain⟨h1,h2⟩:=h;match vs,h1 with
 |v::vs,h1=>
  refine⟨v,vs,rfl,?_,by simpa using h1,fun j g1 g2=>?_⟩
  ·have:=h2 0 (by simp) (by simp)
   simpa using this
  ·have:=h2 (j+1) (by simp only[cW];omega) (by simp only[cW];omega)
   simpa using this
theorem akM{w:World}{av:Nat->Prop}:∀{ds:List bk} {vs:List Value},dj w av ds vs->l1 w av (cR ds) vs []:=by
 intro ds;induction ds with
 |nil=>
  intro vs h;match vs,h.1 with
  |[],_=>rfl
 |cons d ds ih=>
  intro vs h;obtain⟨v,cH,rfl,h1,h2⟩:=vZ h;exact⟨[],[],rfl,⟨rfl,h1⟩,ih h2⟩
def xi(P:Program)(T:TypeId):Bool:=match P.underlying T with
 |some (.struct _)=>true
 |_=>false
def w6(b:Bool)(ds:List bk):Arg:=match b,ds with
 |true,ds=>.av (.agg (cR ds))
 |false,[d]=>.av (.aq (.d d))
 |false,_=>.av (.aq .any)
theorem aqd(cq:∀b,¬av b){m:Nat}{T:TypeId}{bf:List ee}{v:Value}{d:DataW H}{p:List MemPlace}{r:Reach}{sF:Nat}(hp:rb tt P m T=some bf)(jo:Value.okWide P w r sF T v)
  (aa:DataW.Trod kL P w base spare held T v d p):∃y:lq bf,Uz w av (w6 (xi P T) (fX bf y)) v []/\ep [w6 (xi P T) (fX bf y)] [v]=[]/\∀d,d∈fX bf y->lr d:=by
 obtain⟨n,hn⟩:=aa;obtain⟨y,h1,h2⟩:=ahD cq m hp hn;refine⟨y,?_,?_,h2⟩
 ·cases m with
  |zero=>cases hp
  |succ m=>
   simp only[rb] at hp;unfold xi;split at hp
   ·rename_i k hu;cases hp;rw[hu];obtain⟨z,rfl⟩:=okWide_int hu jo;obtain⟨v',cH,e,h3,aF⟩:=vZ h1;cases e;exact⟨rfl,h3⟩
   ·rename_i hu;cases hp;rw[hu];obtain⟨z,rfl⟩:=okWide_bool hu jo;obtain⟨v',cH,e,h3,aF⟩:=vZ h1;cases e;exact⟨rfl,h3⟩
   ·rename_i hu;cases hp;rw[hu];obtain⟨z,rfl⟩:=okWide_string hu jo;obtain⟨v',cH,e,h3,aF⟩:=vZ h1;cases e;exact⟨rfl,h3⟩
   ·rename_i e hu;split at hp
    ·split at hp
     ·cases hp;rw[hu];obtain⟨a,len,cap,rfl⟩:=okWide_slice hu jo;obtain⟨v',cH,e,h3,aF⟩:=vZ h1;cases e;exact⟨rfl,h3⟩
     ·cases hp
    ·cases hp
   ·rename_i b0 hu;rw[hu];obtain⟨cs,rfl,_⟩:=okWide_struct hu jo;exact⟨cs.toList,rfl,akM h1⟩
   ·cases hp
 ·unfold w6;split<;>cases v<;>rfl
def v7(tt:TypeId->cu)(P:Program)(m:Nat):List TypeId->Option (List (Bool×List ee))
 |[]=>some []
 |T::dh=>match rb tt P m T,v7 tt P m dh with
  |some bf,some r=>some ((xi P T,bf)::r)
  |_,_=>none
@[reducible] def yh:List (Bool×List ee)->Type
 |[]=>Unit
 |p::r=>lq p.2×yh r
def tK:(ps:List (Bool×List ee))->yh ps->List Arg
 |[],_=>[]
 |p::r,(y,z)=>w6 p.1 (fX p.2 y)::tK r z
def LN:(ps:List (Bool×List ee))->yh ps->Prop
 |[],_=>True
 |p::r,(y,z)=>(∀d,d∈fX p.2 y->lr d)/\LN r z
theorem aov(cq:∀b,¬av b){m:Nat}{r:Reach}{sF:Nat}:∀{dh:List TypeId} {ps:List (Bool×List ee)} {vs:List Value} {ds:List (DataW H)} {p:List MemPlace},v7 tt P m dh=some ps->
  (∀(j:Nat) (t:TypeId) (v:Value),dh[j]? =some t->vs[j]? =some v->Value.okWide P w r sF t v)->DataW.TrodAll kL P w base spare held dh vs ds p->
  ∃y:yh ps,jE w av (tK ps y) vs []/\ep (tK ps y) vs=[]/\LN ps y:=by
 intro dh;induction dh with
 |nil=>
  intro ps vs ds p hp _ aa;simp only[v7] at hp;cases hp;obtain⟨rfl,rfl,rfl⟩:=trodAll_nil aa;exact⟨(),rfl,rfl,trivial⟩
 |cons T dh ih=>
  intro ps vs ds p hp jo aa;simp only[v7] at hp;split at hp
  ·rename_i bf eY h1 h2;cases hp;obtain⟨v,cH,d,lp,iS,jx,rfl,rfl,rfl,hd1,hd2⟩:=trodAll_cons aa;obtain⟨y,aI,aJ,bS⟩:=aqd cq h1 (jo 0 T v rfl rfl) hd1;obtain⟨z,cY,gq,iT⟩:=ih h2 (fun j t u g1 g2=>jo (j+1) t u (by simpa using g1) (by simpa using g2)) hd2
   refine⟨(y,z),⟨[],[],rfl,aI,cY⟩,?_,bS,iT⟩;have:=O8 (as:=[w6 (xi P T) (fX bf y)]) (vs:=[v]) (pg:=tK eY z) (cH:=cH) rfl;rw[aJ,gq] at this;exact this
  ·cases hp
theorem af0{P:Program}{w:World}:∀{laid:List (String×DataW Unit)} {ps:List MemPlace} {n:String} {d:DataW Unit},DataW.LaidVars P w laid ps->(n,d)∈laid->∃qs,DataW.LaidVars P w [(n,d)] qs:=by
 intro laid;induction laid with
 |nil=>intro ps n d _ hm;cases hm
 |cons x laid ih=>
  obtain⟨n0,d0⟩:=x;intro ps n d h hm;obtain⟨g,t,cs,mR,p,q,h1,h2,h3,aF,bo,cp⟩:=h;rcases bO.1 hm with e|hm
  ·cases e;exact⟨_,g,t,cs,mR,p,[],h1,h2,h3,aF,rfl,rfl⟩
  ·exact ih bo hm
theorem Sx{P:Program}{W:World}{laid:List (String×DataW Unit)}{name:String}{k:IntKind}{zs:List Int}{g:Nat}{t e:TypeId}{n i:Nat}(hg:P.globalNamed name=some g)(ayi:(P.globals[g]?).map (·.type)=some t)(ay:P.underlying t=some (.array n e))
  (he:P.underlying e=some (.int k)) (uV:P.cellsOf e=1) (ayO:P.cellsOf t=n) (hm:laid[i]? =some (name,Lib.tabData k zs)) (h:laidMet P laid W):oS W g k zs:=by
 obtain⟨ps,h,_⟩:=h;obtain⟨qs,cN,bw,cs,mR,p,q,hg',n7,atU,aa,_,_⟩:=af0 h (eJ hm);obtain rfl:=Option.some.inj (hg.symm.trans hg');obtain rfl:=Option.some.inj (ayi.symm.trans n7);have hc:=Lib.cells_of_tab ay he uV ayO aa;refine akx hg ?_
 show W.var? P name=_;rw[atU,<-hc]
def LawOk(S:aH)(ps:List (Bool×List ee)):Prop:=∀y:yh ps,LN ps y->∃r,(S (tK ps y)).comp=some r/\(S (tK ps y)).fH r=[.aq (.d (.bool true))]
theorem afh{W dr:World}(hl:laidOutB P=true){sp':Nat->Bool}(km:∀b,b<W.heap.size->sp' b=true)(hb:Below W.heap.size W dr):∀{dh:List TypeId} {vs:List Value} {ds:List (DataW H)} {p:List MemPlace},
  (∀t,t∈dh->P.readableRec t=true/\t<P.types.size)->(∀x∈p,x.block<W.heap.size)->DataW.TrodAll kL P W 0 (fun _=>true) true dh vs ds p->DataW.TrodAll kL P dr 0 sp' true dh vs ds p:=by
 intro dh;induction dh with
 |nil=>intro vs ds p _ _ aa;obtain⟨rfl,rfl,rfl⟩:=trodAll_nil aa;rfl
 |cons T dh ih=>
  intro vs ds p hr hlt aa;obtain⟨v,cH,d,lp,iS,jx,rfl,rfl,rfl,hd1,hd2⟩:=trodAll_cons aa;refine⟨iS,jx,?_,ih (fun t ay=>hr t (cf _ ay)) (fun x hx=>hlt x (bp.2 (.inr hx))) hd2,rfl⟩
  exact WideElems.Trod_stays hl (hr T ci).1 (hr T ci).2 hd1 (fun x hx=>hb.same (hlt x (bp.2 (.inl hx)))) (fun x hx=>km _ (hlt x (bp.2 (.inl hx))))
theorem afK{dh:List TypeId}{vs:List Value}{ds:List (DataW H)}{p:List MemPlace}(h:DataW.TrodAll kL P w base spare held dh vs ds p):ds.length=dh.length:=by
 induction dh generalizing vs ds p with
 |nil=>obtain⟨rfl,rfl,rfl⟩:=trodAll_nil h;rfl
 |cons T dh ih=>
  obtain⟨v,cH,d,lp,iS,jx,rfl,rfl,rfl,_,hd2⟩:=trodAll_cons h;simp[ih hd2]
def Dw(P:Program):List String->Bool
 |[]=>true
 |n::ns=>(match P.globalNamed n with
  |some g=>match(P.globals[g]?).map (·.type) with
   |some t=>P.readableRec t&&decide (t<P.types.size)
   |none=>true
  |none=>true)&&Dw P ns
theorem ae9{W dr:World}(hl:laidOutB P=true){sp':Nat->Bool}(km:∀b,b<W.heap.size->sp' b=true)(hb:Below W.heap.size W dr):∀{ns:List String} {gs:List (DataW H)} {q:List MemPlace},
  Dw P ns=true->(∀x∈q,x.block<W.heap.size)->DataW.TrodVars kL P W (fun _=>true) ns gs q->DataW.TrodVars kL P dr sp' ns gs q:=by
 intro ns;induction ns with
 |nil=>intro gs q _ _ h;obtain⟨rfl,rfl⟩:=trodVars_none h;rfl
 |cons n ns ih=>
  intro gs q hr hlt h;cases gs with
  |nil=>exact h.elim
  |cons d ds=>
   obtain⟨g,t,cs,mR,p,fT,h1,h2,h3,aF,hs,rfl⟩:=h;simp only[Dw,h1,h2,bC,dY] at hr;have hg:g<W.heap.size:=by
    have Nt:=h3;simp only[World.var?,h1,Y] at Nt;split at Nt
    ·rename_i hc;exact(Array.getElem?_eq_some_iff.1 hc).1
    ·cases Nt
   have aa:DataW.Trod kL P W 0 (fun _=>true) true t (.agg cs) d p:=⟨mR,aF⟩
   have hx:∀x∈p,x.block<W.heap.size:=fun x hx=>hlt x (bp.2 (.inl (bp.2 (.inr hx))))
   obtain⟨arS,pc⟩:=WideElems.Trod_stays (sp':=sp') hl hr.1.1 hr.1.2 aa (fun x h=>hb.same (hx x h)) (fun x h=>km _ (hx x h))
   refine⟨g,t,cs,arS,p,fT,h1,h2,?_,pc,ih hr.2 (fun x h=>hlt x (bp.2 (.inr h))) hs,rfl⟩
   simp only[World.var?,h1,Y] at h3 ⊢;rw[hb.block g hg];exact h3
theorem afJ{mh:Nat->Bool}:∀{ns:List String} {gs:List (DataW H)} {q:List MemPlace},DataW.TrodVars kL P w mh ns gs q->gs.length=ns.length:=by
 intro ns;induction ns with
 |nil=>intro gs q h;obtain⟨rfl,rfl⟩:=trodVars_none h;rfl
 |cons n ns ih=>
  intro gs q h;cases gs with
  |nil=>exact h.elim
  |cons d ds=>
   obtain⟨g,t,cs,mR,p,fT,h1,h2,h3,aF,hs,rfl⟩:=h;simp[ih hs]
theorem afZ{f:FuncId}{fn:Func}{S:aH}{s:ChangeSpec}{N5:TypeId}{m:Nat}{ps:List (Bool×List ee)}(eZ:aE P f S)(he:∀vs w,(callFunc f vs).run P w=.ok (.enter f vs) w)(hl:laidOutB P=true)
  (arH:∀t,t∈fn.params.toList->P.readableRec t=true/\t<P.types.size) (kJ:fn.resultTypes=#[N5]) (ayk:P.underlying N5=some .bool) (arD:Dw P s.vars=true)
  (n9:∀ds gs:List (DataW H),ds.length=fn.params.toList.length->gs.length=s.vars.length->s.fn H (ds++gs)={results:=[.lit (.bool true)],args:=ds,vars:=gs}) (o9:v7 tt P m fn.params.toList=some ps) (Ly:LawOk S ps)
  (W:World) (hG:n_ W) (sF:Nat) (args:Array Value) (ds gs:List (DataW H)) (before:List MemPlace) (jo:∀(j:Nat) t v,fn.params[j]? =some t->args[j]? =some v->Value.okWide P W .any sF t v)
  (hW:DataW.Whole kL P fn.params.toList s.vars false W args.toList ds gs before):
  Calls P f args W fun e dr=>∃v,e=.returned v/\s.post kL P fn false true false false W args v dr:=by
 have hlt:=hW.lt;have Nq:=hW;obtain⟨p,q,en,aer,rfl,_,_⟩:=hW;obtain⟨y,h1,h2,h3⟩:=aov (av:=fun b=>False\/b∈([]:List Nat)) (fun b hb=>by simp at hb) o9 (fun j t v g1 g2=>jo j t v (by simpa using g1) (by simpa using g2)) en
 obtain⟨r,aF,bo⟩:=Ly y h3;have key:=eZ _ r aF W (fun _=>False) args.toList [] h1 List.nodup_nil (fun b hb=>by simp at hb) (fun b hb=>hb.elim) ⟨hG,fun b _ h=>(by cases h),fun _ _ h=>h,azl hG⟩
 rcases key with⟨_,hc⟩|⟨v,w',hv,_⟩
 ·have e:args.toList.toArray=args:=by simp
  rw[e] at hc;refine hc.mono fun E6 dr h=>?_
  cases E6 with
  |returned v=>
   obtain⟨eN,eM,rv,eS,hB,hR,hv,_,_⟩:=h;refine⟨v,rfl,?_⟩;rw[bo] at hR;match rv,hR with
   |[v1],⟨c1,c2,e1,⟨_,hr⟩,_⟩=>
    have hr:bT dr _ (.bool true) v1:=hr;have qp:v1=.bool true:=by cases hr;rfl
    subst qp;have hv:v=.bool true:=hv;subst hv;have LF:Below W.heap.size W dr:=⟨eS.os,eS.tape,eS.output,eS.size,fun k hk=>eS.block k hk (by simp)⟩
    have hq:=n9 ds gs (afK en) (afJ aer);refine⟨ds,gs,p++q,[],p,q,Nq,?_,?_,?_,LF.frame _,fun h=>by cases h⟩
    ·rw[hq,kJ];exact trodAll_mk1 (shut_bool ayk _)
    ·rw[hq];exact afh hl (fun b hb=>by simpa using hb) LF arH (fun x hx=>hlt x (bp.2 (.inl hx))) en
    ·rw[hq];exact ae9 hl (fun b hb=>by simpa using hb) LF arD (fun x hx=>hlt x (bp.2 (.inr hx))) aer
  |panicked c=>exact h.elim
  |outgrown=>exact h.elim
 ·rw[he] at hv;cases hv
end
end Go.Jk
namespace Go.Jk
def bN(c:UInt8):B->List B
 |[]=>[[]]
 |b::r=>bif b==c then []::bN c r else match bN c r with
  |x::xs=>(b::x)::xs
  |[]=>[[b]]
def IE(st:ao)(cN:FuncId):bb->Option ((B×UInt8)×List (Nat×Site))
 |.av (.aq (.clo g [(gP,s1),(gO,s2),(io,h4)]))=>bif Nat.beq g cN&&gf [gP,gO,io] then
   match gi st gP s1,gi st gO s2,gi st io h4 with
   |some [.d (.str [c])],some [.d (.str s)],some [.d (.int .i64 (.ofNat 0))]=>some ((s,c),[(gP,.dead s1),(gO,.dead s2),(io,.dead h4)])
   |_,_,_=>none
  else none
 |_=>none
def GO(st:ao):List Nat->List (Nat×bb)
 |[]=>[]
 |t::r=>(t,st.get t)::GO st r
def ao.back(st:ao)(cv:List Nat):ao:=⟨GO st cv,st.sites,st.nt⟩
def Out.back(cv:List Nat):Out->Out
 |.norm st=>.norm (st.back cv)
 |.exit id st=>.exit id (st.back cv)
 |.ret st=>.ret (st.back cv)
def iZ{J bx:Type}(aW:B->J->Option (Sum J bx))(fin:J->Option bx):List B->J->Option bx
 |[],y=>fin y
 |x::xs,y=>match aW x y with
  |none=>none
  |some (.inl y')=>iZ aW fin xs y'
  |some (.inr b)=>some b
noncomputable def JX(C:im)(assign body:Code)(p fg:Nat)(be:Shape)(os:List aR)(x:B)(y:be.J):Option (Sum be.J (aG os)):=
 exec C assign (2*p) ((be.st y).set fg (one (.str x))) fun
  |.norm st=>exec C body (2*p+1) st fun
   |.norm st=>(be.ex (st.back (keys be.c5))).map .inl
   |D=>(hY os (D.back (keys be.c5))).map .inr
  |_=>none
def k2:Nat:=4611686018427387904
noncomputable def s5(cN:FuncId)(t:Nat)(be:Shape)(os:List aR)(aW:B->be.J->Option (Sum be.J (aG os)))(fin:be.J->Option (aG os)):iv:=fun st=>
 ⟨aG os,(IE st cN (st.get t)).bind fun q=>(be.ex (st.iI q.2)).bind fun y=>bif Nat.ble q.1.1.length k2 then iZ aW fin (bN q.1.2 q.1.1) y else none,ma os,Dm os,SU os⟩
def wQ(P:Program)(cN:FuncId):Prop:=
 (∀args w,(callFunc cN args).run P w=.ok (.enter cN args) w)/\
 ∀(l b1 b2 b3:Nat) (p s:ByteArray) (c:UInt8) (dw eT gu:TypeId) (W:World) (fq:List B->World->Prop) (ks:World->Prop),p.data.toList=[c]->s.data.toList.length<=k2->b1≠b2->b1≠b3->b2≠b3->
  W.heap[b1]? =some (.cells #[.string p] dw)->W.heap[b2]? =some (.cells #[.string s] eT)->W.heap[b3]? =some (.cells #[.int .i64 0] gu)->
  (∀r W dr,fq r W->Fr [b2] W dr->fq r dr)->(∀W dr,ks W->Fr [b2] W dr->ks dr)->(∀r W,fq r W->jg W [b2] fun _=>False)->(∀W,ks W->jg W [b2] fun _=>False)->
  (∀x rest W jd,fq (x::rest) W->b1<W.heap.size->b2<W.heap.size->b3<W.heap.size->jd.data.toList=x->YieldAt (e6 none) 0 P l #[.string jd] W fun e dr=>
   (e=.returned (.bool true)/\fq rest dr/\W.heap.size<=dr.heap.size/\dr.heap[b1]? =W.heap[b1]? /\dr.heap[b2]? =W.heap[b2]? /\dr.heap[b3]? =W.heap[b3]?)\/(e=.returned (.bool false)/\ks dr))->
  fq (bN c s.data.toList) W->
  CallsIn (e6 none) 0 P cN (#[.func (.yield l) #[] #[]]++#[.pointer (some ⟨b1,0,none⟩),.pointer (some ⟨b2,0,none⟩),.pointer (some ⟨b3,0,none⟩)]) W fun e dr=>(∃v,e=.returned v)/\(fq [] dr\/ks dr)
section
variable {P:Program}{U:World}{Z:List Nat}{X:Nat->Prop}{F:Nat->Value}{st:ao}{M:Array Value}{w:World}
theorem amf(st:ao)(cv:List Nat)(t:Nat):(st.back cv).get t=st.get t/\t∈cv\/(st.back cv).get t=.av (.aq .any):=by
 unfold ao.back ao.get;induction cv with
 |nil=>exact .inr rfl
 |cons u cv ih=>
  simp only[GO,look];cases hb:u.beq t with
  |true=>
   have:=cg hb;subst this;left;simp only[ad,ao.get];exact⟨trivial,ci⟩
  |false=>
   simp only[ak];rcases ih with⟨h1,h2⟩|h
   ·exact .inl ⟨h1,cf _ h2⟩
   ·exact .inr h
theorem az.back(S:az U Z X F st M w){ca:Array Value}{cv:List Nat}(ay:∀t,t∈cv->M.getD t undef=ca.getD t undef)(hs:ca.size=M.size):az U Z X F (st.back cv) ca w:=by
 refine⟨hs.trans S.nt,fun t=>?_,S.sites,S.eB,S.cF,S.frame,S.old,S.ft⟩
 rcases amf st cv t with⟨h,hm⟩|h
 ·rw[h,<-ay t hm];exact S.c5 t
 ·rw[h];trivial
theorem az.other(S:az U Z X F st M w){w':World}{L:List Nat}(aW:Fr L w w')(dX:∀b,b∈L->X b/\(b∈Z\/U.heap.size<=b)):az U Z X F st M w':=by
 have Ez:∀b,¬aN X F st.sites b->b∉L:=fun b hb h=>hb (.inl (dX b h).1)
 have G:iK F F st.sites st.sites w w' (aN X F st.sites) (aN X F st.sites):=
  ⟨fun o ai h=>⟨ai,h,Nat.le_refl _,fun _=>rfl⟩,fun b hb hlt=>aW.block b hlt (Ez b hb),fun _ h _=>h⟩
 have hlt:∀b,aN X F st.sites b->b<w'.heap.size:=fun b hb=>Nat.lt_of_lt_of_le (S.lt hb) aW.size
 refine⟨S.nt,fun t=>(S.c5 t).goes G aW.size hlt,fun o ai h=>?_,S.eB,S.cF,?_,fun b hb=>Nat.lt_of_lt_of_le (S.old b hb) aW.size,S.ft⟩
 ·exact(S.sites o ai h).goes G aW.size hlt rfl fun hl b hb=>aW.block b (S.gd ⟨ai,h,hl⟩ hb) fun hm=>(S.cF o b ⟨ai,h,hl⟩ hb).1 (dX b hm).1
 ·refine⟨aW.os.trans S.frame.os,aW.tape.trans S.frame.tape,aW.output.trans S.frame.output,Nat.le_trans S.frame.size aW.size,fun b hb hn=>?_⟩
  have h1:b∉L:=fun h=>by
   rcases(dX b h).2 with h2|h2
   ·exact hn h2
   ·omega
  rw[aW.block b (Nat.lt_of_lt_of_le hb S.frame.size) h1];exact S.frame.block b hb hn
theorem Fr.putObj(w:World)(l:Nat)(D:Obj):Fr [l] w (w.putObj l D):=
 ⟨rfl,rfl,rfl,by simp,fun b _ hn=>World.putObj_heap_other fun e=>hn (by simp[e])⟩
theorem Fr.mono{Z ni:List Nat}{U w:World}(aW:Fr Z U w)(h:∀b,b∈Z->b∈ni):Fr ni U w:=⟨aW.os,aW.tape,aW.output,aW.size,fun b hb hn=>aW.block b hb fun an=>hn (h b an)⟩
theorem az.Co(S:az U Z X F st M w){ni:List Nat}(h:∀o b,cD st.sites o->bZ (F o)=some b->b∈ni)(hg:∀b,b∈ni->b∈Z\/U.heap.size<=b):az w ni X F st M w:=
 ⟨S.nt,S.c5,S.sites,S.eB,fun o b h1 h2=>⟨(S.cF o b h1 h2).1,.inl (h o b h1 h2)⟩,Fr.refl _ _,S.old,⟨S.lz.1,fun b hb hm=>(hg b hm).elim (S.ft.Z b hb) fun h=>by have:=S.ft.lt b hb;omega,S.ft.X,fun b hb=>(S.lz.2 b hb).2⟩⟩
theorem az.base(S:az U Z X F st M w){ni:List Nat}(h:∀b,b∈ni->b∈Z\/U.heap.size<=b):iM U Z X w ni X:=by
 refine⟨fun w' aW=>?_,fun b hb=>?_,fun b hb=>hb⟩
 ·refine⟨aW.os.trans S.frame.os,aW.tape.trans S.frame.tape,aW.output.trans S.frame.output,Nat.le_trans S.frame.size aW.size,fun b hb hn=>?_⟩
  have h1:b∉ni:=fun an=>by
   rcases h b an with h2|h2
   ·exact hn h2
   ·omega
  rw[aW.block b (Nat.lt_of_lt_of_le hb S.frame.size) h1];exact S.frame.block b hb hn
 ·rcases hb with hb|hb
  ·exact h b hb
  ·exact .inr (Nat.le_trans S.frame.size hb)
theorem az.B5{a':World}{eb:List Nat}{dp:Nat->Prop}(bx:iM U Z X a' eb dp)(G:jg U Z X)(S:az a' eb dp F st M w):az U Z dp F st M w:=
 ⟨S.nt,S.c5,S.sites,S.eB,fun o b h1 h2=>⟨(S.cF o b h1 h2).1,bx.cF b (S.cF o b h1 h2).2⟩,bx.cZ _ S.frame,S.old,⟨G.ok,G.Z,S.ft.X,G.lt⟩⟩
def Hi(sites:List (Nat×Site)):List Nat:=(keys sites).filter fun o=>match look sites o with|some s=>s.live|none=>false
theorem O4{sites:List (Nat×Site)}{o:Nat}:o∈Hi sites <-> cD sites o:=by
 unfold Hi cD;rw[List.mem_filter];constructor
 ·rintro⟨_,h⟩;split at h
  ·rename_i s hs;exact⟨s,hs,h⟩
  ·cases h
 ·rintro⟨s,hs,hl⟩;refine⟨?_,by simp only[hs];exact hl⟩
  have:=TY hs;clear hl hs;induction sites with
  |nil=>cases this
  |cons p sites ih=>
   rcases bO.1 this with h|h
   ·simp only[keys];rw[<-h];exact ci
   ·simp only[keys];exact cf _ (ih h)
def jj(F:Nat->Value)(sites:List (Nat×Site)):List Nat:=dz F (Hi sites)
theorem ov{sites:List (Nat×Site)}{b:Nat}:b∈jj F sites <-> ∃o,cD sites o/\bZ (F o)=some b:=by
 unfold jj;rw[om];constructor
 ·rintro⟨o,h1,h2⟩;exact⟨o,O4.1 h1,h2⟩
 ·rintro⟨o,h1,h2⟩;exact⟨o,O4.2 h1,h2⟩
def mF(ey:ao->Prop):Out->Exit->Prop
 |.norm st,.normal=>ey st
 |.exit id st,.exit jv=>id=jv/\ey st
 |.ret st,.ret=>ey st
 |_,_=>False
theorem mF.some{ey:ao->Prop}{D:Out}{e:Exit}(h:mF ey D e):∃st,ey st:=by
 cases D<;>cases e<;>first|exact⟨_,h⟩|exact⟨_,h.2⟩|exact h.elim
theorem Ut{ey:ao->Prop}(MN:∀(be:Shape) st y,be.ex st=some y->ey st->ey (be.st y)):∀{os:List aR} {x:Out} {y:aG os} {e:Exit},hY os x=some y->mF ey x e->mF ey (ma os y) e:=by
 have one:∀{k:Kind} {x:Out} {st:ao} {be:Shape} {y:be.J} {e:Exit},k.h9 x=some st->be.ex st=some y->mF ey x e->mF ey (k.mk (be.st y)) e:=by
  intro k x st be y e h hy hl;cases k<;>cases x<;>simp only[Kind.h9] at h<;>try(cases h;done)
  ·cases h;cases e<;>try exact hl.elim
   exact MN be _ y hy hl
  ·rename_i id jv au;cases hb:Nat.beq id jv with
   |false=>simp[hb] at h
   |true=>
    simp only[hb,ad,bE] at h;subst h;cases e<;>try exact hl.elim
    exact⟨(cg hb).trans hl.1,MN be _ y hy hl.2⟩
  ·cases h;cases e<;>try exact hl.elim
   exact MN be _ y hy hl
 intro os;induction os with
 |nil=>intro x y;exact y.elim
 |cons D os ih=>
  intro x y e h hl;cases os with
  |nil=>
   simp only[hY] at h;split at h
   ·rename_i st hk;exact one hk h hl
   ·cases h
  |cons dk r=>
   simp only[hY] at h;split at h
   ·rename_i st hk;obtain⟨cT,aI,aJ⟩:=Option.map_eq_some_iff.1 h;subst aJ;exact one hk aI hl
   ·obtain⟨cT,aI,aJ⟩:=Option.map_eq_some_iff.1 h;subst aJ;exact ih aI hl
theorem agt{cN:FuncId}{v:bb}{q:(B×UInt8)×List (Nat×Site)}(h:IE st cN v=some q):∃gP s1 gO s2 io h4 c s,v=.av (.aq (.clo cN [(gP,s1),(gO,s2),(io,h4)]))/\(gP≠gO/\gP≠io/\gO≠io)/\
  gi st gP s1=some [.d (.str [c])]/\gi st gO s2=some [.d (.str s)]/\gi st io h4=some [.d (.int .i64 0)]/\q=((s,c),[(gP,.dead s1),(gO,.dead s2),(io,.dead h4)]):=by
 unfold IE at h;split at h
 ·rename_i g gP s1 gO s2 io h4;cases hb:Nat.beq g cN&&gf [gP,gO,io] with
  |false=>simp[hb] at h
  |true=>
   simp only[hb,ad] at h;simp only[bC] at hb;have hg:=cg hb.1;subst hg;have hn:=(sQ _).1 hb.2;simp only[List.nodup_cons,bO,List.not_mem_nil,or_false,not_or,not_false_eq_true,List.nodup_nil,and_true] at hn;split at h
   ·rename_i c s h1 h2 h3;cases h;exact⟨gP,s1,gO,s2,io,h4,c,s,rfl,⟨hn.1.1,hn.1.2,hn.2⟩,h1,h2,h3,rfl⟩
   ·cases h
 ·cases h
theorem FU{J bx:Type}{aW:B->J->Option (Sum J bx)}{fin:J->Option bx}{x:B}{xs:List B}{y:J}{b:bx}(h:iZ aW fin (x::xs) y=some b):(∃y',aW x y=some (.inl y')/\iZ aW fin xs y'=some b)\/aW x y=some (.inr b):=by
 simp only[iZ] at h;split at h
 ·cases h
 ·rename_i y' hy;exact .inl ⟨y',hy,h⟩
 ·rename_i bQ hy;cases h;exact .inr hy
end
theorem KR{be:Shape}{st:ao}{y:be.J}(h:be.ex st=some y):st.nt=be.nt:=by
 unfold Shape.ex at h;simp only at h;cases hb:(st.iI (q6 st be.c5++q7 st be.sites)).nt.beq be.nt with
 |false=>rw[hb] at h;cases h
 |true=>rw[<-S2 (q6 st be.c5++q7 st be.sites) st];exact cg hb
def ud(n:Nat):List aR->Bool
 |[]=>true
 |D::r=>Nat.beq D.2.nt n&&ud n r
def Out.st:Out->ao
 |.norm st|.exit _ st|.ret st=>st
theorem T'{k:Kind}{x:Out}{st:ao}(h:k.h9 x=some st):x.st=st:=by
 cases k<;>cases x<;>simp only[Kind.h9] at h<;>try(cases h;done)
 ·cases h;rfl
 ·rename_i id jv au;cases hb:Nat.beq id jv with
  |false=>simp[hb] at h
  |true=>simp only[hb,ad,bE] at h;exact h
 ·cases h;rfl
theorem ap1{n:Nat}:∀{os:List aR} {x:Out} {y:aG os},hY os x=some y->ud n os=true->x.st.nt=n:=by
 intro os;induction os with
 |nil=>intro x y;exact y.elim
 |cons D os ih=>
  intro x y h hn;simp only[ud,bC] at hn;have hno:=cg hn.1;cases os with
  |nil=>
   simp only[hY] at h;split at h
   ·rename_i st hk;rw[T' hk,KR h,hno]
   ·cases h
  |cons dk r=>
   simp only[hY] at h;split at h
   ·rename_i st hk;obtain⟨cT,aI,_⟩:=Option.map_eq_some_iff.1 h;rw[T' hk,KR aI,hno]
   ·obtain⟨cT,aI,_⟩:=Option.map_eq_some_iff.1 h;exact ih aI hn.2
section
variable {P:Program}{C:im}
theorem ahv(H:aT P C.toCtx){cN:FuncId}(vl:wQ P cN){t fg p:Nat}{assign body:Code}{be:Shape}{os:List aR}(ay1:gN P C assign (2*p))(ay0:gN P C body (2*p+1))
  {aW:B->be.J->Option (Sum be.J (aG os))} {fin:be.J->Option (aG os)} (eS:∀x y,aW x y=JX C assign body p fg be os x y) (xl:∀y,fin y=hY os (.norm (be.st y)))
  (LC:fs (keys be.c5) (fg::(cJ assign++cJ body))=true) (Lw:hI assign=true) (Lv:hI body=true) (Ls:fg<be.nt) (r4:ud be.nt os=true):
  aV P (.rangeFunc (.tmp t) #[fg] assign body) (s5 cN t be os aW fin):=by
 intro rn hn U Z X st y hy F M w ds S;have ayr:rn=none:=hn.elim id fun h=>by cases h
 subst ayr;simp only[s5] at hy y ⊢;obtain⟨q,aC,hy⟩:=Option.bind_eq_some_iff.1 hy;obtain⟨dS,MO,p2⟩:=Option.bind_eq_some_iff.1 hy;obtain⟨gP,s1,gO,s2,io,h4,c,s,hv,⟨jt,ME,js⟩,hb1,hb2,hb3,rfl⟩:=agt aC;obtain⟨hlen,p2⟩:s.length<=k2/\iZ aW fin (bN c s) dS=some y:=by
  cases hb:Nat.ble s.length k2 with
  |false=>rw[hb] at p2;cases p2
  |true=>rw[hb] at p2;exact⟨Nat.le_of_ble_eq_true hb,p2⟩
 have jK:=S.c5 t;rw[hv] at jK;obtain⟨vs,jo,mZ,rL⟩:=jK;match vs,mZ with
 |[v1,v2,v3],_=>
 have r1:v1=F gP:=Ref.at (rL 0 (by simp) (by simp)) (hD hb1) rfl
 have r2:v2=F gO:=Ref.at (rL 1 (by simp) (by simp)) (hD hb2) rfl
 have dD:v3=F io:=Ref.at (rL 2 (by simp) (by simp)) (hD hb3) rfl
 have KS:∀{o k:Nat} {d:bk},gi st o k=some [.d d]->∃b T u,F o=.pointer (some ⟨b,0,none⟩)/\w.heap[b]? =some (.cells #[u] T)/\bT w (aN X F st.sites) d u:=by
  intro o k d h;obtain⟨b,T,cur,g1,g2,g3,g4,_,g5⟩:=S.sites o _ (hD h);match cur,g3 with
  |[u],_=>exact⟨b,T,u,g1,g2,g5 0 (by simp) (by simp)⟩
 obtain⟨b1,dw,u1,i1,h1,d1⟩:=KS hb1;obtain⟨b2,eT,u2,i2,h2,d2⟩:=KS hb2;obtain⟨b3,gu,va,i3,h3,d3⟩:=KS hb3;obtain⟨h5,rfl,Ey⟩:=gY d1;obtain⟨aQ,rfl,gm⟩:=gY d2;have bz:va=.int .i64 0:=iW d3;subst bz;have MH:cD st.sites gP:=⟨_,hD hb1,rfl⟩;have El:cD st.sites gO:=⟨_,hD hb2,rfl⟩;have MG:cD st.sites io:=⟨_,hD hb3,rfl⟩;have aI:bZ (F gP)=some b1:=by rw[i1];rfl
 have aJ:bZ (F gO)=some b2:=by rw[i2];rfl
 have bS:bZ (F io)=some b3:=by rw[i3];rfl
 have m12:b1≠b2:=fun e=>jt (S.eB gP gO b1 MH El aI (e▸aJ))
 have m13:b1≠b3:=fun e=>ME (S.eB gP io b1 MH MG aI (e▸bS))
 have m23:b2≠b3:=fun e=>js (S.eB gO io b2 El MG aJ (e▸bS))
 have xU:=S.gd MH aI;have acx:=S.gd El aJ;have xT:=S.gd MG bS;have aru:=(S.cF gO b2 El aJ).2;obtain⟨dp,ayV,dO,MK,acB,acA⟩:∃dp:Nat->Prop,(∀b,X b->dp b)/\az U Z dp F (st.iI [(gP,.dead s1),(gO,.dead s2),(io,.dead h4)]) M w/\dp b1/\dp b2/\dp b3:=by
  have A:=S.kill (hD hb1) rfl;have fU:look (cI st.sites gP (.dead s1)) gO=some (.box s2 [.d (.str s)]):=by rw[dm,if_neg jt];exact hD hb2
  have bx:=A.kill (st:={st with sites:=cI st.sites gP (.dead s1)}) fU rfl
  have vd:look (cI (cI st.sites gP (.dead s1)) gO (.dead s2)) io=some (.box h4 [.d (.int .i64 0)]):=by rw[dm,if_neg js,dm,if_neg ME];exact hD hb3
  have bk:=bx.kill (st:={st with sites:=cI (cI st.sites gP (.dead s1)) gO (.dead s2)}) vd rfl
  exact⟨_,fun b hb=>.inl (.inl (.inl hb)),bk,.inl (.inl (.inr aI)),.inl (.inr aJ),.inr bS⟩
 obtain⟨iN,iB,_⟩:=Shape.gM dO MO;have aC7:M.size=be.nt:=iB.nt;refine gJ.of (n:=0) (wpIn_rangeFunc ?_);intro fn _;obtain⟨rec,oV⟩:∃rec:LoopState->Option Code->Loop,rec=fun st aBw=>{state:=st,pending:=aBw,fn,tmps:=M,params:=#[fg],assign,body,defers:=w.heap.size}:=⟨_,rfl⟩
 obtain⟨W1,hW1⟩:∃W1,(w.alloc (.deferred (some []))).alloc (.loop (rec .ready none))=W1:=⟨_,rfl⟩;obtain⟨l,hl⟩:∃l,l=w.heap.size+1:=⟨_,rfl⟩;obtain⟨bk,fo⟩:∃bk,bk=w.heap.size:=⟨_,rfl⟩;have hsz:W1.heap.size=w.heap.size+2:=by rw[<-hW1];simp
 have ay4:W1.heap[l]? =some (.loop (rec .ready none)):=by
  rw[<-hW1,hl];have:=World.alloc_heap_new (w.alloc (.deferred (some []))) (.loop (rec .ready none));rwa[World.size_alloc] at this
 have ac7:W1.heap[bk]? =some (.deferred (some [])):=by
  rw[<-hW1,fo];exact(RowKit.Below.heap_alloc _ _ _ (by simp only[World.size_alloc];omega)).trans (World.alloc_heap_new w _)
 have hold:∀b,b<w.heap.size->W1.heap[b]? =w.heap[b]? :=fun b hb=>by
  rw[<-hW1,RowKit.Below.heap_alloc _ _ _ (by simp only[World.size_alloc];omega),RowKit.Below.heap_alloc _ _ _ hb]
 have auh:Fr Z U W1:=⟨by rw[<-hW1];exact S.frame.os,by rw[<-hW1];exact S.frame.tape,by rw[<-hW1];exact S.frame.output,by have:=S.frame.size;omega,fun b hb hn=>by
  have:=S.frame.size;rw[hold b (by omega)];exact S.frame.block b hb hn⟩
 have p0:=S.frame.size;have jA:=iB.jump (w':=W1) (fun b _ hb=>hold b hb) (by omega) auh
 obtain⟨cO,ng⟩:∃cO:Nat->Prop,cO=fun b=>dp b\/(w.heap.size<=b/\b<W1.heap.size):=⟨_,rfl⟩
 rw[<-ng] at jA;have N1:cO l:=by rw[ng];exact .inr ⟨by omega,by omega⟩
 have N2:cO bk:=by rw[ng];exact .inr ⟨by omega,by omega⟩
 have eC:cO b1:=by rw[ng];exact .inl MK
 have gn:cO b2:=by rw[ng];exact .inl acB
 have jY:cO b3:=by rw[ng];exact .inl acA
 have No:∀b,X b->cO b:=fun b hb=>by rw[ng];exact .inl (ayV b hb)
 obtain⟨fK,xm⟩:∃fK,fK=l::b2::jj iN (be.st dS).sites:=⟨_,rfl⟩;have Vj:∀b,b∈jj iN (be.st dS).sites->¬cO b/\(b∈Z\/U.heap.size<=b):=fun b hb=>by
  obtain⟨o,g1,g2⟩:=ov.1 hb;exact jA.cF o b g1 g2
 have aBB:l∈fK:=by rw[xm];exact ci
 have adg:b2∈fK:=by rw[xm];exact cf _ ci
 have aCd:bk∉fK:=by
  rw[xm];intro h;rcases bO.1 h with h|h
  ·omega
  ·rcases bO.1 h with h|h
   ·omega
   ·exact(Vj bk h).1 N2
 have Wh:∀b,b∈fK->b∈Z\/U.heap.size<=b:=fun b hb=>by
  rw[xm] at hb;rcases bO.1 hb with h|h
  ·exact .inr (by omega)
  ·rcases bO.1 h with h|h
   ·rw[h];exact aru
   ·exact(Vj b h).2
 have mr:az W1 fK cO iN (be.st dS) M W1:=jA.Co (fun o b g1 g2=>by rw[xm];exact cf _ (cf _ (ov.2 ⟨o,g1,g2⟩))) Wh
 have aBf:iM U Z X W1 fK cO:=by
  have:=jA.base Wh;exact⟨this.cZ,this.cF,No⟩
 obtain⟨fq,nl⟩:∃fq:List B->World->Prop,∀r W,fq r W <-> ∃F z,az W1 fK cO F (be.st z) M W/\iZ aW fin r z=some y/\W.heap[l]? =some (.loop (rec .ready none))/\W.heap[bk]? =some (.deferred (some [])):=⟨_,fun _ _=>Iff.rfl⟩
 obtain⟨ks,yd⟩:∃ks:World->Prop,∀W,ks W <-> ∃j e,((j=.ret/\e=.ret)\/∃id,j=.exit id/\e=.exit id)/\mF (fun st=>∃F,az W1 fK cO F st M W) (ma os y) e/\
   W.heap[l]? =some (.loop (rec .done (some j)))/\W.heap[bk]? =some (.deferred (some [])):=⟨_,fun _=>Iff.rfl⟩
 have Xo:∀{F:Nat->Value} {st:ao} {W:World},az W1 fK cO F st M W->jg W [b2] fun _=>False:=fun S=>
  ⟨S.lz.1,fun b hb h=>S.ft.Z b hb (by rw[List.mem_singleton.1 h];exact adg),fun _ _ h=>h,fun b hb=>(S.lz.2 b hb).2⟩
 have aBA:l<W1.heap.size:=by omega
 have aBC:bk<W1.heap.size:=by omega
 have ZO:l≠b2:=by omega
 have abf:bk≠b2:=by omega
 have anN:∀{ey aea:ao->Prop} {D:Out} {e:Exit},(∀st,ey st->aea st)->mF ey D e->mF aea D e:=fun h k=>by
  rename_i D e;cases D<;>cases e<;>first|exact h _ k|exact⟨k.1,h _ k.2⟩|exact k.elim
 have WP:∀{F:Nat->Value} {st:ao} {W dr:World},az W1 fK cO F st M W->Fr [b2] W dr->az W1 fK cO F st M dr:=fun S aW=>S.other aW fun b hb=>by
  rw[List.mem_singleton.1 hb];exact⟨gn,.inl adg⟩
 have KG:∀{F:Nat->Value} {st:ao} {M:Array Value} {W:World} {X':Nat->Prop} (D:Obj),(∀b,cO b->X' b)->az W1 fK X' F st M W->az W1 fK X' F st M (W.putObj l D):=fun D hx S=>S.other (Fr.putObj _ l D) fun b hb=>by
  rw[List.mem_singleton.1 hb];exact⟨hx _ N1,.inl aBB⟩
 refine⟨l,[mark bk],W1,{target:=.fn (.func cN) #[.pointer (some ⟨b1,0,none⟩),.pointer (some ⟨b2,0,none⟩),.pointer (some ⟨b3,0,none⟩)],args:=#[.func (.yield l) #[] #[]]},W1,cN,
  #[.func (.yield l) #[] #[]]++#[.pointer (some ⟨b1,0,none⟩),.pointer (some ⟨b2,0,none⟩),.pointer (some ⟨b3,0,none⟩)],W1,?_,?_,fun _ _=>trivial,?_,fun h=>by simp[e6,Fence.wide] at h,?_⟩
 ·rw[<-hW1,oV,hl,fo];exact run_enterLoop_outer _ _ _ _ _
 ·have arE:Act.eval ⟨M,ds⟩ (.tmp t)=.func (.func cN) #[] #[.pointer (some ⟨b1,0,none⟩),.pointer (some ⟨b2,0,none⟩),.pointer (some ⟨b3,0,none⟩)]:=by
   show M.getD t undef=_;rw[jo,r1,r2,dD,i1,i2,i3]
  simp only[rangeCall,resolve,arE];simp[Deferred.ofValue,Act.eval]
 ·simp[invoke,vl.1]
 ·refine CallsIn.mono (vl.2 l b1 b2 b3 h5 aQ c dw eT gu W1 fq ks Ey (by rw[gm];exact hlen) m12 m13 m23 ((hold b1 xU).trans h1) ((hold b2 acx).trans h2) ((hold b3 xT).trans h3) ?_ ?_ ?_ ?_ ?_ ?_) ?_
  ·-- aor two rounds uD aCg turns ax1 aCn box
   intro r W dr hj aW;obtain⟨F,z,g1,g2,g3,g4⟩:=(nl _ _).1 hj;have r':=Nat.lt_of_lt_of_le aBA g1.frame.size;have uZ:=Nat.lt_of_lt_of_le aBC g1.frame.size;exact(nl _ _).2 ⟨F,z,WP g1 aW,g2,(aW.block l r' (by simpa using ZO)).trans g3,(aW.block bk uZ (by simpa using abf)).trans g4⟩
  ·intro W dr hj aW;obtain⟨j,e,g1,g2,g3,g4⟩:=(yd _).1 hj;have r':l<W.heap.size:=(Array.getElem?_eq_some_iff.1 g3).1;have uZ:bk<W.heap.size:=(Array.getElem?_eq_some_iff.1 g4).1;exact(yd _).2 ⟨j,e,g1,anN (fun st ⟨F,h⟩=>⟨F,WP h aW⟩) g2,(aW.block l r' (by simpa using ZO)).trans g3,(aW.block bk uZ (by simpa using abf)).trans g4⟩
  ·intro r W hj;obtain⟨F,z,g1,_⟩:=(nl _ _).1 hj;exact Xo g1
  ·intro W hj;obtain⟨j,e,_,g2,_⟩:=(yd _).1 hj;obtain⟨st,F,g1⟩:=g2.some;exact Xo g1
  ·-- aDo aCy
   intro x rest W jd hj q1 q2 ec xY;obtain⟨F,z,kr,hz,r',uZ⟩:=(nl _ _).1 hj;have hlt:l<W.heap.size:=(Array.getElem?_eq_some_iff.1 r').1;have at5:bk<W.heap.size:=(Array.getElem?_eq_some_iff.1 uZ).1;refine⟨fn,M.setIfInBounds fg (.string jd),assign,body,?_,?_⟩
   ·have:=run_yield (P:=P) (args:=#[.string jd]) r' (by rw[oV];rfl)
    rw[oV] at this;simpa using this
   refine roundIn_of_wpIn (n:=0) trivial ?_
   show gJ (some l) P assign _ _ _;obtain⟨s,hs⟩:∃s,aW x z=some s:=by
    rcases FU hz with⟨fj,h,_⟩|h
    ·exact⟨_,h⟩
    ·exact⟨_,h⟩
   have Ev:=hs;rw[eS] at hs;have vj:az W1 fK cO F ((be.st z).set fg (one (.str x))) (M.setIfInBounds fg (.string jd)) W:=kr.put (t:=fg) Ls (bT.str _ _ xY);have atL:∀o b,cD ((be.st z).set fg (one (.str x))).sites o->bZ (F o)=some b->b∈jj F (be.st z).sites:=fun o b g1 g2=>ov.2 ⟨o,g1,g2⟩
   have yO:=vj.Co atL fun b hb=>by
    obtain⟨o,g1,g2⟩:=ov.1 hb;exact(kr.cF o b g1 g2).2
   have XY:∀b,b∈jj F (be.st z).sites->¬cO b/\(b∈fK\/W1.heap.size<=b):=fun b hb=>by
    obtain⟨o,g1,g2⟩:=ov.1 hb;exact kr.cF o b g1 g2
   have OJ:iM W1 fK cO W (jj F (be.st z).sites) cO:=vj.base fun b hb=>(XY b hb).2
   refine j7 (rn:=some l) H assign (2*p) (.inr Lw) ay1 W _ cO _ F _ W [] _ _ hs yO ?_
   intro o1 e1 a1 a' sa hX;cases o1 with
   |exit id e3=>cases sa
   |ret e3=>cases sa
   |norm e3=>
   cases e1<;>try exact hX.elim
   obtain⟨E0,Of,lC,lg,aeJ,qL,_,_,adl,arA⟩:=hX;have vm:Fr (jj F (be.st z).sites) W a':=qL.cZ _ adl.frame;have aen:∀b,cO b->b∉jj F (be.st z).sites:=fun b hb h=>(XY b h).1 hb
   have hX:a'.heap[l]? =some (.loop (rec .ready none)):=(vm.block l hlt (aen l N1)).trans r';refine⟨a'.putObj l (.loop {rec .ready none with state:=.busy}),run_beginRound hX (by rw[oV]),?_⟩
   obtain⟨w2,xZ⟩:∃w2,w2=a'.putObj l (.loop {rec .ready none with state:=.busy}):=⟨_,rfl⟩
   rw[<-xZ];have azV:az W1 fK lC lg e3 a1.tmps a':=az.B5 (OJ.trans qL) mr.ft adl;have pu:az W1 fK lC lg e3 a1.tmps w2:=by rw[xZ];exact KG _ qL.x azV
   have K_:∀b,b∈jj lg e3.sites->¬lC b/\(b∈fK\/W1.heap.size<=b):=fun b hb=>by
    obtain⟨o,g1,g2⟩:=ov.1 hb;exact pu.cF o b g1 g2
   have E':=pu.Co (ni:=jj lg e3.sites) (fun o b g1 g2=>ov.2 ⟨o,g1,g2⟩) fun b hb=>(K_ b hb).2
   have cw:iM W1 fK lC w2 (jj lg e3.sites) lC:=pu.base fun b hb=>(K_ b hb).2
   have o':w2.heap[l]? =some (.loop {rec .ready none with state:=.busy}):=by rw[xZ];exact World.putObj_heap_same (Nat.lt_of_lt_of_le hlt vm.size)
   have axB:w2.heap.size=a'.heap.size:=by rw[xZ];simp
   show gJ (some l) P body _ a1 _;have Nn:a1=⟨a1.tmps,a1.defers⟩:=rfl;rw[Nn];refine j7 (rn:=some l) H body (2*p+1) (.inr Lv) ay0 w2 _ lC e3 lg a1.tmps w2 a1.defers _ _ sa E' ?_
   intro D e a cr hk gF;have acv:∀b,lC b->b∉jj lg e3.sites:=fun b hb h=>(K_ b h).1 hb
   have ZQ:∀{u' fi yN},iM w2 (jj lg e3.sites) lC u' fi yN->Fr fi u' cr->∀b,cO b->b<W.heap.size->b≠l->cr.heap[b]? =W.heap[b]? :=fun bx aW b hb qe hne=>by
    have yS:=bx.cZ _ aW;have hb1:b<a'.heap.size:=Nat.lt_of_lt_of_le qe vm.size;rw[yS.block b (by omega) (acv b (qL.x b hb)),xZ,World.putObj_heap_other hne,vm.block b qe (aen b hb)]
   have fin:∀(gQ:ao),gQ.nt=be.nt->eU w2 (jj lg e3.sites) lC a1.defers a1.tmps (cJ body) gQ a cr->∀(jump:Option Code),
     (Instr.endRound l jump).run P cr=.ok (.bool jump.isNone) (cr.putObj l (.loop (rec (if jump.isNone then .ready else .done) jump)))/\
     (∃iq,az W1 fK cO iq (gQ.back (keys be.c5)) M (cr.putObj l (.loop (rec (if jump.isNone then .ready else .done) jump))))/\
     (cr.putObj l (.loop (rec (if jump.isNone then .ready else .done) jump))).heap[l]? =some (.loop (rec (if jump.isNone then .ready else .done) jump))/\
     (cr.putObj l (.loop (rec (if jump.isNone then .ready else .done) jump))).heap[bk]? =some (.deferred (some []))/\
     W.heap.size<=(cr.putObj l (.loop (rec (if jump.isNone then .ready else .done) jump))).heap.size/\
     (∀b,cO b->b<W.heap.size->b≠l->(cr.putObj l (.loop (rec (if jump.isNone then .ready else .done) jump))).heap[b]? =W.heap[b]?):=by
    rintro gQ aCP ⟨u',fi,yN,iq,aeI,yv,_,_,jW,arz⟩ jump;have yS:=yv.cZ _ jW.frame;have hlt2:l<w2.heap.size:=by rw[axB];exact Nat.lt_of_lt_of_le hlt vm.size
    have EA:cr.heap[l]? =some (.loop {rec .ready none with state:=.busy}):=(yS.block l hlt2 (acv l (qL.x l N1))).trans o'
    have at6:=Nat.lt_of_lt_of_le hlt2 yS.size;have Z7:=run_endRound (P:=P) jump EA;have aur:({({rec .ready none with state:=.busy}:Loop) with state:=if jump.isNone then .ready else .done,pending:=jump}:Loop)=rec (if jump.isNone then .ready else .done) jump:=by rw[oV]
    rw[aur] at Z7;have azU:az W1 fK yN iq gQ a.tmps cr:=az.B5 ((cw.trans yv)) pu.ft jW;have azT:az W1 fK cO iq gQ a.tmps cr:=azU.shrink fun b hb=>yv.x b (qL.x b hb)
    have azS:=KG (.loop (rec (if jump.isNone then .ready else .done) jump)) (fun _ h=>h) azT
    have jR:∀bw,bw∈keys be.c5->bw≠fg/\bw∉cJ assign/\bw∉cJ body:=fun bw n7=>by
     have hm:bw∉(fg::(cJ assign++cJ body)):=fun h=>by
      have:=sZ n7 h;rw[LC] at this;cases this
     simp only[bO,bp,not_or] at hm;exact⟨hm.1,hm.2.1,hm.2.2⟩
    refine⟨Z7,⟨iq,azS.back (fun bw n7=>?_) ?_⟩,World.putObj_heap_same at6,?_,?_,fun b hb qe hne=>?_⟩
    ·obtain⟨g1,g2,g3⟩:=jR bw n7;rw[arz bw g3,arA bw g2];simp only[Array.getD_eq_getD_getElem?,Array.getElem?_setIfInBounds_ne (show fg≠bw from fun e=>g1 e.symm)]
    ·have e1:a.tmps.size=gQ.nt:=jW.nt;omega
    ·rw[World.putObj_heap_other (by omega)]
     exact(ZQ yv jW.frame bk N2 at5 (by omega)).trans uZ
    ·simp only[World.putObj_size];have:=vm.size;have:=yS.size;omega
    ·rw[World.putObj_heap_other hne];exact ZQ yv jW.frame b hb qe hne
   have Db:∀(gQ:ao) (jY:Out) (j:Code) (bz:Exit),((j=.ret/\bz=.ret)\/∃id,j=.exit id/\bz=.exit id)->jY.st=gQ->(∀ey:ao->Prop,ey (gQ.back (keys be.c5))->mF ey (jY.back (keys be.c5)) bz)->
     (hY os (jY.back (keys be.c5))).map Sum.inr=some s->eU w2 (jj lg e3.sites) lC a1.defers a1.tmps (cJ body) gQ a cr->
     ∃v w',(Instr.endRound l (some j)).run P cr=.ok v w'/\((Ending.returned v=.returned (.bool true)/\fq rest w'/\W.heap.size<=w'.heap.size/\w'.heap[b1]? =W.heap[b1]? /\w'.heap[b2]? =W.heap[b2]? /\w'.heap[b3]? =W.heap[b3]?)\/(Ending.returned v=.returned (.bool false)/\ks w')):=by
    intro gQ jY j bz Na ayc Lt hex nf;obtain⟨b,hb,eQ⟩:=Option.map_eq_some_iff.1 hex;have ayy:gQ.nt=be.nt:=by
     have:=ap1 hb r4;have e:(jY.back (keys be.c5)).st.nt=jY.st.nt:=by cases jY<;>rfl
     rw[e,ayc] at this;exact this
    obtain⟨f1,⟨iq,f2⟩,f3,f4,f5,f6⟩:=fin gQ ayy nf (some j);refine⟨_,_,f1,.inr ⟨rfl,(yd _).2 ⟨j,bz,Na,?_,f3,f4⟩⟩⟩;have kp:b=y:=by
     rcases FU hz with⟨fj,h,_⟩|h
     ·rw[Ev] at h;cases h;cases eQ
     ·rw[Ev] at h;cases h;cases eQ;rfl
    subst kp;refine Ut (fun axE au y' LB ⟨a_,cA⟩=>?_) hb (Lt _ ⟨iq,f2⟩)
    obtain⟨KZ,NP,_⟩:=Shape.gM cA LB;exact⟨KZ,NP⟩
   cases D with
   |norm gQ=>
    cases e<;>try exact gF.elim
    obtain⟨fj,n3,hzs⟩:=Option.map_eq_some_iff.1 hk;obtain⟨f1,⟨iq,f2⟩,f3,f4,f5,f6⟩:=fin gQ (show(gQ.back (keys be.c5)).nt=be.nt from KR n3) gF none
    obtain⟨awO,f7,_⟩:=Shape.gM f2 n3;refine⟨_,_,f1,.inl ⟨rfl,(nl _ _).2 ⟨awO,fj,f7,?_,f3,f4⟩,f5,f6 b1 eC q1 (by omega),f6 b2 gn q2 (by omega),f6 b3 jY ec (by omega)⟩⟩
    rcases FU hz with⟨z2,h,h2⟩|h
    ·rw[Ev] at h;cases h;cases hzs;exact h2
    ·rw[Ev] at h;cases h;cases hzs
   |exit id gQ=>
    cases e<;>try exact gF.elim
    obtain⟨rfl,gF⟩:=gF;exact Db gQ (.exit id gQ) (.exit id) (.exit id) (.inr ⟨id,rfl,rfl⟩) rfl (fun ey h=>⟨rfl,h⟩) hk gF
   |ret gQ=>
    cases e<;>try exact gF.elim
    exact Db gQ (.ret gQ) .ret .ret (.inl ⟨rfl,rfl⟩) rfl (fun ey h=>h) hk gF
  ·exact(nl _ _).2 ⟨iN,dS,mr,by rw[gm];exact p2,ay4,ac7⟩
  ·-- aCr aDm aCh
   have land:∀{j1:World} {e:Exit} (dk:Obj),mF (fun st=>∃F,az W1 fK cO F st M j1) (ma os y) e->j1.heap[l]? ≠none->j1.heap[bk]? =some (.deferred (some []))->
     fB U Z X ds M (cJ (.rangeFunc (.tmp t) #[fg] assign body)) (ma os y) e ⟨M,[mark bk]++ds⟩ (j1.putObj l dk):=by
    intro j1 e dk h _ aDg;have mk:∀st,(∃F,az W1 fK cO F st M j1)->eU U Z X ds M (cJ (.rangeFunc (.tmp t) #[fg] assign body)) st ⟨M,[mark bk]++ds⟩ (j1.putObj l dk):=by
     rintro st ⟨F,S⟩;refine⟨W1,fK,cO,F,[bk],aBf,⟨by simp,fun OG h=>by rw[List.mem_singleton.1 h];omega,fun OG h=>by rw[List.mem_singleton.1 h];exact⟨ac7,aCd,N2⟩⟩,⟨rfl,fun h=>absurd ci h⟩,KG _ (fun _ h=>h) S,fun _ _=>rfl⟩
    cases hm:ma os y<;>rw[hm] at h<;>cases e<;>first|exact mk _ h|exact⟨h.1,mk _ h.2⟩|exact h.elim
   rintro e j1 ⟨⟨v,rfl⟩,hj|hj⟩
   ·obtain⟨F,z,g1,g2,g3,g4⟩:=(nl _ _).1 hj;refine⟨none,j1.putObj l (.loop {rec .ready none with state:=.exhausted}),?_,?_⟩
    ·have:=run_endLoop (P:=P) g3 (by rw[oV];simp)
     rw[oV] at this ⊢;exact this
    ·simp only[iZ,xl] at g2;refine land _ ?_ (by rw[g3];simp) g4
     refine Ut (fun axE au y' LB ⟨a_,cA⟩=>?_) g2 ⟨F,g1⟩
     obtain⟨KZ,NP,_⟩:=Shape.gM cA LB;exact⟨KZ,NP⟩
   ·obtain⟨j,e,Na,g1,g3,g4⟩:=(yd _).1 hj;refine⟨some j,j1.putObj l (.loop {rec .done (some j) with state:=.exhausted}),?_,?_⟩
    ·have:=run_endLoop (P:=P) g3 (by rw[oV];simp)
     rw[oV] at this ⊢;exact this
    ·have:=land (.loop {rec .done (some j) with state:=.exhausted}) g1 (by rw[g3];simp) g4
     rcases Na with⟨rfl,rfl⟩|⟨id,rfl,rfl⟩
     ·exact wpIn_ret this
     ·exact wpIn_exit this
end
def opsOf:Code->Array Oper
 |.region _ D _=>D
 |_=>#[]
section
variable {P:Program}
theorem RB{D:Oper}{M:Array Value}{ds:List Deferred}{W:World}{a b:Nat}{ty:Array TypeId}{l:Nat}{jd:ByteArray}{K:Act->World->Prop}{Q:Exit->Act->World->Prop}{R:Ending->World->Prop}
  (aP:D.op=.call {callee:=.value (.tmp a),args:=#[.tmp b],argTypes:=ty}) (ha:M.getD a undef=.func (.yield l) #[] #[]) (hb:M.getD b undef=.string jd)
  (aBF:YieldAt (e6 none) 0 P l #[.string jd] W R) (hR:∀e dr,R e dr->∃v,e=.returned v/\K ⟨cP M D.dst v,ds⟩ dr):D.wpIn (e6 none) 0 P ⟨M,ds⟩ W K Q:=by
 obtain⟨fn,tmps,assign,body,hy,ayZ⟩:=aBF;refine⟨fun f _=>Dr none f,?_⟩
 have dM:(D.semAt none (Act.eval ⟨M,ds⟩)).run P W=.ok (.round l fn tmps assign body) W:=by
  rw[Oper.semAt_none];have yH:Act.eval ⟨M,ds⟩ (.tmp a)=.func (.yield l) #[] #[]:=ha;have yG:Act.eval ⟨M,ds⟩ (.tmp b)=.string jd:=hb;unfold execOp;simp only[aP,resolve,yH,Deferred.ofValue,Sem.run_bind,Sem.run_pure,Result.andThen_ok,invoke,List.map_toArray,List.map_cons,List.map_nil,yG];simpa using hy
 show D.uponIn (e6 none) 0 P _ K Q ((D.semAt none (Act.eval ⟨M,ds⟩)).run P W);rw[dM];refine⟨fun h=>by simp[e6,Fence.wide] at h,RoundIn.mono ayZ fun e dr he=>?_⟩
 obtain⟨v,rfl,hk⟩:=hR e dr he;rw[<-vO] at hk;exact hk
def fF(k:Nat)(more:List (Nat×fw)):Shape:=⟨[(1,.aq (.eV [.str] 0)),(2,.aq (.ptr 1001 0)),(3,.aq (.eV [.int .i64] 0))]++more,[(1001,.box [.d .str],.same)],k⟩
structure jP(b1 b2 b3:Nat)(p:ByteArray)(dw gu:TypeId)(l k:Nat)(r:B)(M:Array Value)(W:World):Prop where
 size:M.size=k
 dS:M.getD 0 undef=.func (.yield l) #[] #[]
 cT:M.getD 1 undef=.pointer (some ⟨b1,0,none⟩)
 dC:M.getD 2 undef=.pointer (some ⟨b2,0,none⟩)
 dW:M.getD 3 undef=.pointer (some ⟨b3,0,none⟩)
 h1:W.heap[b1]? =some (.cells #[.string p] dw)
 h2:∃s eT,W.heap[b2]? =some (.cells #[.string s] eT)/\s.data.toList=r
 h3:W.heap[b3]? =some (.cells #[.int .i64 0] gu)
 lz:jg W [b2] fun _=>False
theorem jP.jQ{b1 b2 b3:Nat}{p:ByteArray}{dw gu:TypeId}{l k:Nat}{r:B}{M:Array Value}{W:World}(I:jP b1 b2 b3 p dw gu l k r M W)(jt:b1≠b2)(js:b2≠b3){c:UInt8}(hp:p.data.toList=[c]):
  az W [b2] (fun _=>False) (fun _=>.pointer (some ⟨b2,0,none⟩)) ((fF k []).st ((([c],()),((),(((0,()),())))),(((r,()),())))) M W:=by
 obtain⟨s,eT,h2,hs⟩:=I.h2;have xU:b1<W.heap.size:=(Array.getElem?_eq_some_iff.1 I.h1).1;have acx:b2<W.heap.size:=(Array.getElem?_eq_some_iff.1 h2).1;have xT:b3<W.heap.size:=(Array.getElem?_eq_some_iff.1 I.h3).1;have wF:((fF k []).st ((([c],()),((),(((0,()),())))),(((r,()),())))).sites=[(1001,.box 0 [.d (.str r)])]:=rfl;have c8:∀o,cD [(1001,Site.box 0 [.d (.str r)])] o->o=1001:=fun o ⟨s,h,_⟩=>by
  simp only[look] at h;cases hb:Nat.beq 1001 o with
  |true=>exact(cg hb).symm
  |false=>simp[hb] at h
 have cq:∀b,aN (fun _=>False) (fun _=>Value.pointer (some ⟨b2,0,none⟩)) [(1001,Site.box 0 [.d (.str r)])] b->b=b2:=by
  rintro b (h|⟨o,_,h⟩)
  ·exact h.elim
  ·simp only[bZ,bE] at h;exact h.symm
 refine⟨I.size,fun t=>?_,fun o ai h=>?_,fun o ae b h1 h2 _ _=>?_,fun o b h1 h2=>?_,Fr.refl _ _,fun b h=>h.elim,I.lz⟩
 ·rw[wF];show cy _ _ _ _ (match look [(1,ch (.eV [.str [c]] 0)),(2,ch (.ptr 1001 0 0)),(3,ch (.eV [.int .i64 0] 0))] t with|some v=>v|none=>.av (.aq .any)) _
  simp only[look];by_cases e1:t=1
  ·subst e1;refine⟨b1,0,I.cT,fun h=>jt (cq _ h),xU,[.string p],rfl,fun j u hu=>?_,fun j h an=>?_⟩
   ·match j,hu with
    |0,hu=>cases hu;simp[World.cell?,I.h1]
   ·match j,h,an with
    |0,_,_=>exact .str _ _ hp
  ·by_cases e2:t=2
   ·subst e2;exact⟨b2,I.dC,_,rfl,Nat.le_refl _,fun _=>rfl⟩
   ·by_cases bz:t=3
    ·subst bz;refine⟨b3,0,I.dW,fun h=>js (cq _ h).symm,xT,[.int .i64 0],rfl,fun j u hu=>?_,fun j h an=>?_⟩
     ·match j,hu with
      |0,hu=>cases hu;simp[World.cell?,I.h3]
     ·match j,h,an with
      |0,_,_=>exact .int _ _
    ·rw[kh (fun e=>e1 e.symm),kh (fun e=>e2 e.symm),kh (fun e=>bz e.symm)]
     trivial
 ·rw[wF] at h ⊢;simp only[look] at h;cases hb:Nat.beq 1001 o with
  |false=>simp[hb] at h
  |true=>
   simp only[hb,ad,bE] at h;subst h;refine⟨b2,eT,[.string s],rfl,h2,rfl,fun u hu=>?_,(fun h=>by cases h),fun j h an=>?_⟩
   ·rw[List.mem_singleton.1 hu];rfl
   ·match j,h,an with
    |0,_,_=>exact bT.str _ _ hs
 ·rw[c8 o h1,c8 ae h2]
 ·simp only[bZ,bE] at h2;exact⟨fun h=>h,.inl (by simp[h2])⟩
theorem jP.of{b1 b2 b3:Nat}{p:ByteArray}{dw gu:TypeId}{l k:Nat}{r eY:B}{M ca:Array Value}{W dr:World}(I:jP b1 b2 b3 p dw gu l k r M W)(jt:b1≠b2)(js:b2≠b3){more:List (Nat×fw)}{y:(fF k more).J}{F:Nat->Value}
  {X:Nat->Prop} (S:az W [b2] X F ((fF k more).st y) ca dr) (ay:∀t,t<4->ca.getD t undef=M.getD t undef) (hy:y.2=((eY,()),())):jP b1 b2 b3 p dw gu l k eY ca dr:=by
 have xU:b1<W.heap.size:=(Array.getElem?_eq_some_iff.1 I.h1).1;have xT:b3<W.heap.size:=(Array.getElem?_eq_some_iff.1 I.h3).1;refine⟨S.nt,(ay 0 (by omega)).trans I.dS,(ay 1 (by omega)).trans I.cT,(ay 2 (by omega)).trans I.dC,(ay 3 (by omega)).trans I.dW,(S.frame.block b1 xU (by simp[jt])).trans I.h1,?_,(S.frame.block b3 xT (by simp[js.symm])).trans I.h3,⟨S.lz.1,S.ft.Z,fun _ _ h=>h,fun b hb=>(S.lz.2 b hb).2⟩⟩
 have g':look ((fF k more).st y).sites 1001=some (.box 0 [.d (.str eY)]):=by
  show look (kY (fF k more).sites y.2) 1001=_;rw[hy];rfl
 have jK:=S.c5 2;have hg:((fF k more).st y).get 2=ch (.ptr 1001 0 0):=rfl;rw[hg] at jK;obtain⟨b,hb,hr⟩:=jK;have db:=Ref.at hr g' rfl;rw[ay 2 (by omega),I.dC] at hb
 simp only[Value.pointer.injEq,bE,Addr.mk.injEq,and_true] at hb;obtain⟨bQ,T,cur,g1,g2,g3,g4,_,g5⟩:=S.sites 1001 _ g';rw[db] at g1;simp only[Value.pointer.injEq,bE,Addr.mk.injEq,and_true] at g1;match cur,g3 with
 |[u],_=>
  obtain⟨s,jU,rZ⟩:=gY (g5 0 (by simp) (by simp))
  simp only[List.getElem_cons_zero] at jU;subst jU;exact⟨s,T,by rw[hb,g1];exact g2,rZ⟩
end
theorem pz(c:UInt8)(s:B):bN c s≠[]:=by
 cases s with
 |nil=>simp[bN]
 |cons b r=>
  simp only[bN];cases b==c
  ·simp only[ak];split<;>simp
  ·simp
theorem agv{c:UInt8}{s:B}(h:Lib.indexByte s c<0):bN c s=[s]:=by
 induction s with
 |nil=>rfl
 |cons b r ih=>
  simp only[Lib.indexByte] at h;split at h
  ·omega
  ·rename_i hb;split at h
   ·rename_i h1;have h1:Lib.indexByte r c=-1:=by simpa using h1
    have:=ih (by omega)
    have hb:(b==c)=false:=by simpa using hb
    simp only[bN,hb,ak,this]
   ·rename_i h1;have:=Lib.indexByte_ge r c;have h1:¬Lib.indexByte r c=-1:=by simpa using h1
    omega
theorem agu{c:UInt8}{s:B}(h:0<=Lib.indexByte s c):bN c s=s.take (Lib.indexByte s c).toNat::bN c (s.drop ((Lib.indexByte s c).toNat+1))/\(Lib.indexByte s c).toNat<s.length:=by
 induction s with
 |nil=>simp[Lib.indexByte] at h
 |cons b r ih=>
  simp only[Lib.indexByte] at h ⊢;by_cases hb:(b==c)=true
  ·simp only[hb,if_true] at h ⊢;simp[bN,hb]
  ·have ew:(b==c)=false:=by simpa using hb
   simp only[ew,Bool.false_eq_true,if_false] at h ⊢;by_cases h1:(Lib.indexByte r c==-1)=true
   ·simp only[h1,if_true] at h;omega
   ·have h1':(Lib.indexByte r c==-1)=false:=by simpa using h1
    simp only[h1',Bool.false_eq_true,if_false] at h ⊢;have hge:=Lib.indexByte_ge r c;have h1:¬Lib.indexByte r c=-1:=by simpa using h1
    obtain⟨g1,g2⟩:=ih (by omega)
    have e:(Lib.indexByte r c+1).toNat=(Lib.indexByte r c).toNat+1:=by omega
    rw[e];refine⟨?_,by simp;omega⟩
    simp only[bN,ew,ak,g1,List.take_succ_cons,List.drop_succ_cons]
def ly(k:Nat)(c:UInt8)(r:B):(fF k []).J:=((([c],()),((),((0,()),()))),((r,()),()))
def nY(k:Nat)(c:UInt8)(r:B):ao:=(fF k []).st (ly k c r)
def DF(k:Nat):Out->Option (fF k []).J
 |.norm st=>(fF k []).ex st
 |_=>none
def Lo(k t7 t8:Nat):Out->Option (Sum (fF k []).J ((Int×B)×(fF k []).J))
 |.norm st=>match st.get t7,st.get t8 with
  |.av (.aq (.d (.int .i64 i))),.av (.aq (.d (.str x)))=>((fF k []).ex st).map fun y=>.inr ((i,x),y)
  |_,_=>none
 |_=>none
noncomputable def xV(C:im)(k t7 t8:Nat)(r7:Code)(p7:Nat):Out->Option (Sum (fF k []).J ((Int×B)×(fF k []).J))
 |.exit id st=>bif Nat.beq id 2 then((fF k []).ex st).map .inl else none
 |.norm st=>exec C r7 p7 st (Lo k t7 t8)
 |_=>none
noncomputable def DE(C:im)(k t7 t8:Nat)(c6 r7:Code)(p6 p7:Nat):Out->Option (Sum (fF k []).J ((Int×B)×(fF k []).J))
 |.norm st=>exec C c6 p6 st (xV C k t7 t8 r7 p7)
 |_=>none
noncomputable def two(k:Nat)(C:Ctx)(st:ao)(o0 o1:Oper)(a b:Nat):Option ((Value×B)×(fF k []).J):=
 k0 C st o0 fun st=>k0 C st o1 fun st=>match st.get a,st.get b with
  |.av (.aq (.dd v)),.av (.aq (.d (.str x)))=>((fF k []).ex st).map fun y=>((v,x),y)
  |_,_=>none
noncomputable def uh(k:Nat)(C:Ctx)(st:ao)(o3:Oper)(t42:Nat):Option (Bool×(fF k []).J):=
 k0 C st o3 fun st=>match st.get t42 with
  |.av (.aq (.d (.bool b)))=>((fF k []).ex st).map fun y=>(b,y)
  |_=>none
section
variable {P:Program}{U:World}{Z:List Nat}{X:Nat->Prop}{F:Nat->Value}{st:ao}{M:Array Value}{w:World}
theorem R_(S:az U Z X F st M w){t:Nat}{k:IntKind}{n:Int}(h:st.get t=.av (.aq (.d (.int k n)))):M.getD t undef=.int k n:=by
 have:=S.c5 t;rw[h] at this;exact iW this
theorem R9(S:az U Z X F st M w){t:Nat}{x:B}(h:st.get t=.av (.aq (.d (.str x)))):∃b,M.getD t undef=.string b/\b.data.toList=x:=by
 have:=S.c5 t;rw[h] at this;exact gY this
theorem Gf(S:az U Z X F st M w){t:Nat}{x:Bool}(h:st.get t=.av (.aq (.d (.bool x)))):M.getD t undef=.bool x:=by
 have:=S.c5 t;rw[h] at this;exact j8 this
theorem akE(S:az U Z X F st M w){t:Nat}{x:Value}(h:st.get t=.av (.aq (.dd x))):M.getD t undef=x:=by
 have:=S.c5 t;rw[h] at this;exact this
theorem UK{C:Ctx}(H:aT P C){k:Nat}{o0 o1:Oper}{a b:Nat}{v:Value}{x:B}{y:(fF k []).J}(h:two k C st o0 o1 a b=some ((v,x),y))(S:az U Z X F st M w){ds:List Deferred}{K:Act->World->Prop}{Q:Exit->Act->World->Prop}
  (b5:∀ca w' jd a_,ca.getD a undef=v->ca.getD b undef=.string jd->jd.data.toList=x->(∀t,t∉o0.dst.toList++o1.dst.toList->ca.getD t undef=M.getD t undef)->
   az U Z X a_ ((fF k []).st y) ca w'->K ⟨ca,ds⟩ w'):o0.wpIn (e6 none) 0 P ⟨M,ds⟩ w (fun c_ w'=>o1.wpIn (e6 none) 0 P c_ w' K Q) Q:=by
 refine ou S H h fun e3 ho ir a' e1 dO n6=>?_
 refine ou dO H e1 fun xK iN qm w2 e2 iB mb=>?_
 split at e2
 ·rename_i v' iQ ha hb;obtain⟨y',hy,he⟩:=Option.map_eq_some_iff.1 e2;cases he;obtain⟨jd,g1,g2⟩:=R9 iB hb;obtain⟨iq,jA,_⟩:=Shape.gM iB hy;refine b5 qm w2 jd iq (akE iB ha) g1 g2 (fun t ay=>?_) jA
  simp only[bp,not_or] at ay;rw[mb t ay.2,n6 t ay.1]
 ·cases e2
theorem anO{C:Ctx}(H:aT P C){k:Nat}{o3:Oper}{t42:Nat}{b:Bool}{y:(fF k []).J}(h:uh k C st o3 t42=some (b,y))(S:az U Z X F st M w){ds:List Deferred}{K:Act->World->Prop}{Q:Exit->Act->World->Prop}
  (b5:∀ca w' a_,ca.getD t42 undef=.bool b->(∀t,t∉o3.dst.toList->ca.getD t undef=M.getD t undef)->az U Z X a_ ((fF k []).st y) ca w'->K ⟨ca,ds⟩ w'):o3.wpIn (e6 none) 0 P ⟨M,ds⟩ w K Q:=by
 refine ou S H h fun e3 ho ir a' e1 dO n6=>?_
 split at e1
 ·rename_i bQ hb;obtain⟨y',hy,he⟩:=Option.map_eq_some_iff.1 e1;cases he;obtain⟨iq,jA,_⟩:=Shape.gM dO hy;exact b5 ir a' iq (Gf dO hb) n6 jA
 ·cases e1
structure amj(P:Program)(C:im)(cN:FuncId)(fn:Func)(k:Nat)(A r5 c6 r7 r9:Code)(o0 o1 o2 o3 q0 q1 q2:Oper)(pA p5 p6 p7 p9 t7 t8 a1 a2 t41 t42 u1 u2:Nat)(ty Ee:Array TypeId):Prop where
 ZS:P.funcs[cN]? =some fn
 nt:fn.ntmps=k
 cY:4<=k
 fH:fn.results=#[]
 ade:∀args w,(callFunc cN args).run P w=.ok (.enter cN args) w
 body:∃i8 i10,fn.body=some (.seq A (.seq (.block 2 (.loop (.block 3 (.seq r5 (.seq c6 (.seq r7 (.seq (.seq (.region i8 #[o0,o1,o2,o3] false) (.cond (.tmp t42) .ret .skip)) r9))))))) (.region i10 #[q0,q1,q2] false)))
 yz:(hI A&&(hI r5&&(hI c6&&(hI r7&&hI r9))))=true
 wr:fs [0,1,2,3] (cJ A++(cJ r5++(cJ c6++(cJ r7++cJ r9))))=true
 aY:o0.guard=none/\o1.guard=none/\o2.guard=none/\o3.guard=none/\q0.guard=none/\q1.guard=none/\q2.guard=none
 aed:fs [0,1,2,3,t7] (o0.dst.toList++(o1.dst.toList++(o3.dst.toList++[t41])))=true
 aec:fs [0,1,2,3] (q0.dst.toList++q1.dst.toList)=true
 d2:o2.dst=some t41
 Lj:t41<k
 c2:o2.op=.call {callee:=.value (.tmp a1),args:=#[.tmp a2],argTypes:=ty}
 d5:q2.op=.call {callee:=.value (.tmp u1),args:=#[.tmp u2],argTypes:=Ee}
 k9:gN P C A pA/\gN P C r5 p5/\gN P C c6 p6/\gN P C r7 p7/\gN P C r9 p9
 en:∀c r,exec C A pA (nY k c r) (DF k)=some (ly k c r)
 hB:∀c r,exec C r5 p5 (nY k c r) (DE C k t7 t8 c6 r7 p6 p7)=bif decide (Lib.indexByte r c<0) then some (.inl (ly k c r)) else(bq r 0 (IntKind.i64.wrap (Lib.indexByte r c+0))).bind fun x=>some (.inr ((Lib.indexByte r c,x),ly k c r))
 bn:∀c r i x v,two k C.toCtx ((((nY k c r).set t7 (one (.int .i64 i))).set t8 (one (.str x))).set 0 (ch (.dd v))) o0 o1 a1 a2=some ((v,x),ly k c r)
 h3:∀c r b,uh k C.toCtx ((nY k c r).set t41 (one (.bool b))) o3 t42=some (!b,ly k c r)
 ac9:(k0 C.toCtx ⟨[(t41,one (.bool false))],[],k⟩ o3 fun st=>match st.get t42 with|.av (.aq (.d (.bool b)))=>some b|_=>none)=some true
 yF:∀c r i,exec C r9 p9 ((nY k c r).set t7 (one (.int .i64 i))) (DF k)=(bq r (IntKind.i64.wrap (i+(([c]:B).length:Int))) r.length).bind fun x=>some (ly k c x)
 E5:∀c r v,two k C.toCtx ((nY k c r).set 0 (ch (.dd v))) q0 q1 u1 u2=some ((v,r),ly k c r)
end
end Go.Jk
