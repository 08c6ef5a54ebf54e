/- FnRootText: decoding a root inverts encoding. (part 2 of 7: JkCall3, JkCall4, JkCall5, JkBld, JkCall6, JkDraw1, JkLogic, JkWalk0, JkDraw2, JkDraw3, JkWalk1, JkShape, JkShape2, JkWalk2, JkWalk3, JkWalk4, JkHand, JkHand2, JkLaw0, JkRange, JkRange2, JkIter, JkIte) Conditions: none beyond the statement. -/
import Derived.Test.YthhecoidfjkmeaaGreatDoorZFnRootText0
import Derived.RangeFuncRecord
import Derived.Below
import Derived.RangeFuncSeq
import Derived.Orders
import Derived.OrdersIn
import Derived.ControlIn
import Derived.LoopIn
import Derived.RangeFuncCalls
import Derived.RangeFuncLeaves
import Derived.Lib.Bytealg
import Derived.Laws.Externs
import Derived.Lib.LaidTab
import Derived.Lib.ItoaNum
import Derived.Deep.Draws
import Derived.Sort.Grow
import Derived.Deep.Slices
import Derived.ChangeSame
import Derived.Carry
import Derived.ProofKit
import Derived.OpenShut
set_option linter.unusedVariables false
set_option linter.unusedSimpArgs false
namespace Go.Jk
theorem vi(n:Nat)(l:List Nat):fZ n l=true <-> n∈l:=by
 induction l with
 |nil=>simp[fZ]
 |cons m l ih=>
  simp only[fZ,Bool.or_eq_true,ih,List.mem_cons];constructor
  ·rintro(h|h)
   ·exact .inl (Nat.eq_of_beq_eq_true h)
   ·exact .inr h
  ·rintro(rfl|h)
   ·exact .inl (Nat.beq_refl n)
   ·exact .inr h
theorem sj(l:List Nat):fJ l=true <-> l.Nodup:=by
 induction l with
 |nil=>simp[fJ]
 |cons n l ih=>
  simp only[fJ,Bool.and_eq_true,ih,List.nodup_cons,Bool.not_eq_true'];constructor
  ·rintro⟨h1,h2⟩;exact⟨fun h=>(by rw[(vi n l).2 h] at h1;cases h1),h2⟩
  ·rintro⟨h1,h2⟩;refine⟨?_,h2⟩;cases h:fZ n l with
   |false=>rfl
   |true=>exact absurd ((vi n l).1 h) h1
theorem QO(l m:List Nat):e8 l m=true <-> ∀n,n∈l->n∉m:=by
 induction l with
 |nil=>simp[e8]
 |cons n l ih=>
  simp only[e8,Bool.and_eq_true,ih,Bool.not_eq_true',List.mem_cons];constructor
  ·rintro⟨h1,h2⟩ k (rfl|hk)
   ·intro h;rw[(vi k m).2 h] at h1;cases h1
   ·exact h2 k hk
  ·intro h;refine⟨?_,fun k hk=>h k (.inr hk)⟩
   cases ak:fZ n m with
   |false=>rfl
   |true=>exact absurd ((vi n m).1 ak) (h n (.inl rfl))
theorem nO{sites us:List (Nat×Site)}{o:Nat}(h:o∉keys us):look (bu sites us) o=look sites o:=by
 induction us generalizing sites with
 |nil=>rfl
 |cons p us ih=>
  obtain⟨n,s⟩:=p;simp only[keys,List.mem_cons,not_or] at h;simp only[bu];rw[ih h.2,c7];have:¬n=o:=fun e=>h.1 e.symm
  simp[this]
theorem GC{aH:Type}{us:List (Nat×aH)}{o:Nat}{s:aH}(h:(o,s)∈us):o∈keys us:=by
 induction us with
 |nil=>simp at h
 |cons p us ih=>
  rcases List.mem_cons.1 h with rfl|h
  ·exact List.mem_cons_self
  ·exact List.mem_cons_of_mem _ (ih h)
theorem zC{aH:Type}{us:List (Nat×aH)}{o:Nat}(h:o∈keys us):∃s,(o,s)∈us:=by
 induction us with
 |nil=>simp[keys] at h
 |cons p us ih=>
  obtain⟨n,s⟩:=p;rcases List.mem_cons.1 h with h|h
  ·exact⟨s,by rw[h];exact List.mem_cons_self⟩
  ·obtain⟨aN,ak⟩:=ih h;exact⟨aN,List.mem_cons_of_mem _ ak⟩
section
variable {U:World}{Y:List Nat}{X:Nat->Prop}{F:Nat->Value}{st:al}{M:Array Value}{w:World}
theorem aq.aqt:∀{us:List (Nat×Site)} {st:al} {X:Nat->Prop},aq U Y X F st M w->gY st.sites us->(keys us).Nodup->
  aq U Y (fun b=>X b\/b∈dj F (keys us)) F {st with sites:=bu st.sites us} M w:=by
 intro us;induction us with
 |nil=>intro st X S _ _;exact S.shrink fun b h=>by rcases h with h|h;exact h;simp[keys,dj] at h
 |cons p us ih=>
  obtain⟨o,aN⟩:=p;intro st X S hg hn;obtain⟨af,h1,h2,rfl⟩:=hg o aN List.mem_cons_self;simp only[keys,List.nodup_cons] at hn;have dz:=S.kill h1 h2;have ib:=ih dz (fun ab s hm=>by
   obtain⟨t,aE,aF,bJ⟩:=hg ab s (List.mem_cons_of_mem _ hm);have:¬o=ab:=fun e=>hn.1 (by rw[e];exact GC hm)
   exact⟨t,by simp[c7,this,aE],aF,bJ⟩) hn.2
  refine ib.shrink fun b h=>?_
  rcases h with h|h
  ·exact .inl (.inl h)
  ·simp only[keys,dj,List.filterMap_cons] at h;cases hb:bQ (F o) with
   |none=>simp only[hb] at h;exact .inr h
   |some c=>
    simp only[hb,List.mem_cons] at h;rcases h with rfl|h
    ·exact .inl (.inr rfl)
    ·exact .inr h
structure jW(U:World)(Y:List Nat)(X X':Nat->Prop)(F a6:Nat->Value)(st:al)(M:Array Value)(w:World)(us:List (Nat×Site)):Prop where
 ju:aq U Y X' a6 {st with sites:=bu st.sites us} M w
 le:∀c,aJ X' a6 (bu st.sites us) c->aJ X F st.sites c
 go:∀{a v},ck F st.sites w (aJ X F st.sites) a v->ck a6 (bu st.sites us) w (aJ X' a6 (bu st.sites us)) a v
 same:∀o,o∉keys us->a6 o=F o
theorem jW.nil{X':Nat->Prop}(S:aq U Y X F st M w)(h:∀b,X' b->X b):jW U Y X X' F F st M w []:=
 ⟨S.shrink h,fun c hc=>by
  rcases hc with hc|hc
  ·exact .inl (h c hc)
  ·exact .inr hc,fun k=>k.hd (fun c hc=>by
   rcases hc with hc|hc
   ·exact .inl (h c hc)
   ·exact .inr hc) (fun c hc=>(S.shrink h).lt hc),fun _ _=>rfl⟩
theorem jW.trans{c9 cD:Nat->Prop}{gK is:Nat->Value}{us vs:List (Nat×Site)}(A:jW U Y X c9 F gK st M w us)(bq:jW U Y c9 cD gK is {st with sites:=bu st.sites us} M w vs):
  jW U Y X cD F is st M w (us++vs):=by
 refine⟨?_,?_,?_,fun o h=>?_⟩
 ·rw[ld];exact bq.ju
 ·rw[ld];exact fun c hc=>A.le c (bq.le c hc)
 ·rw[ld];exact fun h=>bq.go (A.go h)
 ·rw[j7,List.mem_append,not_or] at h;rw[bq.same o h.2,A.same o h.1]
theorem jW.one{X':Nat->Prop}{n:Nat}{b5:Site}{nv:Value}(S:aq U Y X F st M w)(gB:∀b,X' b->X b)
  (dV:(∀af,look st.sites n=some af->af.cy<b5.cy)\/(F n=nv/\∀af,look st.sites n=some af->af.cy=b5.cy/\af.live=false))
  (hb:∀b,bQ nv=some b->X b/\¬X' b/\(b∈Y\/U.heap.size<=b))
  (fG:∀{b0:List (Nat×Site)} {a6:Nat->Value},b0=cw st.sites n b5->a6 n=nv->(∀{a v},ck F st.sites w (aJ X F st.sites) a v->ck a6 b0 w (aJ X' a6 b0) a v)->
   (∀b,aJ X' a6 b0 b->aJ X F st.sites b)->kc a6 b0 w (aJ X' a6 b0) n b5):
  jW U Y X X' F (fun ab=>if ab=n then nv else F ab) st M w [(n,b5)]:=by
 obtain⟨h1,h2,h3⟩:=S.wB gB dV hb fG;exact⟨h1,h2,h3,fun o h=>by
  simp only[keys,List.mem_singleton] at h;simp[h]⟩
theorem E9{av cl:Nat->Prop}{l:aR}{v:Value}{sites:List (Nat×Site)}(hf:∀t xs,l≠.fresh t xs)(h:eb mh [] w av l v)(hle:∀b,cl b->av b)(hlt:∀b,cl b->b<w.heap.size):eb F sites w cl l v:=by
 have hd:∀{d:bh} {v:Value},bK w av d v->bK w cl d v:=fun h=>ck.hd (F:=F) (sites:=[]) (a:=one _) hle hlt h
 cases l with
 |d x=>exact hd h
 |nil t=>exact h
 |own o s=>obtain⟨_,_,h,_⟩:=h;cases h
 |ptr o s off=>obtain⟨_,_,_,h,_⟩:=h;cases h
 |eE cells off=>
  obtain⟨b,D,h1,h2,h3,cs,aC,bk,ca⟩:=h;exact⟨b,D,h1,fun hx=>h2 (hle b hx),h3,cs,aC,bk,fun j g1 g2=>hd (ca j g1 g2)⟩
 |e3 o s t k off=>obtain⟨_,_,_,h,_⟩:=h;cases h
 |clo g bE=>
  obtain⟨vs,h1,h2,h3⟩:=h;match bE,vs,h2 with
  |[],[],_=>exact⟨[],h1,rfl,fun i h=>by simp at h⟩
  |c::bE,v::vs,_=>obtain⟨_,h,_⟩:=h3 0 (by simp) (by simp);cases h
 |cV u=>exact h
 |fresh t xs=>exact absurd rfl (hf t xs)
 |dx=>trivial
 |any=>trivial
theorem cA.go{a6:Nat->Value}{sites b0:List (Nat×Site)}{w':World}{av cl:Nat->Prop}(go:∀{a:a8} {v:Value},ck F sites w av a v->ck a6 b0 w' cl a v){ai:List aR}{vs:List Value}
  (h:cA F sites w av ai vs):cA a6 b0 w' cl ai vs:=BR go h
structure Left(U:World)(Y:List Nat)(X:Nat->Prop)(F:Nat->Value)(st:al)(av:Nat->Prop)(bs:List Nat):Prop where
 nodup:bs.Nodup
 ct:∀b,b∈bs->¬X b/\(b∈Y\/U.heap.size<=b)
 le:∀c,aJ (fun b=>X b\/b∈bs) F st.sites c->av c
def lA(bD:al)(sites:List (Nat×Site))(gh:List Nat):Prop:=∀m,m∈gh->∀af,look sites m=some af->af.cy<bw bD m
theorem lA.step{bD:al}{sites us:List (Nat×Site)}{gh:List Nat}(h:lA bD sites gh)(aa:∀n,n∈keys us->n∉gh):lA bD (bu sites us) gh:=by
 intro m hm af hs;rw[nO (fun ak=>aa m ak hm)] at hs
 exact h m hm af hs
theorem afO{u:Bool}{e:TypeId}{s:Nat}{v:Value}{n:Nat}{cs:List Value}(h:rowAt w u e s v n cs):v.oneCell'=true:=by
 rcases h.2 with⟨h,_⟩|⟨g,cap,cur,fz,h,_⟩<;>rw[h]<;>rfl
theorem Sj{av:Nat->Prop}(bD:al):∀(ai:List aR) (n:Nat) {F:Nat->Value} {st:al} {vs:List Value} {bs rest:List Nat},aq U Y (fun b=>X b\/b∈bs++rest) F st M w->lB w av ai vs bs->
  Left U Y X F st av (bs++rest)->lA bD st.sites (keys (take bD n ai).2)->(keys (take bD n ai).2).Nodup->
  ∃a6,jW U Y (fun b=>X b\/b∈bs++rest) (fun b=>X b\/b∈rest) F a6 st M w (take bD n ai).2/\cA a6 (bu st.sites (take bD n ai).2) w (aJ (fun b=>X b\/b∈rest) a6 (bu st.sites (take bD n ai).2)) (take bD n ai).1 vs/\
   Left U Y X a6 {st with sites:=bu st.sites (take bD n ai).2} av rest:=by
 intro ai;induction ai with
 |nil=>
  intro n F st vs bs rest S h L eL aa;match vs,h with
  |[],h=>
   have h:bs=[]:=h;subst h;exact⟨F,.nil S (fun b hb=>hb),.nil,L⟩
 |cons l ai ih=>
  intro n F st vs bs rest S h L eL aa;match vs,h with
  |v::vs,⟨b1,b2,ez,h1,h2⟩=>
   subst ez;by_cases hf:∃t xs,l=.fresh t xs
   ·obtain⟨t,xs,rfl⟩:=hf;obtain⟨hb1,e,cs,aM,hr⟩:=h1;simp only[take,keys,List.nodup_cons] at aa eL;have kU:=L.nodup;rw[List.append_assoc,hb1] at kU;have df:jW U Y (fun b=>X b\/b∈b1++b2++rest) (fun b=>X b\/b∈b2++rest) F (fun ab=>if ab=n then v else F ab) st M w [(n,.row (bw bD n) t xs)]:=by
     refine .one S (fun b hb=>?_) (.inl fun af hs=>eL n List.mem_cons_self af hs) (fun b hb=>?_) (fun fP ki go le=>?_)
     ·rcases hb with hb|hb
      ·exact .inl hb
      ·exact .inr (by rw[List.append_assoc];exact List.mem_append.2 (.inr hb))
     ·have hm:b∈b1:=by rw[hb1,hb];simp
      have mA:b∈b1++b2++rest:=by rw[List.append_assoc];exact List.mem_append.2 (.inl hm)
      refine⟨.inr mA,?_,(L.ct b mA).2⟩;rintro(hx|hx)
      ·exact(L.ct b mA).1 hx
      ·rw[hb] at kU;simp only[Option.toList_some,List.singleton_append,List.nodup_cons] at kU;exact kU.1 hx
     ·refine⟨e,cs,by rw[ki];exact aM,fun j g1 g2=>?_⟩
      have k:=hr.2 j g1 g2;have hle:∀b,aJ (fun b=>X b\/b∈b2++rest) _ _ b->av b:=fun b hb=>L.le b (le b hb)
      exact ck.hd (F:=F) (sites:=[]) (a:=one _) hle (fun b hb=>S.lt (le b hb)) k
    have sd:Left U Y X (fun ab=>if ab=n then v else F ab) {st with sites:=bu st.sites [(n,.row (bw bD n) t xs)]} av (b2++rest):=by
     refine⟨(List.nodup_append.1 (by rw[List.append_assoc] at L;exact L.nodup)).2.1,fun b hb=>L.ct b (by rw[List.append_assoc];exact List.mem_append.2 (.inr hb)),fun c hc=>L.le c (df.le c hc)⟩
    obtain⟨a6,eC,h3,aC⟩:=ih (n+1) (st:={st with sites:=bu st.sites [(n,.row (bw bD n) t xs)]}) df.ju h2 sd
     (lA.step (us:=[(n,.row (bw bD n) t xs)]) (fun m hm=>eL m (List.mem_cons_of_mem _ hm)) (fun m hm=>by simp only[keys,List.mem_singleton] at hm;subst hm;exact aa.1)) aa.2
    refine⟨a6,df.trans eC,?_,aC⟩;refine cA.cons ?_ h3;have:eb (fun ab=>if ab=n then v else F ab) (bu st.sites [(n,.row (bw bD n) t xs)]) w (aJ (fun b=>X b\/b∈b2++rest) (fun ab=>if ab=n then v else F ab) (bu st.sites [(n,.row (bw bD n) t xs)])) (.own n (bw bD n)) v:=
     ⟨afO aM,Ref.mk (af:=.row (bw bD n) t xs) (by simp[bu,c7]) rfl (by simp)⟩
    exact eC.go (a:=b7 (.own n (bw bD n))) (v:=v) this
   ·have Mq:∀t xs,l≠.fresh t xs:=fun t xs h=>hf ⟨t,xs,h⟩
    have aqP:take bD n (l::ai)=(l::(take bD (n+1) ai).1,(take bD (n+1) ai).2):=by
     cases l<;>first|rfl|exact absurd rfl (Mq _ _)
    have h1':b1=[]/\eb mh [] w av l v:=by
     cases l<;>first|exact h1|exact absurd rfl (Mq _ _)
    obtain⟨rfl,h1'⟩:=h1';rw[aqP] at aa eL ⊢;simp only[List.nil_append] at S L ⊢;obtain⟨a6,eC,h3,aC⟩:=ih (n+1) S h2 L eL aa;refine⟨a6,eC,?_,aC⟩;refine cA.cons ?_ h3;exact E9 Mq h1' (fun b hb=>L.le b (eC.le b hb)) (fun b hb=>eC.ju.lt hb)
end
section
variable {U:World}{Y:List Nat}{X:Nat->Prop}{F:Nat->Value}{st:al}{M:Array Value}{w:World}
def py(F:Nat->Value)(sites:List (Nat×Site))(w:World)(av:Nat->Prop)(as:List bS)(vs:List Value):Prop:=
 vs.length=as.length/\∀j (h:j<as.length) (ak:j<vs.length),hh F sites w av (as[j]) (vs[j])
theorem py.cons{sites:List (Nat×Site)}{av:Nat->Prop}{a:bS}{as:List bS}{v:Value}{vs:List Value}(h:hh F sites w av a v)(hs:py F sites w av as vs):py F sites w av (a::as) (v::vs):=
 ⟨by simp[hs.1],fun j h1 h2=>by
  cases j with
  |zero=>exact h
  |succ j=>exact hs.2 j (by simpa using h1) (by simpa using h2)⟩
theorem Left.rest{av:Nat->Prop}{a b:List Nat}(L:Left U Y X F st av (a++b)){a6:Nat->Value}{ap:al}(h:∀c,aJ (fun c=>X c\/c∈b) a6 ap.sites c->aJ (fun c=>X c\/c∈a++b) F st.sites c):Left U Y X a6 ap av b:=
 ⟨(List.nodup_append.1 L.nodup).2.1,fun c hc=>L.ct c (List.mem_append.2 (.inr hc)),fun c hc=>L.le c (h c hc)⟩
theorem ahK{bD:al}{n:Nat}{ai:List aR}(h:(take bD n ai).1.head?=some .dx):ai.head?=some .dx:=by
 cases ai with
 |nil=>cases h
 |cons l ai=>cases l<;>first|exact h|cases h
theorem take_one(bD:al)(n:Nat)(l:aR):∃gA,(take bD n [l]).1=[gA]:=by cases l<;>exact⟨_,rfl⟩
theorem ajx{av:Nat->Prop}(bD:al):∀(as:List bS) (n:Nat) {F:Nat->Value} {st:al} {vs:List Value} {bs rest:List Nat},aq U Y (fun b=>X b\/b∈bs++rest) F st M w->lq w av as vs bs->
  Left U Y X F st av (bs++rest)->lA bD st.sites (keys (ef bD n as).2)->(keys (ef bD n as).2).Nodup->
  ∃a6,jW U Y (fun b=>X b\/b∈bs++rest) (fun b=>X b\/b∈rest) F a6 st M w (ef bD n as).2/\py a6 (bu st.sites (ef bD n as).2) w (aJ (fun b=>X b\/b∈rest) a6 (bu st.sites (ef bD n as).2)) (ef bD n as).1 vs/\
   Left U Y X a6 {st with sites:=bu st.sites (ef bD n as).2} av rest:=by
 intro as;induction as with
 |nil=>
  intro n F st vs bs rest S h L eL aa;match vs,h with
  |[],h=>
   have h:bs=[]:=h;subst h;exact⟨F,.nil S (fun b hb=>hb),⟨rfl,fun j h=>by simp[ef] at h⟩,L⟩
 |cons a as ih=>
  intro n F st vs bs rest S h L eL aa;match vs,h with
  |v::vs,⟨b1,b2,ez,h1,h2⟩=>
   subst ez;have go:∀(ai:List aR) (us:List Value),lB w av ai us b1->(ef bD n (a::as)).2=(take bD n ai).2++(ef bD (n+100) as).2->
     ∃a6,jW U Y (fun b=>X b\/b∈b1++b2++rest) (fun b=>X b\/b∈rest) F a6 st M w (ef bD n (a::as)).2/\cA a6 (bu st.sites (ef bD n (a::as)).2) w (aJ (fun b=>X b\/b∈rest) a6 (bu st.sites (ef bD n (a::as)).2)) (take bD n ai).1 us/\
      py a6 (bu st.sites (ef bD n (a::as)).2) w (aJ (fun b=>X b\/b∈rest) a6 (bu st.sites (ef bD n (a::as)).2)) (ef bD (n+100) as).1 vs/\Left U Y X a6 {st with sites:=bu st.sites (ef bD n (a::as)).2} av rest:=by
    intro ai us bL e;rw[e] at eL aa ⊢;rw[j7] at eL aa;obtain⟨d1,d2,d3⟩:=List.nodup_append.1 aa;rw[List.append_assoc] at S L ⊢;obtain⟨gK,df,aE,sd⟩:=Sj bD ai n S bL L (fun m hm=>eL m (List.mem_append.2 (.inl hm))) d1
    obtain⟨is,eC,aF,uM⟩:=ih (n+100) (st:={st with sites:=bu st.sites (take bD n ai).2}) df.ju h2 sd
     (lA.step (fun m hm=>eL m (List.mem_append.2 (.inr hm))) (fun m hm mA=>d3 m hm m mA rfl)) d2
    refine⟨is,df.trans eC,?_,?_,?_⟩
    ·rw[ld];exact aE.go eC.go
    ·rw[ld];exact aF
    ·rw[ld];exact uM
   cases a with
   |an l=>
    have h1:ng w av l v b1:=h1;obtain⟨a6,T,aE,aF,bJ⟩:=go [l] [v] ⟨b1,[],by simp,h1,rfl⟩ rfl
    refine⟨a6,T,?_,bJ⟩;obtain⟨gA,gx⟩:=take_one bD n l;have:(ef bD n (bS.an l::as)).1=bS.an gA::(ef bD (n+100) as).1:=by simp only[ef,gx]
    rw[this];refine py.cons ?_ aF;rw[gx] at aE;exact aE.2 0 (by simp) (by simp)
   |agg ai=>
    obtain⟨us,e,h1⟩:=h1;obtain⟨a6,T,aE,aF,bJ⟩:=go ai us h1 rfl;refine⟨a6,T,?_,bJ⟩;have:(ef bD n (bS.agg ai::as)).1=bS.agg (take bD n ai).1::(ef bD (n+100) as).1:=rfl;rw[this];exact py.cons ⟨us,e,aE.1,aE.2⟩ aF
def nI(F:Nat->Value):List (Nat×Nat)->List Nat->Prop
 |[],[]=>True
 |p::r,b::dG=>F p.1=.pointer (some ⟨b,0,none⟩)/\nI F r dG
 |_,_=>False
theorem nI.of:∀{boxes:List (Nat×Nat)},(∀o s,(o,s)∈boxes->∃b,F o=.pointer (some ⟨b,0,none⟩))->nI F boxes (dj F (keys boxes)):=by
 intro boxes;induction boxes with
 |nil=>intro _;trivial
 |cons q boxes ih=>
  obtain⟨ρ,r⟩:=q;intro h;obtain⟨c,hc⟩:=h ρ r List.mem_cons_self;have:=ih fun o s hm=>h o s (List.mem_cons_of_mem _ hm)
  have e:dj F (keys ((ρ,r)::boxes))=c::dj F (keys boxes):=by simp[dj,keys,hc,bQ]
  rw[e];exact⟨hc,this⟩
theorem nI.congr{a6:Nat->Value}:∀{boxes:List (Nat×Nat)} {dG:List Nat},nI F boxes dG->(∀ab,ab∈keys boxes->a6 ab=F ab)->nI a6 boxes dG:=by
 intro boxes;induction boxes with
 |nil=>
  intro dG h _;match dG,h with
  |[],_=>trivial
 |cons q boxes ih=>
  intro dG h ak;match dG,h with
  |b::dG,⟨h1,h2⟩=>exact⟨by rw[ak q.1 List.mem_cons_self];exact h1,ih h2 fun ab bW=>ak ab (List.mem_cons_of_mem _ bW)⟩
theorem O6{av:Nat->Prop}{bD:al}{ab:Nat}:∀{boxes:List (Nat×Nat)} {cQ:List (List aR)} {dG bs:List Nat},nI F boxes dG->jm w av dG cQ bs->ab∈keys boxes->ab∈keys (gW bD boxes cQ):=by
 intro boxes;induction boxes with
 |nil=>intro cQ dG bs _ _ h;simp[keys] at h
 |cons q boxes ih=>
  obtain⟨ρ,r⟩:=q;intro cQ dG bs hl bL hm;match dG,cQ,hl,bL with
  |c::dG,cs::cQ,⟨_,hl⟩,⟨_,_,_,_,bL⟩=>
   simp only[gW,j7,keys,List.mem_append,List.mem_cons];rcases List.mem_cons.1 hm with rfl|hm
   ·exact .inr (.inl rfl)
   ·exact .inr (.inr (ih hl bL hm))
theorem Q9{av:Nat->Prop}(bD:al):∀(boxes:List (Nat×Nat)) {cQ:List (List aR)} {F:Nat->Value} {st:al} {dG bs rest:List Nat},aq U Y (fun b=>X b\/b∈bs++rest) F st M w->nI F boxes dG->jm w av dG cQ bs->
  (∀o s,(o,s)∈boxes->look st.sites o=some (.dead s))->
  Left U Y X F st av (bs++rest)->lA bD st.sites (keys (gW bD boxes cQ))->(keys (gW bD boxes cQ)).Nodup->
  ∃a6,jW U Y (fun b=>X b\/b∈bs++rest) (fun b=>X b\/b∈rest) F a6 st M w (gW bD boxes cQ)/\Left U Y X a6 {st with sites:=bu st.sites (gW bD boxes cQ)} av rest:=by
 intro boxes;induction boxes with
 |nil=>
  intro cQ F st dG bs rest S eW h hB L eL aa;match dG,cQ,eW,h with
  |[],[],_,h=>
   have h:bs=[]:=h;subst h;exact⟨F,.nil S (fun b hb=>hb),L⟩
 |cons p boxes ih=>
  obtain⟨o,s⟩:=p;intro cQ F st dG bs rest S eW h hB L eL aa;have bz:=hB o s List.mem_cons_self;match dG,cQ,eW,h with
  |b::dG,cs::cQ,⟨hb,eW⟩,⟨b1,b2,ez,⟨T,cur,pZ,e1,e2,bC,dy⟩,h2⟩=>
   subst ez e1;have hb:F o=.pointer (some ⟨b,0,none⟩):=hb;have rY:gW bD ((o,s)::boxes) (cs::cQ)=(take bD (1000000+o*100) cs).2++([(o,Site.box s (take bD (1000000+o*100) cs).1)]++gW bD boxes cQ):=rfl;rw[rY] at eL aa ⊢;rw[j7,j7] at eL aa;obtain⟨d1,d2,d3⟩:=List.nodup_append.1 aa;obtain⟨d4,d5,d6⟩:=List.nodup_append.1 d2;have CD:∀c,c∈b::pZ++b2++rest <-> c∈pZ++(b::(b2++rest)):=by intro c;simp[or_assoc,or_left_comm]
   have ayY:=L.nodup;have dz:aq U Y (fun c=>X c\/c∈pZ++(b::(b2++rest))) F st M w:=S.shrink fun c hc=>hc.imp id (CD c).2
   have sd:Left U Y X F st av (pZ++(b::(b2++rest))):=by
    refine⟨?_,fun c hc=>L.ct c ((CD c).2 hc),fun c hc=>L.le c ?_⟩
    ·have:List.Perm (b::pZ++b2++rest) (pZ++(b::(b2++rest))):=by
      simp only[List.cons_append,List.append_assoc];exact List.perm_middle.symm
     exact this.nodup_iff.1 ayY
    ·rcases hc with hc|hc
     ·exact .inl (hc.imp id (CD c).2)
     ·exact .inr hc
   obtain⟨gK,df,aE,uM⟩:=Sj bD cs (1000000+o*100) dz dy.2 sd (fun m hm=>eL m (List.mem_append.2 (.inl hm))) d1
   have Zb:o∉keys (take bD (1000000+o*100) cs).2:=fun h=>d3 o h o (by simp[keys]) rfl
   have KJ:gK o=F o:=df.same o Zb;have ht:look (bu st.sites (take bD (1000000+o*100) cs).2) o=some (.dead s):=by rw[nO Zb,bz]
   have ach:=uM.nodup;simp only[List.nodup_cons] at ach;have eC:jW U Y (fun c=>X c\/c∈b::(b2++rest)) (fun c=>X c\/c∈b2++rest) gK (fun ab=>if ab=o then F o else gK ab) {st with sites:=bu st.sites (take bD (1000000+o*100) cs).2} M w [(o,Site.box s (take bD (1000000+o*100) cs).1)]:=by
    refine .one df.ju (fun c hc=>hc.imp id (List.mem_cons_of_mem _)) (.inr ⟨KJ,fun af hs=>?_⟩) (fun c hc=>?_) (fun fP ki go le=>?_)
    ·have hs:look (bu st.sites (take bD (1000000+o*100) cs).2) o=some af:=hs;rw[ht] at hs;cases hs;exact⟨rfl,rfl⟩
    ·rw[hb] at hc;cases hc;refine⟨.inr List.mem_cons_self,?_,(uM.ct b List.mem_cons_self).2⟩;rintro(hx|hx)
     ·exact(uM.ct b List.mem_cons_self).1 hx
     ·exact ach.1 hx
    ·have:=BR go aE;exact⟨b,T,cur,by rw[ki,hb],e2,this.1,bC,fun bL=>dy.1 (ahK bL),this.2⟩
   have NR:Left U Y X (fun ab=>if ab=o then F o else gK ab) {st with sites:=bu (bu st.sites (take bD (1000000+o*100) cs).2) [(o,Site.box s (take bD (1000000+o*100) cs).1)]} av (b2++rest):=
    Left.rest (a:=[b]) (st:={st with sites:=bu st.sites (take bD (1000000+o*100) cs).2}) uM eC.le
   have hbk:∀ab,ab∈keys boxes->(fun ab=>if ab=o then F o else gK ab) ab=F ab:=by
    intro ab bW;have hk:=O6 (bD:=bD) eW h2 bW;by_cases e:ab=o
    ·subst e;simp
    ·simp only[e,if_false];exact df.same ab fun hm=>d3 ab hm ab (List.mem_append.2 (.inr hk)) rfl
   obtain⟨a6,fU,NQ⟩:=ih (st:={st with sites:=bu (bu st.sites (take bD (1000000+o*100) cs).2) [(o,Site.box s (take bD (1000000+o*100) cs).1)]}) eC.ju (eW.congr hbk) h2
    (fun ab r hm=>by
     have hk:=O6 (bD:=bD) eW h2 (GC hm);show look (bu (bu st.sites _) _) ab=_;rw[nO (fun h=>d6 ab h ab hk rfl),nO (fun h=>d3 ab h ab (List.mem_append.2 (.inr hk)) rfl)]
     exact hB ab r (List.mem_cons_of_mem _ hm))
    NR
    (lA.step (lA.step (fun m hm=>eL m (List.mem_append.2 (.inr (List.mem_append.2 (.inr hm))))) (fun m hm mA=>d3 m hm m (List.mem_append.2 (.inr mA)) rfl)) (fun m hm mA=>d6 m hm m mA rfl)) d5
   refine⟨a6,?_,?_⟩
   ·have ayN:=df.trans eC;have NK:jW U Y (fun c=>X c\/c∈b::pZ++b2++rest) (fun c=>X c\/c∈pZ++(b::(b2++rest))) F F st M w []:=.nil S fun c hc=>hc.imp id (CD c).2
    have atz:=NK.trans (vs:=(take bD (1000000+o*100) cs).2++[(o,Site.box s (take bD (1000000+o*100) cs).1)]) ayN;have:=atz.trans (vs:=gW bD boxes cQ) (by simpa only[List.nil_append,ld] using fU)
    simpa only[List.nil_append,List.append_assoc] using this
   ·simpa only[ld] using NQ
end
theorem EH{us:List (Nat×Site)}:∀{sites:List (Nat×Site)} {o:Nat} {s:Site},(keys us).Nodup->(o,s)∈us->look (bu sites us) o=some s:=by
 induction us with
 |nil=>intro sites o s _ h;simp at h
 |cons p us ih=>
  obtain⟨n,aN⟩:=p;intro sites o s hn hm;simp only[keys,List.nodup_cons] at hn;simp only[bu];rcases List.mem_cons.1 hm with hm|hm
  ·cases hm;rw[nO hn.1,c7];simp
  ·exact ih hn.2 hm
section plain
variable {w:World}{av cl:Nat->Prop}
theorem RJ{d:bh}{v:Value}(h:aR.pe (.d d)=false)(r:bK w av d v):bK w cl d v:=by
 cases r with
 |int k n=>exact .int k n
 |bool b=>exact .bool b
 |str l s hs=>exact .str l s hs
 |nil t=>cases h
 |sl=>cases h
 |fn=>cases h
 |wK=>cases h
 |map=>cases h
 |wV T=>exact .wV T
 |err T n=>exact .err T n
theorem aiY{t:bf}(h:t.pe=false)(x:den t):∀d,d∈enc t x->aR.pe (.d d)=false:=by
 cases t<;>first|(cases h;done)|(intro d aa;simp only[enc,List.mem_cons,List.not_mem_nil,or_false] at aa;(rcases aa with rfl|rfl|rfl|rfl|rfl);all_goals rfl)|skip
 all_goals(intro d aa;simp only[enc,List.mem_cons,List.not_mem_nil,or_false] at aa)
 all_goals first|(subst aa;rfl)|(rcases aa with rfl|rfl<;>rfl)|(rcases aa with rfl|rfl|rfl<;>rfl)|(rcases aa with rfl|rfl|rfl|rfl<;>rfl)
theorem ah1{t:bf}{xs:List (den t)}{cs:List Value}(h:t.pe=false)(r:c5 w av (flat t xs) cs):c5 w cl (flat t xs) cs:=by
 refine⟨r.1,fun j g1 g2=>RJ ?_ (r.2 j g1 g2)⟩
 have hm:(flat t xs)[j]∈flat t xs:=List.getElem_mem g1;simp only[flat,List.mem_flatMap] at hm;obtain⟨x,_,hx⟩:=hm;exact aiY h x _ hx
theorem OS{l:aR}{v:Value}{bs:List Nat}(h:l.pe=false)(k:ng w av l v bs):ng w cl l v bs:=by
 cases l with
 |d x=>exact⟨k.1,RJ h k.2⟩
 |fresh t xs=>
  obtain⟨h1,e,cs,h2,h3⟩:=k;exact⟨h1,e,cs,h2,ah1 h h3⟩
 |cV v=>exact k
 |dx=>exact k
 |_=>cases h
theorem OQ:∀{ai:List aR} {vs:List Value} {bs:List Nat},sx ai=false->lB w av ai vs bs->lB w cl ai vs bs:=by
 intro ai;induction ai with
 |nil=>
  intro vs bs _ k;match vs,k with
  |[],k=>exact k
 |cons l ai ih=>
  intro vs bs h k;simp only[sx,Bool.or_eq_false_iff] at h;match vs,k with
  |v::vs,⟨b1,b2,aE,aF,bJ⟩=>exact⟨b1,b2,aE,OS h.1 aF,ih h.2 bJ⟩
theorem afg:∀{as:List bS} {vs:List Value} {bs:List Nat},sp as=false->lq w av as vs bs->lq w cl as vs bs:=by
 intro as;induction as with
 |nil=>
  intro vs bs _ k;match vs,k with
  |[],k=>exact k
 |cons a as ih=>
  intro vs bs h k;simp only[sp,Bool.or_eq_false_iff] at h;match vs,k with
  |v::vs,⟨b1,b2,aE,aF,bJ⟩=>
   refine⟨b1,b2,aE,?_,ih h.2 bJ⟩;cases a with
   |an l=>
    have h1:=h.1;simp only[bS.cells,sx,Bool.or_false] at h1;exact OS h1 aF
   |agg ai=>
    obtain⟨us,e,aF⟩:=aF;exact⟨us,e,OQ h.1 aF⟩
theorem aff:∀{cQ:List (List aR)} {dG bs:List Nat},so cQ=false->jm w av dG cQ bs->jm w cl dG cQ bs:=by
 intro cQ;induction cQ with
 |nil=>
  intro dG bs _ k;match dG,k with
  |[],k=>exact k
 |cons a as ih=>
  intro dG bs h k;simp only[so,Bool.or_eq_false_iff] at h;match dG,k with
  |b::dG,⟨b1,b2,aE,⟨T,cur,oJ,e1,e2,bC,dy,fT⟩,bJ⟩=>
   exact⟨b1,b2,aE,⟨T,cur,oJ,e1,e2,bC,dy,OQ h.1 fT⟩,ih h.2 bJ⟩
theorem RY{l:aR}{v:Value}{bs:List Nat}(k:ng w av l v bs):∀b,b∈bs->b<w.heap.size:=by
 cases l with
 |fresh t xs=>
  obtain⟨h1,e,cs,h2,h3⟩:=k;intro b hb;rw[h1] at hb;rcases h2.2 with⟨h,_⟩|⟨g,cap,cur,fz,h,_,hg,_⟩
  ·rw[h] at hb;simp[bQ] at hb
  ·rw[h] at hb;simp[bQ] at hb;subst hb;exact(Array.getElem?_eq_some_iff.1 hg).1
 |_=>intro b hb;rw[k.1] at hb;simp at hb
theorem RX:∀{ai:List aR} {vs:List Value} {bs:List Nat},lB w av ai vs bs->∀b,b∈bs->b<w.heap.size:=by
 intro ai;induction ai with
 |nil=>
  intro vs bs k;match vs,k with
  |[],k=>have k:bs=[]:=k;intro b hb;rw[k] at hb;simp at hb
 |cons l ai ih=>
  intro vs bs k;match vs,k with
  |v::vs,⟨b1,b2,aE,aF,bJ⟩=>
   intro b hb;rw[aE] at hb;rcases List.mem_append.1 hb with hb|hb
   ·exact RY aF b hb
   ·exact ih bJ b hb
theorem aiQ:∀{as:List bS} {vs:List Value} {bs:List Nat},lq w av as vs bs->∀b,b∈bs->b<w.heap.size:=by
 intro as;induction as with
 |nil=>
  intro vs bs k;match vs,k with
  |[],k=>have k:bs=[]:=k;intro b hb;rw[k] at hb;simp at hb
 |cons a as ih=>
  intro vs bs k;match vs,k with
  |v::vs,⟨b1,b2,aE,aF,bJ⟩=>
   intro b hb;rw[aE] at hb;rcases List.mem_append.1 hb with hb|hb
   ·cases a with
    |an l=>exact RY (show ng w av l v b1 from aF) b hb
    |agg ai=>obtain⟨us,e,aF⟩:=aF;exact RX aF b hb
   ·exact ih bJ b hb
theorem QF:∀{cQ:List (List aR)} {dG bs:List Nat},jm w av dG cQ bs->∀b,b∈bs->b<w.heap.size:=by
 intro cQ;induction cQ with
 |nil=>
  intro dG bs k;match dG,k with
  |[],k=>have k:bs=[]:=k;intro b hb;rw[k] at hb;simp at hb
 |cons a as ih=>
  intro dG bs k;match dG,k with
  |c::dG,⟨b1,b2,aE,⟨T,cur,oJ,e1,e2,bC,_,dy⟩,bJ⟩=>
   intro b hb;rw[aE] at hb;rcases List.mem_append.1 hb with hb|hb
   ·rw[e1] at hb;rcases List.mem_cons.1 hb with rfl|hb
    ·exact(Array.getElem?_eq_some_iff.1 e2).1
    ·exact RX dy b hb
   ·exact ih bJ b hb
end plain
section
variable {P:Program}{U:World}{Y:List Nat}{X:Nat->Prop}{F:Nat->Value}{st:al}{M:Array Value}{w:World}{D:Oper}
theorem nP{gh:List Nat}{b:Nat}:b∈dj F gh <-> ∃o,o∈gh/\bQ (F o)=some b:=by simp[dj]
theorem Oq(S:aq U Y X F st M w):∀{gh:List Nat},gh.Nodup->(∀o,o∈gh->cq st.sites o)->(dj F gh).Nodup:=by
 intro gh;induction gh with
 |nil=>intro _ _;exact List.nodup_nil
 |cons o gh ih=>
  intro hn hl;rw[List.nodup_cons] at hn;have:=ih hn.2 fun ab bW=>hl ab (List.mem_cons_of_mem _ bW)
  simp only[dj,List.filterMap_cons] at this ⊢;cases hb:bQ (F o) with
  |none=>simpa using this
  |some b=>
   simp only[List.nodup_cons];refine⟨fun hm=>?_,this⟩
   obtain⟨ab,h1,h2⟩:=nP.1 hm;have:=S.eh o ab b (hl o List.mem_cons_self) (hl ab (List.mem_cons_of_mem _ h1)) hb h2;subst this;exact hn.1 h1
structure atC(U:World)(Y:List Nat)(X:Nat->Prop)(F:Nat->Value)(st:al)(M:Array Value)(w:World)(a:km)(vs:List Value):Prop where
 fz:dU st.sites a.eU
 lb:∀o,o∈a.fW->cq st.sites o
 nL:gY st.sites a.gone
 arg:∀av,fD U Y X F st M w a.eU a.fW av->ji w av a.as vs (dj F (keys a.gone))
 dG:d_ a.as vs=dj F (keys a.boxes)
 fs:∀o s,(o,s)∈a.boxes->(o,.dead s)∈a.gone/\∃b,F o=.pointer (some ⟨b,0,none⟩)
theorem OV{us:List (Nat×Site)}{sites:List (Nat×Site)}(aT:dU sites us){o:Nat}(h:cq (bu sites us) o):cq sites o:=by
 obtain⟨af,h1,h2⟩:=h;rcases lZ aT o with h|⟨s,t,xs,aC,bk⟩
 ·exact⟨af,h▸h1,h2⟩
 ·rw[bk] at h1;cases h1;cases h2
theorem ak9(S:aq U Y X F st M w){g:FuncId}{ar:aD}(eI:aA P g ar){a:km}{vs:List Value}(A:atC U Y X F st M w a vs){d:Nat}(aa:cr st D.dst=true)
  (dw:(execOp (Act.eval ⟨M,[]⟩) D).run P w=(callFunc g vs.toArray).run P w):Holds (px d st ar a) (cM P U Y X st M w D):=by
 intro y hy hc;simp only[px] at y hy hc ⊢;simp only[Bool.and_eq_true] at hc;obtain⟨⟨⟨⟨c1,c2⟩,c3⟩,de⟩,gN⟩:=hc;rw[sj] at c1 c3;rw[QO] at c2 de;have sr:∀o,o∈keys a.gone->cq st.sites o:=fun o bz=>by
  obtain⟨s,hs⟩:=zC bz;obtain⟨af,h1,h2,_⟩:=A.nL o s hs;exact⟨af,h1,h2⟩
 have QB:∀o,o∈keys a.gone->o∉keys a.eU:=fun o h1 h2=>c2 o (List.mem_append.2 (.inl h2)) h1
 have aAH:∃X':Nat->Prop,∀b,X' b <-> (aJ X F (bu st.sites a.eU) b/\b∉dj F (keys a.gone)/\∀o,o∈a.fW->bQ (F o)≠some b):=⟨_,fun b=>Iff.rfl⟩
 obtain⟨X',ur⟩:=aAH;have dR:fD U Y X F st M w a.eU a.fW (fun b=>X' b\/b∈dj F (keys a.gone)):=by
  refine⟨⟨S,A.fz⟩,fun b hb=>?_,fun o bz b hb hx=>?_⟩
  ·rcases hb with hb|hb
   ·exact((ur b).1 hb).1
   ·obtain⟨o,h1,h2⟩:=nP.1 hb;obtain⟨af,h3,aC⟩:=sr o h1;exact .inr ⟨o,⟨af,by rw[nO (QB o h1)];exact h3,aC⟩,h2⟩
  ·rcases hx with hx|hx
   ·exact((ur b).1 hx).2.2 o bz hb
   ·obtain⟨ab,h1,h2⟩:=nP.1 hx;have:=S.eh o ab b (A.lb o bz) (sr ab h1) hb h2;subst this;exact c2 o (List.mem_append.2 (.inr bz)) h1
 have D3:(dj F (keys a.gone)).Nodup:=Oq S c1 sr;have GX:∀b,b∈dj F (keys a.gone)->¬X b/\(b∈Y\/U.heap.size<=b):=fun b hb=>by
  obtain⟨o,h1,h2⟩:=nP.1 hb;exact S.ct o b (sr o h1) h2
 have acr:∀b,X b->X' b:=fun b hb=>(ur b).2 ⟨.inl hb,fun h=>(GX b h).1 hb,fun o bz h=>(S.ct o b (A.lb o bz) h).1 hb⟩
 have hG:iP w (dj F (keys a.gone)) X':=by
  obtain⟨g1,g2⟩:=S.k5;refine⟨g1,fun b hb h=>?_,fun b hb h=>?_,fun b hb=>(g2 b hb).2⟩
  ·obtain⟨o,h1,h2⟩:=nP.1 h;exact(g2 b hb).1 (.inr ⟨o,sr o h1,h2⟩)
  ·rcases((ur b).1 h).1 with h|⟨o,h1,h2⟩
   ·exact(g2 b hb).1 (.inl h)
   ·exact(g2 b hb).1 (.inr ⟨o,OV A.fz h1,h2⟩)
 have E:=eI a.as y hy w X' vs (dj F (keys a.gone)) (A.arg _ dR) D3 (fun b hb hx=>((ur b).1 hx).2.1 hb) (fun b hb=>dR.lt (.inl hb)) hG
 intro K Q bT;have core:∀v w',(∃ev eu rv,Fr (dj F (keys a.gone)) w w'/\jm w' (fun b=>X' b\/b∈ev++eu) (d_ a.as vs) ((ar a.as).fs y) ev/\lq w' (fun b=>X' b\/b∈ev++eu) ((ar a.as).fl y) rv eu/\
   v=oa rv/\(ev++eu).Nodup/\∀b,b∈ev++eu->¬X' b/\(b∈dj F (keys a.gone)\/w.heap.size<=b))->K ⟨cE M D.dst v,[]⟩ w':=by
  rintro v w' ⟨ev,eu,rv,aT,hB,dY,rfl,kU,hm⟩;obtain⟨sl,iI⟩:∃sl,(sp ((ar a.as).fl y)||so ((ar a.as).fs y))=sl:=⟨_,rfl⟩;rw[iI] at gN bT;obtain⟨dn,D0⟩:∃dn,(bif sl then a.eU else [])=dn:=⟨_,rfl⟩
  rw[D0] at bT;have Zv:dU st.sites dn:=by rw[<-D0];cases sl;exact .nil;exact A.fz
  have aqu:∀o,o∈keys dn->o∈keys a.eU:=by rw[<-D0];cases sl;intro o h;simp[keys] at h;exact fun o h=>h
  have dz:aq U Y X F {st with sites:=bu st.sites dn} M w:=S.Bh Zv
  have D4:gY (bu st.sites dn) a.gone:=fun o s hs=>by
   obtain⟨af,h1,h2,h3⟩:=A.nL o s hs;exact⟨af,by rw[nO (fun h=>QB o (GC hs) (aqu o h))];exact h1,h2,h3⟩
  have ib:=dz.aqt D4 c1;have je:=ib.jump (w':=w') (fun b hb hlt=>aT.block b hlt (fun h=>hb (.inr h))) aT.size
   ⟨aT.os.trans S.frame.os,aT.tape.trans S.frame.tape,aT.output.trans S.frame.output,Nat.le_trans S.frame.size aT.size,fun b hlt hb=>by
    rw[aT.block b (Nat.lt_of_lt_of_le hlt S.frame.size) (fun h=>by rcases(GX b h).2 with ak|ak;exact hb ak;omega)]
    exact S.frame.block b hlt hb⟩
  have awY:∀b,b∈ev++eu->b<w'.heap.size:=fun b hb=>by
   rcases List.mem_append.1 hb with hb|hb
   ·exact QF hB b hb
   ·exact aiQ dY b hb
  have lY:aq U Y (fun b=>X b\/b∈ev++(eu++[])) F {st with sites:=bu (bu st.sites dn) a.gone} M w':=je.shrink fun b hb=>by
   rcases hb with hb|hb
   ·exact .inl (.inl hb)
   ·rw[List.append_nil] at hb;rcases(hm b hb).2 with h|h
    ·exact .inl (.inr h)
    ·exact .inr ⟨h,awY b hb⟩
  obtain⟨av,Zt,atk,atj⟩:∃av:Nat->Prop,jm w' av (d_ a.as vs) ((ar a.as).fs y) ev/\lq w' av ((ar a.as).fl y) rv eu/\
    ∀c,aJ (fun b=>X b\/b∈ev++(eu++[])) F (bu (bu st.sites dn) a.gone) c->av c:=by
   cases sl with
   |false=>
    rw[Bool.or_eq_false_iff] at iI;exact⟨_,aff iI.2 hB,afg iI.1 dY,fun c hc=>hc⟩
   |true=>
    refine⟨_,hB,dY,fun c hc=>?_⟩
    rcases hc with(hc|hc)|⟨o,⟨af,h1,h2⟩,h3⟩
    ·exact .inl (acr c hc)
    ·rw[List.append_nil] at hc;exact .inr hc
    ·refine .inl ((ur c).2 ?_);have bz:o∉keys a.gone:=fun h=>by
      obtain⟨s,hs⟩:=zC h;rw[EH c1 hs] at h1;obtain⟨_,_,_,e⟩:=A.nL o s hs;cases h1;rw[e] at h2;cases h2
     rw[nO bz] at h1;have atm:a.eU=dn:=D0;rw[<-atm] at h1;have live:cq st.sites o:=OV A.fz ⟨af,h1,h2⟩;refine⟨.inr ⟨o,⟨af,h1,h2⟩,h3⟩,fun h=>?_,fun ab bW h=>?_⟩
     ·obtain⟨ab,aE,aF⟩:=nP.1 h;have:=S.eh o ab c live (sr ab aE) h3 aF;subst this;exact bz aE
     ·simp only[Bool.not_true,Bool.false_or,List.isEmpty_iff] at gN;rw[gN] at bW;simp at bW
  have L:Left U Y X F {st with sites:=bu (bu st.sites dn) a.gone} av (ev++(eu++[])):=by
   refine⟨by simpa using kU,fun b hb=>?_,atj⟩
   rw[List.append_nil] at hb;obtain⟨h1,h2⟩:=hm b hb;refine⟨fun hx=>h1 (acr b hx),?_⟩
   rcases h2 with h2|h2
   ·exact(GX b h2).2
   ·exact .inr (Nat.le_trans S.frame.size h2)
  have Wm:∀gh,lA st (bu (bu st.sites dn) a.gone) gh:=fun gh m _ af hs=>by
   have h1:∀af,look (bu st.sites dn) m=some af->af.cy<bw st m:=fun af hs=>by
    rcases lZ Zv m with h|⟨s,t,xs,aC,bk⟩
    ·rw[h] at hs;exact l0 hs
    ·rw[bk] at hs;cases hs;rcases aC with aC|aC<;>(have q:=l0 aC;exact q)
   by_cases hk:m∈keys a.gone
   ·obtain⟨s,fP⟩:=zC hk;rw[EH c1 fP] at hs;obtain⟨b5,e1,_,bC⟩:=D4 m s fP;rw[bC] at hs;cases hs;exact h1 b5 e1
   ·rw[nO hk] at hs;exact h1 af hs
  rw[j7] at c3;obtain⟨d1,d2,d3⟩:=List.nodup_append.1 c3;rw[A.dG] at Zt;obtain⟨gK,df,sd⟩:=Q9 st a.boxes (st:={st with sites:=bu (bu st.sites dn) a.gone}) lY (nI.of fun o s hs=>(A.fs o s hs).2) Zt
   (fun o s hs=>EH c1 (A.fs o s hs).1) L (Wm _) d1
  obtain⟨is,eC,kj,_⟩:=ajx st ((ar a.as).fl y) (2000000+d*10000) (st:={st with sites:=bu (bu (bu st.sites dn) a.gone) (gW st a.boxes ((ar a.as).fs y))}) df.ju atk sd
   (lA.step (Wm _) (fun n h1 h2=>d3 n h1 n h2 rfl)) d2
  have NN:aq U Y X is {st with sites:=bu st.sites (dn++a.gone++gW st a.boxes ((ar a.as).fs y)++(ef st (2000000+d*10000) ((ar a.as).fl y)).2)} M w':=by
   have:=eC.ju.shrink (X':=X) fun b hb=>.inl hb
   simpa only[ld] using this
  refine bT is _ w' (aq.cY NN aa (v:=V' (ef st (2000000+d*10000) ((ar a.as).fl y)).1) ?_);have WB:py is (bu st.sites (dn++a.gone++gW st a.boxes ((ar a.as).fs y)++(ef st (2000000+d*10000) ((ar a.as).fl y)).2)) w'
    (aJ X is (bu st.sites (dn++a.gone++gW st a.boxes ((ar a.as).fs y)++(ef st (2000000+d*10000) ((ar a.as).fl y)).2))) (ef st (2000000+d*10000) ((ar a.as).fl y)).1 rv:=by
   have e:(fun b=>X b\/b∈([]:List Nat))=X:=by funext b;simp
   rw[e] at kj;simpa only[ld] using kj
  generalize(ef st (2000000+d*10000) ((ar a.as).fl y)).1=awZ at WB;match awZ,rv,WB with
  |[],[],h=>exact⟨[],rfl,rfl,fun j h=>by simp at h⟩
  |[l],[v],h=>exact h.2 0 (by simp) (by simp)
  |l::fy::ai,v::v2::cv,h=>exact⟨v::v2::cv,rfl,h.1,h.2⟩
 rcases E with⟨h1,h2⟩|⟨v,w',h1,h2⟩
 ·unfold Oper.wp;rw[dw,h1,Oper.upon_enter];refine h2.mono fun e w' he=>?_
  cases e with
  |returned v=>
   have:=core v w' he;cases dJ:D.dst with
   |none=>rw[dJ] at this;simpa[Act.put,cE] using this
   |some t=>rw[dJ] at this;simpa[Act.put,cE] using this
  |panicked c=>exact he.elim
  |outgrown=>exact he.elim
 ·exact pc (dw.trans h1) (core v w' h2)
end
def Cs(P:Program)(g:FuncId):Prop:=
 ∀(b:Nat) (p v:Value) (w:World),w.heap[b]? =some (.cells #[p,v] rK (0,0))->(p=.pointer none\/p=.pointer (some ⟨b,0,none⟩))->
  Enters P g #[.pointer (some ⟨b,0,none⟩)] w fun r w'=>r=.tuple #[]/\w'=w.setRow b #[.pointer (some ⟨b,0,none⟩),v]
def CO(P:Program)(g:FuncId):Prop:=
 ∀(b:Nat) (p v:Value) (T:TypeId) (xs:List Int) (w:World),w.heap[b]? =some (.cells #[p,v] T (0,0))->rowAt w true mF 1 v xs.length (xs.map (Value.int .u8))->
  Enters P g #[.pointer (some ⟨b,0,none⟩)] w fun r w'=>r=.string ⟨(strOf xs).toArray⟩/\w'.os=w.os/\w'.tape=w.tape/\w'.output=w.output/\w.heap.size<=w'.heap.size/\
   (∀c,c<w.heap.size->bQ v≠some c->w'.heap[c]? =w.heap[c]?)/\∀c cur e fz,bQ v=some c->w.heap[c]? =some (.cells cur e fz)->∃fz',w'.heap[c]? =some (.cells cur e fz')
section
variable {P:Program}{U:World}{Y:List Nat}{X:Nat->Prop}{F:Nat->Value}{st:al}{M:Array Value}{w:World}{D:Oper}
theorem aq.akV(S:aq U Y X F st M w){o s:Nat}{t:bf}{xs:List (den t)}(hl:look st.sites o=some (.row s t xs)){w':World}(h1:w'.os=w.os)(h2:w'.tape=w.tape)(h3:w'.output=w.output)(aC:w.heap.size<=w'.heap.size)
  (bk:∀c,c<w.heap.size->bQ (F o)≠some c->w'.heap[c]? =w.heap[c]?) (ca:∀c cur e fz,bQ (F o)=some c->w.heap[c]? =some (.cells cur e fz)->∃fz',w'.heap[c]? =some (.cells cur e fz')):
  aq U Y X F {st with sites:=cw st.sites o (.dp s t xs)} M w':=by
 have cP:cq st.sites o:=⟨_,hl,rfl⟩;have ek:∀ab,cq (cw st.sites o (.dp s t xs)) ab->cq st.sites ab/\ab≠o:=by
  rintro ab ⟨af,h1,h2⟩;rw[c7] at h1;by_cases e:o=ab
  ·subst e;simp at h1;subst h1;cases h2
  ·simp only[e,if_false] at h1;exact⟨⟨af,h1,h2⟩,fun h=>e h.symm⟩
 have cc:∀bI,aJ X F (cw st.sites o (.dp s t xs)) bI->aJ X F st.sites bI:=by
  rintro bI (h|⟨ab,h1,h2⟩)
  ·exact .inl h
  ·exact .inr ⟨ab,(ek ab h1).1,h2⟩
 have aT:=S.frame;refine S.q4 (fun ab af bW=>?_) (fun bI h hb=>bk bI hb (fun ak=>h (.inr ⟨o,cP,ak⟩))) (fun bI h _ ak=>h (cc bI ak)) (fun go ab af bW=>?_) (fun ab ρ bI h1 h2=>S.eh ab ρ bI (ek ab h1).1 (ek ρ h2).1)
  (fun ab bI h=>S.ct ab bI (ek ab h).1) (fun ab bI h hb=>Nat.lt_of_lt_of_le (S.fI (ek ab h).1 hb) aC)
  ⟨h1.trans aT.os,h2.trans aT.tape,h3.trans aT.output,Nat.le_trans aT.size aC,fun b hb hn=>by
   have hs:=aT.size;rw[bk b (by omega) (fun ak=>by
    rcases(S.ct o b cP ak).2 with ak|ak
    ·exact hn ak
    ·omega)]
   exact aT.block b hb hn⟩ aC
 ·rw[c7];by_cases e:o=ab
  ·subst e;rw[hl] at bW;cases bW;exact⟨.dp s t xs,by simp,Nat.le_refl _,fun _=>rfl⟩
  ·exact⟨af,by simp[e,bW],Nat.le_refl _,fun _=>rfl⟩
 ·rw[c7] at bW;by_cases e:o=ab
  ·subst e;simp only[if_true,Option.some.injEq] at bW;subst bW;refine .inr ?_
   show bK _ _ (.sl t xs) (F o)/\Dk (F o);obtain⟨cI,cs,aE,aF⟩:=S.sites o _ hl;rcases aE.2 with⟨hn,h0⟩|⟨g,cap,cur,fz,hv,_,hg,hnc,_,_,htk⟩
   ·have:xs=[]:=List.eq_nil_of_length_eq_zero h0;subst this;rw[hn];exact⟨.nil t,.inl rfl⟩
   ·obtain⟨fz',hg'⟩:=ca g cur cI fz (by rw[hv];rfl) hg
    rw[hv];refine⟨?_,.inr ⟨_,_,_,rfl⟩⟩;have hlen:cs.length=(flat t xs).length:=by rw[e7];exact aE.1
    refine .sl t xs _ cap cs xs.length rfl hnc (fun _=>?_) hlen (fun j u hu=>?_) (fun j g1 g2=>po go (aF j g1 g2))
    ·rintro(hx|⟨ab,g1,g2⟩)
     ·exact(S.ct o g cP (by rw[hv];rfl)).1 hx
     ·obtain⟨g3,g4⟩:=ek ab g1;exact g4 (S.eh ab o g g3 cP g2 (by rw[hv];rfl))
    ·rw[gV,Nat.zero_add,cell_of_row w' g j cur cI fz' hg'];rw[<-htk,List.getElem?_take] at hu;split at hu
     ·simpa using hu
     ·cases hu
  ·simp only[e,if_false] at bW;refine .inl ⟨bW,rfl,fun tI b hb=>bk b (S.fI ⟨_,bW,tI⟩ hb) fun h=>e (S.eh o ab b cP ⟨_,bW,tI⟩ h hb)⟩
theorem F4{g:FuncId}{vs:List Value}{post:Value->World->Prop}(dw:(execOp (Act.eval ⟨M,[]⟩) D).run P w=(callFunc g vs.toArray).run P w)(eI:Enters P g vs.toArray w post){K:Act->World->Prop}{Q:Exit->Act->World->Prop}
  (core:∀v w',post v w'->K ⟨cE M D.dst v,[]⟩ w'):D.wp P ⟨M,[]⟩ w K Q:=by
 rcases eI with⟨h1,h2⟩|⟨v,w',h1,h2⟩
 ·unfold Oper.wp;rw[dw,h1,Oper.upon_enter];refine h2.mono fun e w' he=>?_
  cases e with
  |returned v=>
   have:=core v w' he;cases dJ:D.dst with
   |none=>rw[dJ] at this;simpa[Act.put,cE] using this
   |some t=>rw[dJ] at this;simpa[Act.put,cE] using this
  |panicked c=>exact he.elim
  |outgrown=>exact he.elim
 ·exact pc (dw.trans h1) (core v w' h2)
theorem ak6(S:aq U Y X F st M w){g:FuncId}(eI:Cs P g){cF:List a8}{vs:List Value}(hl:cF.length=vs.length)
  (hv:∀i (h:i<cF.length) (ak:i<vs.length),ck F st.sites w (aJ X F st.sites) (cF[i]) (vs[i])) (aa:cr st D.dst=true) (dw:(execOp (Act.eval ⟨M,[]⟩) D).run P w=(callFunc g vs.toArray).run P w):
  Holds (copyV st cF) (cM P U Y X st M w D):=by
 unfold copyV;split
 ·rename_i o s;split
  ·rename_i aN l gG;have gG:look st.sites o=some (.box aN [.dx,l]):=gG;cases lO:aN.beq s with
   |false=>exact .fail
   |true=>
    have:=Nat.eq_of_beq_eq_true lO;subst this;refine Holds.fF ?_
    intro K Q bT;match vs,hl,hv,dw with
    |[rR],_,hv,dw=>
    obtain⟨r4,hb0,lP⟩:eb F st.sites w (aJ X F st.sites) (.ptr o aN 0) rR:=hv 0 (by simp) (by simp)
    have lP:=Ref.at lP gG rfl;obtain⟨b,T,cur,e1,e2,bC,dy,fT,p'⟩:=S.sites o _ gG;rw[e1] at lP;have lP:b=r4:=by cases lP;rfl
    subst lP;subst hb0;match cur,e2,bC,dy,fT,p' with
    |[p,v],e2,_,dy,fT,p'=>
     obtain⟨rfl,hp⟩:=fT rfl;have hp:p=.pointer none\/p=.pointer (some ⟨b,0,none⟩):=by simpa using hp
     refine F4 dw (eI b p v w e2 hp) ?_
     rintro r w' ⟨rfl,rfl⟩;have cm:aq U Y X F {st with sites:=cw st.sites o (.box aN [.dx,l])} M (w.setRow b #[.pointer (some ⟨b,0,none⟩),v]):=by
      refine S.write gG rfl rfl rfl (by rw[e1];rfl) e2 (fun hs hw hg' go=>⟨b,rK,[.pointer (some ⟨b,0,none⟩),v],e1,hg',rfl,fun u hu=>?_,fun _=>⟨rfl,.inr rfl⟩,fun j h ak=>?_⟩)
      ·rcases List.mem_cons.1 hu with rfl|hu
       ·rfl
       ·exact dy u (List.mem_cons_of_mem _ hu)
      ·match j,h,ak with
       |0,_,_=>trivial
       |1,_,_=>exact go (a:=b7 l) (p' 1 (by simp) (by simp))
     exact bT _ _ _ (aq.cY (us:=[(o,.box aN [.dx,l])]) cm aa (v:=.jX []) ⟨[],rfl,rfl,fun j h=>by simp at h⟩)
  ·exact .fail
 ·exact .fail
theorem ajw{av:Nat->Prop}{xs:List Int}{cs:List Value}(h0:cs.length=xs.length)(h:∀j (h:j<(flat .u8 (xs:List (den .u8))).length) (ak:j<cs.length),bK w av ((flat .u8 (xs:List (den .u8)))[j]) (cs[j])):cs=xs.map (Value.int .u8):=by
 refine List.ext_getElem (by rw[List.length_map];exact h0) fun j g1 g2=>?_
 have acn:j<xs.length:=by simpa using g2
 have:=h j (by rw[e7];simpa[bd] using acn) g1
 rw[List.getElem_map];generalize aa:(flat .u8 (xs:List (den .u8)))[j]'(by rw[e7];simpa[bd] using acn)=d at this
 have hd2:d=.int .u8 xs[j]:=by
  rw[<-aa];simp only[sQ,List.getElem_map]
 subst hd2;generalize cs[j]=v at this;cases this;rfl
theorem agv(S:aq U Y X F st M w){g:FuncId}(eI:CO P g){cF:List a8}{vs:List Value}(hl:cF.length=vs.length)
  (hv:∀i (h:i<cF.length) (ak:i<vs.length),ck F st.sites w (aJ X F st.sites) (cF[i]) (vs[i])) (aa:cr st D.dst=true) (dw:(execOp (Act.eval ⟨M,[]⟩) D).run P w=(callFunc g vs.toArray).run P w):
  Holds (sH st cF) (cM P U Y X st M w D):=by
 unfold sH;split
 ·rename_i o s;match vs,hl,hv,dw with
  |[rR],_,hv,dw=>
  have nA:eb F st.sites w (aJ X F st.sites) (.ptr o s 0) rR:=hv 0 (by simp) (by simp)
  split
  ·rename_i ady ml;have gG:=gP ml;obtain⟨b,T,cur,cU,rfl,hg,_,hc⟩:=S.box gG nA;refine Holds.ok ?_
   intro K Q bT;obtain⟨p,r1,rfl,_,hc⟩:=hc.inv;obtain⟨v,r2,rfl,xu,hc⟩:=hc.inv;have:r2=[]:=List.eq_nil_of_length_eq_zero hc.1;subst this;have xu:v=.slice none 0 0:=xu;subst xu;refine F4 dw (eI b p _ T [] w hg (FC w true mF 1)) ?_
   rintro r w' ⟨rfl,aE,aF,bJ,cB,fS,ix⟩;have dz:=S.jump (w':=w') (fun c _ hc=>fS c hc (by simp[bQ])) cB ⟨aE.trans S.frame.os,aF.trans S.frame.tape,bJ.trans S.frame.output,Nat.le_trans S.frame.size cB,fun c hc hn=>by
    rw[fS c (Nat.lt_of_lt_of_le hc S.frame.size) (by simp[bQ])]
    exact S.frame.block c hc hn⟩
   have ib:aq U Y X F {st with sites:=bu st.sites []} M w':=dz.shrink fun b hb=>.inl hb
   exact bT _ _ _ (aq.cY (us:=[]) ib aa (v:=one (.str [])) (bK.str _ _ rfl))
  ·rename_i ady ab u ml;have gG:=gP ml;obtain⟨b,T,cur,cU,rfl,hg,_,hc⟩:=S.box gG nA;split
   ·rename_i bV xs hrow;have hrow:look st.sites ab=some (.row bV .u8 xs):=hrow;cases axl:bV.beq u with
    |false=>exact .fail
    |true=>
     have:=Nat.eq_of_beq_eq_true axl;subst this;refine Holds.fF ?_
     intro K Q bT;obtain⟨p,r1,rfl,_,hc⟩:=hc.inv;obtain⟨v,r2,rfl,xu,hc⟩:=hc.inv;have:r2=[]:=List.eq_nil_of_length_eq_zero hc.1;subst this;have Ze:v=F ab:=Ref.at xu.2 hrow rfl;obtain⟨e,cs,h1,h2⟩:=S.sites ab _ hrow;have hlen:cs.length=xs.length:=by have:=h1.1;simpa[bd] using this
     have hcs:cs=List.map (Value.int .u8) xs:=ajw hlen h2;have lG:rowAt w true mF 1 v xs.length (List.map (Value.int .u8) xs):=by
      rw[<-hcs,Ze];refine⟨h1.1,?_⟩;rcases h1.2 with h|⟨cC,cap,cur',fz,q1,q2,dF⟩
      ·exact .inl h
      ·have:=q2.1 rfl;subst this;exact .inr ⟨cC,cap,cur',fz,q1,q2,dF⟩
     refine F4 dw (eI b p v T xs w hg lG) ?_
     rintro r w' ⟨rfl,aE,aF,bJ,cB,fS,ix⟩;rw[Ze] at fS ix;have ib:=S.akV hrow aE aF bJ cB fS ix;exact bT _ _ _ (aq.cY (us:=[(ab,.dp bV .u8 xs)]) ib aa (v:=one (.str (strOf xs))) (bK.str _ _ (by simp)))
   ·exact .fail
  ·exact .fail
 ·exact .fail
end
def Bn(P:Program)(g cC:FuncId):Prop:=
 ∀(a b:ByteArray) (w:World),Enters P g #[.string a,.string b] w fun v w'=>∃df eC,v=.func (.func cC) #[] #[.pointer (some ⟨w.heap.size+1,0,none⟩),.pointer (some ⟨w.heap.size,0,none⟩),.pointer (some ⟨w.heap.size+2,0,none⟩)]/\
  w'=((w.alloc (.cells #[.string a] df)).alloc (.cells #[.string b] df)).alloc (.cells #[.int .i64 0] eC)
def Cq(P:Program)(g:FuncId):Prop:=
 ∀(xs:List Int) (v:Value) (w:World) (av:Nat->Prop),bK w av (.sl .u8 xs) v->Enters P g #[v] w fun v' w'=>∃u T,bK w av (.sl .u8 (xs.take 2000)) u/\v'=.pointer (some ⟨w.heap.size,0,none⟩)/\w'=w.alloc (.cells #[u,.int .i64 0] T)
structure aQ(P:Program)(C:Ctx):Prop extends CtxOk P C where
 bR:∀g S,C.bR g=some S->aA P g S
 Nt:P.follows .mixedOrders=true
 lS:∀g cC,C.lS g=some cC->Bn P g cC
 op:∀g,C.op g=true->Cq P g
 kt:∀g,C.kt g=true->Cs P g
 bs:∀g,C.bs g=true->CO P g
section
variable {P:Program}{U:World}{Y:List Nat}{X:Nat->Prop}{F:Nat->Value}{st:al}{M:Array Value}{w:World}{D:Oper}
theorem QR:∀{bE:List (Nat×Nat)} {cs:List (List bh)} {us:List (Nat×Site)} {bs:List Nat},lp st bE=some (cs,us,bs)->dU st.sites us/\∀o,o∈bs->cq st.sites o:=by
 intro bE;induction bE with
 |nil=>intro cs us bs h;simp only[lp] at h;cases h;exact⟨.nil,fun o h=>by simp at h⟩
 |cons c bE ih=>
  obtain⟨o,s⟩:=c;intro cs us bs h;simp only[lp] at h;split at h
  ·rename_i cells ml;split at h
   ·rename_i ds u1 rest u2 b2 gL pu;cases h;obtain⟨aE,aF⟩:=ih pu;refine⟨(I0 gL).append aE,fun ab bW=>?_⟩
    rcases List.mem_cons.1 bW with rfl|bW
    ·exact⟨_,gP ml,rfl⟩
    ·exact aF ab bW
   ·cases h
  ·cases h
theorem H_{l gA:aR}{us:List (Nat×Site)}{bs:List Nat}(h:nj st l=some (gA,us,bs)):dU st.sites us/\∀o,o∈bs->cq st.sites o:=by
 unfold nj at h;split at h
 ·cases h;exact⟨.nil,fun o h=>by simp at h⟩
 ·split at h
  ·rename_i hc;cases h;exact QR hc
  ·cases h
 ·split at h
  ·rename_i aa;cases h;exact⟨Vy aa,fun o h=>by simp at h⟩
  ·cases h
theorem akG:∀{ai gw:List aR} {us:List (Nat×Site)} {bs:List Nat},ma st ai=some (gw,us,bs)->dU st.sites us/\∀o,o∈bs->cq st.sites o:=by
 intro ai;induction ai with
 |nil=>intro gw us bs h;simp only[ma] at h;cases h;exact⟨.nil,fun o h=>by simp at h⟩
 |cons l ai ih=>
  intro gw us bs h;simp only[ma] at h;split at h
  ·rename_i a u1 b1 as u2 b2 h1 h2;cases h;obtain⟨aE,aF⟩:=H_ h1;obtain⟨bJ,cB⟩:=ih h2;refine⟨aE.append bJ,fun o bz=>?_⟩
   rcases List.mem_append.1 bz with h|h
   ·exact aF o h
   ·exact cB o h
  ·cases h
theorem aiA:∀{cF:List a8} {a:km},jl st cF=some a->dU st.sites a.eU/\∀o,o∈a.fW->cq st.sites o:=by
 intro cF;induction cF with
 |nil=>intro a h;simp only[jl] at h;cases h;exact⟨.nil,fun o h=>by simp at h⟩
 |cons rU cF ih=>
  intro a h;unfold jl at h;split at h
  ·cases ‹rU::cF=[]›
  ·rename_i b8;cases b8;split at h
   ·rename_i hr;split at h
    ·cases h;have q:=ih hr;exact q
    ·cases h
   ·cases h
  ·rename_i b8;cases b8;split at h
   ·rename_i h1 hr;cases h;obtain⟨aE,aF⟩:=H_ h1;obtain⟨bJ,cB⟩:=ih hr;refine⟨aE.append bJ,fun o bz=>?_⟩
    rcases List.mem_append.1 bz with h|h
    ·exact aF o h
    ·exact cB o h
   ·cases h
  ·rename_i b8;cases b8;split at h
   ·rename_i h1 hr;cases h;obtain⟨aE,aF⟩:=akG h1;obtain⟨bJ,cB⟩:=ih hr;refine⟨aE.append bJ,fun o bz=>?_⟩
    rcases List.mem_append.1 bz with h|h
    ·exact aF o h
    ·exact cB o h
   ·cases h
  ·cases h
theorem aiS{l gA:aR}{gs us:List (Nat×Site)}{bs:List Nat}(h:pi st l=some (gA,gs,us,bs)):dU st.sites us/\∀o,o∈bs->cq st.sites o:=by
 unfold pi at h;split at h
 ·split at h
  ·cases h;exact⟨.nil,fun o h=>by simp at h⟩
  ·cases h
 ·cases h;exact⟨.nil,fun o h=>by simp at h⟩
 ·split at h
  ·rename_i hl;cases h;exact H_ hl
  ·cases h
theorem agW:∀{cF:List a8} {a:km},l6 st cF=some a->dU st.sites a.eU/\∀o,o∈a.fW->cq st.sites o:=by
 intro cF;induction cF with
 |nil=>intro a h;simp only[l6] at h;cases h;exact⟨.nil,fun o h=>by simp at h⟩
 |cons rU cF ih=>
  intro a h;unfold l6 at h;split at h
  ·cases ‹rU::cF=[]›
  ·rename_i b8;cases b8;split at h
   ·rename_i h1 hr;cases h;obtain⟨aE,aF⟩:=aiS h1;obtain⟨bJ,cB⟩:=ih hr;refine⟨aE.append bJ,fun o bz=>?_⟩
    rcases List.mem_append.1 bz with h|h
    ·exact aF o h
    ·exact cB o h
   ·cases h
  ·cases h
theorem agU{b:Bool}{cF:List a8}{a:km}(h:sI b st cF=some a):dU st.sites a.eU/\∀o,o∈a.fW->cq st.sites o:=by
 cases b
 ·exact aiA h
 ·exact agW h
theorem aoY(S:aq U Y X F st M w)(C:Ctx):∀(xs:List Operand) (cZ:List TypeId),(gy C st xs cZ).length=(xs.map (Act.eval ⟨M,[]⟩)).length/\
  ∀i (h:i<(gy C st xs cZ).length) (ak:i<(xs.map (Act.eval ⟨M,[]⟩)).length),ck F st.sites w (aJ X F st.sites) ((gy C st xs cZ)[i]) ((xs.map (Act.eval ⟨M,[]⟩))[i]):=by
 intro xs;induction xs with
 |nil=>intro cZ;cases cZ<;>exact⟨rfl,fun i h=>by simp[gy] at h⟩
 |cons x xs ih=>
  intro cZ;have key:∀(T:TypeId) (M1:List TypeId),gy C st (x::xs) cZ=bg C st T x::gy C st xs M1->(gy C st (x::xs) cZ).length=((x::xs).map (Act.eval ⟨M,[]⟩)).length/\
    ∀i (h:i<(gy C st (x::xs) cZ).length) (ak:i<((x::xs).map (Act.eval ⟨M,[]⟩)).length),ck F st.sites w (aJ X F st.sites) ((gy C st (x::xs) cZ)[i]) (((x::xs).map (Act.eval ⟨M,[]⟩))[i]):=by
   intro T M1 e;obtain⟨aE,aF⟩:=ih M1;refine⟨by rw[e];simp[aE],fun i h ak=>?_⟩
   simp only[e];cases i with
   |zero=>exact dI S C T x
   |succ i=>
    simp only[List.getElem_cons_succ,List.map_cons];exact aF i (by simpa[e] using h) (by simpa using ak)
  cases cZ with
  |nil=>exact key 0 [] rfl
  |cons T cZ=>exact key T cZ rfl
theorem ahN(S:aq U Y X F st M w){g cC:FuncId}(eI:Bn P g cC){n:Nat}{cF:List a8}{vs:List Value}(hl:cF.length=vs.length)
  (hv:∀i (h:i<cF.length) (ak:i<vs.length),ck F st.sites w (aJ X F st.sites) (cF[i]) (vs[i])) (aa:cr st D.dst=true) (dw:(execOp (Act.eval ⟨M,[]⟩) D).run P w=(callFunc g vs.toArray).run P w):
  Holds (sW cC n st cF) (cM P U Y X st M w D):=by
 unfold sW;split
 ·rename_i s p;refine Holds.fF ?_
  intro K Q bT;match vs,hl,hv,dw with
  |[rR,vb],_,hv,dw=>
  obtain⟨a,ha,fo⟩:=gD (hv 0 (by simp) (by simp))
  obtain⟨b,hb,ed⟩:=gD (hv 1 (by simp) (by simp))
  simp only[List.getElem_cons_zero,List.getElem_cons_succ] at ha hb;subst ha hb;have core:∀v w',(∃df eC,v=.func (.func cC) #[] #[.pointer (some ⟨w.heap.size+1,0,none⟩),.pointer (some ⟨w.heap.size,0,none⟩),.pointer (some ⟨w.heap.size+2,0,none⟩)]/\
    w'=((w.alloc (.cells #[.string a] df)).alloc (.cells #[.string b] df)).alloc (.cells #[.int .i64 0] eC))->K ⟨cE M D.dst v,[]⟩ w':=by
   rintro v w' ⟨df,eC,rfl,hw⟩;have hsz:w'.heap.size=w.heap.size+3:=by rw[hw];simp
   have hold:∀b,b<w.heap.size->w'.heap[b]? =w.heap[b]? :=fun b hb=>by
    rw[hw];rw[RowKit.Below.heap_alloc _ _ _ (by simp;omega),RowKit.Below.heap_alloc _ _ _ (by simp;omega),RowKit.Below.heap_alloc _ _ _ hb]
   have h0:w'.heap[w.heap.size]? =some (.cells #[.string a] df):=by
    rw[hw,RowKit.Below.heap_alloc _ _ _ (by simp only[World.size_alloc];omega),RowKit.Below.heap_alloc _ _ _ (by simp only[World.size_alloc];omega)];exact World.alloc_heap_new w _
   have h1:w'.heap[w.heap.size+1]? =some (.cells #[.string b] df):=by
    rw[hw,RowKit.Below.heap_alloc _ _ _ (by simp only[World.size_alloc];omega)]
    have:=World.alloc_heap_new (w.alloc (.cells #[.string a] df)) (.cells #[.string b] df);rwa[World.size_alloc] at this
   have h2:w'.heap[w.heap.size+2]? =some (.cells #[.int .i64 0] eC):=by
    rw[hw];have:=World.alloc_heap_new ((w.alloc (.cells #[.string a] df)).alloc (.cells #[.string b] df)) (.cells #[.int .i64 0] eC);rwa[World.size_alloc,World.size_alloc] at this
   have ME:Fr Y U w':=⟨by rw[hw];exact S.frame.os,by rw[hw];exact S.frame.tape,by rw[hw];exact S.frame.output,by have:=S.frame.size;omega,fun b hb hn=>by
    have:=S.frame.size;rw[hold b (by omega)];exact S.frame.block b hb hn⟩
   have pr:=S.frame.size;have dz:=S.jump (w':=w') (fun b _ hb=>hold b hb) (by omega) ME
   have mk:∀{F:Nat->Value} {sites:List (Nat×Site)} {av:Nat->Prop} {m k:Nat} {T:TypeId} {x:Value} {d:bh},F m=.pointer (some ⟨k,0,none⟩)->w'.heap[k]? =some (.cells #[x] T)->bK w' av d x->
     kc F sites w' av m (.box (bw st m) [.d d]):=by
    intro F sites av m k T x d e1 e2 bC;refine⟨k,T,[x],e1,e2,rfl,fun u hu=>?_,(fun h=>by cases h),fun j h ak=>?_⟩
    ·rw[List.mem_singleton.1 hu];exact bC.jI
    ·match j,h,ak with
     |0,_,_=>exact bC
   obtain⟨N4,_,_⟩:=dz.wB (X':=fun b=>(X b\/(w.heap.size<=b/\b<w'.heap.size))/\b≠w.heap.size+1) (n:=n) (b5:=.box (bw st n) [.d (.str p)]) (nv:=.pointer (some ⟨w.heap.size+1,0,none⟩)) (fun b h=>h.1)
    (.inl fun af h=>l0 h) (fun b h=>by simp only[bQ,Option.some.injEq] at h;subst h;exact⟨.inr ⟨by omega,by omega⟩,fun h=>h.2 rfl,.inr (by omega)⟩) (fun _ e _ _=>mk e h1 (.str _ _ ed))
   obtain⟨N3,_,_⟩:=N4.wB (X':=fun b=>((X b\/(w.heap.size<=b/\b<w'.heap.size))/\b≠w.heap.size+1)/\b≠w.heap.size) (n:=n+1) (b5:=.box (bw st (n+1)) [.d (.str s)]) (nv:=.pointer (some ⟨w.heap.size,0,none⟩)) (fun b h=>h.1)
    (.inl fun af h=>by
     have h:look (cw st.sites n _) (n+1)=some af:=h;rw[c7,if_neg (by omega)] at h
     exact l0 h) (fun b h=>by simp only[bQ,Option.some.injEq] at h;subst h;exact⟨⟨.inr ⟨by omega,by omega⟩,by omega⟩,fun h=>h.2 rfl,.inr (by omega)⟩) (fun _ e _ _=>mk e h0 (.str _ _ fo))
   obtain⟨N2,_,_⟩:=N3.wB (X':=X) (n:=n+2) (b5:=.box (bw st (n+2)) [.d (.int .i64 0)]) (nv:=.pointer (some ⟨w.heap.size+2,0,none⟩)) (fun b h=>by have:=S.old b h;exact⟨⟨.inl h,by omega⟩,by omega⟩)
    (.inl fun af h=>by
     have h:look (cw (cw st.sites n _) (n+1) _) (n+2)=some af:=h;rw[c7,if_neg (by omega),c7,if_neg (by omega)] at h
     exact l0 h) (fun b h=>by simp only[bQ,Option.some.injEq] at h;subst h;exact⟨⟨⟨.inr ⟨by omega,by omega⟩,by omega⟩,by omega⟩,fun h=>by have:=S.old _ h;omega,.inr (by omega)⟩) (fun _ e _ _=>mk e h2 (.int _ _))
   refine bT _ _ w' (aq.cY (us:=[(n,.box (bw st n) [.d (.str p)]),(n+1,.box (bw st (n+1)) [.d (.str s)]),(n+2,.box (bw st (n+2)) [.d (.int .i64 0)])]) N2 aa (v:=b7 (.clo cC _)) ?_);refine⟨[.pointer (some ⟨w.heap.size+1,0,none⟩),.pointer (some ⟨w.heap.size,0,none⟩),.pointer (some ⟨w.heap.size+2,0,none⟩)],rfl,rfl,fun i hi jz=>?_⟩
   match i,hi,jz with
   |0,_,_=>exact⟨.box (bw st n) [.d (.str p)],by simp[bu,c7],Nat.le_refl _,fun _=>by simp⟩
   |1,_,_=>exact⟨.box (bw st (n+1)) [.d (.str s)],by simp[bu,c7],Nat.le_refl _,fun _=>by simp⟩
   |2,_,_=>exact⟨.box (bw st (n+2)) [.d (.int .i64 0)],by simp[bu,c7],Nat.le_refl _,fun _=>by simp⟩
  rcases eI a b w with⟨h1,h2⟩|⟨v,w',h1,h2⟩
  ·unfold Oper.wp;rw[dw,h1,Oper.upon_enter];refine h2.mono fun e w' he=>?_
   cases e with
   |returned v=>
    have:=core v w' he;cases dJ:D.dst with
    |none=>rw[dJ] at this;simpa[Act.put,cE] using this
    |some t=>rw[dJ] at this;simpa[Act.put,cE] using this
   |panicked c=>exact he.elim
   |outgrown=>exact he.elim
  ·exact pc (dw.trans h1) (core v w' h2)
 ·exact .fail
theorem akt(S:aq U Y X F st M w){g:FuncId}(eI:Cq P g){n:Nat}{cF:List a8}{vs:List Value}(hl:cF.length=vs.length)
  (hv:∀i (h:i<cF.length) (ak:i<vs.length),ck F st.sites w (aJ X F st.sites) (cF[i]) (vs[i])) (aa:cr st D.dst=true) (dw:(execOp (Act.eval ⟨M,[]⟩) D).run P w=(callFunc g vs.toArray).run P w):
  Holds (tl n st cF) (cM P U Y X st M w D):=by
 unfold tl;split
 ·rename_i xs;refine Holds.fF ?_
  intro K Q bT;match vs,hl,hv,dw with
  |[rR],_,hv,dw=>
  have dW:bK w (aJ X F st.sites) (.sl .u8 xs) rR:=hv 0 (by simp) (by simp)
  have core:∀v w',(∃u T,bK w (aJ X F st.sites) (.sl .u8 (xs.take 2000)) u/\v=.pointer (some ⟨w.heap.size,0,none⟩)/\w'=w.alloc (.cells #[u,.int .i64 0] T))->K ⟨cE M D.dst v,[]⟩ w':=by
   rintro v w' ⟨u,T,hu,rfl,hw⟩;have hsz:w'.heap.size=w.heap.size+1:=by rw[hw];simp
   have hold:∀b,b<w.heap.size->w'.heap[b]? =w.heap[b]? :=fun b hb=>by
    rw[hw,RowKit.Below.heap_alloc _ _ _ hb]
   have h0:w'.heap[w.heap.size]? =some (.cells #[u,.int .i64 0] T):=by rw[hw];exact World.alloc_heap_new w _
   have ME:Fr Y U w':=⟨by rw[hw];exact S.frame.os,by rw[hw];exact S.frame.tape,by rw[hw];exact S.frame.output,by have:=S.frame.size;omega,fun b hb hn=>by
    have:=S.frame.size;rw[hold b (by omega)];exact S.frame.block b hb hn⟩
   have pr:=S.frame.size;have dz:=S.jump (w':=w') (fun b _ hb=>hold b hb) (by omega) ME
   have gB:∀b,X b->b<w.heap.size:=S.old;have as7:∀b,aJ (fun b=>X b\/(w.heap.size<=b/\b<w'.heap.size)) F st.sites b->b<w'.heap.size:=fun b hb=>dz.lt hb
   have Mg:ck F st.sites w' (aJ (fun b=>X b\/(w.heap.size<=b/\b<w'.heap.size)) F st.sites) (one (.sl .u8 (xs.take 2000))) u:=by
    have G:io F F st.sites st.sites w w' (aJ X F st.sites) (aJ (fun b=>X b\/(w.heap.size<=b/\b<w'.heap.size)) F st.sites):=
     ⟨fun ab s h=>⟨s,h,Nat.le_refl _,fun _=>rfl⟩,fun b _ ed=>hold b ed,fun b hb ed ak=>by
      rcases ak with(ak|ak)|ak
      ·exact hb (.inl ak)
      ·omega
      ·exact hb (.inr ak)⟩
    exact ck.goes (a:=one (.sl .u8 (xs.take 2000))) G (by omega) as7 hu
   obtain⟨N4,aB1,aCf⟩:=dz.wB (X':=X) (n:=n) (b5:=.box (bw st n) [.d (.sl .u8 (xs.take 2000)),.d (.int .i64 0)]) (nv:=.pointer (some ⟨w.heap.size,0,none⟩)) (fun b h=>.inl h)
    (.inl fun af h=>l0 h) (fun b h=>by simp only[bQ,Option.some.injEq] at h;subst h;exact⟨.inr ⟨by omega,by omega⟩,fun h=>by have:=gB _ h;omega,.inr (by omega)⟩) (fun hs e go _=>by
     have Mf:=go Mg;refine⟨w.heap.size,T,[u,.int .i64 0],e,h0,rfl,fun x hx=>?_,(fun h=>by cases h),fun j h ak=>?_⟩
     ·rcases List.mem_cons.1 hx with rfl|hx
      ·exact bK.jI hu
      ·rw[List.mem_singleton.1 hx];rfl
     ·match j,h,ak with
      |0,_,_=>exact Mf
      |1,_,_=>exact bK.int .i64 0)
   refine bT _ _ w' (aq.cY (us:=[(n,.box (bw st n) [.d (.sl .u8 (xs.take 2000)),.d (.int .i64 0)])]) N4 aa (v:=b7 (.ptr n (bw st n) 0)) ?_);exact⟨w.heap.size,rfl,.box (bw st n) [.d (.sl .u8 (xs.take 2000)),.d (.int .i64 0)],by simp[bu,c7],Nat.le_refl _,fun _=>by simp⟩
  rcases eI xs rR w _ dW with⟨h1,h2⟩|⟨v,w',h1,h2⟩
  ·unfold Oper.wp;rw[dw,h1,Oper.upon_enter];refine h2.mono fun e w' he=>?_
   cases e with
   |returned v=>
    have:=core v w' he;cases dJ:D.dst with
    |none=>rw[dJ] at this;simpa[Act.put,cE] using this
    |some t=>rw[dJ] at this;simpa[Act.put,cE] using this
   |panicked c=>exact he.elim
   |outgrown=>exact he.elim
  ·exact pc (dw.trans h1) (core v w' h2)
 ·exact .fail
theorem OZ(S:aq U Y X F st M w){C:Ctx}(H:aQ P C){c:Go.Call}{f:Operand}(aM:D.op=.call c)(hf:c.callee=.value f)(aa:cr st D.dst=true)(d:Nat)(T:TypeId):
  Holds (l5 C d st (bg C st T f) (gy C st c.args.toList c.argTypes.toList)) (cM P U Y X st M w D):=by
 have bB:=dI S C T f;obtain⟨e1,e2⟩:=aoY S C c.args.toList c.argTypes.toList;have run:∀{g:FuncId} {e_:List Value},Act.eval ⟨M,[]⟩ f=.func (.func g) #[] e_.toArray->
   (execOp (Act.eval ⟨M,[]⟩) D).run P w=(callFunc g (c.args.toList.map (Act.eval ⟨M,[]⟩)++e_).toArray).run P w:=by
  intro g e_ hv;have x9:(#[]++c.args.map (Act.eval ⟨M,[]⟩))++e_.toArray=(c.args.toList.map (Act.eval ⟨M,[]⟩)++e_).toArray:=by apply Array.ext';simp
  unfold execOp;simp only[aM,resolve,hf,hv,Deferred.ofValue,Sem.run_bind,Sem.run_pure,Result.andThen_ok,invoke,x9]
 have go:∀{g:FuncId} {ar:aD} {a:km} {cs:List (List bh)} {us:List (Nat×Site)} {bs:List Nat} {e_:List Value} {gb:Bool},C.bR g=some ar->sI gb st (gy C st c.args.toList c.argTypes.toList)=some a->
   Act.eval ⟨M,[]⟩ f=.func (.func g) #[] e_.toArray->(dU st.sites us/\∀o,o∈bs->cq st.sites o)->
   (∀{dn e5 av},fD U Y X F st M w dn e5 av->(∀p,p∈us->p∈dn)->(∀o,o∈bs->o∈e5)->kB w av cs e_)->
   Holds (px d st ar {a with as:=a.as++n9 cs,eU:=a.eU++us,fW:=a.fW++bs}) (cM P U Y X st M w D):=by
  intro g ar a cs us bs e_ gb hg ha hv hz hcap;obtain⟨fQ,z2⟩:=agU ha;have hfz:dU st.sites (a.eU++us):=fQ.append hz.1;have D1:fD U Y X F st M w (a.eU++us) (a.fW++bs) (fun _=>False):=⟨⟨S,hfz⟩,fun b h=>h.elim,fun _ _ _ _ h=>h⟩
  obtain⟨m1,m2,m3,m4⟩:=Ph D1 ha e1 e2 (fun p hp=>List.mem_append.2 (.inl hp)) (fun p hp=>List.mem_append.2 (.inl hp))
  refine ak9 (a:={a with as:=a.as++n9 cs,eU:=a.eU++us,fW:=a.fW++bs}) S (H.bR g ar hg) (vs:=c.args.toList.map (Act.eval ⟨M,[]⟩)++e_) ⟨hfz,fun o bz=>?_,m2,fun av dR=>?_,?_,m4⟩ aa (run hv)
  ·rcases List.mem_append.1 bz with h|h
   ·exact z2 o h
   ·exact hz.2 o h
  ·obtain⟨n1,_,_,_⟩:=Ph dR ha e1 e2 (fun p hp=>List.mem_append.2 (.inl hp)) (fun p hp=>List.mem_append.2 (.inl hp))
   have n2:=ahd (hcap dR (fun p hp=>List.mem_append.2 (.inr hp)) (fun p hp=>List.mem_append.2 (.inr hp)))
   have:=n1.append n2;rwa[List.append_nil] at this
  ·show d_ (a.as++n9 cs) _=_;rw[Oo m1.length,m3,ahf,List.append_nil]
 unfold l5;split
 ·rename_i g bE MF;rw[MF] at bB;obtain⟨e_,h1,h2,h3⟩:=bB;split
  ·rename_i cC j0;split
   ·have hcv:e_=[]:=List.eq_nil_of_length_eq_zero (by simpa using h2)
    subst hcv;have r:=run h1;rw[List.append_nil] at r;exact ahN S (H.lS g cC j0) e1 e2 aa r
   ·exact .fail
  ·cases Mo:C.op g with
   |true=>
    simp only[cond_true];split
    ·have hcv:e_=[]:=List.eq_nil_of_length_eq_zero (by simpa using h2)
     subst hcv;have r:=run h1;rw[List.append_nil] at r;exact akt S (H.op g Mo) e1 e2 aa r
    ·exact .fail
   |false=>
    simp only[cond_false];have Wk:bE=[]->(execOp (Act.eval ⟨M,[]⟩) D).run P w=(callFunc g (c.args.toList.map (Act.eval ⟨M,[]⟩)).toArray).run P w:=by
     rintro rfl;have hcv:e_=[]:=List.eq_nil_of_length_eq_zero (by simpa using h2)
     subst hcv;have r:=run h1;rwa[List.append_nil] at r
    cases acb:C.kt g with
    |true=>
     simp only[cond_true];split
     ·exact ak6 S (H.kt g acb) e1 e2 aa (Wk rfl)
     ·exact .fail
    |false=>
     simp only[cond_false];cases ez:C.bs g with
     |true=>
      simp only[cond_true];split
      ·exact agv S (H.bs g ez) e1 e2 aa (Wk rfl)
      ·exact .fail
     |false=>
      simp only[cond_false];split
      ·rename_i ar a cs us bs hg ha hc;exact go hg ha h1 (QR hc) (fun dR hu hb=>QQ dR hc hu hb h2 h3)
      ·exact .fail
 ·rename_i g bE MF;rw[MF] at bB;obtain⟨e_,h1,_⟩:=kB.Wb bB;split
  ·rename_i ar a hg ha;have:=go (us:=[]) (bs:=[]) (cs:=bE) (gb:=false) hg ha h1 ⟨.nil,fun o h=>by simp at h⟩ (fun {dn e5 av} dR _ _=>by
    obtain⟨aBP,aE,aF⟩:=kB.Wb (dR.xe (bB:bK w (aJ X F st.sites) (.fn g bE) _));rw[h1] at aE;simp only[Value.func.injEq,Fn.func.injEq,true_and] at aE;have e:=congrArg Array.toList aE;simp only at e;rw[e];exact aF)
   simpa only[List.append_nil] using this
  ·exact .fail
 ·exact .fail
theorem alA(S:aq U Y X F st M w){C:Ctx}(H:aQ P C)(aa:cr st D.dst=true):Holds (step C st D) (cM P U Y X st M w D):=by
 unfold step;split
 ·rename_i x aM;exact Holds.ok (Tb S (.inl aM) aa _)
 ·rename_i x aM;exact Holds.ok (Tb S (.inr aM) aa _)
 ·rename_i c a b aM;split
  ·rename_i hc;exact Holds.ok (S5 S aM aa hc)
  ·rename_i hc;exact Holds.ok (S5 S aM aa hc)
  ·exact .fail
 ·rename_i elem aM;split
  ·rename_i o e t n dJ bl;exact ai8 S H.toCtxOk bl aM aa
  ·rename_i o dJ _;split
   ·rename_i z hz;exact Holds.fF (alh S H.toCtxOk aM dJ hz aa)
   ·exact .fail
  ·exact .fail
 ·rename_i elem x aM;split
  ·rename_i o e t n dJ bl;exact anl S H.toCtxOk bl aM aa
  ·rename_i o dJ _;split
   ·rename_i a ha;cases dV:hK a.cells with
    |false=>exact .fail
    |true=>
     have bB:=dI S C elem x;rw[ql ha] at bB;exact Holds.fF (ao6 S aM dJ bB dV aa)
   ·exact .fail
  ·exact .fail
 ·rename_i t parts aM;split
  ·rename_i bR n z eq bl;exact ala S H.toCtxOk bl aM aa
  ·rename_i e ty n bl;split
   ·rename_i z hz;exact ai5 S H.toCtxOk bl hz aM aa
   ·exact .fail
  ·exact .fail
 ·rename_i t len parts aM;split
  ·rename_i o e ty bytes dJ bl;cases hb:(parts.toList.length.beq len&&sK 0 parts.toList&&Nat.ble (len*bd ty) 1000) with
   |false=>exact .fail
   |true=>
    simp only[Bool.and_eq_true] at hb;obtain⟨⟨b1,b2⟩,b3⟩:=hb;simp only[cond_true];split
    ·rename_i as has;split
     ·rename_i xs us kk;exact Holds.fF (aeD S H.toCtxOk bl aM dJ aa (Nat.eq_of_beq_eq_true b1) b2 (Nat.le_of_ble_eq_true b3) has kk)
     ·exact .fail
    ·exact .fail
  ·exact .fail
 ·rename_i t a aM;split
  ·rename_i e ty n bl;exact akB S H.toCtxOk bl aM aa
  ·cases hk:(C.tt t).known with
   |false=>exact .fail
   |true=>exact amR S H.toCtxOk aM aa hk
 ·rename_i t a x aM;split
  ·rename_i v hv;split
   ·rename_i e ty n bl;exact ahL S H.toCtxOk bl aM aa hv
   ·cases hk:(C.tt t).known with
    |false=>exact .fail
    |true=>exact ajB S H.toCtxOk aM aa hk hv
  ·exact .fail
 ·rename_i x aM;split
  ·rename_i hx;exact Holds.ok (ET S aM aa hx fun vv h=>by obtain⟨b,h,_⟩:=h;exact⟨_,h⟩)
  ·rename_i hx;exact Holds.ok (ET S aM aa hx fun vv h=>by obtain⟨b,D,h,_⟩:=h;exact⟨_,h⟩)
  ·rename_i hx;exact Holds.ok (ET S aM aa hx fun vv h=>by obtain⟨b,h,_⟩:=h;exact⟨_,h⟩)
  ·exact .fail
 ·rename_i op t x y nJ aM;cases hn:BW y with
  |true=>exact aiW S H.toCtxOk aM aa hn
  |false=>exact ano S H.toCtxOk aM aa
 ·rename_i op t x aM;split
  ·rename_i b hx;exact Holds.ok (afw S aM aa hx)
  ·rename_i k n hx;exact Holds.ok (afx S aM aa hx)
  ·rename_i k n hx;exact Holds.ok (afv (T:=D.type) S aM aa hx)
  ·exact .fail
 ·rename_i src dst x aM;split
  ·rename_i o dJ;exact ak7 S H.toCtxOk aM dJ aa
  ·exact .fail
 ·rename_i fn first captured aM
  split
  ·rename_i g;cases hf:first.toList.isEmpty with
   |false=>exact .fail
   |true=>
    simp only[cond_true];split
    ·rename_i bE hc;exact Holds.ok (afU S aM aa hf hc)
    ·exact .fail
  ·exact .fail
 ·rename_i t l c aM;split
  ·rename_i o e ty bytes x2 n x3 m dJ bl hl hc;split
   ·rename_i z hz;split
    ·rename_i ds us gL;split
     ·rename_i eY ny;exact Holds.hT fun r hr=>ae6 S H.toCtxOk bl aM dJ aa hl hc hz gL ny r hr
     ·exact .fail
    ·exact .fail
   ·exact .fail
  ·exact .fail
 ·rename_i t x cW hi Eo aM;split
  ·split
   ·rename_i e ty n bl;exact ahP S H.toCtxOk bl aM aa
   ·exact ajH S H.toCtxOk aM aa
  ·exact .fail
 ·rename_i s x f aM;split
  ·rename_i bR n z eq bl;split
   ·rename_i off Nr hf;exact afi S H.toCtxOk bl aM aa hf
   ·exact .fail
  ·exact .fail
 ·rename_i t x i aM;split
  ·rename_i e ty bytes k n bl hi;exact afe S H.toCtxOk bl hi aM aa
  ·rename_i e ty m k n bl hi;exact aez S H.toCtxOk bl hi aM aa
  ·exact .fail
 ·rename_i t x i aM;split
  ·rename_i s k n bl hx hi;exact akM S H.toCtxOk aM aa bl hx hi
  ·rename_i e ty m k n bl hi;exact aiO S H.toCtxOk bl hi aM aa
  ·exact .fail
 ·rename_i t i aM;split
  ·rename_i as hx;split
   ·rename_i a ha;exact Holds.ok (ag4 S aM aa hx ha)
   ·exact .fail
  ·exact .fail
 ·rename_i c aM;split
  ·rename_i f hf;split
   ·exact OZ S H aM hf aa _ _
   ·exact OZ S H aM hf aa _ _
  ·rename_i b hb;obtain⟨callee,args,argTypes⟩:=c;simp only at hb aM ⊢;subst hb;split
   ·rename_i x t oe KK;have e1:args=#[x]:=Array.ext' oe;have e2:argTypes=#[t]:=Array.ext' KK;subst e1 e2;exact aoI S H.toCtxOk aM aa
   ·rename_i o s x t u dJ oe KK;have e1:args=#[s,x]:=Array.ext' oe;have e2:argTypes=#[t,u]:=Array.ext' KK;subst e1 e2;split
    ·rename_i bl gM;exact ai7 S H.toCtxOk bl gM aM dJ aa
    ·rename_i bl gM;exact ahj S H.toCtxOk bl gM aM dJ aa
    ·exact .fail
   ·rename_i x y oe;have e1:args=#[x,y]:=Array.ext' oe;subst e1;split
    ·rename_i hx hy;exact Holds.ok (Qw (tq:=true) S aM aa hx hy)
    ·exact .fail
   ·rename_i x y z u v oe;have e1:args=#[x,y,z,u,v]:=Array.ext' oe;subst e1;split
    ·rename_i hx hy hz hu hv;exact Holds.ok (amP S aM aa hx hy hz hu hv)
    ·exact .fail
   ·rename_i x y oe;have e1:args=#[x,y]:=Array.ext' oe;subst e1;split
    ·rename_i hx hy;exact Holds.ok (Qw (tq:=false) S aM aa hx hy)
    ·exact .fail
   ·exact .fail
  ·exact .fail
 ·exact agX S H.toCtxOk aa
end
section
variable {st ap:al}
theorem mP{o:Nat}(h:st.af o=ap.af o)(s:Nat):rowOf st o s=rowOf ap o s:=by unfold rowOf;rw[h]
theorem uV{o:Nat}(h:st.af o=ap.af o)(s:Nat):fM st o s=fM ap o s:=by unfold fM;rw[h]
theorem mN{o:Nat}(h:st.af o=ap.af o):bw st o=bw ap o:=by unfold bw;rw[h]
abbrev cJ(st ap:al)(N:List Nat):Prop:=∀o,o∈N->st.af o=ap.af o
theorem cJ.left{N fb:List Nat}(h:cJ st ap (N++fb)):cJ st ap N:=fun o bz=>h o (List.mem_append.2 (.inl bz))
theorem cJ.right{N fb:List Nat}(h:cJ st ap (N++fb)):cJ st ap fb:=fun o bz=>h o (List.mem_append.2 (.inr bz))
theorem cJ.head{n:Nat}{fb:List Nat}(h:cJ st ap (n::fb)):st.af n=ap.af n:=h n List.mem_cons_self
theorem cJ.tail{n:Nat}{fb:List Nat}(h:cJ st ap (n::fb)):cJ st ap fb:=fun o bz=>h o (List.mem_cons_of_mem _ bz)
theorem sw{N:List Nat}(h:cJ st ap (e0 st N)):cJ st ap N:=by
 induction N with
 |nil=>intro o bz;cases bz
 |cons n N ih=>
  intro o bz;rcases List.mem_cons.1 bz with rfl|bz
  ·exact h.head
  ·exact ih h.tail.right o bz
theorem R7{N:List Nat}(h:cJ st ap (e0 st N)){o:Nat}(bz:o∈N):cJ st ap (yM st o):=by
 induction N with
 |nil=>cases bz
 |cons n N ih=>
  rcases List.mem_cons.1 bz with rfl|bz
  ·exact h.tail.left
  ·exact ih h.tail.right bz
theorem F5{N fb:List Nat}:e0 st (N++fb)=e0 st N++e0 st fb:=by
 induction N with
 |nil=>rfl
 |cons n N ih=>simp[e0,ih]
theorem QP{l:aR}(h:cJ st ap l.names):j4 st l=j4 ap l:=by
 cases l<;>try rfl
 case own o s=>simp only[j4,mn];rw[mP (h.head) s,h.head]
 case clo g bE=>cases bE<;>rfl
theorem yE{ai:List aR}(h:cJ st ap (dM ai)):f_ st ai=f_ ap ai:=by
 induction ai with
 |nil=>rfl
 |cons l ai ih=>
  simp only[dM] at h;simp only[f_,QP h.left,ih h.right]
theorem EY{o s:Nat}{cells:List aR}(h:fM st o s=some cells):yM st o=dM cells:=by
 unfold fM at h;cases hs:st.af o with
 |none=>rw[hs] at h;cases h
 |some x=>
  rw[hs] at h;cases x with
  |box aN cs=>
   have h:(bif aN.beq s then some cs else none)=some cells:=h
   unfold yM;rw[hs];cases hb:aN.beq s with
   |true=>simp only[hb,cond_true,Option.some.injEq] at h;subst h;rfl
   |false=>simp[hb] at h
  |row _ _ _=>cases h
  |dp _ _ _=>cases h
  |map _ _ _=>cases h
  |dead _=>cases h
theorem afV{agg:Bool}{n:Nat}{a:a8}(h:cJ st ap a.names):to agg n st a=to agg n ap a:=by
 unfold to;split
 ·rename_i o s off;rw[uV (show st.af o=ap.af o from h o (by simp[a8.names,bS.cells,dM,aR.names]))]
 ·rfl
 ·rename_i o s u k off;rw[mP (show st.af o=ap.af o from h o (by simp[a8.names,bS.cells,dM,aR.names]))]
 ·rfl
theorem aeV{n:Nat}{a:a8}{v:bS}(h:cJ st ap a.names)(hv:cJ st ap (dM v.cells)):sU n st a v=sU n ap a v:=by
 unfold sU;congr 1
 split
 ·rename_i o s off;rw[uV (show st.af o=ap.af o from h o (by simp[a8.names,bS.cells,dM,aR.names]))]
 ·rename_i o s u k off;rw[show st.af o=ap.af o from h o (by simp[a8.names,bS.cells,dM,aR.names]),yE hv]
 ·rfl
theorem ad3{u:bf}{x:a8}{i:Int}(h:cJ st ap x.names):sk u st x i=sk u ap x i:=by
 unfold sk;split
 ·rfl
 ·rename_i o s;rw[mP (show st.af o=ap.af o from h o (by simp[a8.names,bS.cells,dM,aR.names]))]
 ·rfl
theorem aeY{ti:cg}{x:a8}{cW hi:Option a8}(h:cJ st ap x.names):sX ti st x cW hi=sX ti ap x cW hi:=by
 unfold sX;split
 ·rfl
 ·rfl
 ·rfl
 ·rename_i o s;simp only[mn];rw[mP (show st.af o=ap.af o from h o (by simp[a8.names,bS.cells,dM,aR.names])),show st.af o=ap.af o from h o (by simp[a8.names,bS.cells,dM,aR.names])]
 ·rfl
theorem ON{l:aR}(h:cJ st ap l.names):mapOf st l=mapOf ap l:=by
 cases l<;>try rfl
 case own o s=>simp only[mapOf];rw[h.head]
 case d v=>cases v<;>rfl
theorem agZ{ti:cg}{x:a8}(h:cJ st ap x.names):tF ti st x=tF ti ap x:=by
 unfold tF;split<;>try rfl
 rotate_left
 ·rename_i l;rw[ON (l:=l) (fun o bz=>h o (by simp[a8.names,bS.cells,dM,bz]))]
 rename_i o s;rw[mP (show st.af o=ap.af o from h o (by simp[a8.names,bS.cells,dM,aR.names]))]
theorem afB{x:a8}(h:cJ st ap x.names):th st x=th ap x:=by
 unfold th;split<;>try rfl
 rename_i o s;rw[mP (show st.af o=ap.af o from h o (by simp[a8.names,bS.cells,dM,aR.names]))]
theorem adY{o dst s:Nat}(aa:st.af dst=ap.af dst):bw (st.iy o (.dead s)) dst=bw (ap.iy o (.dead s)) dst:=by
 apply mN;rw[al.yj,al.yj,aa]
theorem Oc{bytes:Nat}{t:bf}{dst:Nat}{s:a8}{bj:List (den t)}(h:cJ st ap s.names)(aa:st.af dst=ap.af dst):qL bytes t dst st s bj=qL bytes t dst ap s bj:=by
 unfold qL;split
 ·simp only[mN aa]
 ·rename_i o s;simp only[show st.af o=ap.af o from h o (by simp[a8.names,bS.cells,dM,aR.names]),adY aa]
 ·rfl
theorem aeE{bytes:Nat}{t:bf}{dst:Nat}{s x:a8}(h:cJ st ap s.names)(hx:cJ st ap x.names)(aa:st.af dst=ap.af dst):sS bytes t dst st s x=sS bytes t dst ap s x:=by
 unfold sS;rw[afB hx];split
 ·rfl
 ·split
  ·split
   ·exact Oc h aa
   ·rfl
  ·rfl
theorem aeF{bytes:Nat}{t:bf}{dst:Nat}{s x:a8}(h:cJ st ap s.names)(aa:st.af dst=ap.af dst):sT bytes t dst st s x=sT bytes t dst ap s x:=by
 unfold sT;split
 ·split
  ·exact Oc h aa
  ·rfl
 ·rfl
theorem Pg{o:Nat}{t:bf}{n:Nat}{xs:List (den t)}(aa:st.af o=ap.af o):q8 o st t n xs=q8 o ap t n xs:=by
 unfold q8;rw[mN aa]
theorem afl{o:Nat}{t:bf}{n:Nat}(aa:st.af o=ap.af o):tc o st t n=tc o ap t n:=by
 unfold tc;split<;>first|exact Pg aa|rfl
theorem ahg{o:Nat}{t:bf}{n:Nat}{v:a8}(aa:st.af o=ap.af o):tP o st t n v=tP o ap t n v:=by
 unfold tP;split
 ·split<;>first|exact Pg aa|rfl
 ·rfl
theorem afW{t:bf}{n:Nat}{a:a8}(h:cJ st ap a.names):tp st t n a=tp ap t n a:=by
 unfold tp;split
 ·rename_i o s u;rw[mP (show st.af o=ap.af o from h o (by simp[a8.names,bS.cells,dM,aR.names]))]
 ·rfl
theorem aeW{t:bf}{n:Nat}{a:a8}{v:bS}(h:cJ st ap a.names):sV st t n a v=sV ap t n a v:=by
 unfold sV;split
 ·rename_i o s u ai;rw[show st.af o=ap.af o from h o (by simp[a8.names,bS.cells,dM,aR.names])]
 ·rfl
theorem ad4{C:Ctx}{t:bf}{n:Nat}{x:a8}{i:Int}(h:cJ st ap x.names):sn C st t n x i=sn C ap t n x i:=by
 unfold sn;split
 ·rename_i o s u;rw[mP (show st.af o=ap.af o from h o (by simp[a8.names,bS.cells,dM,aR.names]))]
 ·rfl
 ·rfl
theorem aeZ{t:bf}{n:Nat}{x:a8}{cW hi:Option a8}(h:cJ st ap x.names):sY st t n x cW hi=sY ap t n x cW hi:=by
 unfold sY;split
 ·rename_i o s u;simp only[mn];rw[mP (show st.af o=ap.af o from h o (by simp[a8.names,bS.cells,dM,aR.names])),show st.af o=ap.af o from h o (by simp[a8.names,bS.cells,dM,aR.names])]
 ·rfl
theorem ahb{t:bf}{as:List bS}(h:cJ st ap (sE as)):lK t st as=lK t ap as:=by
 induction as with
 |nil=>rfl
 |cons a as ih=>
  simp only[sE] at h;simp only[lK,yE h.left,ih h.right]
theorem af9{C:Ctx}{src dst:TypeId}{o:Nat}{x:a8}(h:cJ st ap x.names)(aa:st.af o=ap.af o):tw C src dst o st x=tw C src dst o ap x:=by
 unfold tw;split<;>try rfl
 ·rename_i ab s _ _;rw[mP (show st.af ab=ap.af ab from h ab (by simp[a8.names,bS.cells,dM,aR.names]))]
 ·rw[mN aa]
theorem On{bE:List (Nat×Nat)}(h:cJ st ap (e0 st (keys bE))):lp st bE=lp ap bE:=by
 induction bE with
 |nil=>rfl
 |cons p bE ih=>
  obtain⟨o,s⟩:=p;simp only[keys,e0] at h;simp only[lp];rw[<-uV h.head,<-ih h.tail.right];cases hb:fM st o s with
  |none=>rfl
  |some cells=>
   have:=h.tail.left;rw[EY hb] at this;simp only[yE this]
theorem E5{l:aR}(h:cJ st ap (e0 st l.names)):nj st l=nj ap l:=by
 have aa:=QP (sw h);unfold nj;split
 ·rfl
 ·rename_i g c cs;simp only[aR.names] at h;rw[On h]
 ·rw[aa]
theorem afY{ai:List aR}(h:cJ st ap (e0 st (dM ai))):ma st ai=ma ap ai:=by
 induction ai with
 |nil=>rfl
 |cons l ai ih=>
  simp only[dM,F5] at h;simp only[ma,E5 h.left,ih h.right]
theorem OT{l:aR}(h:cJ st ap l.names):og st l=og ap l:=by
 unfold og;split<;>try rfl
 rename_i o s;rw[show st.af o=ap.af o from h.head]
theorem ag3{ai:List aR}(h:cJ st ap (dM ai)):kL st ai=kL ap ai:=by
 induction ai with
 |nil=>rfl
 |cons l ai ih=>
  simp only[dM] at h;simp only[kL,OT h.left,ih h.right]
def gQ:List a8->List Nat
 |[]=>[]
 |v::vs=>v.names++gQ vs
theorem Oj{vs:List a8}(h:cJ st ap (e0 st (gQ vs))):jl st vs=jl ap vs:=by
 induction vs with
 |nil=>rfl
 |cons v vs ih=>
  simp only[gQ,F5] at h;have ih:=ih h.right;have h:=h.left;cases v with
  |jX as=>rfl
  |av a=>
   cases a with
   |agg ai=>
    simp only[jl];rw[afY (by simpa[a8.names,bS.cells] using h),ih]
   |an l=>
    have hl:cJ st ap (e0 st l.names):=by simpa[a8.names,bS.cells,dM] using h
    unfold jl;split
    ·rfl
    ·rename_i o s aww b8;cases b8;have hl:cJ st ap (e0 st [o]):=by simpa[a8.names,bS.cells,dM,aR.names] using h
     simp only[e0] at hl;rw[<-uV hl.head,<-ih];cases hb:fM st o s with
     |none=>rfl
     |some cells=>
      have:=hl.tail.left;rw[EY hb] at this;cases jl st vs with
      |none=>rfl
      |some r=>simp only[ag3 this]
    ·rename_i gA aww _ b8;cases b8;rw[E5 hl,ih]
    ·rename_i b8;cases b8
    ·rfl
theorem afh{l:aR}(h:cJ st ap (e0 st l.names)):pi st l=pi ap l:=by
 unfold pi;split
 ·rw[OT (sw h)]
 ·rfl
 ·rw[E5 h]
theorem aew{vs:List a8}(h:cJ st ap (e0 st (gQ vs))):l6 st vs=l6 ap vs:=by
 induction vs with
 |nil=>rfl
 |cons v vs ih=>
  simp only[gQ,F5] at h;have ih:=ih h.right;have h:=h.left;cases v with
  |jX as=>rfl
  |av a=>
   cases a with
   |agg ai=>rfl
   |an l=>
    have hl:cJ st ap (e0 st l.names):=by simpa[a8.names,bS.cells,dM] using h
    simp only[l6,afh hl,ih]
theorem aev{b:Bool}{vs:List a8}(h:cJ st ap (e0 st (gQ vs))):sI b st vs=sI b ap vs:=by
 cases b
 ·exact Oj h
 ·exact aew h
theorem uU(hb:∀o,1000000<=o->st.af o=ap.af o){o:Nat}(h:1000000<=o):bw st o=bw ap o:=mN (hb o h)
theorem E0(hb:∀o,1000000<=o->st.af o=ap.af o):∀{ai:List aR} {n:Nat},1000000<=n->take st n ai=take ap n ai:=by
 intro ai;induction ai with
 |nil=>intro n _;rfl
 |cons l ai ih=>
  intro n hn;cases l<;>simp only[take,ih (show 1000000<=n+1 by omega),uU hb hn]
theorem afz(hb:∀o,1000000<=o->st.af o=ap.af o):∀{as:List bS} {n:Nat},1000000<=n->ef st n as=ef ap n as:=by
 intro as;induction as with
 |nil=>intro n _;rfl
 |cons a as ih=>
  intro n hn;cases a with
  |an l=>simp only[ef];rw[E0 hb hn,ih (show 1000000<=n+100 by omega)]
  |agg ai=>simp only[ef];rw[E0 hb hn,ih (show 1000000<=n+100 by omega)]
theorem afy(hb:∀o,1000000<=o->st.af o=ap.af o):∀{bs:List (Nat×Nat)} {cQ:List (List aR)},gW st bs cQ=gW ap bs cQ:=by
 intro bs;induction bs with
 |nil=>intro cQ;cases cQ<;>rfl
 |cons p bs ih=>
  obtain⟨o,s⟩:=p;intro cQ;cases cQ with
  |nil=>rfl
  |cons cs cQ=>simp only[gW];rw[E0 hb (by omega),ih]
theorem OY(hb:∀o,1000000<=o->st.af o=ap.af o){dst:Nat}{S:aD}{a:km}:px dst st S a=px dst ap S a:=by
 unfold px;simp only[afy hb,afz hb (show 1000000<=2000000+dst*10000 by omega)]
theorem aeX{g:FuncId}{n:Nat}{vs:List a8}(hb:∀o,1000000<=o->st.af o=ap.af o)(hn:1000000<=n):sW g n st vs=sW g n ap vs:=by
 unfold sW;rw[uU hb hn,uU hb (show 1000000<=n+1 by omega),uU hb (show 1000000<=n+2 by omega)]
theorem afP{n:Nat}{vs:List a8}(hb:∀o,1000000<=o->st.af o=ap.af o)(hn:1000000<=n):tl n st vs=tl n ap vs:=by
 unfold tl;rw[uU hb hn]
theorem af8{vs:List a8}(h:cJ st ap (e0 st (gQ vs))):copyV st vs=copyV ap vs:=by
 unfold copyV;split
 ·rename_i o s;rw[show st.af o=ap.af o from sw h o (by simp[gQ,a8.names,bS.cells,dM,aR.names])]
 ·rfl
theorem aes{vs:List a8}(h:cJ st ap (e0 st (gQ vs))):sH st vs=sH ap vs:=by
 unfold sH;split
 ·rename_i o s;have h0:o∈gQ [a8.av (.an (.ptr o s 0))]:=by simp[gQ,a8.names,bS.cells,dM,aR.names]
  rw[<-uV (sw h o h0)];split
  ·rfl
  ·rename_i ady ab u hb;have:=R7 h h0;rw[EY hb] at this;rw[show st.af ab=ap.af ab from this ab (by simp[dM,aR.names])]
  ·rfl
 ·rfl
theorem N'{C:Ctx}(hb:∀o,1000000<=o->st.af o=ap.af o){dst:Nat}{f:a8}{vs:List a8}(hf:cJ st ap (e0 st f.names))(h:cJ st ap (e0 st (gQ vs))):l5 C dst st f vs=l5 C dst ap f vs:=by
 unfold l5;split
 ·rename_i g bE;have:cJ st ap (e0 st (keys bE)):=by simpa[a8.names,bS.cells,dM,aR.names] using hf
  simp only[aev h,On this,OY hb,aeX hb (show 1000000<=3000000+dst*10 by omega),afP hb (show 1000000<=4000000+dst by omega),af8 h,aes h]
 ·simp only[Oj h,OY hb]
 ·rfl
theorem akY{C:Ctx}{x:Operand}{T:TypeId}(h:∀t,x=.tmp t->st.get t=ap.get t):bg C st T x=bg C ap T x:=by
 cases x with
 |tmp t=>exact h t rfl
 |_=>rfl
theorem aeC{ti:cg}{v:Value}:(vJ ti v).names=[]:=by
 unfold vJ;split<;>try rfl
 all_goals(split<;>rfl)
theorem zQ{C:Ctx}{x:Operand}{T:TypeId}:∀{xs:List Operand},x∈xs->∀o,o∈(bg C st T x).names->o∈n4 st xs:=by
 intro xs;induction xs with
 |nil=>intro h;cases h
 |cons y xs ih=>
  intro h o bz;rcases List.mem_cons.1 h with rfl|h
  ·cases x with
   |tmp t=>simp only[n4];exact List.mem_append.2 (.inl bz)
   |const v=>simp only[bg,aeC] at bz;cases bz
   |global g=>simp[bg,a8.names,bS.cells,dM,aR.names,b7] at bz
   |func g=>simp[bg,a8.names,bS.cells,dM,aR.names,b7,keys] at bz
  ·have:=ih h o bz;cases y<;>simp only[n4]<;>first|exact List.mem_append.2 (.inr this)|exact this
theorem afQ{t:Nat}:∀{xs:List Operand},.tmp t∈xs->t∈o8 xs:=by
 intro xs;induction xs with
 |nil=>intro h;cases h
 |cons y xs ih=>
  intro h;rcases List.mem_cons.1 h with h|h
  ·subst h;simp only[o8];exact List.mem_cons_self
  ·have:=ih h;cases y<;>simp only[o8]<;>first|exact List.mem_cons_of_mem _ this|exact this
theorem Pv{v:a8}{a:bS}(h:mq v=some a):dM a.cells=v.names:=by
 cases v with
 |av b=>simp only[mq,Option.some.injEq] at h;subst h;rfl
 |jX _=>cases h
theorem agc{vs:List a8}:∀{as:List bS},oi vs=some as->∀o,o∈sE as->o∈gQ vs:=by
 induction vs with
 |nil=>intro as h;simp only[oi,Option.some.injEq] at h;subst h;intro o bz;cases bz
 |cons v vs ih=>
  intro as h o bz;simp only[oi] at h;split at h
  ·rename_i a oK h1 h2;simp only[Option.some.injEq] at h;subst h;simp only[sE,List.mem_append] at bz;simp only[gQ,List.mem_append];rcases bz with bz|bz
   ·exact .inl (by rw[Pv h1] at bz;exact bz)
   ·exact .inr (ih h2 o bz)
  ·cases h
end
theorem agw{C:Ctx}{st ap:al}{D:Oper}(hs:∀t,t∈o8 (lv D.op)->st.get t=ap.get t)(hn:cJ st ap (J9 C st D))(hb:BX D.op=true->∀o,1000000<=o->st.af o=ap.af o):
  step C st D=step C ap D:=by
 have he:∀x,x∈lv D.op->∀T,bg C st T x=bg C ap T x:=fun x hx T=>akY fun t au=>hs t (afQ (au▸hx))
 have Zr:looks D.op=true->cJ st ap (e0 st (n4 st (lv D.op))):=fun h=>by have:=hn.left.left;rw[h] at this;exact this
 have Zi:looks D.op=true->∀x,x∈lv D.op->∀T,cJ st ap (bg C st T x).names:=fun hl x hx T o bz=>sw (Zr hl) o (zQ hx o bz)
 have Vm:looks D.op=true->∀N:List Nat,(∀o,o∈N->o∈n4 st (lv D.op))->cJ st ap (e0 st N):=by
  intro hl N;have ab9:=Zr hl;induction N with
  |nil=>intro _ o bz;cases bz
  |cons n N ih=>
   intro h o bz;simp only[e0,List.mem_cons,List.mem_append] at bz;rcases bz with rfl|bz|bz
   ·exact sw ab9 o (h o List.mem_cons_self)
   ·exact R7 ab9 (h n List.mem_cons_self) o bz
   ·exact ih (fun ab bW=>h ab (List.mem_cons_of_mem _ bW)) o bz
 have aa:∀d,D.dst=some d->st.af d=ap.af d:=fun d h=>hn.left.right d (by simp[h])
 have hz:cJ st ap (JY C D.op):=hn.right;obtain⟨dst,op,type,pos,after,guard⟩:=D;simp only at he Zi Vm aa hb hz;cases op<;>(try have hq:=Zi rfl)<;>(try have J7:=Vm rfl)<;>(try simp only[lv,List.mem_cons,List.not_mem_nil,or_false,forall_eq_or_imp,forall_eq] at he)<;>
  (try simp only[lv,List.mem_cons,List.not_mem_nil,or_false,forall_eq_or_imp,forall_eq] at hq)<;>simp only[step]<;>try rfl
 case move x=>rw[he]
 case assign x=>rw[he]
 case makeMap t r=>
  simp only[ln];cases dst with
  |none=>rfl
  |some o=>
   have e:=mN (aa o rfl);cases C.tt t<;>try rfl
   cases r with
   |none=>simp only[e]
   |some x=>simp only[he x (by simp[lv]),e]
 case lookup t m k c=>
  simp only[ln];rw[he.1,he.2];have h1:=hq.1 t;rw[he.1] at h1;generalize bg C ap t m=adp at h1 ⊢;split
  ·rename_i l n _ _;rw[ON (l:=l) (fun o bz=>h1 o (by simp[a8.names,bS.cells,dM,bz]))]
  ·rfl
 case mapUpdate t m k x=>
  simp only[ln,ln.s4];rw[he.1,he.2.1,he.2.2];have h1:=hq.1 t;rw[he.1] at h1;generalize bg C ap t m=adp at h1 ⊢;split
  ·rename_i o s n d _ _ _;rw[show st.af o=ap.af o from h1 o (by simp[a8.names,bS.cells,dM,aR.names])]
  ·rfl
 case insert t m k x=>
  simp only[ln,ln.s4];rw[he.1,he.2.1,he.2.2];have h1:=hq.1 t;rw[he.1] at h1;generalize bg C ap t m=adp at h1 ⊢;split
  ·rename_i o s n d _ _ _;rw[show st.af o=ap.af o from h1 o (by simp[a8.names,bS.cells,dM,aR.names])]
  ·rfl
 case pick c a b=>rw[he.1,he.2.1,he.2.2]
 case alloc elem=>
  cases dst with
  |none=>rfl
  |some o=>
   have e:=mN (aa o rfl);cases bl:C.tt elem with
   |arr _ t n=>exact afl (aa o rfl)
   |_=>simp only[e]
 case box elem x=>
  rw[he];cases dst with
  |none=>rfl
  |some o=>
   have e:=mN (aa o rfl);cases bl:C.tt elem with
   |arr _ t n=>exact ahg (aa o rfl)
   |_=>simp only[e]
 case build t ps=>
  have go:∀(bR:List (Nat×Nat)) (r:List (Nat×Operand)) (z:List aR),(∀x,x∈r.map (·.2)->∀T,bg C st T x=bg C ap T x)->step.m_ C st bR z r=step.m_ C ap bR z r:=by
    intro bR r;induction r with
    |nil=>intro z _;rfl
    |cons p r ih=>
     obtain⟨i,x⟩:=p;intro z h;simp only[step.m_];rw[h x (by simp)]
     split
     ·rw[ih _ fun x hx=>h x (by simp only[List.map_cons,List.mem_cons];exact .inr hx)]
     ·rfl
  split
  ·exact go _ _ _ he
  ·split
   ·exact go _ _ _ he
   ·rfl
  ·rfl
 case buildSlice t len ps=>
  cases dst with
  |none=>rfl
  |some o=>
   cases h2:C.tt t<;>try rfl
   rename_i e ty bytes;simp only;have h1:some o=some o:=rfl;have em:(ps.toList.map fun p=>bg C st e p.2)=ps.toList.map fun p=>bg C ap e p.2:=by
    apply List.map_congr_left;intro p hp;exact he _ (List.mem_map.2 ⟨p,hp,rfl⟩) e
   have kT:cJ st ap (gQ (ps.toList.map fun p=>bg C st e p.2)):=by
    have:∀l:List (Nat×Operand),(∀p,p∈l->p∈ps.toList)->cJ st ap (gQ (l.map fun p=>bg C st e p.2)):=by
     intro l;induction l with
     |nil=>intro _ o bz;cases bz
     |cons p l ih=>
      intro h o bz;simp only[List.map_cons,gQ,List.mem_append] at bz;rcases bz with bz|bz
      ·exact hq _ (List.mem_map.2 ⟨p,h p List.mem_cons_self,rfl⟩) e o bz
      ·exact ih (fun q az=>h q (List.mem_cons_of_mem _ az)) o bz
    exact this _ fun _ h=>h
   rw[<-em,mN (aa o h1)];congr 1
   split
   ·rename_i as has;rw[ahb fun ab bW=>kT ab (agc has ab bW)]
   ·rfl
 case load t a=>
  rw[<-he];split
  ·exact afW (hq _)
  ·rw[afV (hq _)]
 case store t a x=>
  rw[<-he.1,<-he.2];split
  ·rename_i v hv;split
   ·exact aeW (hq.1 _)
   ·rw[aeV (hq.1 _) (by rw[Pv hv];exact hq.2 _)]
  ·rfl
 case nilCheck x=>rw[he]
 case makeInterface t x=>simp only[ln];rw[he]
 case binOp op t x y ty=>rw[he.1,he.2]
 case unOp op t x=>rw[he]
 case convert src aCy x=>
  cases dst with
  |none=>rfl
  |some o=>simp only;rw[<-he,af9 (hq _) (aa o rfl)]
 case makeFunc fn first captured=>
  split
  ·rename_i g;have go:∀(r:List Operand),(∀x,x∈r->∀T,bg C st T x=bg C ap T x)->step.oh C st r=step.oh C ap r:=by
    intro r;induction r with
    |nil=>intro _;rfl
    |cons x r ih=>
     intro h;simp only[step.oh];rw[h x (by simp),ih fun x hx=>h x (List.mem_cons_of_mem _ hx)]
   rw[go _ he]
  ·rfl
 case makeSlice t l c=>
  rw[<-he.1,<-he.2];cases dst with
  |none=>rfl
  |some o=>
   cases h2:C.tt t<;>try rfl
   rename_i e ty bytes;simp only[JY,h2] at hz;have e1:=mN (aa o rfl);have e2:∀z,(C.tt e).zero=some z->f_ st z=f_ ap z:=fun z hzz=>by
    simp only[hzz] at hz;exact yE hz
   generalize bg C st 0 l=ei;generalize bg C st 0 c=fR;have dy:∀n m aE aF,ei=.av (.an (.d (.int aE n)))->fR=.av (.an (.d (.int aF m)))->
     (match(C.tt e).zero with
      |some z=>match f_ st z with
       |some (ds,_)=>match dec ty ds with
        |some eY=>dk.hT (jY bytes n m eY) (fun _=>b7 (.own o (bw st o))) fun r=>[(o,.row (bw st o) ty r)]
        |none=>.fail
       |none=>.fail
      |none=>.fail)=(match(C.tt e).zero with
      |some z=>match f_ ap z with
       |some (ds,_)=>match dec ty ds with
        |some eY=>dk.hT (jY bytes n m eY) (fun _=>b7 (.own o (bw ap o))) fun r=>[(o,.row (bw ap o) ty r)]
        |none=>.fail
       |none=>.fail
      |none=>.fail):=by
    intro n m aE aF _ _;cases hzz:(C.tt e).zero with
    |none=>rfl
    |some z=>simp only[e2 z hzz,e1]
   rcases ei with(dQ|_)|_<;>try rfl
   cases dQ<;>try rfl
   rename_i d1;cases d1<;>try rfl
   rcases fR with(fy|_)|_<;>try rfl
   cases fy<;>try rfl
   rename_i d2;cases d2<;>try rfl
   exact dy _ _ _ _ rfl rfl
 case slice t x cW hi Eo=>
  cases Eo with
  |some _=>rfl
  |none=>
   simp only;have e1:cW.map (bg C st 0)=cW.map (bg C ap 0):=by
    cases cW with
    |none=>rfl
    |some y=>simp only[Option.map_some];rw[he.2 y (by simp)]
   have e2:hi.map (bg C st 0)=hi.map (bg C ap 0):=by
    cases hi with
    |none=>rfl
    |some y=>simp only[Option.map_some];rw[he.2 y (by simp)]
   rw[<-he.1,e1,e2];split
   ·exact aeZ (hq.1 _)
   ·exact aeY (hq.1 _)
 case fieldAddr s x f=>rw[he]
 case indexAddr t x i=>
  rw[<-he.1,<-he.2];split
  ·rw[ad3 (hq.1 _)]
  ·rw[ad4 (hq.1 _)]
  ·rfl
 case index t x i=>rw[he.1,he.2]
 case extract t i=>rw[he]
 case call c=>
  obtain⟨ayC,args,LR⟩:=c;simp only;cases ayC with
  |invoke r m=>rfl
  |value f=>
   simp only[lv,List.mem_append,List.mem_cons,List.not_mem_nil,or_false] at J7;simp only[BX,forall_const] at hb;simp only[List.mem_append,List.mem_cons,List.not_mem_nil,or_false] at he;have em:∀(xs:List Operand) (cZ:List TypeId),(∀x,x∈xs->∀T,bg C st T x=bg C ap T x)->gy C st xs cZ=gy C ap xs cZ:=by
    intro xs;induction xs with
    |nil=>intro cZ _;cases cZ<;>rfl
    |cons x xs ih=>
     intro cZ h;cases cZ with
     |nil=>simp only[gy];rw[h x (by simp),ih [] fun y hy=>h y (List.mem_cons_of_mem _ hy)]
     |cons T cZ=>simp only[gy];rw[h x (by simp),ih cZ fun y hy=>h y (List.mem_cons_of_mem _ hy)]
   have Et:∀(xs bj:List Operand) (cZ:List TypeId),(∀x,x∈xs->x∈bj)->∀o,o∈gQ (gy C st xs cZ)->o∈n4 st bj:=by
    intro xs bj;induction xs with
    |nil=>intro cZ _ o bz;cases cZ<;>cases bz
    |cons x xs ih=>
     intro cZ h o bz;cases cZ with
     |nil=>
      simp only[gy,gQ,List.mem_append] at bz;rcases bz with bz|bz
      ·exact zQ (h x List.mem_cons_self) o bz
      ·exact ih [] (fun y hy=>h y (List.mem_cons_of_mem _ hy)) o bz
     |cons T cZ=>
      simp only[gy,gQ,List.mem_append] at bz;rcases bz with bz|bz
      ·exact zQ (h x List.mem_cons_self) o bz
      ·exact ih cZ (fun y hy=>h y (List.mem_cons_of_mem _ hy)) o bz
   have h1:cJ st ap (e0 st (bg C st 0 f).names):=J7 _ fun o bz=>zQ (List.mem_append.2 (.inl (by simp))) o bz
   have h2:cJ st ap (e0 st (gQ (gy C st args.toList LR.toList))):=J7 _ fun o bz=>Et _ _ _ (fun x hx=>List.mem_append.2 (.inr hx)) o bz
   have h3:=he f (.inl rfl) 0;have aC:=em args.toList LR.toList fun x hx=>he x (.inr hx)
   cases dst with
   |none=>show l5 C 0 st _ _=l5 C 0 ap _ _;rw[<-h3,<-aC];exact N' hb h1 h2
   |some d=>show l5 C d st _ _=l5 C d ap _ _;rw[<-h3,<-aC];exact N' hb h1 h2
  |builtin b=>
   simp only[List.nil_append] at he hq;generalize args.toList=xs at he hq;generalize LR.toList=ci;cases b<;>try rfl
   case append=>
    rcases dst with _|o
    ·rfl
    rcases xs with _|⟨s,_|⟨x,_|_⟩⟩<;>try rfl
    rcases ci with _|⟨t,_|⟨u,_|_⟩⟩<;>try rfl
    have e1:=he s (by simp) t
    have e2:=he x (by simp) u
    dsimp only;cases C.tt t<;>try rfl
    cases C.tt u<;>try rfl
    all_goals dsimp only
    all_goals rw[<-e1,<-e2]
    all_goals first|exact aeE (hq s (by simp) _) (hq x (by simp) _) (aa o rfl)|exact aeF (hq s (by simp) _) (aa o rfl)
   case len=>
    rcases xs with _|⟨s,_|⟨x,_|_⟩⟩<;>try rfl
    rcases ci with _|⟨t,_|⟨u,_|_⟩⟩<;>try rfl
    have e1:=he s (by simp) t
    dsimp only;rw[<-e1];exact agZ (hq s (by simp) _)
   case max=>
    rcases xs with _|⟨s,_|⟨x,_|⟨z,_|⟨u,_|⟨v,_|_⟩⟩⟩⟩⟩<;>try rfl
    ·have e1:=he s (by simp) type
     have e2:=he x (by simp) type
     dsimp only;rw[<-e1,<-e2]
    ·have e1:=he s (by simp) type
     have e2:=he x (by simp) type
     have bC:=he z (by simp) type
     have dy:=he u (by simp) type
     have fT:=he v (by simp) type
     dsimp only;rw[<-e1,<-e2,<-bC,<-dy,<-fT]
   case min=>
    rcases xs with _|⟨s,_|⟨x,_|_⟩⟩<;>try rfl
    have e1:=he s (by simp) type
    have e2:=he x (by simp) type
    dsimp only;rw[<-e1,<-e2]
def eM(r:Option Nat):Fence:={Fence.wide with round:=r}
abbrev gi(r:Option Nat)(P:Program)(c:Code)(Q:Exit->Act->World->Prop)(a:Act)(w:World):Prop:=c.wpIn (eM r) 0 P Q a w
theorem CR(r:Option Nat)(f:FuncId):(eM r).fn f:=trivial
theorem TT(r:Option Nat)(n:Nat):(eM r).room n:=fun _ h=>by simp[eM,Fence.wide] at h
theorem gi.any{r:Option Nat}{P:Program}{c:Code}{Q:Exit->Act->World->Prop}{a:Act}{w:World}(h:gi r P c Q a w)(n:Nat):c.wpIn (eM r) n P Q a w:=
 fun b k cs Mk hb _=>h b k cs Mk hb (TT r _)
theorem gi.of{r:Option Nat}{P:Program}{c:Code}{Q:Exit->Act->World->Prop}{a:Act}{w:World}{n:Nat}(h:c.wpIn (eM r) n P Q a w):gi r P c Q a w:=
 fun b k cs Mk hb _=>h b k cs Mk hb (TT r _)
theorem gi.wp{P:Program}{c:Code}{Q:Exit->Act->World->Prop}{a:Act}{w:World}(h:gi none P c Q a w):c.wp P Q a w:=(wpIn_wide (n:=0)).1 h
theorem ahe{r:Option Nat}{n:Nat}{P:Program}{f:FuncId}{args:Array Value}{w:World}{R:Ending->World->Prop}(h:Calls P f args w R):CallsIn (eM r) n P f args w R:=by
 cases r with
 |none=>exact callsIn_wide.2 h
 |some l=>exact CallsIn.inRound l (callsIn_wide.2 h)
theorem ahW{r:Option Nat}{n:Nat}{P:Program}{row:String}{args:Array Value}{w:World}{R:Value->World->Prop}(h:Rows P row args w R):RowsIn (eM r) n P row args w R:=by
 intro c cs _;obtain⟨v,w',hr,hs⟩:=h c cs;exact⟨v,w',hr,stepsIn_wide.2 hs⟩
theorem vh(M:Array Value)(ds:List Deferred)(dst:Option Nat)(v:Value):(⟨M,ds⟩:Act).put dst v=⟨cE M dst v,ds⟩:=by cases dst<;>rfl
theorem J4{P:Program}{D:Oper}{M:Array Value}{w:World}{K:Act->World->Prop}(bT:∀a w,K a w->a.defers=[])(h:D.wp P ⟨M,[]⟩ w K (fun _ _ _=>False))(r:Option Nat)(ds:List Deferred){Q:Exit->Act->World->Prop}:
  D.wpIn (eM r) 0 P ⟨M,ds⟩ w (fun cR w'=>∃v,cR=⟨cE M D.dst v,ds⟩/\K ⟨cE M D.dst v,[]⟩ w') Q:=by
 refine⟨fun f _=>CR r f,?_⟩
 have bB:(⟨M,ds⟩:Act).eval=(⟨M,[]⟩:Act).eval:=by funext x;cases x<;>rfl
 rw[bB];unfold Oper.wp at h;have aa:∀c,D.op≠.defer c:=by
  intro c aM;have:(execOp (Act.eval ⟨M,[]⟩) D)=(do let d <-resolve (Act.eval ⟨M,[]⟩) c D.type;pure (.defer d)):=by
   unfold execOp;simp only[aM]
  rw[this] at h;simp only[Sem.run_bind] at h;cases hr:(resolve (Act.eval ⟨M,[]⟩) c D.type).run P w with
  |ok d w'=>
   rw[hr] at h;simp only[Result.andThen_ok,Sem.run_pure,Oper.upon] at h;have:=bT _ _ h;cases dJ:D.dst<;>rw[dJ] at this<;>simp[Act.put] at this
  |halt x w'=>
   rw[hr] at h;cases x<;>simp[Result.andThen,Oper.upon] at h
 rw[Oper.semAt_eq _ _ _ aa];generalize(execOp (Act.eval ⟨M,[]⟩) D).run P w=fl at h;have hp:∀v,(⟨M,ds⟩:Act).put D.dst v=⟨cE M D.dst v,ds⟩:=vh M ds D.dst;have ru:∀v,(⟨M,[]⟩:Act).put D.dst v=⟨cE M D.dst v,[]⟩:=vh M [] D.dst;cases fl with
 |ok x w'=>
  cases x with
  |value v=>simp only[Oper.upon,Oper.uponIn,ru] at h ⊢;exact⟨v,hp v,h⟩
  |skip=>simp only[Oper.upon,Oper.uponIn,ru] at h ⊢;exact⟨undef,hp _,h⟩
  |defer d=>
   simp only[Oper.upon] at h;have:=bT _ _ h;cases dJ:D.dst<;>rw[dJ] at this<;>simp[Act.put] at this
  |enter f args=>
   simp only[Oper.upon,Oper.uponIn] at h ⊢;refine⟨fun h=>by simp[eM,Fence.wide] at h,(ahe h).mono fun e Dx he=>?_⟩
   cases e with
   |returned v=>simp only[ru] at he;exact⟨v,hp v,he⟩
   |panicked c=>exact he.elim
   |outgrown=>obtain⟨a0,U,az⟩:=he;exact az.elim
  |row row args=>
   simp only[Oper.upon,Oper.uponIn] at h ⊢;refine⟨fun h=>by simp[eM,Fence.wide] at h,(ahW h).mono fun v Dx he=>?_⟩
   simp only[ru] at he;exact⟨v,hp v,he⟩
  |_=>simp only[Oper.upon] at h
 |halt x w'=>
  cases x<;>simp only[Oper.upon] at h
def iE:List Oper->List Nat
 |[]=>[]
 |D::r=>D.dst.toList++iE r
def hL:Nat:=1000000000
def cx:Code->List Nat
 |.region _ ops _=>iE ops.toList
 |.seq a b|.cond _ a b=>cx a++cx b
 |.block _ a|.loop a=>cx a
 |.rangeFunc _ ps a b=>hL::(ps.toList++(cx a++cx b))
 |_=>[]
def gS:Code->Bool
 |.seq a b|.cond _ a b=>gS a&&gS b
 |.block _ a|.loop a=>gS a
 |.rangeFunc _ _ _ _=>false
 |_=>true
def mark(bh:Nat):Deferred:={target:=.collected bh,args:=#[]}
structure ir(U:World)(Y:List Nat)(X:Nat->Prop)(aY:World)(dP:List Nat)(c9:Nat->Prop):Prop where
 cL:∀w,Fr dP aY w->Fr Y U w
 ct:∀b,(b∈dP\/aY.heap.size<=b)->(b∈Y\/U.heap.size<=b)
 x:∀b,X b->c9 b
structure Marks(U:World)(dS:List Nat)(aY:World)(dP:List Nat)(c9:Nat->Prop):Prop where
 nodup:dS.Nodup
 new:∀bh,bh∈dS->U.heap.size<=bh
 hJ:∀bh,bh∈dS->aY.heap[bh]? =some (.deferred (some []))/\bh∉dP/\c9 bh
def eD(U:World)(Y:List Nat)(X:Nat->Prop)(ds:List Deferred)(eP:Array Value)(W:List Nat)(st:al)(a:Act)(w:World):Prop:=
 ∃aY dP c9 F dS,ir U Y X aY dP c9/\Marks U dS aY dP c9/\(a.defers=dS.map mark++ds/\(hL∉W->dS=[]))/\aq aY dP c9 F st a.tmps w/\∀t,t∉W->a.tmps.getD t undef=eP.getD t undef
def fg(U:World)(Y:List Nat)(X:Nat->Prop)(ds:List Deferred)(eP:Array Value)(W:List Nat):Out->Exit->Act->World->Prop
 |.norm st,.normal,a,w=>eD U Y X ds eP W st a w
 |.exit id st,.exit ja,a,w=>id=ja/\eD U Y X ds eP W st a w
 |.ret st,.ret,a,w=>eD U Y X ds eP W st a w
 |_,_,_,_=>False
theorem ir.refl(U:World)(Y:List Nat)(X:Nat->Prop):ir U Y X U Y X:=⟨fun _ h=>h,fun _ h=>h,fun _ h=>h⟩
theorem ir.trans{U aY w2:World}{Y dP eX:List Nat}{X c9 cD:Nat->Prop}(h:ir U Y X aY dP c9)(k:ir aY dP c9 w2 eX cD):ir U Y X w2 eX cD:=
 ⟨fun w hw=>h.cL w (k.cL w hw),fun b hb=>h.ct b (k.ct b hb),fun b hb=>k.x b (h.x b hb)⟩
theorem Marks.nil(U aY:World)(Y:List Nat)(X:Nat->Prop):Marks U [] aY Y X:=⟨List.nodup_nil,fun _ h=>by simp at h,fun _ h=>by simp at h⟩
theorem Marks.lt{U aY:World}{Y:List Nat}{X:Nat->Prop}{dS:List Nat}(h:Marks U dS aY Y X){bh:Nat}(fA:bh∈dS):bh<aY.heap.size:=by
 have:=(h.hJ bh fA).1;exact(Array.getElem?_eq_some_iff.1 this).1
theorem Marks.trans{U aY w2:World}{Y dP eX:List Nat}{X c9 cD:Nat->Prop}{dS Ek:List Nat}(hb:ir U Y X aY dP c9)(h:Marks U dS aY dP c9)(k:ir aY dP c9 w2 eX cD)(m:Marks aY Ek w2 eX cD):
  Marks U (Ek++dS) w2 eX cD:=by
 have hf:Fr dP aY w2:=k.cL w2 (Fr.refl _ _);refine⟨List.nodup_append.2 ⟨m.nodup,h.nodup,fun a ha b hb e=>?_⟩,fun bh fA=>?_,fun bh fA=>?_⟩
 ·subst e;have h1:=m.new a ha;have h2:=h.lt hb;omega
 ·rcases List.mem_append.1 fA with fA|fA
  ·have h1:=m.new bh fA;have h2:Fr Y U aY:=hb.cL aY (Fr.refl _ _);have:=h2.size;omega
  ·exact h.new bh fA
 ·rcases List.mem_append.1 fA with fA|fA
  ·exact m.hJ bh fA
  ·obtain⟨h1,h2,h3⟩:=h.hJ bh fA;have hlt:=h.lt fA;refine⟨(hf.block bh hlt h2).trans h1,fun aC=>?_,k.x bh h3⟩
   rcases k.ct bh (.inl aC) with bk|bk
   ·exact h2 bk
   ·omega
section
variable {U:World}{Y:List Nat}{X:Nat->Prop}{ds:List Deferred}{eP:Array Value}{W:List Nat}
theorem eD.of{F:Nat->Value}{st:al}{M:Array Value}{w:World}(S:aq U Y X F st M w)(au:∀t,t∉W->M.getD t undef=eP.getD t undef):eD U Y X ds eP W st ⟨M,ds⟩ w:=
 ⟨U,Y,X,F,[],ir.refl _ _ _,Marks.nil _ _ _ _,⟨rfl,fun _=>rfl⟩,S,au⟩
theorem eD.mono{c':List Nat}(h:∀t,t∈W->t∈c'){st:al}{a:Act}{w:World}(k:eD U Y X ds eP W st a w):eD U Y X ds eP c' st a w:=by
 obtain⟨aY,dP,c9,F,dS,h1,h2,h3,aC,bk⟩:=k;exact⟨aY,dP,c9,F,dS,h1,h2,⟨h3.1,fun hn=>h3.2 fun ak=>hn (h _ ak)⟩,aC,fun t au=>bk t fun ak=>au (h t ak)⟩
theorem fg.mono{c':List Nat}(h:∀t,t∈W->t∈c'):∀{D:Out} {e:Exit} {a:Act} {w:World},fg U Y X ds eP W D e a w->fg U Y X ds eP c' D e a w:=by
 intro D e a w k;cases D<;>cases e<;>first|exact eD.mono h k|exact⟨k.1,eD.mono h k.2⟩|exact k.elim
theorem eD.trans{aY:World}{dP:List Nat}{c9:Nat->Prop}{dS:List Nat}{W1 jF:List Nat}{hZ:Array Value}(hb:ir U Y X aY dP c9)(hm:Marks U dS aY dP c9)(hr:hL∉W1->dS=[])(au:∀t,t∉W1->hZ.getD t undef=eP.getD t undef)
  {st:al} {a:Act} {w:World} (k:eD aY dP c9 (dS.map mark++ds) hZ jF st a w):eD U Y X ds eP (W1++jF) st a w:=by
 obtain⟨w2,eX,cD,F,Ek,h1,h2,h3,aC,bk⟩:=k;refine⟨w2,eX,cD,F,Ek++dS,hb.trans h1,hm.trans hb h1 h2,⟨by rw[h3.1,List.map_append,List.append_assoc],fun hn=>by
  simp only[List.mem_append,not_or] at hn;rw[h3.2 hn.2,hr hn.1];rfl⟩,aC,fun t Mh=>?_⟩
 simp only[List.mem_append,not_or] at Mh;rw[bk t Mh.2,au t Mh.1]
theorem fg.trans{aY:World}{dP:List Nat}{c9:Nat->Prop}{dS:List Nat}{W1 jF:List Nat}{hZ:Array Value}(hb:ir U Y X aY dP c9)(hm:Marks U dS aY dP c9)(hr:hL∉W1->dS=[])(au:∀t,t∉W1->hZ.getD t undef=eP.getD t undef)
  {D:Out} {e:Exit} {a:Act} {w:World} (k:fg aY dP c9 (dS.map mark++ds) hZ jF D e a w):fg U Y X ds eP (W1++jF) D e a w:=by
 cases D<;>cases e<;>first|exact eD.trans hb hm hr au k|exact⟨k.1,eD.trans hb hm hr au k.2⟩|exact k.elim
end
def aS(P:Program)(c:Code)(f:h5):Prop:=
 ∀r,r=none\/gS c=true->∀U Y X st y,(f st).comp=some y->∀F M w ds,aq U Y X F st M w->gi r P c (fg U Y X ds M (cx c) ((f st).out y)) ⟨M,ds⟩ w
def gn(P:Program)(C:hV):Code->Nat->Prop
 |.seq a b,p=>(∀f,C.ov p=some f->aS P (.seq a b) f)/\gn P C a (2*p)/\gn P C b (2*p+1)
 |.cond c a b,p=>(∀f,C.ov p=some f->aS P (.cond c a b) f)/\gn P C a (2*p)/\gn P C b (2*p+1)
 |.block id a,p=>(∀f,C.ov p=some f->aS P (.block id a) f)/\gn P C a (2*p)
 |c,p=>∀f,C.ov p=some f->aS P c f
def fY:Code->Nat->List (Nat×Code)
 |.seq a b,p=>(p,.seq a b)::(fY a (2*p)++fY b (2*p+1))
 |.cond c a b,p=>(p,.cond c a b)::(fY a (2*p)++fY b (2*p+1))
 |.block id a,p=>(p,.block id a)::fY a (2*p)
 |c,p=>[(p,c)]
theorem S9{P:Program}{C:hV}:∀(c:Code) (p:Nat),(∀q fr,(q,fr)∈fY c p->∀f,C.ov q=some f->aS P fr f)->gn P C c p:=by
 intro c;induction c with
 |seq a b mv rl=>
  intro p h;simp only[fY] at h;exact⟨h p _ List.mem_cons_self,mv _ fun q fr hm=>h q fr (List.mem_cons_of_mem _ (List.mem_append.2 (.inl hm))),rl _ fun q fr hm=>h q fr (List.mem_cons_of_mem _ (List.mem_append.2 (.inr hm)))⟩
 |cond D a b mv rl=>
  intro p h;simp only[fY] at h;exact⟨h p _ List.mem_cons_self,mv _ fun q fr hm=>h q fr (List.mem_cons_of_mem _ (List.mem_append.2 (.inl hm))),rl _ fun q fr hm=>h q fr (List.mem_cons_of_mem _ (List.mem_append.2 (.inr hm)))⟩
 |block id a mv=>
  intro p h;simp only[fY] at h;exact⟨h p _ List.mem_cons_self,mv _ fun q fr hm=>h q fr (List.mem_cons_of_mem _ hm)⟩
 |_=>intro p h;exact h p _ (by simp[fY])
section
variable {P:Program}{U:World}{Y:List Nat}{X:Nat->Prop}{F:Nat->Value}{st:al}{M:Array Value}{w:World}
theorem aq.mY(S:aq U Y X F st M w){t:Nat}{v:a8}(hv:ck F st.sites w (aJ X F st.sites) v (M.getD t undef)):aq U Y X F (st.set t v) M w:=by
 refine⟨S.nt,fun u=>?_,S.sites,S.eh,S.ct,S.frame,S.old,S.e9⟩
 rw[al.IH];by_cases h:t=u
 ·subst h;simp only[if_true];exact hv
 ·simp only[h,if_false];exact S.cN u
variable {R:Type}{C:Ctx}{ops:Array Oper}
theorem Qp(S:aq U Y X F st M w)(H:aQ P C){D:Oper}{K:al->Option R}{r:R}(h:ky C st D K=some r){N:Act->World->Prop}{Q:Exit->Act->World->Prop}
  (bT:∀ap a6 b6 w',K ap=some r->aq U Y X a6 ap b6 w'->N ⟨b6,[]⟩ w'):D.wp P ⟨M,[]⟩ w N Q:=by
 unfold ky at h;cases aa:cr st D.dst with
 |false=>simp[aa] at h
 |true=>
  simp only[aa,cond_true] at h;have hs:=alA S H aa;cases hc:(step C st D).comp with
  |none=>simp[hc] at h
  |some y=>
   simp only[hc,Option.bind_some] at h;cases hk:(step C st D).rL y with
   |false=>simp[hk] at h
   |true=>
    simp only[hk,cond_true] at h;exact hs y hc hk N Q fun a6 b6 w' cm=>bT _ a6 b6 w' h cm
theorem agB{T e:TypeId}(h:P.underlying T=some (.slice e))(a:Option Addr)(n c:Nat)(neg:Bool):
  (binOp (if neg then .neq else .eql) T (.slice a n c) (.slice none 0 0)).run P w=.ok (.bool (if neg then !a.isNone else a.isNone)) w:=by
 have e:(Op.equal T (.slice a n c) (.slice none 0 0)).run P w=.ok a.isNone w:=by
  have key:∀d:Nat,(Op.equalIn (d+1) T (.slice a n c) (.slice none 0 0)).run P w=.ok a.isNone w:=fun d=>by cases a<;>simp[Op.equalIn,run_underlying h]
  exact key 9999
 cases neg
 ·show((do pure (.bool (<-Op.equal T (.slice a n c) (.slice none 0 0)))):Sem Value).run P w=_
  simp only[Sem.run_bind,e,Result.andThen_ok,Sem.run_pure];rfl
 ·show((do pure (.bool (!(<-Op.equal T (.slice a n c) (.slice none 0 0))))):Sem Value).run P w=_
  simp only[Sem.run_bind,e,Result.andThen_ok,Sem.run_pure];rfl
theorem ad0{op:BinOp}{T:TypeId}{x y:Operand}{a b:Option Addr}{n c hH fr:Nat}:(eqGuard op T x y (.slice a n c) (.slice b hH fr)).run P w=.ok () w:=by
 unfold eqGuard;cases op<;>rfl
theorem agQ{D:Oper}{t:bf}{xs:List (den t)}{neg:Bool}(h:Jt C st D=some (⟨t,xs⟩,neg)):∃T x nJ e ty bytes,D.op=.binOp (if neg then .neq else .eql) T x (.const (.slice none 0 0)) nJ/\C.tt T=.slice e ty bytes/\bg C st T x=.av (.an (.d (.sl t xs))):=by
 unfold Jt at h;split at h
 ·rename_i op T x nJ aM;split at h
  ·rename_i e ty bytes bl;split at h
   ·split at h
    ·rename_i bo iX hx;cases h;exact⟨T,x,nJ,e,ty,bytes,aM,bl,hx⟩
    ·cases h
   ·split at h
    ·rename_i bo iX hx;cases h;exact⟨T,x,nJ,e,ty,bytes,aM,bl,hx⟩
    ·cases h
   ·cases h
  ·cases h
 ·cases h
theorem aeq{t:bf}{xs:List (den t)}{a b:Option R}{r:R}(h:qn xs a b=some r):b=some r/\(xs=[]->a=some r):=by
 unfold qn at h;split at h
 ·rename_i acf;exact⟨h,fun he=>(acf he).trans h⟩
 ·cases h
theorem ajL(S:aq U Y X F st M w)(H:aQ P C){D:Oper}{K:al->Option R}{r:R}(h:wh C st D K=some r){N:Act->World->Prop}{Q:Exit->Act->World->Prop}
  (bT:∀ap a6 b6 w',K ap=some r->aq U Y X a6 ap b6 w'->N ⟨b6,[]⟩ w'):D.wp P ⟨M,[]⟩ w N Q:=by
 unfold wh at h;split at h
 ·rename_i t xs neg hn;cases aa:cr st D.dst with
  |false=>simp[aa] at h
  |true=>
   simp only[aa,cond_true] at h;obtain⟨h2,h1⟩:=aeq h;obtain⟨T,x,nJ,e,ty,bytes,aM,bl,hx⟩:=agQ hn;have hs:=dI S C T x;rw[hx] at hs;have bO:=H.tt T;rw[bl] at bO;have run:∀{a:Option Addr} {n c:Nat},Act.eval ⟨M,[]⟩ x=.slice a n c->(execOp (Act.eval ⟨M,[]⟩) D).run P w=.ok (.value (.bool (if neg then !a.isNone else a.isNone))) w:=by
    intro a n c hv;unfold execOp;have hc:Act.eval ⟨M,[]⟩ (.const (.slice none 0 0))=.slice none 0 0:=rfl;simp only[aM,hv,hc,Sem.run_bind,ad0,agB bO.1.1,Result.andThen_ok,Sem.run_pure]
   have fin:∀b:Bool,(execOp (Act.eval ⟨M,[]⟩) D).run P w=.ok (.value (.bool b)) w->K (st.cY D.dst (one (.bool b)) [])=some r->D.wp P ⟨M,[]⟩ w N Q:=by
    intro b hr hk;refine pc hr (bT _ _ _ _ hk (aq.cY (us:=[]) S aa ?_));exact bK.bool b
   have hs:bK w (aJ X F st.sites) (.sl t xs) (Act.eval ⟨M,[]⟩ x):=hs;generalize iV:Act.eval ⟨M,[]⟩ x=v at hs;cases hs with
   |nil=>
    have:=run iV;cases neg
    ·exact fin true this (h1 rfl)
    ·exact fin false this (h1 rfl)
   |sl t xs a cap cs n iJ hcap hb hl hc hr=>
    have:=run iV;cases neg
    ·exact fin false this h2
    ·exact fin true this h2
 ·exact Qp S H h bT
theorem ahQ(S:aq U Y X F st M w){D:Oper}{K:al->Option R}{r:R}(h:sZ st D K=some r){N:Act->World->Prop}
  (bT:∀ap a6 b6 w',K ap=some r->aq U Y X a6 ap b6 w'->N ⟨b6,[]⟩ w'):N ((⟨M,[]⟩:Act).put D.dst undef) w:=by
 unfold sZ at h;cases aa:cr st D.dst with
 |false=>simp[aa] at h
 |true=>
  simp only[aa,cond_true] at h;have:(⟨M,[]⟩:Act).put D.dst undef=⟨cE M D.dst undef,[]⟩:=by cases D.dst<;>rfl
  rw[this];exact bT _ _ _ _ h (aq.cY (us:=[]) S aa rfl)
theorem jj{M:Array Value}{dst:Option Nat}{v:Value}{t:Nat}(h:t∉dst.toList):(cE M dst v).getD t undef=M.getD t undef:=by
 cases dst with
 |none=>rfl
 |some d=>
  have:d≠t:=fun e=>h (by simp[e])
  simp[cE,Array.getD_eq_getD_getElem?,Array.getElem?_setIfInBounds_ne this]
variable {rn:Option Nat}{ds:List Deferred}
theorem Gw(S:aq U Y X F st M w)(H:aQ P C){D:Oper}{K:al->Option R}{r:R}(h:wh C st D K=some r){N:Act->World->Prop}{Q:Exit->Act->World->Prop}
  (bT:∀ap a6 b6 w',K ap=some r->aq U Y X a6 ap b6 w'->(∀t,t∉D.dst.toList->b6.getD t undef=M.getD t undef)->N ⟨b6,ds⟩ w'):D.wpIn (eM rn) 0 P ⟨M,ds⟩ w N Q:=by
 refine Oper.wpIn_mono ?_ (J4 (K:=fun a w=>a.defers=[]/\∃ap a6,K ap=some r/\aq U Y X a6 ap a.tmps w) (fun _ _ h=>h.1) (ajL S H h fun ap a6 b6 w' hk cm=>⟨rfl,ap,a6,hk,cm⟩) rn ds)
 rintro a w' ⟨v,rfl,_,ap,a6,hk,cm⟩;exact bT ap a6 _ w' hk cm fun t au=>jj au
theorem nT(S:aq U Y X F st M w)(H:aQ P C){D:Oper}{K:al->Option R}{r:R}(h:ky C st D K=some r){N:Act->World->Prop}{Q:Exit->Act->World->Prop}
  (bT:∀ap a6 b6 w',K ap=some r->aq U Y X a6 ap b6 w'->(∀t,t∉D.dst.toList->b6.getD t undef=M.getD t undef)->N ⟨b6,ds⟩ w'):D.wpIn (eM rn) 0 P ⟨M,ds⟩ w N Q:=by
 refine Oper.wpIn_mono ?_ (J4 (K:=fun a w=>a.defers=[]/\∃ap a6,K ap=some r/\aq U Y X a6 ap a.tmps w) (fun _ _ h=>h.1) (Qp S H h fun ap a6 b6 w' hk cm=>⟨rfl,ap,a6,hk,cm⟩) rn ds)
 rintro a w' ⟨v,rfl,_,ap,a6,hk,cm⟩;exact bT ap a6 _ w' hk cm fun t au=>jj au
theorem yL(S:aq U Y X F st M w){D:Oper}{K:al->Option R}{r:R}(h:sZ st D K=some r){N:Act->World->Prop}
  (bT:∀ap a6 b6 w',K ap=some r->aq U Y X a6 ap b6 w'->(∀t,t∉D.dst.toList->b6.getD t undef=M.getD t undef)->N ⟨b6,ds⟩ w'):N ((⟨M,ds⟩:Act).put D.dst undef) w:=by
 rw[vh];refine ahQ (N:=fun a w=>∀t0,a.tmps=t0->t0=cE M D.dst undef->N ⟨t0,ds⟩ w) S h (fun ap a6 b6 w' hk cm t0 e1 e2=>?_) (cE M D.dst undef) (by rw[vh]) rfl
 subst e1;exact bT ap a6 _ w' hk cm fun t au=>by have e2:b6=cE M D.dst undef:=e2;rw[e2];exact jj au
theorem ahV(H:aQ P C){r:R}{W:List Nat}:∀(n k:Nat),ops.size=k+n->(∀D,D∈ops.toList.drop k->∀t,t∈D.dst.toList->t∈W)->∀(st:al) (F:Nat->Value) (M:Array Value) (w:World) (K:al->Option R) (Q:Exit->Act->World->Prop),aq U Y X F st M w->
  vP C ops (ops.toList.drop k) st K=some r->(∀ap a6 b6 w',K ap=some r->aq U Y X a6 ap b6 w'->(∀t,t∉W->b6.getD t undef=M.getD t undef)->Q .normal ⟨b6,ds⟩ w')->wpOpsIn (eM rn) 0 P ops Q (List.range' k n) ⟨M,ds⟩ w:=by
 intro n;induction n with
 |zero=>
  intro k hk _ st F M w K Q S h bT;rw[List.drop_eq_nil_of_le (by simp;omega)] at h
  exact bT st F M w h S fun _ _=>rfl
 |succ n ih=>
  intro k hk hW st F M w K Q S h bT;have hlt:k<ops.size:=by omega
  have aM:ops[k]? =some ops[k]:=Array.getElem?_eq_getElem hlt;have wu:ops.toList.drop k=ops[k]::ops.toList.drop (k+1):=by
   rw[List.drop_eq_getElem_cons (by simpa using hlt)];simp
  rw[wu] at h hW;simp only[vP] at h;rw[show List.range' k (n+1)=k::List.range' (k+1) n from rfl]
  simp only[wpOpsIn,aM];have axZ:=hW _ List.mem_cons_self;have MM:=fun D aM=>hW D (List.mem_cons_of_mem _ aM)
  have next:∀ap a6 b6 w',vP C ops (ops.toList.drop (k+1)) ap K=some r->aq U Y X a6 ap b6 w'->(∀t,t∉(ops[k]).dst.toList->b6.getD t undef=M.getD t undef)->wpOpsIn (eM rn) 0 P ops Q (List.range' (k+1) n) ⟨b6,ds⟩ w':=
   fun ap a6 b6 w' ak cm au=>ih (k+1) (by omega) MM ap a6 b6 w' K Q cm ak fun xd is pM w2 hk2 ib lN=>bT xd is pM w2 hk2 ib fun t abU=>(lN t abU).trans (au t fun ak=>abU (axZ t ak))
  generalize ops[k]=D at h next ⊢
  have oR:∀f,D.about P w (Act.eval ⟨M,ds⟩)=some f->(eM rn).fn f:=fun f _=>CR rn f
  unfold Tz at h;cases hg:D.guard with
  |none=>
   simp only[hg] at h;rw[if_pos (by simp[Region.wanted,hg])]
   exact Gw S H h next
  |some Nv=>
   obtain⟨j,want⟩:=Nv;simp only[hg] at h;have hw:Region.wanted D (yielded ops M)=(yielded ops M j==some want):=by simp[Region.wanted,hg]
   cases hj:(ops[j]?).bind (·.dst) with
   |none=>simp[hj] at h
   |some t=>
    simp only[hj] at h;have jn:=S.cN t;split at h
    ·rename_i b hb;rw[hb] at jn;have hv:=jK jn;have hy:yielded ops M j=some b:=by
      have au:t<M.size:=by
       rcases Nat.lt_or_ge t M.size with ak|ak
       ·exact ak
       ·simp[Array.getD,Nat.not_lt.2 ak,undef] at hv
      have:M[t]? =some (.bool b):=by
       rw[Array.getElem?_eq_getElem au];simpa[Array.getD,au] using hv
      simp[yielded,hj,this]
     rw[hy] at hw;have go:∀bI,b=bI->aq U Y X F (st.set t (one (.bool bI))) M w:=fun bI e=>S.mY (by rw[hv,e];exact .bool _)
     cases b<;>cases want<;>simp only[cond_true,cond_false,Bool.not_true,Bool.not_false] at h
     ·rw[if_pos (by rw[hw];rfl)];exact Gw (go false rfl) H h next
     ·rw[if_neg (by rw[hw];decide)];exact⟨oR,yL (go false rfl) h next⟩
     ·rw[if_neg (by rw[hw];decide)];exact⟨oR,yL (go true rfl) h next⟩
     ·rw[if_pos (by rw[hw];rfl)];exact Gw (go true rfl) H h next
    ·rename_i x hb;rw[hb] at jn;have hv:M.getD t undef=.tuple x:=jn;have hy:yielded ops M j=none:=by
      simp only[yielded,hj,Option.bind_some];cases au:M[t]? with
      |none=>rfl
      |some v=>
       have:M.getD t undef=v:=by simp[Array.getD_eq_getD_getElem?,au]
       rw[this] at hv;rw[hv]
     rw[hy] at hw;rw[if_neg (by rw[hw];simp)]
     exact⟨oR,yL S h next⟩
    ·cases h
end
abbrev oV:=Nat⊕Nat
def er(st:al):oV->a8⊕Option Site
 |.inl t=>.inl (st.get t)
 |.inr o=>.inr (st.af o)
def nV{aH:Type}:List (Nat×aH)->Nat->Option aH
 |[],_=>none
 |(k,v)::r,n=>match nV r n with
  |some x=>some x
  |none=>bif k.beq n then some v else none
def Rec.wr(x:Rec):oV->Option (a8⊕Option Site)
 |.inl t=>match x.D.dst with
  |some d=>bif d.beq t then some (.inl x.v) else none
  |none=>none
 |.inr o=>(nV x.us o).map fun s=>.inr (some s)
theorem ahG:∀(us:List (Nat×Site)) (st:al) (o:Nat),(st.il us).af o=match nV us o with|some s=>some s|none=>st.af o:=by
 intro us;induction us with
 |nil=>intro st o;rfl
 |cons p us ih=>
  obtain⟨k,s⟩:=p;intro st o;simp only[al.il,ih,nV];cases nV us o with
  |some x=>rfl
  |none=>
   simp only[al.yj];by_cases h:k=o
   ·subst h;simp
   ·simp[h,jV h]
theorem Q7:∀(us:List (Nat×Site)) (st:al) (t:Nat),(st.il us).get t=st.get t:=by
 intro us;induction us with
 |nil=>intro st t;rfl
 |cons p us ih=>intro st t;simp only[al.il,ih,al.af1]
theorem Sh:∀(us:List (Nat×Site)) (st:al),(st.il us).nt=st.nt:=by
 intro us;induction us with
 |nil=>intro st;rfl
 |cons p us ih=>intro st;simp only[al.il,ih,al.agP]
theorem JS(st:al)(d:Option Nat)(v:a8)(us:List (Nat×Site)):(st.cY d v us).nt=st.nt:=by
 cases d<;>simp only[al.cY,al.aoF,Sh]
theorem y_(st:al)(x:Rec)(l:oV):er (st.cY x.D.dst x.v x.us) l=match x.wr l with|some u=>u|none=>er st l:=by
 cases l with
 |inl t=>
  simp only[er,Rec.wr];cases x.D.dst with
  |none=>simp only[al.cY,Q7]
  |some d=>
   simp only[al.cY,al.IH,Q7];by_cases h:d=t
   ·subst h;simp
   ·simp[h,jV h]
 |inr o=>
  simp only[er,Rec.wr];have:(st.cY x.D.dst x.v x.us).af o=(st.il x.us).af o:=by cases x.D.dst<;>simp only[al.cY,al.ajI]
  rw[this,ahG];cases nV x.us o<;>rfl
def ew(L:Nat->Bool):Nat->List Rec->al->al
 |_,[],st=>st
 |k,x::r,st=>ew L (k+1) r (bif L k then st.cY x.D.dst x.v x.us else st)
theorem G_{L:Nat->Bool}:∀{xs:List Rec} {k:Nat} {st:al},(ew L k xs st).nt=st.nt:=by
 intro xs;induction xs with
 |nil=>intro k st;rfl
 |cons x xs ih=>intro k st;simp only[ew,ih];cases L k<;>simp[JS]
theorem Fc{L L':Nat->Bool}:∀{xs:List Rec} {k:Nat} {st ap:al} {l:oV},er st l=er ap l->(∀j x,xs[j]? =some x->x.wr l≠none->L (k+j)=L' (k+j))->er (ew L k xs st) l=er (ew L' k xs ap) l:=by
 intro xs;induction xs with
 |nil=>intro k st ap l h _;exact h
 |cons x xs ih=>
  intro k st ap l h dR;simp only[ew];refine ih ?_ fun j y hy hw=>?_
  ·cases hw:x.wr l with
   |none=>
    have e1:∀s:al,er (s.cY x.D.dst x.v x.us) l=er s l:=fun s=>by rw[y_,hw]
    cases L k<;>cases L' k<;>simp only[cond_true,cond_false,e1,h]
   |some u=>
    have:=dR 0 x rfl (by rw[hw];intro h;cases h)
    simp only[Nat.add_zero] at this;rw[this];cases L' k with
    |true=>simp only[cond_true,y_,hw]
    |false=>simp only[cond_false,h]
  ·have:=dR (j+1) y (by simpa using hy) hw
   rw[show k+(j+1)=k+1+j from by omega] at this
   exact this
theorem Fe{xs:List Rec}:∀{k:Nat} {st:al} {L:Nat->Bool},(∀j,k<=j->L j=false)->ew L k xs st=st:=by
 induction xs with
 |nil=>intro k st L _;rfl
 |cons x xs ih=>
  intro k st L h;simp only[ew,h k (Nat.le_refl _),cond_false];exact ih fun j hj=>h j (by omega)
theorem O0{L L':Nat->Bool}:∀{xs:List Rec} {k k':Nat} {st:al},(∀j,j<xs.length->L (k+j)=L' (k'+j))->ew L k xs st=ew L' k' xs st:=by
 intro xs;induction xs with
 |nil=>intro k k' st _;rfl
 |cons x xs ih=>
  intro k k' st h;simp only[ew];have h0:=h 0 (by simp)
  simp only[Nat.add_zero] at h0;rw[h0];exact ih fun j hj=>by have:=h (j+1) (by simpa using hj);rw[show k+(j+1)=k+1+j from by omega,show k'+(j+1)=k'+1+j from by omega] at this;exact this
theorem ahi{L:Nat->Bool}:∀{xs:List Rec} {k i:Nat} {st:al} {l:oV} {x:Rec} {u:a8⊕Option Site},xs[i]? =some x->L (k+i)=true->x.wr l=some u->
  (∀j y,i<j->xs[j]? =some y->y.wr l≠none->L (k+j)=false)->er (ew L k xs st) l=u:=by
 intro xs;induction xs with
 |nil=>intro k i st l x u h;cases h
 |cons y xs ih=>
  intro k i st l x u h dR hw hj;simp only[ew];cases i with
  |zero=>
   simp only[List.getElem?_cons_zero,Option.some.injEq] at h;subst h;simp only[Nat.add_zero] at dR;rw[dR];simp only[cond_true];have e:er (st.cY y.D.dst y.v y.us) l=u:=by rw[y_,hw]
   rw[<-e];have e2:st.cY y.D.dst y.v y.us=ew (fun _=>false) (k+1) xs (st.cY y.D.dst y.v y.us):=(Fe fun _ _=>rfl).symm
   conv=>rhs;rw[e2]
   refine Fc rfl fun j z hz Md=>?_
   have:=hj (j+1) z (by omega) (by simpa using hz) Md
   rw[show k+(j+1)=k+1+j from by omega] at this
   exact this
  |succ i=>
   refine ih (by simpa using h) (by rw[show k+1+i=k+(i+1) from by omega];exact dR) hw fun j z pT hz Md=>?_
   have:=hj (j+1) z (by omega) (by simpa using hz) Md
   rw[show k+(j+1)=k+1+j from by omega] at this
   exact this
section
variable {P:Program}{ops:Array Oper}
def Dr(ops:Array Oper)(L:Nat->Bool)(i:Nat):Prop:=∀D,ops[i]? =some D->∀e,e∈D.after.toList->Region.binds .any e=true->L e.on=true
def Ct(ops:Array Oper)(L:Nat->Bool):Prop:=∀j,L j=true->Dr ops L j
def uC(ops:Array Oper)(k i:Nat):Prop:=∀L,Ct ops L->Dr ops L i->L k=true
theorem Tf{aH:Type}{l:List (Nat×aH)}{n:Nat}{v:aH}(h:look l n=some v):(n,v)∈l:=by
 induction l with
 |nil=>cases h
 |cons p l ih=>
  obtain⟨m,u⟩:=p;simp only[look] at h;cases hb:m.beq n with
  |true=>
   simp only[hb,cond_true,Option.some.injEq] at h;rw[<-Nat.eq_of_beq_eq_true hb,h];exact List.mem_cons_self
  |false=>simp only[hb,cond_false] at h;exact List.mem_cons_of_mem _ (ih h)
theorem ald{acc:List (Nat×Rec×List Nat)}(ha:∀k x b,(k,x,b)∈acc->∀m,m∈b->uC ops m k){i:Nat}:∀{es:List Edge} {m:Nat},m∈mf acc es->∀L,Ct ops L->
  (∀e,e∈es->Region.binds .any e=true->L e.on=true)->L m=true:=by
 intro es;induction es with
 |nil=>intro m h;cases h
 |cons e es ih=>
  intro m h L hc hf;simp only[mf] at h;cases hb:Region.binds .any e with
  |false=>
   simp only[hb,cond_false] at h;exact ih h L hc fun cI mC=>hf cI (List.mem_cons_of_mem _ mC)
  |true=>
   simp only[hb,cond_true] at h;have h0:=hf e List.mem_cons_self hb;split at h
   ·rename_i x hx;rcases List.mem_cons.1 h with rfl|h
    ·exact h0
    ·rcases List.mem_append.1 h with h|h
     ·have hm:(e.on,x)∈acc:=Tf hx;obtain⟨ei,fR⟩:=x;exact ha _ _ _ hm m h L hc (hc _ h0)
     ·exact ih h L hc fun cI mC=>hf cI (List.mem_cons_of_mem _ mC)
   ·exact ih h L hc fun cI mC=>hf cI (List.mem_cons_of_mem _ mC)
structure tB(C:Ctx)(ops:Array Oper)(st:al)(D:Oper)(x:Rec):Prop where
 hJ:x.D=D
 guard:∀j want,D.guard=some (j,want)->∃t,(ops[j]?).bind (·.dst)=some t/\t∈x.k3/\((∃b,st.get t=one (.bool b)/\(x.go=(b==want)))\/((∃u,st.get t=b7 (.cV (.tuple u)))/\x.go=false))
 free:D.guard=none->x.go=true
 skip:x.go=false->x.v=Br/\x.us=[]
 run:x.go=true->∃y,(step C st D).comp=some y/\(step C st D).rL y=true/\x.v=(step C st D).val y/\x.us=(step C st D).us y/\(∀t,t∈o8 (lv D.op)->t∈x.k3)/\(∀o,o∈J9 C st D->o∈x.rn)/\(BX D.op=true->x.D5=true)
inductive k_(C:Ctx)(ops:Array Oper):List Oper->Nat->List (Nat×Rec×List Nat)->al->List Rec->al->Prop where
 |nil {i acc st}:k_ C ops [] i acc st [] st
 |cons {D r i acc st x xs ap} (aa:cr st D.dst=true) (he:sR i D.after.toList=true) (hx:tB C ops st D x) (hk:s3 (mf acc D.after.toList) x acc=true)
   (h:k_ C ops r (i+1) ((i,x,mf acc D.after.toList)::acc) (st.cY D.dst x.v x.us) xs ap):k_ C ops (D::r) i acc st (x::xs) ap
theorem aiH{R:Type}{g:Bool}{v:a8}{K:a8->Option R}{r:R}(h:KE g v K=some r):K v=some r:=by
 unfold KE at h;cases g with
 |false=>exact h
 |true=>
  simp only[cond_true] at h;split at h
  ·rename_i b;cases b<;>exact h
  ·exact h
theorem af5{R:Type}{C:Ctx}{g:Bool}{st:al}{D:Oper}{K:Rec->Option R}{r:R}(h:JR C ops g st D K=some r):∃x,tB C ops st D x/\K x=some r:=by
 have run:∀gs,Bk C g st D gs K=some r->(∀j want,D.guard=some (j,want)->∃t,(ops[j]?).bind (·.dst)=some t/\t∈gs/\∃b,st.get t=one (.bool b)/\(b==want)=true)->∃x,tB C ops st D x/\K x=some r:=by
  intro gs h hg;unfold Bk at h;obtain⟨y,hy,h⟩:=Option.bind_eq_some_iff.1 h;cases hc:(step C st D).rL y with
  |false=>simp[hc] at h
  |true=>
   simp only[hc,cond_true] at h;refine⟨_,⟨rfl,fun j want hj=>?_,fun _=>rfl,fun h=>(by cases h),fun _=>⟨y,hy,hc,rfl,rfl,fun t au=>List.mem_append.2 (.inr au),fun _ h=>h,fun h=>h⟩⟩,aiH h⟩
   obtain⟨t,h1,h2,b,h3,aC⟩:=hg j want hj;exact⟨t,h1,List.mem_append.2 (.inl h2),.inl ⟨b,h3,aC.symm⟩⟩
 have skip:∀gs,G8 D gs K=some r->(∃j want,D.guard=some (j,want)/\∃t,(ops[j]?).bind (·.dst)=some t/\t∈gs/\((∃b,st.get t=one (.bool b)/\(b==want)=false)\/∃u,st.get t=b7 (.cV (.tuple u))))->∃x,tB C ops st D x/\K x=some r:=by
  intro gs h hg;obtain⟨j,want,hj,t,h1,h2,h3⟩:=hg;refine⟨_,⟨rfl,fun adz aBq j2=>?_,fun h=>(by rw[hj] at h;cases h),fun _=>⟨rfl,rfl⟩,fun h=>(by cases h)⟩,h⟩
  rw[hj] at j2;cases j2;refine⟨t,h1,h2,?_⟩;rcases h3 with⟨b,h3,aC⟩|h3
  ·exact .inl ⟨b,h3,aC.symm⟩
  ·exact .inr ⟨h3,rfl⟩
 unfold JR at h;split at h
 ·rename_i hg;exact run [] h fun j want hj=>by rw[hg] at hj;cases hj
 ·rename_i j want hg;split at h
  ·rename_i t au;split at h
   ·rename_i b hb;cases b<;>cases want<;>simp only[cond_true,cond_false,Bool.not_true,Bool.not_false] at h
    ·exact run [t] h fun adz w' j2=>by rw[hg] at j2;cases j2;exact⟨t,au,List.mem_singleton.2 rfl,false,hb,rfl⟩
    ·exact skip [t] h ⟨j,true,hg,t,au,List.mem_singleton.2 rfl,.inl ⟨false,hb,rfl⟩⟩
    ·exact skip [t] h ⟨j,false,hg,t,au,List.mem_singleton.2 rfl,.inl ⟨true,hb,rfl⟩⟩
    ·exact run [t] h fun adz w' j2=>by rw[hg] at j2;cases j2;exact⟨t,au,List.mem_singleton.2 rfl,true,hb,rfl⟩
   ·rename_i u hu;exact skip [t] h ⟨j,want,hg,t,au,List.mem_singleton.2 rfl,.inr ⟨u,hu⟩⟩
   ·cases h
  ·cases h
theorem ai0{R:Type}{C:Ctx}{K:al->Option R}{r:R}:∀{os:List Oper} {i:Nat} {acc:List (Nat×Rec×List Nat)} {st:al},Cl C ops os i acc st K=some r->∃xs ap,k_ C ops os i acc st xs ap/\K ap=some r:=by
 intro os;induction os with
 |nil=>intro i acc st h;exact⟨[],st,.nil,h⟩
 |cons D os ih=>
  intro i acc st h;simp only[Cl] at h;cases aa:cr st D.dst&&sR i D.after.toList with
  |false=>simp[aa] at h
  |true=>
   simp only[aa,cond_true] at h;obtain⟨x,hx,h⟩:=af5 h;cases hk:s3 (mf acc D.after.toList) x acc with
   |false=>simp[hk] at h
   |true=>
    simp only[hk,cond_true] at h;obtain⟨xs,ap,h1,h2⟩:=ih h;simp only[Bool.and_eq_true] at aa;exact⟨x::xs,ap,.cons aa.1 aa.2 hx hk h1,h2⟩
theorem k_.length{C:Ctx}{os:List Oper}{i:Nat}{acc:List (Nat×Rec×List Nat)}{st ap:al}{xs:List Rec}(h:k_ C ops os i acc st xs ap):xs.length=os.length:=by
 induction h with
 |nil=>rfl
 |cons _ _ _ _ _ ih=>simp[ih]
theorem k_.atq{C:Ctx}{os:List Oper}{i:Nat}{acc:List (Nat×Rec×List Nat)}{st ap:al}{xs:List Rec}(h:k_ C ops os i acc st xs ap):∀k,ew (fun _=>true) k xs st=ap:=by
 induction h with
 |nil=>intro k;rfl
 |cons _ _ hx _ _ ih=>intro k;simp only[ew,cond_true,hx.hJ];exact ih _
theorem k_.at_{C:Ctx}{os:List Oper}{i:Nat}{acc:List (Nat×Rec×List Nat)}{st ap:al}{xs:List Rec}(h:k_ C ops os i acc st xs ap):∀j x,xs[j]? =some x->
  ∃D,os[j]? =some D/\cr st D.dst=true/\sR (i+j) D.after.toList=true/\tB C ops (ew (fun k=>decide (k<j)) 0 xs st) D x:=by
 induction h with
 |nil=>intro j x h;cases h
 |@cons D r i acc st x xs ap aa he hx hk h ih=>
  intro j y hy;cases j with
  |zero=>
   simp only[List.getElem?_cons_zero,Option.some.injEq] at hy;subst hy;refine⟨D,rfl,aa,he,?_⟩;rw[Fe fun j _=>by simp[Nat.blt]]
   exact hx
  |succ j=>
   obtain⟨c8,h1,h2,h3,aC⟩:=ih j y (by simpa using hy)
   refine⟨c8,by simpa using h1,?_,by rw[show i+(j+1)=i+1+j from by omega];exact h3,?_⟩
   ·revert h2;cases c8.dst<;>simp[cr,JS]
   ·simp only[ew];have e4:decide (0<j+1)=true:=by simp
    rw[e4,cond_true,hx.hJ];rw[O0 (L':=fun k=>decide (k<j)) (k':=0) fun m _=>by simp only[decide_eq_decide];omega]
    exact aC
theorem Qv{n:Nat}{l:List Nat}:fZ n l=true <-> n∈l:=by
 induction l with
 |nil=>simp[fZ]
 |cons m l ih=>
  simp only[fZ,Bool.or_eq_true,ih,List.mem_cons];constructor
  ·rintro(h|h)
   ·exact .inl (Nat.eq_of_beq_eq_true h)
   ·exact .inr h
  ·rintro(h|h)
   ·exact .inl (by rw[h];exact Nat.beq_refl m)
   ·exact .inr h
theorem agO{xN:List Nat}{x:Rec}:∀{acc:List (Nat×Rec×List Nat)},s3 xN x acc=true->∀k y b,(k,y,b)∈acc->k∈xN\/mi y x=false:=by
 intro acc;induction acc with
 |nil=>intro _ k y b h;cases h
 |cons p acc ih=>
  obtain⟨j,z,aCz⟩:=p;intro h k y b hm;simp only[s3,Bool.and_eq_true,Bool.or_eq_true] at h;rcases List.mem_cons.1 hm with hm|hm
  ·cases hm;rcases h.1 with h1|h1
   ·exact .inl (Qv.1 h1)
   ·exact .inr (by simpa using h1)
  ·exact ih h.2 k y b hm
theorem k_.awO{C:Ctx}{os:List Oper}{i:Nat}{acc:List (Nat×Rec×List Nat)}{st ap:al}{xs:List Rec}(h:k_ C ops os i acc st xs ap):∀(pre:List Rec),pre.length=i->(∀j,ops[i+j]? =os[j]?)->
  (∀k y,pre[k]? =some y->∃b,(k,y,b)∈acc)->(∀k x b,(k,x,b)∈acc->∀m,m∈b->uC ops m k)->∀j x,xs[j]? =some x->∀k y,k<i+j->(pre++xs)[k]? =some y->uC ops k (i+j)\/mi y x=false:=by
 induction h with
 |nil=>intro pre _ _ _ _ j x h;cases h
 |@cons D r i acc st x xs ap aa he hx hk h ih=>
  intro pre hlen Zh Zg iH j y hy k z axF hz;have Zs:∀m,m∈mf acc D.after.toList->uC ops m i:=fun m hm L hc hf=>by
   refine ald iH (i:=i) hm L hc fun e he hb=>hf D ?_ e he hb
   have:=Zh 0;simpa using this
  cases j with
  |zero=>
   simp only[List.getElem?_cons_zero,Option.some.injEq] at hy;subst hy;simp only[Nat.add_zero] at axF ⊢;rw[List.getElem?_append_left (by omega)] at hz
   obtain⟨b,hb⟩:=Zg k z hz;rcases agO hk k z b hb with h1|h1
   ·exact .inl (Zs k h1)
   ·exact .inr h1
  |succ j=>
   have:=ih (pre++[x]) (by simp[hlen]) (fun j=>by have:=Zh (j+1);rw[show i+1+j=i+(j+1) from by omega];simpa using this)
    (fun k y hy=>?_) (fun k iv b hm m abX=>?_) j y (by simpa using hy) k z (by omega) (by simpa using hz)
   ·rw[show i+(j+1)=i+1+j from by omega];exact this
   ·rcases Nat.lt_or_ge k pre.length with ak|ak
    ·rw[List.getElem?_append_left ak] at hy;obtain⟨b,hb⟩:=Zg k y hy;exact⟨b,List.mem_cons_of_mem _ hb⟩
    ·rw[List.getElem?_append_right ak] at hy;have h0:k-pre.length=0:=by
      rcases Nat.eq_zero_or_pos (k-pre.length) with h0|h0
      ·exact h0
      ·rw[List.getElem?_eq_none (by simp;omega)] at hy;cases hy
     rw[h0] at hy;simp only[List.getElem?_cons_zero,Option.some.injEq] at hy;subst hy;have:k=i:=by omega
     subst this;exact⟨_,List.mem_cons_self⟩
   ·rcases List.mem_cons.1 hm with hm|hm
    ·cases hm;exact Zs m abX
    ·exact iH k iv b hm m abX
end
section
variable {P:Program}{U:World}{Y:List Nat}{X:Nat->Prop}{F:Nat->Value}{st ap:al}{M:Array Value}{w:World}
theorem aq.same(S:aq U Y X F st M w)(hv:∀l,er st l=er ap l)(hn:st.nt=ap.nt):aq U Y X F ap M w:=by
 have hs:∀o,look st.sites o=look ap.sites o:=fun o=>by have:=hv (.inr o);simpa[er,al.af] using this
 have hg:∀t,st.get t=ap.get t:=fun t=>by have:=hv (.inl t);simpa[er] using this
 have hl:∀o,cq st.sites o <-> cq ap.sites o:=fun o=>by unfold cq;rw[hs]
 have ha:aJ X F ap.sites=aJ X F st.sites:=by
  funext b
  unfold aJ;simp only[hl]
 have G:io F F st.sites ap.sites w w (aJ X F st.sites) (aJ X F ap.sites):=by
  rw[ha];exact⟨fun o af h=>⟨af,by rw[<-hs];exact h,Nat.le_refl _,fun _=>rfl⟩,fun _ _ _=>rfl,fun _ h _=>h⟩
 have hlt:∀b,aJ X F ap.sites b->b<w.heap.size:=fun b hb=>S.lt (by rw[<-ha];exact hb)
 refine⟨S.nt.trans hn,fun t=>?_,fun o af h=>?_,fun o ab b h1 h2=>S.eh o ab b ((hl o).2 h1) ((hl ab).2 h2),fun o b h=>S.ct o b ((hl o).2 h),S.frame,S.old,S.e9⟩
 ·rw[<-hg];exact(S.cN t).goes G (Nat.le_refl _) hlt
 ·exact(S.sites o af (by rw[hs];exact h)).goes G (Nat.le_refl _) hlt rfl (fun _ _ _=>rfl)
theorem aq.drawn(S:aq U Y X F st M w)(n:Nat):aq U Y X F st M {w with drawn:=n}:=by
 have G:io F F st.sites st.sites w {w with drawn:=n} (aJ X F st.sites) (aJ X F st.sites):=
  ⟨fun o af h=>⟨af,h,Nat.le_refl _,fun _=>rfl⟩,fun _ _ _=>rfl,fun _ h _=>h⟩
 refine⟨S.nt,fun t=>(S.cN t).goes G (Nat.le_refl _) fun b hb=>S.lt hb,fun o af h=>(S.sites o af h).goes G (Nat.le_refl _) (fun b hb=>S.lt hb) rfl (fun _ _ _=>rfl),S.eh,S.ct,⟨S.frame.os,S.frame.tape,S.frame.output,S.frame.size,S.frame.block⟩,S.old,S.e9⟩
theorem aex{aH:Type}:∀{us:List (Nat×aH)} {o:Nat} {s:aH},nV us o=some s->o∈keys us:=by
 intro us;induction us with
 |nil=>intro o s h;cases h
 |cons p us ih=>
  obtain⟨k,v⟩:=p;intro o s h;simp only[nV] at h;split at h
  ·rename_i x hx;exact List.mem_cons_of_mem _ (ih hx)
  ·cases hb:k.beq o with
   |true=>rw[<-Nat.eq_of_beq_eq_true hb];exact List.mem_cons_self
   |false=>simp[hb] at h
theorem FH{n:Nat}{l:List Nat}:fZ n l=true <-> n∈l:=Qv
theorem sv{l m:List Nat}{n:Nat}(h1:n∈l)(h2:n∈m):e8 l m=false:=by
 induction l with
 |nil=>cases h1
 |cons k l ih=>
  simp only[e8];rcases List.mem_cons.1 h1 with rfl|h1
  ·rw[FH.2 h2];rfl
  ·rw[ih h1,Bool.and_false]
theorem Py{l:List Nat}{n:Nat}(h1:n∈l)(h2:1000000<=n):v_ l=true:=by
 induction l with
 |nil=>cases h1
 |cons k l ih=>
  simp only[v_,Bool.or_eq_true];rcases List.mem_cons.1 h1 with rfl|h1
  ·exact .inl (Nat.ble_eq_true_of_le h2)
  ·exact .inr (ih h1)
def Rec.at_(x:Rec):oV->Prop
 |.inl t=>t∈x.k3
 |.inr o=>o∈x.rn\/(x.D5=true/\1000000<=o)
theorem Bq{x:Rec}{t:Nat}(h:x.wr (.inl t)≠none):x.D.dst=some t:=by
 simp only[Rec.wr] at h;split at h
 ·rename_i d aa;cases hb:d.beq t with
  |true=>rw[aa,Nat.eq_of_beq_eq_true hb]
  |false=>simp[hb] at h
 ·exact absurd rfl h
theorem Bp{x:Rec}{o:Nat}(h:x.wr (.inr o)≠none):o∈keys x.us:=by
 simp only[Rec.wr] at h;cases hl:nV x.us o with
 |none=>simp[hl] at h
 |some s=>exact aex hl
theorem am0{a b:Rec}{l:oV}(h1:a.wr l≠none)(h2:b.at_ l):mi a b=true:=by
 unfold mi;cases l with
 |inl t=>
  have:=Bq h1;have h2:t∈b.k3:=h2;simp[this,tE,FH.2 h2]
 |inr o=>
  have:=Bp h1;rcases h2 with h2|⟨h2,h3⟩
  ·have:e8 (keys a.us) (b.rn++keys b.us)=false:=sv this (List.mem_append.2 (.inl h2));simp[this]
  ·have:=Py this h3;simp[this,h2]
theorem am1{a b:Rec}{l:oV}(h1:a.at_ l)(h2:b.wr l≠none):mi a b=true:=by
 unfold mi;cases l with
 |inl t=>
  have:=Bq h2;have h1:t∈a.k3:=h1;simp[this,tE,FH.2 h1]
 |inr o=>
  have:=Bp h2;rcases h1 with h2|⟨h2,h3⟩
  ·have:e8 (keys b.us) a.rn=false:=sv this h2;simp[this]
  ·have:=Py this h3;simp[this,h2]
theorem amZ{a b:Rec}{l:oV}(h1:a.wr l≠none)(h2:b.wr l≠none):mi a b=true:=by
 unfold mi;cases l with
 |inl t=>
  have e1:=Bq h1;have e2:=Bq h2;simp[e1,e2,tE,fZ]
 |inr o=>
  have e1:=Bp h1;have e2:=Bp h2;have:e8 (keys a.us) (b.rn++keys b.us)=false:=sv e1 (List.mem_append.2 (.inr e2));simp[this]
variable {C:Ctx}{ops:Array Oper}{rn:Option Nat}{ds:List Deferred}
def ot(L:Nat->Bool)(i:Nat):Nat->Bool:=fun j=>L j||decide (j=i)
theorem aiZ(H:aQ P C){xs:List Rec}{bD:al}{i:Nat}{D:Oper}{x:Rec}(hx:xs[i]? =some x)(aa:cr bD D.dst=true)(hr:tB C ops (ew (fun k=>decide (k<i)) 0 xs bD) D x)
  (ra:∀j y,xs[j]? =some y->∀k z,k<j->xs[k]? =some z->uC ops k j\/mi z y=false) {L:Nat->Bool} (hc:Ct ops L) (hi:L i=false) (hf:Dr ops L i) (axA:ops[i]? =some D)
  (S:aq U Y X F (ew L 0 xs bD) M w) {Q:Exit->Act->World->Prop} {K:Act->World->Prop} (bT:∀a6 b6 w',aq U Y X a6 (ew (ot L i) 0 xs bD) b6 w'->(∀t,t∉D.dst.toList->b6.getD t undef=M.getD t undef)->K ⟨b6,ds⟩ w'):wpOpIn (eM rn) 0 P ops Q i K ⟨M,ds⟩ w:=by
 have LY:∀l,x.at_ l->er (ew (fun k=>decide (k<i)) 0 xs bD) l=er (ew L 0 xs bD) l:=fun l hl=>by
  refine(Fc rfl fun j y hy hw=>?_).symm
  simp only[Nat.zero_add];rcases Nat.lt_trichotomy j i with h|h|h
  ·rcases ra i x hx j y h hy with h1|h1
   ·rw[h1 L hc hf];simp[h]
   ·rw[am0 hw hl] at h1;cases h1
  ·subst h;rw[hi];simp
  ·have:L j=false:=by
    cases rI:L j with
    |false=>rfl
    |true=>
     rcases ra j y hy i x h hx with h1|h1
     ·have:=h1 L hc (hc j rI);rw[hi] at this;cases this
     ·rw[am1 hl hw] at h1;cases h1
   rw[this];simp;omega
 have Xb:∀t,t∈x.k3->(ew (fun k=>decide (k<i)) 0 xs bD).get t=(ew L 0 xs bD).get t:=fun t au=>by
  have:=LY (.inl t) au;simpa[er] using this
 have CA:∀l,er ((ew L 0 xs bD).cY x.D.dst x.v x.us) l=er (ew (ot L i) 0 xs bD) l:=fun l=>by
  rw[y_];cases hw:x.wr l with
  |none=>
   simp only;refine Fc rfl fun j y hy Me=>?_
   simp only[Nat.zero_add,ot];by_cases h:j=i
   ·subst h;rw[hx] at hy;cases hy;exact absurd hw Me
   ·simp[h]
  |some u=>
   simp only;refine(ahi hx (by simp[ot]) hw fun j y pT hy Me=>?_).symm
   simp only[Nat.zero_add,ot];have:L j=false:=by
    cases rI:L j with
    |false=>rfl
    |true=>
     rcases ra j y hy i x pT hx with h1|h1
     ·have:=h1 L hc (hc j rI);rw[hi] at this;cases this
     ·rw[amZ (by rw[hw];intro h;cases h) Me] at h1;cases h1
   rw[this];simp;omega
 have aca:cr (ew L 0 xs bD) D.dst=true:=by revert aa;cases D.dst<;>simp[cr,G_]
 have fin:∀a6 b6 w',aq U Y X a6 ((ew L 0 xs bD).cY x.D.dst x.v x.us) b6 w'->(∀t,t∉D.dst.toList->b6.getD t undef=M.getD t undef)->K ⟨b6,ds⟩ w':=fun a6 b6 w' cm=>bT a6 b6 w' (cm.same CA (by rw[JS,G_,G_]))
 unfold wpOpIn;rw[axA];simp only;have CC:Region.wanted D (yielded ops M)=x.go:=by
  cases hg:D.guard with
  |none=>rw[hr.free hg];simp[Region.wanted,hg]
  |some Nv=>
   obtain⟨j,want⟩:=Nv;obtain⟨t,h1,h2,h3⟩:=hr.guard j want hg;rw[show Region.wanted D (yielded ops M)=(yielded ops M j==some want) by simp[Region.wanted,hg]]
   have jn:=S.cN t;rw[<-Xb t h2] at jn;rcases h3 with⟨b,h3,aC⟩|⟨⟨u,h3⟩,aC⟩
   ·rw[h3] at jn;have hv:=jK jn;have hy:yielded ops M j=some b:=by
     have au:t<M.size:=by
      rcases Nat.lt_or_ge t M.size with ak|ak
      ·exact ak
      ·simp[Array.getD,Nat.not_lt.2 ak,undef] at hv
     have:M[t]? =some (.bool b):=by
      rw[Array.getElem?_eq_getElem au];simpa[Array.getD,au] using hv
     simp[yielded,h1,this]
    rw[hy,aC];cases b<;>cases want<;>rfl
   ·rw[h3] at jn;have hv:M.getD t undef=.tuple u:=jn;have hy:yielded ops M j=none:=by
     simp only[yielded,h1,Option.bind_some];cases au:M[t]? with
     |none=>rfl
     |some v=>
      have:M.getD t undef=v:=by simp[Array.getD_eq_getD_getElem?,au]
      rw[this] at hv;rw[hv]
    rw[hy,aC];rfl
 cases um:x.go with
 |false=>
  rw[um] at CC;rw[if_neg (by rw[CC];decide)]
  obtain⟨e1,e2⟩:=hr.skip um;refine⟨fun f _=>CR rn f,yL (R:=al) (r:=(ew L 0 xs bD).cY D.dst Br []) S (K:=some) (by simp[sZ,aca]) fun eK gK hZ aY h1 dz=>?_⟩
  cases h1;refine fin gK hZ aY ?_
  rw[hr.hJ,e1,e2];exact dz
 |true=>
  rw[um] at CC;rw[if_pos CC];obtain⟨y,g1,g2,g3,g4,g5,g6,g7⟩:=hr.run um;have dV:step C (ew (fun k=>decide (k<i)) 0 xs bD) D=step C (ew L 0 xs bD) D:=by
   refine agw (fun t au=>Xb t (g5 t au)) (fun o bz=>?_) fun aqK o bz=>?_
   ·have:=LY (.inr o) (.inl (g6 o bz));simpa[er] using this
   ·have:=LY (.inr o) (.inr ⟨g7 aqK,bz⟩);simpa[er] using this
  revert y
  rw[dV];intro y g1 g2 g3 g4;refine nT (R:=al) (r:=(ew L 0 xs bD).cY D.dst x.v x.us) S H (K:=some) ?_ fun eK gK hZ aY h1 dz=>?_
  ·unfold ky;rw[aca,cond_true,g1];simp only[Option.bind_some,g2,cond_true,g3,g4]
  ·cases h1;refine fin gK hZ aY ?_
   rw[hr.hJ];exact dz
def xc(listed:Array Bool):Nat:=listed.toList.count false
def gE(listed:Array Bool):Nat->Bool:=fun j=>listed.getD j false
theorem alv{listed:Array Bool}{i:Nat}(h:listed.getD i true=false):xc (listed.setIfInBounds i true)+1=xc listed:=by
 unfold xc;have hlt:i<listed.size:=by
  rcases Nat.lt_or_ge i listed.size with ak|ak
  ·exact ak
  ·simp[Array.getD,Nat.not_lt.2 ak] at h
 have hv:listed.toList[i]'(by simpa using hlt)=false:=by simpa[Array.getD,hlt] using h
 rw[Array.toList_setIfInBounds,List.count_set (by simpa using hlt)]
 rw[hv];have:0<listed.toList.count false:=List.count_pos_iff.2 (by rw[<-hv];exact List.getElem_mem _)
 have e1:(if(false==false)=true then 1 else 0)=1:=rfl
 have e2:(if(true==false)=true then 1 else 0)=0:=rfl
 rw[e1,e2];omega
theorem QM{D:Oper}{t:Nat}:∀{l:List Oper},D∈l->t∈D.dst.toList->t∈iE l:=by
 intro l;induction l with
 |nil=>intro h;cases h
 |cons p l ih=>
  intro h au;simp only[iE,List.mem_append];rcases List.mem_cons.1 h with rfl|h
  ·exact .inl au
  ·exact .inr (ih h au)
theorem ak3(H:aQ P C){bD DC:al}{xs:List Rec}(bl:k_ C ops ops.toList 0 [] bD xs DC){Q:Exit->Act->World->Prop}{eP:Array Value}(Er:∀F M w,aq U Y X F DC M w->(∀t,t∉iE ops.toList->M.getD t undef=eP.getD t undef)->Q .normal ⟨M,ds⟩ w):
  ∀(mm:Nat) (listed:Array Bool) (F:Nat->Value) (M:Array Value) (w:World),listed.size=ops.size->xc listed<=mm->Ct ops (gE listed)->aq U Y X F (ew (gE listed) 0 xs bD) M w->
   (∀t,t∉iE ops.toList->M.getD t undef=eP.getD t undef)->wpAnyIn (eM rn) 0 P .any ops Q mm listed ⟨M,ds⟩ w:=by
 have hlen:xs.length=ops.size:=by rw[bl.length];simp
 have ra:∀j y,xs[j]? =some y->∀k z,k<j->xs[k]? =some z->uC ops k j\/mi z y=false:=fun j y hy k z hk hz=>by
  have:=bl.awO [] rfl (fun j=>by simp) (fun k y h=>by simp at h) (fun k x b h=>by simp at h) j y hy k z (by omega) (by simpa using hz)
  simpa using this
 have all:∀listed:Array Bool,listed.size=ops.size->(∀j,j<ops.size->gE listed j=true)->∀F M w,aq U Y X F (ew (gE listed) 0 xs bD) M w->(∀t,t∉iE ops.toList->M.getD t undef=eP.getD t undef)->Q .normal ⟨M,ds⟩ w:=fun listed hs hl F M w S au=>by
  refine Er F M w ?_ au;rw[<-bl.atq 0];rw[O0 (L':=gE listed) (k':=0) fun j hj=>by simp only[Nat.zero_add];rw[hl j (by omega)]]
  exact S
 have done:∀listed:Array Bool,listed.size=ops.size->Region.ready .any ops listed=[]->∀j,j<ops.size->gE listed j=true:=fun listed hs hr j=>by
  induction j using Nat.strongRecOn with
  |_ j ih=>
   intro hj;cases rI:gE listed j with
   |true=>rfl
   |false=>
    exfalso
    have hx:xs[j]? =some (xs[j]'(by omega)):=List.getElem?_eq_getElem _
    obtain⟨D,h1,_,h3,_⟩:=bl.at_ j _ hx;have h1:ops[j]? =some D:=by simpa using h1
    have hm:j∈Region.ready .any ops listed:=by
     rw[mem_ready];refine⟨?_,D,h1,fun e he hb=>?_⟩
     ·have hlt:j<listed.size:=by omega
      simpa[gE,Array.getD,hlt] using rI
     ·have:e.on<j:=by
       have mC:e∈D.after.toList:=by simpa using he
       clear he hr;revert h3
       simp only[Nat.zero_add];generalize D.after.toList=es at mC;induction es with
       |nil=>cases mC
       |cons cI es aw9=>
        intro h3;simp only[sR,Bool.and_eq_true] at h3;rcases List.mem_cons.1 mC with rfl|mC
        ·rw[hb] at h3;simpa using h3.1
        ·exact aw9 mC h3.2
      have:=ih e.on this (by omega)
      simpa[gE] using this
    rw[hr] at hm;cases hm
 intro mm;induction mm with
 |zero=>
  intro listed F M w hs hu hc S au;have nm:∀j,j<ops.size->gE listed j=true:=fun j hj=>by
   have h0:listed.toList.count false=0:=Nat.le_zero.1 hu;rw[List.count_eq_zero] at h0;cases rI:gE listed j with
   |true=>rfl
   |false=>
    exfalso
    have hlt:j<listed.size:=by omega
    apply h0;have:listed.toList[j]'(by simpa using hlt)=false:=by simpa[gE,Array.getD,hlt] using rI
    rw[<-this];exact List.getElem_mem _
  refine⟨?_,all listed hs nm F M w S au⟩;rw[List.eq_nil_iff_forall_not_mem];intro j hj;rw[mem_ready] at hj;obtain⟨h1,D,h2,_⟩:=hj;have hj:j<ops.size:=(Array.getElem?_eq_some_iff.1 h2).1;have:=nm j hj;have hlt:j<listed.size:=by omega
  simp[gE,Array.getD,hlt] at this h1;rw[h1] at this;cases this
 |succ mm ih=>
  intro listed F M w hs hu hc S au;refine⟨fun hr=>all listed hs (done listed hs hr) F M w S au,fun i hi=>?_⟩
  have jz:=mem_ready.1 hi;obtain⟨h1,D,h2,h3⟩:=jz;have ul:i<ops.size:=(Array.getElem?_eq_some_iff.1 h2).1;have hx:xs[i]? =some (xs[i]'(by omega)):=List.getElem?_eq_getElem _
  obtain⟨c8,g1,g2,g3,g4⟩:=bl.at_ i _ hx;have g1:ops[i]? =some c8:=by simpa using g1
  rw[h2] at g1;cases g1;have hlt:i<listed.size:=by omega
  have ax5:gE listed i=false:=by simpa[gE,Array.getD,hlt] using h1
  have hf:Dr ops (gE listed) i:=fun o2 xz e he hb=>by
   rw[h2] at xz;cases xz;have:=h3 e (by simpa using he) hb
   simpa[gE] using this
  have wN:gE (listed.setIfInBounds i true)=ot (gE listed) i:=by
   funext j
   simp only[gE,ot];by_cases h:j=i
   ·subst h;simp[hlt]
   ·simp[h,Array.getElem?_setIfInBounds_ne (show i≠j from fun e=>h e.symm)]
  refine aiZ H hx g2 g4 ra hc ax5 hf h2 S fun a6 b6 w' cm nD=>ih _ a6 b6 w' (by simpa using hs) (by have:=alv h1;omega) ?_ (by rw[wN];exact cm) fun t htn=>(nD t fun ak=>htn (QM (l:=ops.toList) (by simpa using Array.mem_of_getElem? h2) ak)).trans (au t htn)
  rw[wN];intro j hj o2 xz e he hb;simp only[ot,Bool.or_eq_true,decide_eq_true_eq] at hj;simp only[ot,Bool.or_eq_true,decide_eq_true_eq];rcases hj with hj|hj
  ·exact .inl (hc j hj o2 xz e he hb)
  ·subst hj;exact .inl (hf o2 xz e he hb)
theorem aiT:∀l:List Nat,dU st.sites (B' st l):=by
 intro l;induction l with
 |nil=>exact .nil
 |cons t l ih=>
  refine dU.append ?_ ih;unfold WH;split
  ·rename_i o s _;split
   ·rename_i aN t xs hs;cases hb:aN.beq s with
    |false=>exact .nil
    |true=>
     intro ab af hm;simp only[cond_true,List.mem_singleton,Prod.mk.injEq] at hm;obtain⟨rfl,rfl⟩:=hm;exact⟨aN,t,xs,rfl,.inl hs⟩
   ·exact .nil
  ·exact .nil
theorem ag9(H:aQ P C)(hm:P.follows .mixedOrders=true){R:Type}{r:R}{K:al->Option R}{id:Nat}{Q:Exit->Act->World->Prop}(S:aq U Y X F st M w)(h:TM C ops st K=some r)
  (bT:∀ap a6 b6 w',K ap=some r->aq U Y X a6 ap b6 w'->(∀t,t∉iE ops.toList->b6.getD t undef=M.getD t undef)->Q .normal ⟨b6,ds⟩ w'):gi rn P (Code.region id ops true) Q ⟨M,ds⟩ w:=by
 obtain⟨xs,DC,bl,hk⟩:=ai0 h;have S:aq U Y X F (st.il (B' st (Gt ops.toList ops.toList))) M w:=by rw[al.vn];exact S.Bh (aiT _)
 refine wpIn_region_any hm (ak3 H bl (fun F M w S=>bT DC F M w hk S) _ _ F M _ (by simp) ?_ ?_ ?_ (fun _ _=>rfl))
 ·unfold xc;simp
 ·intro j hj;simp only[gE] at hj;exfalso
  rw[Array.getD_eq_getD_getElem?,Array.getElem?_replicate] at hj;split at hj<;>cases hj
 ·rw[Fe fun j _=>by
   simp only[gE];rw[Array.getD_eq_getD_getElem?,Array.getElem?_replicate];split<;>rfl]
  exact S.drawn _
end
def tC(r:Option Nat)(c:Code):Prop:=r=none\/gS c=true
theorem tC.left{r:Option Nat}{a b:Bool}(h:r=none\/(a&&b)=true):r=none\/a=true:=by
 rcases h with h|h
 ·exact .inl h
 ·simp only[Bool.and_eq_true] at h;exact .inr h.1
theorem tC.right{r:Option Nat}{a b:Bool}(h:r=none\/(a&&b)=true):r=none\/b=true:=by
 rcases h with h|h
 ·exact .inl h
 ·simp only[Bool.and_eq_true] at h;exact .inr h.2
theorem jJ{P:Program}{C:hV}(H:aQ P C.toCtx){R:Type}{r:R}{rn:Option Nat}:∀(c:Code) (p:Nat),(rn=none\/gS c=true)->gn P C c p->∀(U:World) (Y:List Nat) (X:Nat->Prop) (st:al) (F:Nat->Value) (M:Array Value) (w:World)
  (ds:List Deferred) (K:Out->Option R)
  (Q:Exit->Act->World->Prop),exec C c p st K=some r->aq U Y X F st M w->(∀D e a w',K D=some r->fg U Y X ds M (cx c) D e a w'->Q e a w')->gi rn P c Q ⟨M,ds⟩ w:=by
 have piece:∀(c:Code) (p:Nat),(rn=none\/gS c=true)->(∀f,C.ov p=some f->aS P c f)->∀(U:World) (Y:List Nat) (X:Nat->Prop) (st:al) (F:Nat->Value) (M:Array Value) (w:World) (ds:List Deferred) (K:Out->Option R) (Q:Exit->Act->World->Prop) (x:Option R),
   wrap C p st K x=some r->aq U Y X F st M w->(∀D e a w',K D=some r->fg U Y X ds M (cx c) D e a w'->Q e a w')->(x=some r->gi rn P c Q ⟨M,ds⟩ w)->gi rn P c Q ⟨M,ds⟩ w:=by
  intro c p hn hf U Y X st F M w ds K Q x h S bT hx;unfold wrap at h;cases aM:C.ov p with
  |none=>simp only[aM] at h;exact hx h
  |some f=>
   simp only[aM] at h;cases hc:(f st).comp with
   |none=>simp[hc] at h
   |some y=>
    simp only[hc,Option.bind_some,(f st).run_eq] at h;exact wpIn_mono (hf f aM rn hn U Y X st y hc F M w ds S) fun e a w' hl=>bT _ e a w' h hl
 intro c;induction c with
 |skip=>
  intro p _ _ U Y X st F M w ds K Q h S bT;exact wpIn_skip (bT (.norm st) .normal _ _ h (eD.of S fun _ _=>rfl))
 |region id ops draw=>
  intro p hn ep U Y X st F M w ds K Q h S bT;cases draw with
  |false=>
   simp only[exec] at h;refine piece _ p hn ep U Y X st F M w ds K Q _ h S bT fun ak=>?_
   refine wpIn_region ?_
   rw[List.range_eq_range'];refine ahV H (W:=iE ops.toList) ops.size 0 (by omega) (fun D aM t au=>QM (by simpa using aM) au) st F M w _ Q S ak ?_
   intro ap a6 b6 w' hk cm au;exact bT (.norm ap) .normal _ _ hk (eD.of cm au)
  |true=>
   simp only[exec] at h;refine piece _ p hn ep U Y X st F M w ds K Q _ h S bT fun ak=>?_
   exact ag9 H H.Nt S ak fun ap a6 b6 w' hk cm au=>bT (.norm ap) .normal _ _ hk (eD.of cm au)
 |seq a b mv rl=>
  intro p hn ep U Y X st F M w ds K Q h S bT;simp only[exec] at h;refine piece _ p hn ep.1 U Y X st F M w ds K Q _ h S bT fun ak=>?_
  refine wpIn_seq (mv _ (tC.left hn) ep.2.1 U Y X st F M w ds _ _ ak S ?_);intro D e cR w' hk hl;have up:∀{D e cR w'},fg U Y X ds M (cx a) D e cR w'->fg U Y X ds M (cx (.seq a b)) D e cR w':=fun hl=>hl.mono fun t au=>List.mem_append.2 (.inl au)
  cases D with
  |norm ap=>
   cases e<;>try exact hl.elim
   obtain⟨aY,dP,c9,a6,dS,h1,h2,h3,cm,bk⟩:=hl;obtain⟨b6,NA⟩:=cR;obtain⟨h3,ayg⟩:=h3;have h3:NA=dS.map mark++ds:=h3;subst h3;exact rl _ (tC.right hn) ep.2.2 aY dP c9 ap a6 b6 w' _ K Q hk cm fun D e a2 w2 hk2 oD=>bT D e a2 w2 hk2 (fg.trans h1 h2 ayg bk oD)
  |exit id ap=>
   cases e<;>try exact hl.elim
   exact bT _ _ _ _ hk (up hl)
  |ret ap=>
   cases e<;>try exact hl.elim
   exact bT _ _ _ _ hk (up hl)
 |cond D a b mv rl=>
  intro p hn ep U Y X st F M w ds K Q h S bT;simp only[exec] at h;refine piece _ p hn ep.1 U Y X st F M w ds K Q _ h S bT fun ak=>?_
  split at ak
  ·rename_i t au;have hv:=IW S au;have hv:Act.eval ⟨M,ds⟩ D=.bool t:=by cases D<;>exact hv
   cases t with
   |true=>exact wpIn_cond hv (mv _ (tC.left hn) ep.2.1 U Y X st F M w ds K Q ak S fun D e a2 w2 hk2 oD=>bT D e a2 w2 hk2 (oD.mono fun t au=>List.mem_append.2 (.inl au)))
   |false=>exact wpIn_cond hv (rl _ (tC.right hn) ep.2.2 U Y X st F M w ds K Q ak S fun D e a2 w2 hk2 oD=>bT D e a2 w2 hk2 (oD.mono fun t au=>List.mem_append.2 (.inr au)))
  ·cases ak
 |block id a mv=>
  intro p hn ep U Y X st F M w ds K Q h S bT;simp only[exec] at h;refine piece _ p hn ep.1 U Y X st F M w ds K Q _ h S bT fun ak=>?_
  refine wpIn_block (mv _ hn ep.2 U Y X st F M w ds _ _ ak S ?_);intro D e cR w' hk hl;cases D with
  |norm ap=>
   cases e<;>try exact hl.elim
   exact bT _ _ _ _ hk hl
  |exit ja ap=>
   cases e<;>try exact hl.elim
   rename_i aB2;obtain⟨rfl,hl⟩:=hl;simp only[Exit.inBlock];cases hb:ja.beq id with
   |true=>
    simp only[hb,cond_true] at hk;have:=Nat.eq_of_beq_eq_true hb;subst this;simp only[if_true];exact bT _ _ _ _ hk hl
   |false=>
    simp only[hb,cond_false] at hk;have:ja≠id:=by rintro rfl;rw[Nat.beq_refl] at hb;cases hb
    simp only[this,if_false];exact bT _ _ _ _ hk ⟨rfl,hl⟩
  |ret ap=>
   cases e<;>try exact hl.elim
   exact bT _ _ _ _ hk hl
 |loop a _=>
  intro p hn ep U Y X st F M w ds K Q h S bT;simp only[exec] at h;exact piece _ p hn ep U Y X st F M w ds K Q _ h S bT fun ak=>by cases ak
 |rangeFunc=>
  intro p hn ep U Y X st F M w ds K Q h S bT;simp only[exec] at h;exact piece _ p hn ep U Y X st F M w ds K Q _ h S bT fun ak=>by cases ak
 |exit id=>
  intro p _ _ U Y X st F M w ds K Q h S bT;exact wpIn_exit (bT (.exit id st) (.exit id) _ _ h ⟨rfl,eD.of S fun _ _=>rfl⟩)
 |ret=>
  intro p _ _ U Y X st F M w ds K Q h S bT;exact wpIn_ret (bT (.ret st) .ret _ _ h (eD.of S fun _ _=>rfl))
 |_=>
  intro p _ _ U Y X st F M w ds K Q h S bT;simp only[exec] at h;cases h
inductive dL:Type where
 |int (k:IntKind)
 |bool
 |str
 |sl (t:bf)
 |map (t:bf)
 |err (T:Nat)
@[reducible] def dL.J:dL->Type
 |.int _=>Int
 |.bool=>Bool
 |.str=>B
 |.sl t=>List (den t)
 |.map t=>List (B×den t)
 |.err _=>Option Int
def dL.mk:(s:dL)->s.J->bh
 |.int k,n=>.int k n
 |.bool,b=>.bool b
 |.str,s=>.str s
 |.sl t,xs=>.sl t xs
 |.map t,es=>.map t es
 |.err T,D=>.err T D
def dL.ex:(s:dL)->bh->Option s.J
 |.int k,.int k' n=>if k=k' then some n else none
 |.bool,.bool b=>some b
 |.str,.str s=>some s
 |.sl t,.sl bo xs=>if h:bo=t then some (h▸xs) else none
 |.map t,.map bo es=>if h:bo=t then some (h▸es) else none
 |.err T,.err gC D=>if gC=T then some D else none
 |_,_=>none
theorem dL.Wn{s:dL}{d:bh}{y:s.J}(h:s.ex d=some y):s.mk y=d:=by
 unfold dL.ex at h;split at h
 ·split at h
  ·rename_i e;cases h;subst e;rfl
  ·cases h
 ·cases h;rfl
 ·cases h;rfl
 ·split at h
  ·rename_i e;cases h;subst e;rfl
  ·cases h
 ·split at h
  ·rename_i e;cases h;subst e;rfl
  ·cases h
 ·split at h
  ·rename_i e;cases h;subst e;rfl
  ·cases h
 ·cases h
@[reducible] def kY:List dL->Type
 |[]=>Unit
 |s::r=>s.J×kY r
def fw:(bc:List dL)->kY bc->List bh
 |[],_=>[]
 |s::r,(y,z)=>s.mk y::fw r z
def wU:(bc:List dL)->List bh->Option (kY bc)
 |[],[]=>some ()
 |s::r,d::ds=>match s.ex d,wU r ds with
  |some y,some z=>some (y,z)
  |_,_=>none
 |_,_=>none
theorem Tc:∀{bc:List dL} {ds:List bh} {y:kY bc},wU bc ds=some y->fw bc y=ds:=by
 intro bc;induction bc with
 |nil=>intro ds y h;cases ds with
  |nil=>rfl
  |cons=>cases h
 |cons s bc ih=>
  intro ds y h;cases ds with
  |nil=>cases h
  |cons d ds=>
   simp only[wU] at h;split at h
   ·rename_i a b h1 h2;cases h;simp only[fw,dL.Wn h1,ih h2]
   ·cases h
@[reducible] def wX:List (List dL)->Type
 |[]=>Unit
 |s::r=>kY s×wX r
def wk:(bc:List (List dL))->wX bc->List (List bh)
 |[],_=>[]
 |s::r,(y,z)=>fw s y::wk r z
def CK:(bc:List (List dL))->List (List bh)->Option (wX bc)
 |[],[]=>some ()
 |s::r,d::ds=>match wU s d,CK r ds with
  |some y,some z=>some (y,z)
  |_,_=>none
 |_,_=>none
theorem akw:∀{bc:List (List dL)} {ds:List (List bh)} {y:wX bc},CK bc ds=some y->wk bc y=ds:=by
 intro bc;induction bc with
 |nil=>intro ds y h;cases ds with
  |nil=>rfl
  |cons=>cases h
 |cons s bc ih=>
  intro ds y h;cases ds with
  |nil=>cases h
  |cons d ds=>
   simp only[CK] at h;split at h
   ·rename_i a b h1 h2;cases h;simp only[wk,Tc h1,ih h2]
   ·cases h
inductive dr:Type where
 |any
 |d (s:dL)
 |fn (g:FuncId) (cQ:List (List dL))
 |eE (bc:List dL) (off:Nat)
 |own (n:Nat)
 |ptr (n off:Nat)
 |clo (g:FuncId) (ns:List Nat)
 |dx
 |C2 -- tW nil interface
 |e3 (n:Nat) (t:bf)
@[reducible] def dr.J:dr->Type
 |.d s=>s.J
 |.fn _ cQ=>wX cQ
 |.eE bc _=>kY bc
 |_=>Unit
def dr.mk:(s:dr)->s.J->aR
 |.any,_=>.any
 |.d s,y=>.d (s.mk y)
 |.fn g cQ,y=>.d (.fn g (wk cQ y))
 |.eE bc off,y=>.eE (fw bc y) off
 |.own n,_=>.own n 0
 |.ptr n off,_=>.ptr n 0 off
 |.clo g ns,_=>.clo g (ns.map fun n=>(n,0))
 |.dx,_=>.dx
 |.C2,_=>.cV .nilIface
 |.e3 n t,_=>.e3 n 0 t 0 0
abbrev Ren:=List (Nat×Option (Nat×Nat))
def na(ρ:Ren)(n o s:Nat):Bool:=match look ρ n with
 |some (some (aay,aN))=>aay.beq o&&aN.beq s
 |_=>false
def vr(ρ:Ren):List Nat->List (Nat×Nat)->Bool
 |[],[]=>true
 |n::ns,(o,s)::cs=>na ρ n o s&&vr ρ ns cs
 |_,_=>false
def mV(ρ:Ren):List Nat
 :=match ρ with
 |[]=>[]
 |(_,some (o,_))::r=>o::mV r
 |(_,none)::r=>mV r
def dr.ex(st:al)(ρ:Ren):(s:dr)->aR->Option s.J
 |.any,_=>some ()
 |.d s,.d v=>s.ex v
 |.d (.sl t),.nil _=>some ([]:List (den t))
 |.d (.err _),.cV .nilIface=>some (none:Option Int)
 |.d (.sl t),.own o s=>match st.af o with
  |some (.dp aN bo xs)=>bif aN.beq s then(if h:bo=t then some (h▸xs:List (den t)) else none) else none
  |_=>none
 |.d (.map t),.own o s=>match st.af o with
  |some (.map aN bo es)=>bif aN.beq s&&!fZ o (mV ρ) then(if h:bo=t then some (h▸es:List (B×den t)) else none) else none
  |_=>none
 |.fn g cQ,.d (.fn cC cs)=>bif Nat.beq g cC then CK cQ cs else none
 |.fn g [],.clo cC []=>bif Nat.beq g cC then some () else none
 |.eE bc off,.eE ds pD=>bif Nat.beq off pD then wU bc ds else none
 |.own n,.own o s=>bif na ρ n o s then some () else none
 |.own n,.nil _=>match look ρ n with|some none=>some ()|_=>none
 |.ptr n off,.ptr o s pD=>bif na ρ n o s&&Nat.beq off pD then some () else none
 |.clo g ns,.clo cC cs=>bif Nat.beq g cC&&vr ρ ns cs then some () else none
 |.dx,.dx=>some ()
 |.C2,.cV .nilIface=>some ()
 |.e3 n t,.e3 o s bo 0 0=>bif na ρ n o s then(if bo=t then some () else none) else none
 |_,_=>none
@[reducible] def rh:List dr->Type
 |[]=>Unit
 |s::r=>s.J×rh r
def tm:(bc:List dr)->rh bc->List aR
 |[],_=>[]
 |s::r,(y,z)=>s.mk y::tm r z
def qZ(st:al)(ρ:Ren):(bc:List dr)->List aR->Option (rh bc)
 |[],[]=>some ()
 |s::r,l::ai=>match s.ex st ρ l,qZ st ρ r ai with
  |some y,some z=>some (y,z)
  |_,_=>none
 |_,_=>none
inductive e':Type where
 |an (s:dr)
 |agg (bc:List dr)
@[reducible] def e'.J:e'->Type
 |.an s=>s.J
 |.agg bc=>rh bc
def e'.mk:(s:e')->s.J->a8
 |.an s,y=>b7 (s.mk y)
 |.agg bc,y=>.av (.agg (tm bc y))
def e'.ex(st:al)(ρ:Ren):(s:e')->a8->Option s.J
 |.an s,.av (.an l)=>s.ex st ρ l
 |.agg bc,.av (.agg ai)=>qZ st ρ bc ai
 |_,_=>none
@[reducible] def wa:List (Nat×e')->Type
 |[]=>Unit
 |s::r=>s.2.J×wa r
def vy:(bc:List (Nat×e'))->wa bc->List (Nat×a8)
 |[],_=>[]
 |s::r,(y,z)=>(s.1,s.2.mk y)::vy r z
def Bi(st:al)(ρ:Ren):(bc:List (Nat×e'))->Option (wa bc)
 |[]=>some ()
 |s::r=>match s.2.ex st ρ (st.get s.1),Bi st ρ r with
  |some y,some z=>some (y,z)
  |_,_=>none
inductive eA:Type where
 |row (t:bf)
 |q5 (t:bf) (n:Nat) -- aCB aBg row,aBp length hJ told
 |box (bc:List dr)
 |map (t:bf)
@[reducible] def eA.J:eA->Type
 |.row t=>List (den t)
 |.q5 t _=>List (den t)
 |.box bc=>rh bc
 |.map t=>List (B×den t)
def C0{aH:Type}(z:aH):Nat->List aH->List aH
 |0,_=>[]
 |n+1,xs=>xs.headD z::C0 z n xs.tail
theorem S7{aH:Type}(z:aH):∀(xs:List aH),C0 z xs.length xs=xs
 |[]=>rfl
 |x::xs=>by simp only[List.length_cons,C0,List.headD_cons,List.tail_cons,S7 z xs]
def pad{t:bf}(n:Nat)(xs:List (den t)):List (den t):=match xX t with
 |some z=>C0 z n xs
 |none=>xs
theorem aoD{t:bf}{n:Nat}{xs:List (den t)}(h:xs.length=n):pad n xs=xs:=by
 subst h;unfold pad;split
 ·exact S7 _ _
 ·rfl
def eA.mk:(s:eA)->s.J->Site
 |.row t,xs=>.row 0 t xs
 |.q5 t n,xs=>.row 0 t (pad n xs)
 |.box bc,y=>.box 0 (tm bc y)
 |.map t,es=>.map 0 t es
def eA.ex(st:al)(ρ:Ren):(s:eA)->Option (Nat×Nat)->Option s.J
 |.row t,none=>some ([]:List (den t))
 |.row t,some (o,s)=>match st.af o with
  |some (.row aN bo xs)=>bif aN.beq s then(if h:bo=t then some (h▸xs:List (den t)) else none) else none
  |_=>none
 |.q5 _ _,none=>none
 |.q5 t n,some (o,s)=>match st.af o with
  |some (.row aN bo xs)=>bif aN.beq s then(if h:bo=t then(if xs.length=n then some (h▸xs:List (den t)) else none) else none) else none
  |_=>none
 |.box bc,some (o,s)=>match fM st o s with
  |some cells=>qZ st ρ bc cells
  |none=>none
 |.box _,none=>none
 |.map t,some (o,s)=>match st.af o with
  |some (.map aN bo es)=>bif aN.beq s then(if h:bo=t then some (h▸es:List (B×den t)) else none) else none
  |_=>none
 |.map _,none=>none
inductive Loc:Type where
 |same
 |slot (t j:Nat)
 |cell (o j:Nat)
def aqr(st:al):Loc->Option aR
 |.same=>none
 |.slot t j=>match st.get t with
  |.av (.an l)=>bif Nat.beq j 0 then some l else none
  |.av (.agg ai)=>ai[j]?
  |_=>none
 |.cell o j=>match st.af o with
  |some (.box _ cells)=>cells[j]?
  |_=>none
def J5(st:al)(n:Nat)(l:Loc):Option (Option (Nat×Nat)):=
 match l with
 |.same=>match st.af n with|some s=>some (some (n,s.cy))|none=>none
 |l=>match aqr st l with
  |some (.own o s)=>some (some (o,s))
  |some (.ptr o s _)=>some (some (o,s))
  |some (.e3 o s _ _ _)=>some (some (o,s))
  |some (.nil _)=>some none
  |_=>none
@[reducible] def td:List (Nat×eA×Loc)->Type
 |[]=>Unit
 |s::r=>s.2.1.J×td r
def kw:(bc:List (Nat×eA×Loc))->td bc->List (Nat×Site)
 |[],_=>[]
 |s::r,(y,z)=>(s.1,s.2.1.mk y)::kw r z
def Bj(st:al)(ρ:Ren):(bc:List (Nat×eA×Loc))->Option (td bc)
 |[]=>some ()
 |s::r=>match(look ρ s.1).bind fun D=>s.2.1.ex st ρ D,Bj st ρ r with
  |some y,some z=>some (y,z)
  |_,_=>none
def qS(st:al):List (Nat×eA×Loc)->Option Ren
 |[]=>some []
 |s::r=>match J5 st s.1 s.2.2,qS st r with
  |some D,some ρ=>some ((s.1,D)::ρ)
  |_,_=>none
structure Shape where
 cN:List (Nat×e')
 sites:List (Nat×eA×Loc)
 nt:Nat
@[reducible] def Shape.J(bb:Shape):Type:=wa bb.cN×td bb.sites
def Shape.st(bb:Shape)(y:bb.J):al:=⟨vy bb.cN y.1,kw bb.sites y.2,bb.nt⟩
def C_(st:al):dr->aR->List (Nat×Site)
 |.d (.sl _),.own o s=>match st.af o with
  |some (.row aN t xs)=>bif aN.beq s then [(o,.dp s t xs)] else []
  |_=>[]
 |_,_=>[]
def C9(st:al):List dr->List aR->List (Nat×Site)
 |s::bc,l::ai=>C_ st s l++C9 st bc ai
 |_,_=>[]
def Zy(st:al):e'->a8->List (Nat×Site)
 |.an s,.av (.an l)=>C_ st s l
 |.agg bc,.av (.agg ai)=>C9 st bc ai
 |_,_=>[]
def qy(st:al):List (Nat×e')->List (Nat×Site)
 |[]=>[]
 |s::r=>Zy st s.2 (st.get s.1)++qy st r
def Zx(st:al):eA->Option (Option (Nat×Nat))->List (Nat×Site)
 |.box bc,some (some (o,s))=>match fM st o s with
  |some cells=>C9 st bc cells
  |none=>[]
 |_,_=>[]
def qz(st:al):List (Nat×eA×Loc)->List (Nat×Site)
 |[]=>[]
 |s::r=>Zx st s.2.1 (J5 st s.1 s.2.2)++qz st r
def Shape.ex(bb:Shape)(bD:al):Option bb.J:=
 let st:=bD.il (qy bD bb.cN++qz bD bb.sites)
 bif st.nt.beq bb.nt then
  match qS st bb.sites with
  |some ρ=>bif fJ (keys ρ)&&fJ (mV ρ) then
    match Bi st ρ bb.cN,Bj st ρ bb.sites with
    |some y,some z=>some (y,z)
    |_,_=>none
   else none
  |none=>none
 else none
theorem TK{st:al}{s:dr}{l:aR}:dU st.sites (C_ st s l):=by
 unfold C_;split
 ·rename_i o s;split
  ·rename_i aN t xs hl;cases hb:aN.beq s with
   |false=>exact .nil
   |true=>
    have:=Nat.eq_of_beq_eq_true hb;subst this;intro ab af hm;simp only[cond_true,List.mem_singleton,Prod.mk.injEq] at hm;obtain⟨rfl,rfl⟩:=hm;exact⟨_,_,_,rfl,.inl hl⟩
  ·exact .nil
 ·exact .nil
theorem TJ{st:al}:∀{bc:List dr} {ai:List aR},dU st.sites (C9 st bc ai):=by
 intro bc;induction bc with
 |nil=>intro ai;cases ai<;>exact .nil
 |cons s bc ih=>
  intro ai;cases ai with
  |nil=>exact .nil
  |cons l ai=>exact TK.append ih
theorem af2{st:al}:∀{bc:List (Nat×e')},dU st.sites (qy st bc):=by
 intro bc;induction bc with
 |nil=>exact .nil
 |cons s bc ih=>
  refine dU.append ?_ ih;unfold Zy;split
  ·exact TK
  ·exact TJ
  ·exact .nil
theorem af3{st:al}:∀{bc:List (Nat×eA×Loc)},dU st.sites (qz st bc):=by
 intro bc;induction bc with
 |nil=>exact .nil
 |cons s bc ih=>
  refine dU.append ?_ ih;unfold Zx;split
  ·split
   ·exact TJ
   ·exact .nil
  ·exact .nil
def tA(st:al)(ρ:Ren)(b0:List (Nat×Site)):Prop:=
 ∀n D,look ρ n=some D->(∃aN,look b0 n=some aN/\aN.cy=0)/\∀o s,D=some (o,s)->∃af,look st.sites o=some af/\af.cy=s/\af.live=true
def fK(F:Nat->Value)(ρ:Ren)(n:Nat):Value:=
 match look ρ n with
 |some (some (o,_))=>F o
 |some none=>.slice none 0 0
 |none=>undef
theorem agD{ρ:Ren}{n o s:Nat}(h:na ρ n o s=true):look ρ n=some (some (o,s)):=by
 unfold na at h;split at h
 ·rename_i aay aN hl;simp only[Bool.and_eq_true] at h;rw[hl,Nat.eq_of_beq_eq_true h.1,Nat.eq_of_beq_eq_true h.2]
 ·cases h
section
variable {U:World}{Y:List Nat}{X:Nat->Prop}{F:Nat->Value}{st:al}{M:Array Value}{w:World}{ρ:Ren}{b0:List (Nat×Site)}{cl:Nat->Prop}
theorem AJ(S:aq U Y X F st M w)(hR:tA st ρ b0){n o s:Nat}(h:na ρ n o s=true){p hF:Prop}(hr:Ref st.sites o s p)(hp:fK F ρ n=F o->p->hF):Ref b0 n 0 hF:=by
 have hl:=agD h;obtain⟨⟨aN,h1,h2⟩,h3⟩:=hR n _ hl;obtain⟨af,aC,bk,_⟩:=h3 o s rfl;exact Ref.mk h1 h2 (hp (by simp[fK,hl]) (Ref.at hr aC bk))
theorem agE(S:aq U Y X F st M w)(hR:tA st ρ b0):∀{ns:List Nat} {cs:List (Nat×Nat)} {vs:List Value},vr ρ ns cs=true->vs.length=cs.length->
  (∀i (h:i<cs.length) (ak:i<vs.length),Ref st.sites (cs[i]).1 (cs[i]).2 (vs[i]=F (cs[i]).1))->
  vs.length=(ns.map fun n=>(n,0)).length/\∀i (h:i<(ns.map fun n=>((n,0):Nat×Nat)).length) (ak:i<vs.length),Ref b0 ((ns.map fun n=>((n,0):Nat×Nat))[i]).1 ((ns.map fun n=>((n,0):Nat×Nat))[i]).2 (vs[i]=fK F ρ ((ns.map fun n=>((n,0):Nat×Nat))[i]).1):=by
 intro ns;induction ns with
 |nil=>
  intro cs vs h hl _;match cs,h with
  |[],_=>exact⟨by simpa using hl,fun i h=>by simp at h⟩
 |cons n ns ih=>
  intro cs vs h hl hr;match cs,h with
  |(o,s)::cs,h=>
   simp only[vr,Bool.and_eq_true] at h;match vs,hl with
   |v::vs,hl=>
    obtain⟨aE,aF⟩:=ih (vs:=vs) h.2 (by simpa using hl) (fun i g1 g2=>hr (i+1) (by simpa using g1) (by simpa using g2))
    refine⟨by simpa using aE,fun i g1 g2=>?_⟩
    cases i with
    |zero=>exact AJ S hR h.1 (hr 0 (by simp) (by simp)) (fun e p=>p.trans e.symm)
    |succ i=>exact aF i (by simpa using g1) (by simpa using g2)
def CS(F:Nat->Value)(st:al)(ρ:Ren)(cl:Nat->Prop):Prop:=∀o,cq st.sites o->fZ o (mV ρ)=false->∀b,bQ (F o)=some b->¬cl b
theorem dr.gm(S:aq U Y X F st M w)(hR:tA st ρ b0)(cc:∀b,cl b->aJ X F st.sites b)(ep:CS F st ρ cl){s:dr}{l:aR}{y:s.J}{v:Value}(h:s.ex st ρ l=some y)(hv:eb F st.sites w (aJ X F st.sites) l v):
  eb (fK F ρ) b0 w cl (s.mk y) v:=by
 have hd:∀{d:bh} {v:Value},bK w (aJ X F st.sites) d v->bK w cl d v:=fun h=>ck.hd (F:=F) (sites:=[]) (a:=one _) cc (fun b hb=>S.lt (cc b hb)) h
 unfold dr.ex at h;split at h
 ·trivial
 ·rename_i s v';have:s.mk y=v':=dL.Wn h;show bK w cl (s.mk y) v;rw[this];exact hd hv
 ·rename_i t u;cases h;have hv:v=.slice none 0 0:=hv;rw[hv];exact bK.nil t
 ·rename_i T;cases h;have hv:v=.nilIface:=hv;rw[hv];exact bK.wV T
 ·rename_i t o s;split at h
  ·rename_i aN bo xs hl;cases hb:aN.beq s with
   |false=>simp[hb] at h
   |true=>
    simp only[hb,cond_true] at h;split at h
    ·rename_i e;subst e;cases h;have hs:=Nat.eq_of_beq_eq_true hb;subst hs;have hl:look st.sites o=some (.dp aN bo xs):=hl;have nB:v=F o:=Ref.at hv.2 hl rfl;rw[nB];exact hd (S.sites o _ hl).1
    ·cases h
  ·cases h
 ·rename_i t o s;split at h
  ·rename_i aN bo es hl;cases hb:(aN.beq s&&!fZ o (mV ρ)) with
   |false=>simp[hb] at h
   |true=>
    simp only[hb,cond_true] at h;simp only[Bool.and_eq_true,Bool.not_eq_true'] at hb;split at h
    ·rename_i e;subst e;cases h;have hs:=Nat.eq_of_beq_eq_true hb.1;subst hs;have hl:look st.sites o=some (.map aN bo es):=hl;have nB:v=F o:=Ref.at hv.2 hl rfl;obtain⟨b,h1,h2⟩:=S.sites o _ hl;rw[nB,h1];exact bK.map bo es b (ep o ⟨_,hl,rfl⟩ hb.2 b (by rw[h1];rfl)) h2
    ·cases h
  ·cases h
 ·rename_i g cQ cC cs;cases hb:Nat.beq g cC with
  |false=>simp[hb] at h
  |true=>
   simp only[hb,cond_true] at h;have:=Nat.eq_of_beq_eq_true hb;subst this;show bK w cl (.fn g (wk cQ y)) v;rw[akw h];exact hd hv
 ·rename_i g cC;cases hb:Nat.beq g cC with
  |false=>simp[hb] at h
  |true=>
   have:=Nat.eq_of_beq_eq_true hb;subst this;obtain⟨vs,h1,h2,_⟩:=hv;rw[List.eq_nil_of_length_eq_zero h2] at h1;rw[h1];exact kB.fn (bE:=[]) (vs:=[]) trivial
 ·rename_i bc off ds pD;cases hb:Nat.beq off pD with
  |false=>simp[hb] at h
  |true=>
   simp only[hb,cond_true] at h;have:=Nat.eq_of_beq_eq_true hb;subst this;have e:=Tc h;obtain⟨b,D,h1,h2,h3,cs,aC,bk,ca⟩:=hv;show eb (fK F ρ) b0 w cl (.eE (fw bc y) off) v;rw[e];exact⟨b,D,h1,fun hx=>h2 (cc b hx),h3,cs,aC,bk,fun j g1 g2=>hd (ca j g1 g2)⟩
 ·rename_i n o s;cases hb:na ρ n o s with
  |false=>simp[hb] at h
  |true=>exact⟨hv.1,AJ S hR hb hv.2 (fun e p=>p.trans e.symm)⟩
 ·rename_i n t;split at h
  ·rename_i hl;have hv:v=.slice none 0 0:=hv;obtain⟨⟨aN,h1,h2⟩,_⟩:=hR n _ hl;exact⟨by rw[hv];rfl,Ref.mk h1 h2 (by simp[fK,hl,hv])⟩
  ·cases h
 ·rename_i n off o s pD;cases hb:(na ρ n o s&&Nat.beq off pD) with
  |false=>simp[hb] at h
  |true=>
   simp only[Bool.and_eq_true] at hb;have:=Nat.eq_of_beq_eq_true hb.2;subst this;obtain⟨b,h1,h2⟩:=hv;exact⟨b,h1,AJ S hR hb.1 h2 (fun e p=>e.trans p)⟩
 ·rename_i g ns cC cs;cases hb:(Nat.beq g cC&&vr ρ ns cs) with
  |false=>simp[hb] at h
  |true=>
   simp only[Bool.and_eq_true] at hb;have:=Nat.eq_of_beq_eq_true hb.1;subst this;obtain⟨vs,h1,h2,h3⟩:=hv;obtain⟨aE,aF⟩:=agE S hR hb.2 h2 h3;exact⟨vs,h1,aE,aF⟩
 ·trivial
 ·exact hv
 ·rename_i n t o s bo;cases hb:na ρ n o s with
  |false=>simp[hb] at h
  |true=>
   simp only[hb,cond_true] at h;split at h
   ·rename_i e;subst e;obtain⟨b,h1,h2⟩:=hv;exact⟨b,h1,AJ S hR hb h2 (fun e p=>by rw[e];exact p)⟩
   ·cases h
 ·cases h
theorem ag7{bc:List dr}{ai:List aR}{y:rh bc}(h:qZ st ρ bc ai=some y)(bL:(tm bc y).head?=some .dx):ai.head?=some .dx:=by
 cases bc with
 |nil=>cases bL
 |cons s bc=>
  cases ai with
  |nil=>cases h
  |cons l ai=>
   simp only[qZ] at h;split at h
   ·rename_i a b h1 h2;cases h;simp only[tm,List.head?_cons,Option.some.injEq] at bL ⊢;cases s with
    |dx=>cases l<;>first|rfl|cases h1
    |_=>cases bL
   ·cases h
theorem R6(S:aq U Y X F st M w)(hR:tA st ρ b0)(cc:∀b,cl b->aJ X F st.sites b)(ep:CS F st ρ cl):∀{bc:List dr} {ai:List aR} {y:rh bc} {vs:List Value},qZ st ρ bc ai=some y->
  cA F st.sites w (aJ X F st.sites) ai vs->cA (fK F ρ) b0 w cl (tm bc y) vs:=by
 intro bc;induction bc with
 |nil=>
  intro ai y vs h hv;match ai,h with
  |[],_=>rw[hv.n7];exact .nil
 |cons s bc ih=>
  intro ai y vs h hv;match ai,h with
  |l::ai,h=>
   simp only[qZ] at h;split at h
   ·rename_i a b h1 h2;cases h;obtain⟨v,cv,rfl,aE,aF⟩:=hv.inv;exact .cons (dr.gm S hR cc ep h1 aE) (ih h2 aF)
   ·cases h
theorem e'.gm(S:aq U Y X F st M w)(hR:tA st ρ b0)(cc:∀b,cl b->aJ X F st.sites b)(ep:CS F st ρ cl){s:e'}{a:a8}{y:s.J}{v:Value}(h:s.ex st ρ a=some y)(hv:ck F st.sites w (aJ X F st.sites) a v):
  ck (fK F ρ) b0 w cl (s.mk y) v:=by
 unfold e'.ex at h;split at h
 ·exact dr.gm S hR cc ep h hv
 ·obtain⟨vs,h1,h2,h3⟩:=hv;have:=R6 S hR cc ep h ⟨h2,h3⟩;exact⟨vs,h1,this.1,this.2⟩
 ·cases h
theorem ag5:∀{bc:List (Nat×e')} {y:wa bc},Bi st ρ bc=some y->∀t v,look (vy bc y) t=some v->∃s:e',∃y':s.J,s.ex st ρ (st.get t)=some y'/\v=s.mk y':=by
 intro bc;induction bc with
 |nil=>intro y h t v hl;cases hl
 |cons s bc ih=>
  intro y h t v hl;simp only[Bi] at h;split at h
  ·rename_i a b h1 h2;cases h;simp only[vy,look] at hl;cases hb:s.1.beq t with
   |true=>
    simp only[hb,cond_true,Option.some.injEq] at hl;have:=Nat.eq_of_beq_eq_true hb;subst this;exact⟨s.2,a,h1,hl.symm⟩
   |false=>
    simp only[hb,cond_false] at hl;exact ih h2 t v hl
  ·cases h
theorem ag6:∀{bc:List (Nat×eA×Loc)} {y:td bc},Bj st ρ bc=some y->∀n b5,look (kw bc y) n=some b5->∃z:eA,∃y':z.J,∃D,look ρ n=some D/\z.ex st ρ D=some y'/\b5=z.mk y':=by
 intro bc;induction bc with
 |nil=>intro y h n b5 hl;cases hl
 |cons s bc ih=>
  intro y h n b5 hl;simp only[Bj] at h;split at h
  ·rename_i a b h1 h2;cases h;simp only[kw,look] at hl;cases hb:s.1.beq n with
   |true=>
    simp only[hb,cond_true,Option.some.injEq] at hl;have:=Nat.eq_of_beq_eq_true hb;subst this;obtain⟨D,aE,aF⟩:=Option.bind_eq_some_iff.1 h1;exact⟨s.2.1,a,D,aE,aF,hl.symm⟩
   |false=>
    simp only[hb,cond_false] at hl;exact ih h2 n b5 hl
  ·cases h
theorem eA.cy(z:eA)(y:z.J):(z.mk y).cy=0:=by cases z<;>rfl
theorem agT{eK:al}:∀{bc:List (Nat×eA×Loc)} {ρ:Ren} {y:td bc},qS eK bc=some ρ->∀n D,look ρ n=some D->(∃aN,look (kw bc y) n=some aN/\aN.cy=0):=by
 intro bc;induction bc with
 |nil=>intro ρ y h n D hl;simp only[qS] at h;cases h;cases hl
 |cons s bc ih=>
  intro ρ y h n D hl;simp only[qS] at h;split at h
  ·rename_i a b h1 h2;cases h;obtain⟨cH,dm⟩:=y;simp only[kw,look] at hl ⊢;cases hb:s.1.beq n with
   |true=>simp only[cond_true];exact⟨_,rfl,eA.cy _ _⟩
   |false=>
    simp only[hb,cond_false] at hl ⊢;exact ih h2 n D hl
  ·cases h
theorem agS{eK:al}:∀{bc:List (Nat×eA×Loc)} {ρ:Ren},qS eK bc=some ρ->(keys ρ).Nodup->∀n z,(n,z,Loc.same)∈bc->∃s,look ρ n=some (some (n,s)):=by
 intro bc;induction bc with
 |nil=>intro ρ h _ n z hm;simp at hm
 |cons s bc ih=>
  intro ρ h hn n z hm;simp only[qS] at h;split at h
  ·rename_i a b h1 h2;cases h;simp only[keys,List.nodup_cons] at hn;rcases List.mem_cons.1 hm with hm|hm
   ·subst hm;simp only[J5] at h1;split at h1
    ·cases h1;exact⟨_,by simp[look];rfl⟩
    ·cases h1
   ·obtain⟨aN,fP⟩:=ih h2 hn.2 n z hm;refine⟨aN,?_⟩;simp only[look];have:¬s.1=n:=by
     rintro rfl;have key:∀{ρ:Ren} {n:Nat} {D},look ρ n=some D->n∈keys ρ:=by
      intro ρ;induction ρ with
      |nil=>intro n D h;cases h
      |cons p ρ axb=>
       obtain⟨m,q⟩:=p;intro n D h;simp only[look] at h;cases hb:m.beq n with
       |true=>have:=Nat.eq_of_beq_eq_true hb;subst this;exact List.mem_cons_self
       |false=>simp only[hb,cond_false] at h;exact List.mem_cons_of_mem _ (axb h)
     exact hn.1 (key fP)
    rw[jV this];exact fP
  ·cases h
theorem ES:∀{ρ:Ren} {n o s:Nat},look ρ n=some (some (o,s))->o∈mV ρ:=by
 intro ρ;induction ρ with
 |nil=>intro n o s h;cases h
 |cons p ρ ih=>
  obtain⟨m,D⟩:=p;intro n o s h;simp only[look] at h;cases hb:m.beq n with
  |true=>
   simp only[hb,cond_true,Option.some.injEq] at h;subst h;exact List.mem_cons_self
  |false=>
   simp only[hb,cond_false] at h;have:=ih h;cases D with
   |none=>exact this
   |some q=>exact List.mem_cons_of_mem _ this
theorem afH:∀{ρ:Ren} {n m o s aN:Nat},(mV ρ).Nodup->look ρ n=some (some (o,s))->look ρ m=some (some (o,aN))->n=m:=by
 intro ρ;induction ρ with
 |nil=>intro n m o s aN _ h;cases h
 |cons p ρ ih=>
  obtain⟨k,D⟩:=p;intro n m o s aN aa h ak;simp only[look] at h ak;have rF:(mV ρ).Nodup:=by
   cases D with
   |none=>exact aa
   |some q=>exact(List.nodup_cons.1 aa).2
  cases hb:k.beq n with
  |true=>
   simp only[hb,cond_true,Option.some.injEq] at h;subst h;cases ed:k.beq m with
   |true=>rw[<-Nat.eq_of_beq_eq_true hb,<-Nat.eq_of_beq_eq_true ed]
   |false=>
    simp only[ed,cond_false] at ak;exact absurd (ES ak) (List.nodup_cons.1 aa).1
  |false=>
   simp only[hb,cond_false] at h;cases ed:k.beq m with
   |true=>
    simp only[ed,cond_true,Option.some.injEq] at ak;subst ak;exact absurd (ES h) (List.nodup_cons.1 aa).1
   |false=>
    simp only[ed,cond_false] at ak;exact ih rF h ak
theorem Shape.gm(S:aq U Y X F st M w){bb:Shape}{y:bb.J}(h:bb.ex st=some y):∃a6,aq U Y X a6 (bb.st y) M w/\∀n z,(n,z,Loc.same)∈bb.sites->a6 n=F n:=by
 unfold Shape.ex at h;have eB:dU st.sites (qy st bb.cN++qz st bb.sites):=af2.append af3;have dz:=S.Bh eB;rw[<-al.vn] at dz;generalize st.il (qy st bb.cN++qz st bb.sites)=eK at h dz;cases ry:eK.nt.beq bb.nt with
 |false=>simp[ry] at h
 |true=>
  simp only[ry,cond_true] at h;split at h
  ·rename_i ρ abN;cases hc:(fJ (keys ρ)&&fJ (mV ρ)) with
   |false=>simp[hc] at h
   |true=>
    simp only[hc,cond_true] at h;simp only[Bool.and_eq_true,sj] at hc;split at h
    ·rename_i cH dm h1 h2;cases h;have facts:=ag6 h2;have VY:∀{z:eA} {y':z.J} {o s:Nat},z.ex eK ρ (some (o,s))=some y'->∃af,look eK.sites o=some af/\af.cy=s/\af.live=true:=by
      intro z y' o s hz;cases z with
      |row t=>
       simp only[eA.ex] at hz;split at hz
       ·rename_i aN bo xs hl;cases hb:aN.beq s with
        |false=>simp[hb] at hz
        |true=>exact⟨_,hl,Nat.eq_of_beq_eq_true hb,rfl⟩
       ·cases hz
      |q5 t n=>
       simp only[eA.ex] at hz;split at hz
       ·rename_i aN bo xs hl;cases hb:aN.beq s with
        |false=>simp[hb] at hz
        |true=>exact⟨_,hl,Nat.eq_of_beq_eq_true hb,rfl⟩
       ·cases hz
      |box bc=>
       simp only[eA.ex] at hz;split at hz
       ·rename_i hl;exact⟨_,gP hl,rfl,rfl⟩
       ·cases hz
      |map t=>
       simp only[eA.ex] at hz;split at hz
       ·rename_i aN bo xs hl;cases hb:aN.beq s with
        |false=>simp[hb] at hz
        |true=>exact⟨_,hl,Nat.eq_of_beq_eq_true hb,rfl⟩
       ·cases hz
     have hR:tA eK ρ (kw bb.sites dm):=by
      intro n D hn;obtain⟨aN,jy,rs⟩:=agT (y:=dm) abN n D hn;refine⟨⟨aN,jy,rs⟩,fun o s e=>?_⟩
      obtain⟨z,y',c8,aE,aF,_⟩:=facts n aN jy;rw[hn] at aE;cases aE;subst e;exact VY aF
     have live:∀n,cq (kw bb.sites dm) n->∀b,bQ (fK F ρ n)=some b->∃o s,look ρ n=some (some (o,s))/\cq eK.sites o/\fK F ρ n=F o:=by
      rintro n ⟨b5,hn,_⟩ b hb;obtain⟨z,y',D,aE,aF,_⟩:=facts n b5 hn;cases D with
      |none=>simp[fK,aE,bQ] at hb
      |some q=>
       obtain⟨o,s⟩:=q;obtain⟨af,q1,_,dF⟩:=VY aF;exact⟨o,s,aE,⟨af,q1,dF⟩,by simp[fK,aE]⟩
     have cc:∀b,aJ X (fK F ρ) (kw bb.sites dm) b->aJ X F eK.sites b:=by
      rintro b (hb|⟨n,hn,hb⟩)
      ·exact .inl hb
      ·obtain⟨o,s,_,q2,dF⟩:=live n hn b hb;exact .inr ⟨o,q2,by rw[<-dF];exact hb⟩
     have hd:∀{d:bh} {v:Value},bK w (aJ X F eK.sites) d v->bK w (aJ X (fK F ρ) (kw bb.sites dm)) d v:=
      fun h=>ck.hd (F:=F) (sites:=[]) (a:=one _) cc (fun b hb=>dz.lt (cc b hb)) h
     have ep:CS F eK ρ (aJ X (fK F ρ) (kw bb.sites dm)):=by
      rintro o cP hm b hb (hx|⟨n,hn,xA⟩)
      ·exact(dz.ct o b cP hb).1 hx
      ·obtain⟨ab,s,q1,q2,dF⟩:=live n hn b xA;rw[dF] at xA;have e:=dz.eh o ab b cP q2 hb xA;subst e;have hin:=ES q1;rw[<-vi] at hin;rw[hm] at hin;cases hin
     refine⟨fK F ρ,⟨?_,fun t=>?_,fun n b5 hn=>?_,fun n m b dQ fy g1 g2=>?_,fun n b dQ g1=>?_,dz.frame,dz.old,dz.e9⟩,fun n z hm=>?_⟩
     ·rw[dz.nt];exact Nat.eq_of_beq_eq_true ry
     ·show ck _ _ _ _ (al.get _ t) _;unfold al.get;cases hl:look (vy bb.cN cH) t with
      |none=>simp only[Shape.st,hl];trivial
      |some v=>
       simp only[Shape.st,hl];obtain⟨s,y',aE,aF⟩:=ag5 h1 t v hl;rw[aF];exact e'.gm dz hR cc ep aE (dz.cN t)
     ·have hn:look (kw bb.sites dm) n=some b5:=hn;obtain⟨z,y',D,aE,aF,bJ⟩:=facts n b5 hn;rw[bJ];cases z with
      |row t=>
       cases D with
       |none=>
        simp only[eA.ex] at aF;cases aF;exact⟨0,[],⟨by simp,.inl ⟨by simp[fK,aE],rfl⟩⟩,fun j h=>by simp[flat] at h⟩
       |some q=>
        obtain⟨o,s⟩:=q;simp only[eA.ex] at aF;split at aF
        ·rename_i aN bo xs hl;cases hb:aN.beq s with
         |false=>simp[hb] at aF
         |true=>
          simp only[hb,cond_true] at aF;split at aF
          ·rename_i e;subst e;cases aF;obtain⟨e,cs,q1,q2⟩:=dz.sites o _ hl;refine⟨e,cs,?_,fun j g1 g2=>hd (q2 j g1 g2)⟩
           have:fK F ρ n=F o:=by simp[fK,aE]
           rw[this];exact q1
          ·cases aF
        ·cases aF
      |q5 t m=>
       cases D with
       |none=>cases aF
       |some q=>
        obtain⟨o,s⟩:=q;simp only[eA.ex] at aF;split at aF
        ·rename_i aN bo xs hl;cases hb:aN.beq s with
         |false=>simp[hb] at aF
         |true=>
          simp only[hb,cond_true] at aF;split at aF
          ·rename_i e;subst e;split at aF
           ·rename_i hlen;cases aF;obtain⟨e,cs,q1,q2⟩:=dz.sites o _ hl;simp only[eA.mk,aoD hlen];refine⟨e,cs,?_,fun j g1 g2=>hd (q2 j g1 g2)⟩
            have:fK F ρ n=F o:=by simp[fK,aE]
            rw[this];exact q1
           ·cases aF
          ·cases aF
        ·cases aF
      |box bc=>
       cases D with
       |none=>cases aF
       |some q=>
        obtain⟨o,s⟩:=q;simp only[eA.ex] at aF;split at aF
        ·rename_i cells hl;obtain⟨b,T,cur,q1,q2,dF,mK,awL,Em⟩:=dz.sites o _ (gP hl);have:=R6 dz hR cc ep aF ⟨dF,Em⟩;exact⟨b,T,cur,by simp[fK,aE,q1],q2,this.1,mK,fun bL=>awL (ag7 aF bL),this.2⟩
        ·cases aF
      |map t=>
       cases D with
       |none=>cases aF
       |some q=>
        obtain⟨o,s⟩:=q;simp only[eA.ex] at aF;split at aF
        ·rename_i aN bo es hl;cases hb:aN.beq s with
         |false=>simp[hb] at aF
         |true=>
          simp only[hb,cond_true] at aF;split at aF
          ·rename_i e;subst e;cases aF;obtain⟨b,q1,q2⟩:=dz.sites o _ hl;have:fK F ρ n=F o:=by simp[fK,aE]
           exact⟨b,this.trans q1,q2⟩
          ·cases aF
        ·cases aF
     ·obtain⟨o,s,a1,a2,a3⟩:=live n dQ b g1;obtain⟨ab,aN,b1,b2,b3⟩:=live m fy b g2;rw[a3] at g1;rw[b3] at g2;have:=dz.eh o ab b a2 b2 g1 g2;subst this;exact afH hc.2 a1 b1
     ·obtain⟨o,s,a1,a2,a3⟩:=live n dQ b g1;rw[a3] at g1;exact dz.ct o b a2 g1
     ·obtain⟨s,hs⟩:=agS abN hc.1 n z hm;simp[fK,hs]
    ·cases h
  ·cases h
end
inductive Kind:Type where
 |norm
 |exit (id:Nat)
 |ret
abbrev aP:=Kind×Shape
@[reducible] def aB:List aP->Type
 |[]=>Empty
 |[D]=>D.2.J
 |D::c8::r=>Sum D.2.J (aB (c8::r))
def Kind.mk:Kind->al->Out
 |.norm,st=>.norm st
 |.exit id,st=>.exit id st
 |.ret,st=>.ret st
def lM:(os:List aP)->aB os->Out
 |[D],y=>D.1.mk (D.2.st y)
 |D::c8::r,y=>match y with
  |.inl y=>D.1.mk (D.2.st y)
  |.inr y=>lM (c8::r) y
def Kind.hJ:Kind->Out->Option al
 |.norm,.norm st=>some st
 |.exit id,.exit ja st=>bif Nat.beq id ja then some st else none
 |.ret,.ret st=>some st
 |_,_=>none
def hA:(os:List aP)->Out->Option (aB os)
 |[],_=>none
 |[D],x=>match D.1.hJ x with
  |some st=>D.2.ex st
  |none=>none
 |D::c8::r,x=>match D.1.hJ x with
  |some st=>(D.2.ex st).map Sum.inl
  |none=>(hA (c8::r) x).map Sum.inr
section
variable {U:World}{Y:List Nat}{X:Nat->Prop}{ds:List Deferred}{eP:Array Value}{W:List Nat}
theorem eD.ex{st:al}{bb:Shape}{y:bb.J}{a:Act}{w:World}(hy:bb.ex st=some y)(h:eD U Y X ds eP W st a w):eD U Y X ds eP W (bb.st y) a w:=by
 obtain⟨aY,dP,c9,F,dS,h1,h2,h3,S,bk⟩:=h;obtain⟨a6,cm,_⟩:=Shape.gm S hy;exact⟨aY,dP,c9,a6,dS,h1,h2,h3,cm,bk⟩
theorem Kind.GW{k:Kind}{x:Out}{st:al}{bb:Shape}{y:bb.J}{e:Exit}{a:Act}{w:World}(h:k.hJ x=some st)(hy:bb.ex st=some y)(hl:fg U Y X ds eP W x e a w):fg U Y X ds eP W (k.mk (bb.st y)) e a w:=by
 cases k<;>cases x<;>simp only[Kind.hJ] at h<;>try(cases h;done)
 ·cases h;cases e<;>try exact hl.elim
  exact eD.ex hy hl
 ·rename_i id ja ap;cases hb:Nat.beq id ja with
  |false=>simp[hb] at h
  |true=>
   simp only[hb,cond_true,Option.some.injEq] at h;subst h;cases e<;>try exact hl.elim
   exact⟨(Nat.eq_of_beq_eq_true hb).trans hl.1,eD.ex hy hl.2⟩
 ·cases h;cases e<;>try exact hl.elim
  exact eD.ex hy hl
theorem u':∀{os:List aP} {x:Out} {y:aB os} {e:Exit} {a:Act} {w:World},hA os x=some y->fg U Y X ds eP W x e a w->fg U Y X ds eP W (lM os y) e a w:=by
 intro os;induction os with
 |nil=>intro x y;exact y.elim
 |cons D os ih=>
  intro x y e a w h hl;cases os with
  |nil=>
   simp only[hA] at h;split at h
   ·rename_i st hk;exact Kind.GW hk h hl
   ·cases h
  |cons c8 r=>
   simp only[hA] at h;split at h
   ·rename_i st hk;obtain⟨cH,aE,aF⟩:=Option.map_eq_some_iff.1 h;subst aF;exact Kind.GW hk aE hl
   ·obtain⟨cH,aE,aF⟩:=Option.map_eq_some_iff.1 h;subst aF;exact ih aE hl
end
section
variable {J bq:Type}
def iter(f:J->Option (Sum J bq)):Nat->J->Option bq
 |0,_=>none
 |n+1,y=>match f y with
  |none=>none
  |some (.inl y')=>iter f n y'
  |some (.inr b)=>some b
theorem QD{f:J->Option (Sum J bq)}:∀{n m:Nat} {y:J} {b:bq},n<=m->iter f n y=some b->iter f m y=some b:=by
 intro n;induction n with
 |zero=>intro m y b _ h;cases h
 |succ n ih=>
  intro m y b hle h;obtain⟨m,rfl⟩:∃k,m=k+1:=⟨m-1,by omega⟩
  simp only[iter] at h ⊢;split at h
  ·cases h
  ·exact ih (by omega) h
  ·exact h
open Classical in
noncomputable def br(f:J->Option (Sum J bq))(y:J):Option bq:=
 if h:∃n b,iter f n y=some b then some (Classical.choose (Classical.choose_spec h)) else none
theorem FJ{f:J->Option (Sum J bq)}{y:J}{b:bq}:br f y=some b <-> ∃n,iter f n y=some b:=by
 unfold br;constructor
 ·intro h;split at h
  ·rename_i ak;cases h;exact⟨_,Classical.choose_spec (Classical.choose_spec ak)⟩
  ·cases h
 ·rintro⟨n,hn⟩;have h:∃n b,iter f n y=some b:=⟨n,b,hn⟩;rw[dif_pos h];have h1:=Classical.choose_spec (Classical.choose_spec h);have h2:=QD (Nat.le_max_left (Classical.choose h) n) h1;have h3:=QD (Nat.le_max_right (Classical.choose h) n) hn;rw[h2] at h3;exact h3
theorem zB(f:J->Option (Sum J bq))(y:J):br f y=match f y with
  |none=>none
  |some (.inl y')=>br f y'
  |some (.inr b)=>some b:=by
 apply Option.ext;intro b;rw[FJ];cases hf:f y with
 |none=>
  simp only;constructor
  ·rintro⟨n,hn⟩;cases n with
   |zero=>cases hn
   |succ n=>simp only[iter,hf] at hn;cases hn
  ·intro h;cases h
 |some s=>
  cases s with
  |inl y'=>
   simp only;rw[FJ];constructor
   ·rintro⟨n,hn⟩;cases n with
    |zero=>cases hn
    |succ n=>simp only[iter,hf] at hn;exact⟨n,hn⟩
   ·rintro⟨n,hn⟩;exact⟨n+1,by simp only[iter,hf];exact hn⟩
  |inr bI=>
   simp only;constructor
   ·rintro⟨n,hn⟩;cases n with
    |zero=>cases hn
    |succ n=>simp only[iter,hf] at hn;exact hn
   ·intro h;exact⟨1,by simp only[iter,hf];exact h⟩
theorem least{p:Nat->Prop}(h:∃n,p n):∃n,p n/\∀m,p m->n<=m:=by
 obtain⟨n,hn⟩:=h;induction n using Nat.strongRecOn with
 |_ n ih=>
  by_cases ak:∃m,m<n/\p m
  ·obtain⟨m,h1,h2⟩:=ak;exact ih m h1 h2
  ·exact⟨n,hn,fun m hm=>Nat.le_of_not_lt fun hlt=>ak ⟨m,hlt,hm⟩⟩
end
noncomputable def s0(C:hV)(c:Code)(p:Nat)(bb:Shape)(os:List aP)(y:bb.J):Option (Sum bb.J (aB os)):=
 exec C c (2*p) (bb.st y) fun
  |.norm st=>(bb.ex st).map .inl
  |x=>(hA os x).map .inr
def CN:(os:List aP)->(R:Type)->aB os->(Out->Option R)->Option R
 |[D],R,y,K=>K (D.1.mk (D.2.st y))
 |D::c8::r,R,y,K=>match y with
  |.inl y=>K (D.1.mk (D.2.st y))
  |.inr y=>CN (c8::r) R y K
theorem R':∀(os:List aP) (R:Type) (y:aB os) (K:Out->Option R),CN os R y K=K (lM os y):=by
 intro os;induction os with
 |nil=>intro R y;exact y.elim
 |cons D os ih=>
  intro R y K;cases os with
  |nil=>rfl
  |cons c8 r=>
   cases y with
   |inl y=>rfl
   |inr y=>exact ih R y K
def aU(bb:Shape)(os:List aP)(g:bb.J->Option (aB os)):h5:=fun st=>⟨aB os,(bb.ex st).bind g,lM os,CN os,R' os⟩
section
variable {P:Program}{C:hV}
theorem aiF(H:aQ P C.toCtx){c:Code}{p:Nat}{bb:Shape}{os:List aP}(ep:gn P C c (2*p)){g:bb.J->Option (aB os)}(hg:∀y,g y=br (s0 C c p bb os) y):
  aS P (.loop c) (aU bb os g):=by
 intro rn hn U Y X st y hy F M w ds S;simp only[aU] at hy y ⊢;obtain⟨dE,h1,h2⟩:=Option.bind_eq_some_iff.1 hy;obtain⟨mr,oU,_⟩:=Shape.gm S h1;rw[hg] at h2;obtain⟨n0,rz⟩:=FJ.1 h2;have aAI:∃e6:Nat->Act->World->Prop,∀n a w,e6 n a w <-> ∃z,iter (s0 C c p bb os) n z=some y/\eD U Y X ds M (cx c) (bb.st z) a w:=⟨_,fun _ _ _=>Iff.rfl⟩
 obtain⟨e6,mL⟩:=aAI;classical
 refine wpIn_loop (I:=fun a w=>∃n,e6 n a w) (μ:=fun a w=>if h:∃n,e6 n a w then Classical.choose (least h) else 0) ⟨n0,(mL _ _ _).2 ⟨dE,rz,eD.of oU fun _ _=>rfl⟩⟩ ?_
 intro a w' dq;have as2:=(Classical.choose_spec (least dq)).1;obtain⟨z,hz,aY,dP,c9,gK,dS,b1,b2,b3,dz,ya⟩:=(mL _ _ _).1 as2;obtain⟨hZ,NA⟩:=a;obtain⟨b3,ayD⟩:=b3;have b3:NA=dS.map mark++ds:=b3;subst b3;have join:∀{D:Out} {e:Exit} {a2:Act} {w2:World},fg aY dP c9 (dS.map mark++ds) hZ (cx c) D e a2 w2->fg U Y X ds M (cx c) D e a2 w2:=fun hl=>
  (fg.trans b1 b2 ayD ya hl).mono fun t au=>(List.mem_append.1 au).elim id id
 cases iJ:Classical.choose (least dq) with
 |zero=>rw[iJ] at hz;cases hz
 |succ n=>
  rw[iJ] at hz;simp only[iter] at hz;have go:∀s,s0 C c p bb os z=some s->gi rn P c (fun e a w=>match s with
    |.inl eY=>fg U Y X ds M (cx c) (.norm (bb.st eY)) e a w
    |.inr b=>fg U Y X ds M (cx c) (lM os b) e a w/\e≠.normal) ⟨hZ,dS.map mark++ds⟩ w':=by
   intro s hs;refine jJ H c (2*p) hn ep aY dP c9 (bb.st z) gK hZ w' _ _ _ hs dz ?_
   intro D e a w2 hk hl;have hl:=join hl;cases D with
   |norm xd=>
    obtain⟨eY,q1,q2⟩:=Option.map_eq_some_iff.1 hk;subst q2;exact Kind.GW (k:=.norm) rfl q1 hl
   |exit id xd=>
    obtain⟨eY,q1,q2⟩:=Option.map_eq_some_iff.1 hk;subst q2;exact⟨u' q1 hl,by rintro rfl;exact hl⟩
   |ret xd=>
    obtain⟨eY,q1,q2⟩:=Option.map_eq_some_iff.1 hk;subst q2;exact⟨u' q1 hl,by rintro rfl;exact hl⟩
  cases hr:s0 C c p bb os z with
  |none=>rw[hr] at hz;cases hz
  |some s=>
   cases s with
   |inl eY=>
    rw[hr] at hz;refine wpIn_mono (go _ hr) fun e a2 w2 hl=>?_
    cases e<;>try exact hl.elim
    have MN:e6 n a2 w2:=(mL _ _ _).2 ⟨eY,hz,hl⟩;refine⟨⟨n,MN⟩,?_⟩;have hex:∃n,e6 n a2 w2:=⟨n,MN⟩;simp only[dif_pos hex,dif_pos dq,iJ];have:Classical.choose (least hex)<=n:=(Classical.choose_spec (least hex)).2 n MN;omega
   |inr b=>
    rw[hr] at hz;simp only[Option.some.injEq] at hz;subst hz;refine wpIn_mono (go _ hr) fun e a2 w2 hl=>?_
    cases e<;>first|exact absurd rfl hl.2|exact hl.1
noncomputable def Ut(C:hV)(c:Code)(p:Nat)(bb:Shape)(os:List aP)(y:bb.J):Option (aB os):=exec C c p (bb.st y) (hA os)
theorem agN(H:aQ P C.toCtx){c:Code}{p:Nat}{bb:Shape}{os:List aP}(ep:gn P C c p){g:bb.J->Option (aB os)}(hg:∀y,g y=Ut C c p bb os y):aS P c (aU bb os g):=by
 intro rn hn U Y X st y hy F M w ds S;simp only[aU] at hy y ⊢;obtain⟨dE,h1,h2⟩:=Option.bind_eq_some_iff.1 hy;obtain⟨mr,oU,_⟩:=Shape.gm S h1;rw[hg] at h2;exact jJ H c p hn ep U Y X (bb.st dE) mr M w _ _ _ h2 oU fun D e a w' hk hl=>u' hk hl
end
def aR.S':aR->Bool
 |.fresh _ _=>false
 |_=>true
def l3:List aR->Bool
 |[]=>true
 |l::ai=>l.S'&&l3 ai
def qA(i:Nat):List Arg->Option (List (Nat×a8))
 |[]=>some []
 |.av a::r=>bif l3 a.cells then(qA (i+1) r).map fun l=>(i,.av a)::l else none
 |.fs _::r=>(qA (i+1) r).map fun l=>(i,b7 (.ptr (500000+i) 0 0))::l
def j_(i:Nat):List Arg->List (Nat×Nat)
 |[]=>[]
 |.av _::r=>j_ (i+1) r
 |.fs _::r=>(500000+i,0)::j_ (i+1) r
def Cn:List Arg->List (List aR)
 |[]=>[]
 |.av _::r=>Cn r
 |.fs cs::r=>cs::Cn r
def nZ(i:Nat):List Arg->List Nat
 |[]=>[]
 |.av _::r=>nZ (i+1) r
 |.fs _::r=>i::nZ (i+1) r
def lz:List (Nat×Nat)->List (Nat×Site)
 |[]=>[]
 |(o,s)::r=>(o,.dead s)::lz r
def Ck(nt:Nat)(as:List Arg)(l:List (Nat×a8)):al:=⟨l,lz (j_ 0 as),nt⟩
def JQ(nt:Nat)(as:List Arg)(l:List (Nat×a8)):List (Nat×Site):=gW (Ck nt as l) (j_ 0 as) (Cn as)
def entry(nt:Nat)(as:List Arg):Option al:=bif Nat.ble as.length nt then(match qA 0 as with
 |some l=>bif fJ (keys (JQ nt as l)) then some ⟨l,bu (lz (j_ 0 as)) (JQ nt as l),nt⟩ else none
 |none=>none) else none
def nW(st:al):List Nat->Option (List (List aR)×List (Nat×Site))
 |[]=>some ([],[])
 |t::ci=>match st.get t with
  |.av (.an (.ptr o s 0))=>match fM st o s,nW st ci with
   |some cells,some (cQ,us)=>match kL st cells with
    |some (cs,gone)=>some (cs::cQ,(o,.dead s)::(gone++us))
    |none=>none
   |_,_=>none
  |_=>none
def uv:List Nat->List Nat->Bool
 |[],[]=>true
 |n::r,m::s=>n.beq m&&uv r s
 |_,_=>false
def aqM(st:al):bS->Option (bS×List (Nat×Site))
 |.an l=>(og st l).map fun p=>(.an p.1,p.2)
 |.agg ai=>(kL st ai).map fun p=>(.agg p.1,p.2)
def J2(tt:TypeId->cg)(st:al):ResultVar->Option bS
 |.tmp t=>mq (st.get t)
 |.cell a T=>match tt T with
  |.arr _ t n=>match st.get a with
   |.av (.an (.e3 o s u 0 0))=>match rowOf st o s with
    |some ⟨bo,xs⟩=>if bo=t/\bo=u then(long n xs).map fun xs=>.agg (Dc bo xs n) else none
    |none=>none
   |_=>none
  |ti=>match st.get a with
   |.av (.an (.ptr o s off))=>bif ti.known then(match fM st o s with
    |some cells=>(cut ti.agg off ti.size cells).bind mq
    |none=>none) else none
   |_=>none
def n8(tt:TypeId->cg)(st:al):List ResultVar->Option (List bS×List (Nat×Site))
 |[]=>some ([],[])
 |t::ci=>match J2 tt st t with
  |some a=>match aqM st a,n8 tt st ci with
   |some (cR,us),some (as,vs)=>some (cR::as,us++vs)
   |_,_=>none
  |none=>none
def asP(bb:Shape):Out->Option bb.J
 |.ret st=>bb.ex st
 |.norm st=>bb.ex st
 |.exit _ _=>none
noncomputable def Ka(C:hV)(c:Code)(kG fC:Shape)(a:kG.J):Option fC.J:=exec C c 1 (kG.st a) (asP fC)
noncomputable def pa(tt:TypeId->cg)(nt:Nat)(kG fC:Shape)(outs:List ResultVar)(fq:List Nat)(f:kG.J->Option fC.J):aD:=fun as=>
 match entry nt as with
 |some st=>bif uv (nZ 0 as) fq then⟨fC.J,(kG.ex st).bind f,fun y=>(match nW (fC.st y) fq with|some r=>r.1|none=>[]),fun y=>match n8 tt (fC.st y) outs with|some r=>r.1|none=>[]⟩ else wY.fail
 |none=>wY.fail
section
variable {w:World}{av:Nat->Prop}
theorem aeA:∀{ai:List aR} {vs:List Value} {bs:List Nat},l3 ai=true->lB w av ai vs bs->bs=[]/\cA mh [] w av ai vs:=by
 intro ai;induction ai with
 |nil=>
  intro vs bs _ h;match vs,h with
  |[],h=>exact⟨h,.nil⟩
 |cons l ai ih=>
  intro vs bs hn h;simp only[l3,Bool.and_eq_true] at hn;match vs,h with
  |v::vs,⟨b1,b2,h1,h2,h3⟩=>
   obtain⟨aE,aF⟩:=ih hn.2 h3;have:b1=[]/\eb mh [] w av l v:=by
    cases l<;>first|exact h2|cases hn.1
   exact⟨by rw[h1,this.1,aE];rfl,.cons this.2 aF⟩
theorem aeB{a:bS}{v:Value}{bs:List Nat}(hn:l3 a.cells=true)(h:CQ w av a v bs):bs=[]/\hh mh [] w av a v:=by
 cases a with
 |an l=>
  simp only[bS.cells,l3,Bool.and_true] at hn;cases l<;>first|exact h|cases hn
 |agg ai=>
  obtain⟨vs,h1,h2⟩:=h;obtain⟨aE,aF⟩:=aeA hn h2;exact⟨aE,vs,h1,aF.1,aF.2⟩
def ol:Value->Nat
 |.pointer (some a)=>a.block
 |_=>0
theorem ae5{ai:List aR}(h:l3 ai=true){l:aR}(hl:l∈ai):l.S'=true:=by
 induction ai with
 |nil=>cases hl
 |cons a ai ih=>
  simp only[l3,Bool.and_eq_true] at h;rcases List.mem_cons.1 hl with rfl|hl
  ·exact h.1
  ·exact ih h.2 hl
theorem alf{F:Nat->Value}{cl:Nat->Prop}{a:bS}{v:Value}{sites:List (Nat×Site)}(hn:l3 a.cells=true)(h:hh mh [] w av a v)(hle:∀b,cl b->av b)(hlt:∀b,cl b->b<w.heap.size):hh F sites w cl a v:=by
 cases a with
 |an l=>exact E9 (fun t xs e=>by subst e;cases hn) h hle hlt
 |agg ai=>
  obtain⟨vs,h1,h2,h3⟩:=h;exact⟨vs,h1,h2,fun j g1 g2=>E9 (fun t xs e=>by have:=ae5 hn (List.getElem_mem g1);rw[e] at this;cases this) (h3 j g1 g2) hle hlt⟩
theorem EO:∀{as:List Arg} {i o s:Nat},(o,s)∈j_ i as->s=0:=by
 intro as;induction as with
 |nil=>intro i o s h;cases h
 |cons a as ih=>
  intro i o s h;cases a with
  |av a=>exact ih h
  |fs c=>
   rcases List.mem_cons.1 h with h|h
   ·cases h;rfl
   ·exact ih h
theorem Pk{L:List (Nat×Nat)}(h:∀o s,(o,s)∈L->s=0){o s:Nat}(hm:(o,s)∈L):look (lz L) o=some (.dead 0):=by
 induction L with
 |nil=>cases hm
 |cons p L ih=>
  obtain⟨k,r⟩:=p;simp only[lz,look];cases hb:k.beq o with
  |true=>simp only[cond_true];rw[h k r List.mem_cons_self]
  |false=>
   simp only[cond_false];refine ih (fun o s hm=>h o s (List.mem_cons_of_mem _ hm)) ?_
   rcases List.mem_cons.1 hm with e|e
   ·cases e;rw[Nat.beq_refl] at hb;cases hb
   ·exact e
theorem Pu{L:List (Nat×Nat)}{o:Nat}{af:Site}(h:look (lz L) o=some af):∃s,af=.dead s:=by
 induction L with
 |nil=>cases h
 |cons p L ih=>
  obtain⟨k,r⟩:=p;simp only[lz,look] at h;cases hb:k.beq o with
  |true=>simp only[hb,cond_true,Option.some.injEq] at h;exact⟨r,h.symm⟩
  |false=>simp only[hb,cond_false] at h;exact ih h
theorem agd{F:Nat->Value}:∀{as:List Arg} {i:Nat} {l:List (Nat×a8)} {vs:List Value} {bs:List Nat},qA i as=some l->ji w av as vs bs->(∀j,F (500000+i+j)=vs.getD j undef)->
  jm w av (d_ as vs) (Cn as) bs/\nI F (j_ i as) (d_ as vs)/\d_ as vs=(nZ i as).map (fun t=>ol (vs.getD (t-i) undef))/\(∀t,t∈nZ i as->i<=t)/\
  ∀t v,look l t=some v->i<=t/\((∃a,v=.av a/\l3 a.cells=true/\hh mh [] w av a (vs.getD (t-i) undef))\/(v=b7 (.ptr (500000+t) 0 0)/\(500000+t,0)∈j_ i as/\∃b,vs.getD (t-i) undef=.pointer (some ⟨b,0,none⟩))):=by
 intro as;induction as with
 |nil=>
  intro i l vs bs h bL cU;simp only[qA] at h;cases h;match vs,bL with
  |[],bL=>exact⟨bL,trivial,rfl,fun t h=>(by cases h),fun t v h=>(by cases h)⟩
 |cons a as ih=>
  intro i l vs bs h bL cU;match vs,bL with
  |v::vs,⟨b1,b2,e,h2,h3⟩=>
  have ki:∀j,F (500000+(i+1)+j)=vs.getD j undef:=fun j=>by
   have:=cU (j+1);rw[List.getD_cons_succ] at this;rw[<-this];congr 1;omega
  have shift:∀t,i+1<=t->(v::vs).getD (t-i) undef=vs.getD (t-(i+1)) undef:=fun t au=>by
   obtain⟨m,hm⟩:∃m,t-i=m+1:=⟨t-i-1,by omega⟩
   have mA:t-(i+1)=m:=by omega
   rw[hm,List.getD_cons_succ,mA]
  have Y7:∀{L:List Nat},(∀t,t∈L->i+1<=t)->L.map (fun t=>ol (vs.getD (t-(i+1)) undef))=L.map (fun t=>ol ((v::vs).getD (t-i) undef)):=fun dR=>List.map_congr_left fun t au=>by rw[shift t (dR t au)]
  cases a with
  |fs c=>
   simp only[qA] at h;obtain⟨gA,h1,aC⟩:=Option.map_eq_some_iff.1 h;subst aC;obtain⟨b,hv,pV⟩:=h2;obtain⟨aE,aF,bJ,cB,fS⟩:=ih h1 h3 ki;have eW:d_ (.fs c::as) (v::vs)=b::d_ as vs:=by subst hv;rfl
   refine⟨by rw[eW];exact⟨b1,b2,e,pV,aE⟩,by rw[eW];exact⟨by have:=cU 0;rw[Nat.add_zero] at this;rw[this];exact hv,aF⟩,?_,fun t au=>?_,fun t u hl=>?_⟩
   ·rw[eW,bJ,Y7 cB];simp only[nZ,List.map_cons,Nat.sub_self,List.getD_cons_zero,hv,ol]
   ·rcases List.mem_cons.1 au with rfl|au
    ·exact Nat.le_refl _
    ·exact Nat.le_trans (Nat.le_succ _) (cB t au)
   ·simp only[look] at hl;cases hb:i.beq t with
    |true=>
     have:=Nat.eq_of_beq_eq_true hb;subst this;simp only[hb,cond_true,Option.some.injEq] at hl;subst hl;exact⟨Nat.le_refl _,.inr ⟨rfl,List.mem_cons_self,b,by simp only[Nat.sub_self,List.getD_cons_zero];exact hv⟩⟩
    |false=>
     simp only[hb,cond_false] at hl;obtain⟨q1,q2⟩:=fS t u hl;refine⟨by omega,?_⟩
     rw[shift t q1];rcases q2 with q2|⟨r1,r2,di⟩
     ·exact .inl q2
     ·exact .inr ⟨r1,List.mem_cons_of_mem _ r2,di⟩
  |av a=>
   simp only[qA] at h;cases hn:l3 a.cells with
   |false=>simp[hn] at h
   |true=>
    simp only[hn,cond_true] at h;obtain⟨gA,h1,aC⟩:=Option.map_eq_some_iff.1 h;subst aC;obtain⟨g1,g2⟩:=aeB hn h2;obtain⟨aE,aF,bJ,cB,fS⟩:=ih h1 h3 ki;have eW:d_ (.av a::as) (v::vs)=d_ as vs:=by cases v<;>rfl
    refine⟨by rw[eW,e,g1];exact aE,by rw[eW];exact aF,by rw[eW,bJ,Y7 cB];rfl,fun t au=>Nat.le_trans (Nat.le_succ _) (cB t au),fun t u hl=>?_⟩
    simp only[look] at hl;cases hb:i.beq t with
    |true=>
     have:=Nat.eq_of_beq_eq_true hb;subst this;simp only[hb,cond_true,Option.some.injEq] at hl;subst hl;exact⟨Nat.le_refl _,.inl ⟨a,rfl,hn,by simp only[Nat.sub_self,List.getD_cons_zero];exact g2⟩⟩
    |false=>
     simp only[hb,cond_false] at hl;obtain⟨q1,q2⟩:=fS t u hl;refine⟨by omega,?_⟩
     rw[shift t q1];exact q2
theorem ao0:∀{l m:List Nat},uv l m=true->l=m:=by
 intro l;induction l with
 |nil=>intro m h;cases m<;>first|rfl|cases h
 |cons n l ih=>
  intro m h;cases m with
  |nil=>cases h
  |cons k m=>
   simp only[uv,Bool.and_eq_true] at h;rw[Nat.eq_of_beq_eq_true h.1,ih h.2]
end
section
variable {P:Program}{U:World}{Y:List Nat}{X:Nat->Prop}{F:Nat->Value}{st:al}{M:Array Value}{w:World}{dn:List (Nat×Site)}{e5:List Nat}{av:Nat->Prop}
def qO(M:Array Value)(r:ResultVar):Sem Value:=
 match r with
 |.tmp t=>pure (M.getD t undef)
 |.cell a t=>do loadVar t (<-asAddr (M.getD a undef))
theorem akr(S:aq U Y X F st M w){C:Ctx}(H:CtxOk P C){r:ResultVar}{a:bS}(h:J2 C.tt st r=some a):∃v,(qO M r).run P w=.ok v w/\hh F st.sites w (aJ X F st.sites) a v:=by
 cases r with
 |tmp t=>
  have hs:=S.cN t;rw[ql h] at hs;exact⟨_,by simp only[qO,Sem.run_pure],hs⟩
 |cell x T=>
  simp only[J2] at h;split at h
  ·rename_i e t n bl;split at h
   ·rename_i o s u hx;have hs:=S.cN x;rw[hx] at hs;split at h
    ·rename_i bo xs hrow;split at h
     ·rename_i jx;obtain⟨rfl,rfl⟩:=jx;obtain⟨bj,hy,axf⟩:=Option.map_eq_some_iff.1 h;obtain⟨rfl,hlen⟩:=u5 hy;subst axf;have bO:=H.tt T;rw[bl] at bO;obtain⟨he,_,_,eY,_,ny,_⟩:=nR bO.2.2;obtain⟨b,c,cs,hv,_,hc,hr⟩:=S.arr hrow hs;have hcl:cs.length=n:=by rw[hr.1,e7,he,hlen,Nat.mul_one]
      have dw:=uQ (P:=P) (w:=w) bO (by rintro h;cases h) ⟨b,0,none⟩ cs hcl (fun j u hu=>by rw[gV];exact hc j u hu)
      refine⟨.agg cs.toArray,?_,?_⟩
      ·simp only[qO,hv,asAddr,Sem.run_bind,Sem.run_pure,Result.andThen_ok,dw];rfl
      ·subst hlen;have:=hO (F:=F) (sites:=st.sites) hr.1 hr.2;rw[<-TQ ny] at this;exact⟨cs,rfl,this.1,this.2⟩
     ·cases h
    ·cases h
   ·cases h
  split at h
  ·rename_i o s off hx;have hs:=S.cN x;rw[hx] at hs;cases hk:(C.tt T).known with
   |false=>simp[hk] at h
   |true=>
    simp only[hk,cond_true] at h;split at h
    ·rename_i cells hb;obtain⟨v,hc,hv⟩:=Option.bind_eq_some_iff.1 h;have hv:=ql hv;subst hv;obtain⟨b,gC,cur,h1,h2,h3,aC,bk⟩:=S.box (gP hb) hs;obtain⟨aE,aF⟩:=Vz hc Ha bk;refine⟨_,?_,aF⟩;have hl:(loadVar T ⟨b,off,none⟩).run P w=.ok (tk (C.tt T).agg ((cur.drop off).take (C.tt T).size)) w:=by
      refine uQ (H.tt T) (GU hk) _ _ (by simp;omega) fun j u hu=>?_
      rw[gV];have:=((ie.row h3).drop off).take (C.tt T).size j u hu;simpa using this
     simp only[qO,h2,asAddr,Sem.run_bind,Sem.run_pure,Result.andThen_ok,hl]
    ·cases h
  ·cases h
theorem Pp{C:Ctx}(H:CtxOk P C)(L:fD U Y X F st M w dn e5 av):∀{outs:List ResultVar} {as:List bS} {us:List (Nat×Site)},n8 C.tt st outs=some (as,us)->
  ∃rv,(outs.mapM (qO M)).run P w=.ok rv w/\lq w av as rv (dj F (keys us))/\gY st.sites us:=by
 intro outs;induction outs with
 |nil=>intro as us h;simp only[n8] at h;cases h;exact⟨[],by simp,rfl,.nil⟩
 |cons t outs ih=>
  intro as us h;simp only[n8] at h;split at h
  ·rename_i a ha;split at h
   ·rename_i cR u1 oK u2 h1 h2;cases h;obtain⟨rv,lU,aE,aF⟩:=ih h2;obtain⟨v,q0,hs⟩:=akr L.fz.old H ha;have:CQ w av cR v (dj F (keys u1))/\gY st.sites u1:=by
     cases a with
     |an l=>
      obtain⟨p,q1,q2⟩:=Option.map_eq_some_iff.1 h1;cases q2;exact zD L q1 hs
     |agg ai=>
      obtain⟨p,q1,q2⟩:=Option.map_eq_some_iff.1 h1;cases q2;obtain⟨vs,e1,e2,bC⟩:=hs;obtain⟨r1,r2⟩:=IG L q1 ⟨e2,bC⟩;exact⟨⟨vs,e1,r1⟩,r2⟩
    refine⟨v::rv,?_,⟨_,_,by rw[j7,oW],this.1,aE⟩,this.2.append aF⟩
    simp only[List.mapM_cons,Sem.run_bind,q0,Result.andThen_ok,lU,Sem.run_pure]
   ·cases h
  ·cases h
theorem OR(L:fD U Y X F st M w dn e5 av):∀{ci:List Nat} {cQ:List (List aR)} {us:List (Nat×Site)},nW st ci=some (cQ,us)->
  jm w av (ci.map fun t=>ol (M.getD t undef)) cQ (dj F (keys us))/\gY st.sites us:=by
 intro ci;induction ci with
 |nil=>intro cQ us h;simp only[nW] at h;cases h;exact⟨rfl,.nil⟩
 |cons t ci ih=>
  intro cQ us h;have hs:=L.fz.old.cN t;simp only[nW] at h;split at h
  ·rename_i o s hx;rw[hx] at hs;split at h
   ·rename_i cells aBQ nq ml hr;split at h
    ·rename_i cs gone hg;cases h;obtain⟨aE,aF⟩:=ih hr;have jR:=gP ml;obtain⟨b,T,cur,e1,e2,bC,dy,fT⟩:=L.fz.old.box jR hs;obtain⟨g1,g2⟩:=IG L hg fT;have KL:nf cells T cur b:=by
      obtain⟨b2,eC,Zz,q1,q2,_,_,dF,_⟩:=L.fz.old.sites o _ jR;rw[e1] at q1;cases q1;rw[bC] at q2;cases q2;exact dF
     have x8:ol (M.getD t undef)=b:=by rw[e2];rfl
     have ayp:bQ (F o)=some b:=by rw[e1];rfl
     refine⟨⟨b::dj F (keys gone),dj F (keys nq),?_,?_,aE⟩,?_⟩
     ·simp only[keys,j7,oW,List.cons_append];simp[dj,ayp]
     ·show I4 w av (ol (M.getD t undef)) cs _;rw[x8];exact⟨T,cur,_,rfl,bC,dy,fun bL=>KL (QG hg bL),g1⟩
     ·intro ab aN hm;rcases List.mem_cons.1 hm with hm|hm
      ·cases hm;exact⟨_,jR,rfl,rfl⟩
      ·exact(gY.append g2 aF) ab aN hm
    ·cases h
   ·cases h
  ·cases h
theorem OK{fn:Func}{outs:List ResultVar}(h:fn.results=outs.toArray){M:Array Value}{w:World}{rv:List Value}(k:(outs.mapM (qO M)).run P w=.ok rv w):(results fn M).run P w=.ok (oa rv) w:=by
 have e:(results fn M)=(do let vs <-fn.results.mapM (qO M);pure (if h:vs.size=1 then vs[0] else .tuple vs)):=by
  unfold results;congr 2
 rw[e,h];simp only[List.mapM_toArray,Sem.run_bind,Sem.run_map];rw[k];match rv with
 |[]=>simp[oa]
 |[t]=>simp[oa]
 |t::t2::r=>simp[oa]
theorem aq.asK(S:aq U Y X F st M w){bh:Nat}(gB:X bh)(fA:U.heap.size<=bh)(D:Obj):aq U Y X F st M (w.putObj bh D):=by
 have hsz:(w.putObj bh D).heap.size=w.heap.size:=by simp[World.putObj]
 have KO:∀b,b≠bh->(w.putObj bh D).heap[b]? =w.heap[b]? :=fun b hb=>World.putObj_heap_other hb
 have G:io F F st.sites st.sites w (w.putObj bh D) (aJ X F st.sites) (aJ X F st.sites):=
  ⟨fun o af h=>⟨af,h,Nat.le_refl _,fun _=>rfl⟩,fun b hb _=>KO b fun e=>hb (.inl (e▸gB)),fun _ h _=>h⟩
 have hlt:∀b,aJ X F st.sites b->b<(w.putObj bh D).heap.size:=fun b hb=>by rw[hsz];exact S.lt hb
 refine⟨S.nt,fun t=>(S.cN t).goes G (by rw[hsz];exact Nat.le_refl _) hlt,fun o af h=>?_,S.eh,S.ct,?_,fun b hb=>by rw[hsz];exact S.old b hb,S.e9⟩
 ·exact(S.sites o af h).goes G (by rw[hsz];exact Nat.le_refl _) hlt rfl fun hl b hb=>KO b fun e=>(S.ct o b ⟨af,h,hl⟩ hb).1 (e▸gB)
 ·exact⟨S.frame.os,S.frame.tape,S.frame.output,by rw[hsz];exact S.frame.size,fun b hb hn=>(KO b (by omega)).trans (S.frame.block b hb hn)⟩
theorem ae7{fn:Func}{R:Ending->World->Prop}:∀(dS:List Nat) (w:World),aq U Y X F st M w->dS.Nodup->(∀bh,bh∈dS->U.heap.size<=bh/\X bh/\w.heap[bh]? =some (.deferred (some [])))->
  (∀w',aq U Y X F st M w'->∃v,(results fn M).run P w'=.ok v w'/\R (.returned v) w')->LeavesInM Fence.wide 0 P fn M R (dS.map mark) .returning w:=by
 intro dS;induction dS with
 |nil=>intro w S _ _ hR;exact hR w S
 |cons bh dS ih=>
  intro w S hn fA hR;obtain⟨h1,h2,h3⟩:=fA bh List.mem_cons_self;have hn:=List.nodup_cons.1 hn;refine⟨by simp,.inl ⟨bh,w.putObj bh (.deferred none),rfl,run_takeDeferred h3,ih _ (S.asK h2 h1 _) hn.2 (fun NY ack=>?_) hR⟩⟩
  obtain⟨g1,g2,g3⟩:=fA NY (List.mem_cons_of_mem _ ack);exact⟨g1,g2,(World.putObj_heap_other (fun e=>hn.1 (by rw[<-e];exact ack))).trans g3⟩
def S0(ee:Value->World->Prop):Ending->World->Prop
 |.returned v,w=>ee v w
 |_,_=>False
theorem ak0{nt:Nat}{as:List Arg}{st:al}{vs:List Value}{dA:List Nat}(he:entry nt as=some st)(bL:ji w (fun b=>X b\/b∈dA) as vs dA)(kU:dA.Nodup)(gB:∀b,b∈dA->¬X b)(hlt:∀b,X b->b<w.heap.size)(hG:iP w dA X):
  (∃F,aq w dA X F st (vs.toArray++Array.replicate (nt-vs.toArray.size) undef) w)/\d_ as vs=(nZ 0 as).map (fun t=>ol (vs.getD t undef))/\(∀t,(vs.toArray++Array.replicate (nt-vs.toArray.size) undef).getD t undef=vs.getD t undef):=by
 unfold entry at he;cases hle:Nat.ble as.length nt with
 |false=>simp[hle] at he
 |true=>
  simp only[hle,cond_true] at he;split at he
  ·rename_i l hl;cases hn:fJ (keys (JQ nt as l)) with
   |false=>simp[hn] at he
   |true=>
    simp only[hn,cond_true,Option.some.injEq] at he;subst he;rw[sj] at hn;have hlen:=bL.length;have hle:=Nat.le_of_ble_eq_true hle;obtain⟨mr,Zc⟩:∃mr:Nat->Value,∀j,mr (500000+0+j)=vs.getD j undef:=⟨fun o=>vs.getD (o-500000) undef,fun j=>by simp⟩
    obtain⟨aE,aF,bJ,_,fS⟩:=agd hl bL Zc;have tJ:∀t,(vs.toArray++Array.replicate (nt-vs.toArray.size) undef).getD t undef=vs.getD t undef:=fun t=>by
     simp only[Array.getD_eq_getD_getElem?,List.getD_eq_getElem?_getD,Array.getElem?_append,List.size_toArray];by_cases h:t<vs.length
     ·simp[h]
     ·simp only[h,if_false];rw[List.getElem?_eq_none (Nat.le_of_not_lt h)];rw[Array.getElem?_replicate];split<;>rfl
    have mc:∀o,¬cq (lz (j_ 0 as)) o:=fun o ⟨af,h1,h2⟩=>by obtain⟨s,rfl⟩:=Pu h1;cases h2
    have D3:∀b,b∈dA->b<w.heap.size:=QF aE;have cc:∀b,aJ (fun b=>X b\/b∈dA++[]) mr (lz (j_ 0 as)) b->X b\/b∈dA:=by
     rintro b (h|⟨o,h,_⟩)
     ·simpa using h
     ·exact(mc o h).elim
    have as4:∀b,aJ (fun b=>X b\/b∈dA++[]) mr (lz (j_ 0 as)) b->b<w.heap.size:=fun b h=>(cc b h).elim (hlt b) (D3 b)
    have oU:aq w dA (fun b=>X b\/b∈dA++[]) mr (Ck nt as l) (vs.toArray++Array.replicate (nt-vs.toArray.size) undef) w:=by
     refine⟨?_,fun t=>?_,fun o af h=>?_,fun o ab b h=>(mc o h).elim,fun o b h=>(mc o h).elim,Fr.refl _ _,fun b hb=>?_,hG.aqs fun b h=>by simpa using h⟩
     ·show(vs.toArray++_).size=nt;simp;omega
     ·rw[tJ];unfold al.get;show ck mr (lz (j_ 0 as)) w _ (match look l t with|some v=>v|none=>.av (.an .any)) _
      cases au:look l t with
      |none=>simp only;trivial
      |some v=>
       simp only;obtain⟨_,k⟩:=fS t v au;rw[Nat.sub_zero] at k;rcases k with⟨a,rfl,q1,q2⟩|⟨rfl,q1,b,q2⟩
       ·exact alf q1 q2 cc as4
       ·refine⟨b,q2,.dead 0,Pk (fun _ _ h=>EO h) q1,Nat.le_refl _,fun _=>?_⟩
        have:=Zc t;rw[Nat.add_zero] at this;rw[this,q2]
     ·obtain⟨s,rfl⟩:=Pu h;trivial
     ·exact(show X b\/b∈dA by simpa using hb).elim (hlt b) (D3 b)
    obtain⟨gK,T,_⟩:=Q9 (av:=fun b=>X b\/b∈dA) (rest:=[]) (Ck nt as l) (j_ 0 as) oU aF aE (fun o s hm=>by
      have:=EO hm;subst this;exact Pk (fun _ _ h=>EO h) hm)
     ⟨by simpa using kU,fun b hb=>⟨gB b (by simpa using hb),.inl (by simpa using hb)⟩,cc⟩
     (fun m _ af hs=>by
      have hs:look (lz (j_ 0 as)) m=some af:=hs;have:(Ck nt as l).af m=some af:=hs;unfold bw;rw[this];exact Nat.lt_succ_self _) hn
    exact⟨⟨gK,T.ju.shrink fun b hb=>.inl hb⟩,by simpa using bJ,tJ⟩
  ·cases he
theorem alx{C:hV}(H:aQ P C.toCtx){g:FuncId}{fn:Func}{c:Code}{kG fC:Shape}{outs:List ResultVar}{fq:List Nat}{f:kG.J->Option fC.J}(nF:P.funcs[g]? =some fn)(tu:fn.body=some c)(qV:(fn.name== "runtime.NumGoroutine")=false)
  (kj:fn.results=outs.toArray) (ep:gn P C c 1) (pS:e8 fq (cx c)=true) (q_:∀y,∃r oQ,n8 C.tt (fC.st y) outs=some r/\nW (fC.st y) fq=some oQ/\fJ (keys (oQ.2++r.2))=true) (hf:∀a,f a=Ka C c kG fC a):aA P g (pa C.tt fn.ntmps kG fC outs fq f):=by
 intro as;unfold pa;cases he:entry fn.ntmps as with
 |none=>intro y hy;cases hy
 |some st=>
  simp only;cases oF:uv (nZ 0 as) fq with
  |false=>intro y hy;cases hy
  |true=>
  simp only[cond_true];have oF:=ao0 oF;rw[QO] at pS;intro y hy w X vs dA bL kU gB hlt hG;obtain⟨a,MJ,acg⟩:=Option.bind_eq_some_iff.1 hy;obtain⟨⟨mr,oU⟩,eW,tJ⟩:=ak0 he bL kU gB hlt hG;obtain⟨gK,dz,_⟩:=Shape.gm oU MJ;rw[hf] at acg;refine .inl ⟨?_,Calls.mono (R:=S0 _) ((callsIn_wide (n:=0)).1 (callsIn_of_wp_marks nF tu trivial (jJ (rn:=none) H c 1 (.inl rfl) ep w dA X _ gK _ w [] _ _ acg dz fun D e cR w' hk hl=>?_) rfl)) fun e w' h=>by cases e<;>first|exact h|exact h.elim⟩
  ·have aoP:¬fn.name= "runtime.NumGoroutine" :=by simpa using qV
   simp[callFunc,nF,aoP,tu]
  ·-- where it ends
   have fin:∀ap,fC.ex ap=some y->eD w dA X [] (vs.toArray++Array.replicate (fn.ntmps-vs.toArray.size) undef) (cx c) ap cR w'->LeavesInM Fence.wide 0 P fn cR.tmps (S0 fun v w'=>∃ev eu rv,Fr dA w w'/\
     jm w' (fun b=>X b\/b∈ev++eu) (d_ as vs) (match nW (fC.st y) fq with|some r=>r.1|none=>[]) ev/\
     lq w' (fun b=>X b\/b∈ev++eu) (match n8 C.tt (fC.st y) outs with|some r=>r.1|none=>[]) rv eu/\v=oa rv/\(ev++eu).Nodup/\∀b,b∈ev++eu->¬X b/\(b∈dA\/w.heap.size<=b)) cR.defers .returning w':=by
    rintro ap Mx ⟨aY,dP,c9,is,dS,b1,b2,b3,ib,kept⟩;obtain⟨hY,jA,_⟩:=Shape.gm ib Mx;rw[b3.1,List.append_nil];have je:aq w dA c9 hY (fC.st y) cR.tmps w':=⟨jA.nt,jA.cN,jA.sites,jA.eh,fun o b h1 h2=>⟨(jA.ct o b h1 h2).1,b1.ct b (jA.ct o b h1 h2).2⟩,b1.cL _ jA.frame,jA.old,⟨hG.ok,hG.Y,jA.e9.X,hG.lt⟩⟩
    refine ae7 dS w' je b2.nodup (fun bh fA=>⟨b2.new bh fA,(b2.hJ bh fA).2.2,(jA.frame.block bh (b2.lt fA) (b2.hJ bh fA).2.1).trans (b2.hJ bh fA).1⟩) fun Dx ayW=>?_
    have lY:=ayW.shrink b1.x;obtain⟨⟨k3,us⟩,⟨cQ,rT⟩,hr,Ml,hn⟩:=q_ y;rw[sj] at hn;have hn:(keys (rT++us)).Nodup:=hn;have D1:fD w dA X hY (fC.st y) cR.tmps Dx [] [] (fun _=>False):=⟨⟨lY,.nil⟩,fun b h=>h.elim,fun _ _ _ _ h=>h⟩
    obtain⟨_,_,_,D4⟩:=Pp H.toCtxOk D1 hr;have ayi:=(OR D1 Ml).2;have nL:=gY.append ayi D4;have Nu:∀o,o∈keys (rT++us)->cq (fC.st y).sites o:=fun o bz=>by
     obtain⟨s,hs⟩:=zC bz;obtain⟨af,h1,h2,_⟩:=nL o s hs;exact⟨af,h1,h2⟩
    have dR:fD w dA X hY (fC.st y) cR.tmps Dx [] [] (fun b=>X b\/b∈dj hY (keys rT)++dj hY (keys us)):=by
     refine⟨⟨lY,.nil⟩,fun b hb=>?_,fun _ h=>by simp at h⟩
     rcases hb with hb|hb
     ·exact .inl hb
     ·rw[<-oW,<-j7] at hb;obtain⟨o,h1,h2⟩:=nP.1 hb;exact .inr ⟨o,Nu o h1,h2⟩
    obtain⟨rv,dw,dY,_⟩:=Pp H.toCtxOk dR hr;have hB:=(OR dR Ml).1;have axG:(fq.map fun t=>ol (cR.tmps.getD t undef))=d_ as vs:=by
     rw[eW,oF];exact List.map_congr_left fun t au=>by rw[kept t (pS t au),tJ]
    rw[axG] at hB;refine⟨_,OK kj dw,dj hY (keys rT),dj hY (keys us),rv,lY.frame,?_,?_,rfl,?_,fun b hb=>?_⟩
    ·rw[Ml];exact hB
    ·rw[hr];exact dY
    ·rw[<-oW,<-j7];exact Oq lY hn Nu
    ·rw[<-oW,<-j7] at hb;obtain⟨o,h1,h2⟩:=nP.1 hb;exact lY.ct o b (Nu o h1) h2
   cases D with
   |norm ap=>
    cases e<;>try exact hl.elim
    exact fin ap hk hl
   |ret ap=>
    cases e<;>try exact hl.elim
    exact fin ap hk hl
   |exit id ap=>cases hk
end
def am(c:Code)(q p:Nat):Code:=match look (fY c q) p with|some c=>c|none=>.skip
def c4:Code->Code
 |.loop c=>c
 |_=>.skip
def codeOf(f:Func):Code:=match f.body with|some c=>c|none=>.skip
def UX:Code->Bool
 |.loop _=>true
 |_=>false
def tn:List (Nat×h5)->Nat->Option h5
 |[],_=>none
 |(k,v)::r,n=>bif k.beq n then some v else tn r n
def gT(C:Ctx)(cL:List (Nat×h5)):hV:={C with ov:=tn cL}
def lC(P:Program)(c:Code)(q:Nat):List (Nat×h5)->Prop
 |[]=>True
 |(p,f)::r=>aS P (am c q p) f/\lC P c q r
theorem akA{aH:Type}{l:List (Nat×aH)}{n:Nat}{v:aH}(h:look l n=some v):(n,v)∈l:=by
 induction l with
 |nil=>cases h
 |cons p l ih=>
  obtain⟨m,u⟩:=p;simp only[look] at h;cases hb:m.beq n with
  |true=>
   simp only[hb,cond_true,Option.some.injEq] at h;rw[<-Nat.eq_of_beq_eq_true hb,h];exact List.mem_cons_self
  |false=>simp only[hb,cond_false] at h;exact List.mem_cons_of_mem _ (ih h)
theorem aky{aH:Type}{l:List (Nat×aH)}{n:Nat}{v:aH}(hn:(keys l).Nodup)(h:(n,v)∈l):look l n=some v:=by
 induction l with
 |nil=>simp at h
 |cons p l ih=>
  obtain⟨m,u⟩:=p;simp only[keys,List.nodup_cons] at hn;simp only[look];rcases List.mem_cons.1 h with h|h
  ·cases h;simp
  ·have:¬m=n:=by rintro rfl;exact hn.1 (aiB h)
   rw[jV this];exact ih hn.2 h
where
 aiB {aH:Type} {us:List (Nat×aH)} {o:Nat} {s:aH} (h:(o,s)∈us):o∈keys us:=by
  induction us with
  |nil=>simp at h
  |cons p us ih=>
   rcases List.mem_cons.1 h with rfl|h
   ·exact List.mem_cons_self
   ·exact List.mem_cons_of_mem _ (ih h)
theorem lh{P:Program}{C:Ctx}{c:Code}{q:Nat}{cL:List (Nat×h5)}(hu:fJ (keys (fY c q))=true)(h:lC P c q cL):gn P (gT C cL) c q:=by
 rw[sj] at hu;refine S9 c q fun p fr hm f xF=>?_
 have hl:=aky hu hm;have hf:tn cL p=some f:=xF;clear xF;clear hm;induction cL with
 |nil=>cases hf
 |cons x cL ih=>
  obtain⟨k,g⟩:=x;simp only[tn] at hf;cases hb:k.beq p with
  |true=>
   simp only[hb,cond_true,Option.some.injEq] at hf;have:=Nat.eq_of_beq_eq_true hb;subst this hf;have:=h.1;unfold am at this;rw[hl] at this;exact this
  |false=>simp only[hb,cond_false] at hf;exact ih h.2 hf
theorem ae{P:Program}{c:Code}{q:Nat}:lC P c q []:=trivial
theorem amQ{P:Program}{C:Ctx}(H:aQ P C){c:Code}{q p:Nat}{bb:Shape}{os:List aP}{cL:List (Nat×h5)}{g:bb.J->Option (aB os)}(hl:UX (am c q p)=true)
  (hu:fJ (keys (fY (c4 (am c q p)) (2*p)))=true) (eB:lC P (c4 (am c q p)) (2*p) cL)
  (hg:∀y,g y=br (s0 (gT C cL) (c4 (am c q p)) p bb os) y):aS P (am c q p) (aU bb os g):=by
 have:am c q p=.loop (c4 (am c q p)):=by
  generalize am c q p=d at hl;cases d<;>first|rfl|cases hl
 rw[this];exact aiF (C:=gT C cL) H (lh hu eB) hg
theorem cd{P:Program}{C:Ctx}(H:aQ P C){c:Code}{q p:Nat}{bb:Shape}{os:List aP}{cL:List (Nat×h5)}{g:bb.J->Option (aB os)}
  (hu:fJ (keys (fY (am c q p) p))=true) (eB:lC P (am c q p) p cL)
  (hg:∀y,g y=Ut (gT C cL) (am c q p) p bb os y):aS P (am c q p) (aU bb os g):=
 agN (C:=gT C cL) H (lh hu eB) hg
theorem aoW{P:Program}{C:Ctx}(H:aQ P C){g:FuncId}{fn:Func}{kG fC:Shape}{outs:List ResultVar}{fq:List Nat}{cL:List (Nat×h5)}{f:kG.J->Option fC.J}(nF:P.funcs[g]? =some fn)(tu:fn.body=some (codeOf fn))
  (qV:(fn.name== "runtime.NumGoroutine")=false) (kj:fn.results=outs.toArray) (hu:fJ (keys (fY (codeOf fn) 1))=true) (eB:lC P (codeOf fn) 1 cL) (hk:e8 fq (cx (codeOf fn))=true)
  (q_:∀y,∃r oQ,n8 C.tt (fC.st y) outs=some r/\nW (fC.st y) fq=some oQ/\fJ (keys (oQ.2++r.2))=true) (hf:∀a,f a=Ka (gT C cL) (codeOf fn) kG fC a):aA P g (pa C.tt fn.ntmps kG fC outs fq f):=
 alx (C:=gT C cL) H nF tu qV kj (lh hu eB) hk q_ hf
def jP{A bq:Type}(ff:(A->Option bq)->A->Option bq):Nat->A->Option bq
 |0=>fun _=>none
 |n+1=>ff (jP ff n)
def ke:Nat:=4611686018427387904
theorem Jn{P:Program}{g:FuncId}{tt:TypeId->cg}{nt:Nat}{lT k2:Shape}{outs:List ResultVar}{fq:List Nat}{ff:(lT.J->Option k2.J)->lT.J->Option k2.J}
  (h:∀aT,aA P g (pa tt nt lT k2 outs fq aT)->aA P g (pa tt nt lT k2 outs fq (ff aT))):∀n,aA P g (pa tt nt lT k2 outs fq (jP ff n)):=by
 intro n;induction n with
 |zero=>
  intro as;unfold pa;cases entry nt as with
  |none=>intro y hy;cases hy
  |some st=>
   simp only;cases uv (nZ 0 as) fq with
   |false=>intro y hy;cases hy
   |true=>
    intro y hy;simp only[cond_true,jP] at hy;obtain⟨a,_,h2⟩:=Option.bind_eq_some_iff.1 hy;cases h2
 |succ n ih=>exact h _ ih
def CX:List (Nat×cg)->TypeId->cg
 |[],_=>.none
 |(k,v)::r,n=>bif Nat.beq k n then v else CX r n
def Kb(P:Program):List (Nat×cg)->Prop
 |[]=>True
 |(k,v)::r=>v.ok P k/\Kb P r
theorem alw{P:Program}:∀{l:List (Nat×cg)},Kb P l->∀T,(CX l T).ok P T:=by
 intro l;induction l with
 |nil=>intro _ T;trivial
 |cons p l ih=>
  obtain⟨k,v⟩:=p;intro h T;simp only[CX];cases hb:Nat.beq k T with
  |true=>have:=Nat.eq_of_beq_eq_true hb;subst this;exact h.1
  |false=>exact ih h.2 T
theorem ag1{J bq:Type}{f g:J->Option (Sum J bq)}(h:∀y,f y=g y):∀y,br f y=br g y:=by
 have:f=g:=funext h;rw[this];exact fun _=>rfl
def sL:List Arg->Option (B×Int)
 |[.av (.an (.d (.str s))),.av (.an (.d (.int .u8 c)))]=>some (s,c)
 |_=>none
def FV:aD:=fun as=>match sL as with
 |some (s,c)=>⟨Unit,some (),fun _=>[],fun _=>[.an (.d (.int .i64 (Lib.indexByte s c.toNat.toUInt8)))]⟩
 |none=>.fail
theorem OP{as:List Arg}{s:B}{c:Int}(h:sL as=some (s,c)):as=[.av (.an (.d (.str s))),.av (.an (.d (.int .u8 c)))]:=by
 unfold sL at h;split at h
 ·cases h;rfl
 ·cases h
theorem afc{P:Program}{g:FuncId}{fn:Func}(hf:P.funcs[g]? =some fn)(qV:(fn.name== "runtime.NumGoroutine")=false)(hb:fn.body.isNone=true)(hn:Extern.findNext fn=none)
  (he:Extern.find fn=some Extern.BytealgIndexByte.indexByte):aA P g FV:=by
 intro as;unfold FV;cases az:sL as with
 |none=>intro y hy;cases hy
 |some q=>
  obtain⟨s,c⟩:=q;have has:=OP az;subst has;intro y hy w X vs dA bL _ _ _ _;match vs,bL with
  |[v1,v2],⟨a1,a2,e1,h1,c1,c2,e2,h2,bC⟩=>
   obtain⟨fQ,r1⟩:=h1;obtain⟨z2,r2⟩:=h2;subst fQ z2 bC;simp only[List.append_nil] at e2;subst e2;simp only[List.append_nil] at e1;subst e1;obtain⟨b,rfl,ed⟩:=gD r1;have e:=iA r2;subst e;refine .inr ⟨.int .i64 (Lib.indexByte b.data.toList c.toNat.toUInt8),w,?_,[],[],[.int .i64 (Lib.indexByte s c.toNat.toUInt8)],Fr.refl _ _,?_,?_,?_,by simp,fun b hb=>by simp at hb⟩
   ·rw[run_callFunc_extern hf qV hb hn he];show((Extern.BytealgIndexByte.indexByte #[.string b,.int .u8 c]).run P w).andThen _=_;rw[Lib.run_indexByteString];rfl
   ·simp[d_,jm]
   ·exact⟨[],[],rfl,⟨rfl,.int _ _⟩,rfl⟩
   ·rw[ed];rfl
end Go.Jk
namespace Go.Jk
open Go.RowKit Go.Sort
theorem ajy{P:Program}{w:World}{g:Nat}{name:String}{k:IntKind}{zs:List Int}(hg:P.globalNamed name=some g)(h:oj w g k zs):Lib.TabIs P w name k zs:=by
 obtain⟨T,fz,h⟩:=h;simp[Lib.TabIs,World.var?,hg,h]
theorem ajz{P:Program}{w:World}{g:Nat}{name:String}{k:IntKind}{zs:List Int}(hg:P.globalNamed name=some g)(h:Lib.TabIs P w name k zs):oj w g k zs:=by
 simp only[Lib.TabIs,World.var?,hg,Option.bind_some] at h;split at h
 ·rename_i cs T fz hc;cases h;exact⟨_,_,hc⟩
 ·cases h
def CB:List Arg->Option Int
 |[.av (.an (.d (.int .i64 n)))]=>some n
 |_=>none
theorem aiJ{as:List Arg}{n:Int}(h:CB as=some n):as=[.av (.an (.d (.int .i64 n)))]:=by
 unfold CB at h;split at h
 ·cases h;rfl
 ·cases h
def GV:aD:=fun as=>match CB as with
 |some n=>⟨Unit,if-9223372036854775808<=n/\n<=9223372036854775807 then some () else none,fun _=>[],fun _=>[.an (.d (.str (Lib.itoa n)))]⟩
 |none=>.fail
theorem am2(w:World)(k:Nat)(os:Array Obj):Fr [] w (grow (w.drewN k) os):=
 ⟨rfl,rfl,rfl,by simp[grow,World.drewN],fun b hb _=>by
  show(w.heap++os)[b]? =w.heap[b]?;rw[Array.getElem?_append_left hb]⟩
theorem amW{P:Program}{g:FuncId}(he:∀args w,(callFunc g args).run P w=.ok (.enter g args) w)
  (h:∀n:Int,-9223372036854775808<=n->n<=9223372036854775807->∀w,nG w->Calls P g #[.int .i64 n] w fun e w'=>e=.returned (.string ⟨(Lib.itoa n).toArray⟩)/\∃k os,w'=grow (w.drewN k) os):aA P g GV:=by
 intro as;unfold GV;cases az:CB as with
 |some n=>
  have has:=aiJ az;subst has;intro y hy w X vs dA bL _ gB hlt hG;have hy:(if-9223372036854775808<=n/\n<=9223372036854775807 then some () else none)=some y:=hy
  split at hy
  ·rename_i hn;match vs,bL with
   |[v1],⟨a1,a2,e1,h1,e2⟩=>
    obtain⟨fQ,r1⟩:=h1;subst fQ e2;simp only[List.append_nil] at e1;subst e1;have e:=iA r1;subst e;refine .inl ⟨he _ _,(h n hn.1 hn.2 w hG.ok).mono fun e w' hw=>?_⟩
    obtain⟨rfl,k,os,rfl⟩:=hw;exact⟨[],[],[.string ⟨(Lib.itoa n).toArray⟩],am2 w k os,rfl,⟨[],[],rfl,⟨rfl,.str _ _ rfl⟩,rfl⟩,rfl,by simp,fun b hb=>by simp at hb⟩
  ·cases hy
 |none=>intro y hy;cases hy
end Go.Jk
namespace Go.Jk
open Go.ChangeShapes Go.WideShapes Go.RowKit
def Kn:bf->List dL
 |.i64=>[.int .i64]
 |.u8=>[.int .u8]
 |.u32=>[.int .u32]
 |.bool=>[.bool]
 |.str=>[.str]
 |.entry=>[.str,.int .i64,.int .i64,.str]
 |.need=>[.str,.int .i64,.str]
 |.pack=>[.str,.str,.sl .need,.sl .entry]
 |.file|.lt|.source|.piece=>[.str,.str]
 |.recipe=>[.str,.str,.sl .lt,.sl .need,.sl .need,.sl .source,.sl .piece,.sl .str]
 |.hunk=>[.int .i64,.sl .str]
 |.tx=>[.sl .bool]
inductive kZ:bh->Prop where
 |int (k:IntKind) (n:Int):(Lit.int k n).wf=true->kZ (.int k n)
 |bool (b:Bool):kZ (.bool b)
 |str (s:B):s.length<=maxLen->kZ (.str s)
 |sl (t:bf) (xs:List (den t)):xs.length<=maxLen->(∀x,x∈xs->∀d,d∈enc t x->kZ d)->kZ (.sl t xs)
theorem anf:∀(t:bf) (y:kY (Kn t)),∃x,enc t x=fw (Kn t) y:=by
 intro t y;cases t;case recipe=>obtain⟨a,b,c,d,e,f,g,h,_⟩:=y;exact⟨⟨a,b,c,d,e,f,g,h⟩,rfl⟩
 case entry=>obtain⟨a,b,c,d,_⟩:=y;exact⟨⟨a,b,c,d⟩,rfl⟩
 case pack=>obtain⟨a,b,c,d,_⟩:=y;exact⟨⟨a,b,c,d⟩,rfl⟩
 case need=>obtain⟨a,b,c,_⟩:=y;exact⟨⟨a,b,c⟩,rfl⟩
 case file=>obtain⟨a,b,_⟩:=y;exact⟨⟨a,b⟩,rfl⟩
 case lt=>obtain⟨a,b,_⟩:=y;exact⟨⟨a,b⟩,rfl⟩
 case source=>obtain⟨a,b,_⟩:=y;exact⟨⟨a,b⟩,rfl⟩
 case piece=>obtain⟨a,b,_⟩:=y;exact⟨⟨a,b⟩,rfl⟩
 case hunk=>obtain⟨a,b,_⟩:=y;exact⟨⟨a,b⟩,rfl⟩
 all_goals(obtain⟨a,_⟩:=y;exact⟨a,rfl⟩)
instance:DecidableEq dL:=fun a b=>by
 cases a<;>cases b<;>first|exact isTrue rfl|(rename_i x y;exact if h:x=y then isTrue (by rw[h]) else isFalse (fun e=>h (by cases e;rfl)))|exact isFalse (fun e=>by cases e)
def vx(P:Program)(r:TypeId->Option (List dL)):List Field->Nat->Option (List dL)
 |[],_=>some []
 |f::bR,D=>match r f.type,vx P r bR (D+P.cellsOf f.type) with
  |some a,some b=>if f.offset=D/\P.cellsOf f.type=a.length then some (a++b) else none
  |_,_=>none
def qF(tt:TypeId->cg)(P:Program):Nat->TypeId->Option (List dL)
 |0,_=>none
 |n+1,T=>match P.underlying T with
  |some (.int k)=>some [.int k]
  |some .bool=>some [.bool]
  |some .string=>some [.str]
  |some (.slice e)=>match tt T,qF tt P n e with
   |.slice _ t _,some bc=>if bc=Kn t/\P.cellsOf e=bd t then some [.sl t] else none
   |_,_=>none
  |some (.struct bR)=>match vx P (qF tt P n) bR.toList 0 with
   |some bc=>if P.cellsOf T=bc.length then some bc else none
   |none=>none
  |_=>none
def wb(w:World)(av:Nat->Prop)(bc:List dL)(cs:List Value):Prop:=∃y:kY bc,c5 w av (fw bc y) cs/\∀d,d∈fw bc y->kZ d
theorem akx:∀(bc ou:List dL) (y:kY bc) (y':kY ou),∃z:kY (bc++ou),fw (bc++ou) z=fw bc y++fw ou y':=by
 intro bc;induction bc with
 |nil=>intro ou y y';exact⟨y',rfl⟩
 |cons s bc ih=>
  intro ou y y';obtain⟨a,b⟩:=y;obtain⟨z,hz⟩:=ih ou b y';exact⟨(a,z),by simp[fw,hz]⟩
theorem c5.bZ{w:World}{av:Nat->Prop}{ds kX:List bh}{vs cv:List Value}(h:c5 w av ds vs)(ak:c5 w av kX cv):c5 w av (ds++kX) (vs++cv):=by
 refine⟨by rw[List.length_append,List.length_append,h.1,ak.1],fun j g1 g2=>?_⟩
 rw[List.getElem_append,List.getElem_append];have:=h.1;simp only[List.length_append] at g1 g2;by_cases hj:j<ds.length
 ·rw[dif_pos hj,dif_pos (by omega)]
  exact h.2 j hj (by omega)
 ·rw[dif_neg hj,dif_neg (by omega)]
  have:=ak.2 (j-ds.length) (by omega) (by omega)
  simpa[h.1] using this
theorem wb.one{w:World}{av:Nat->Prop}{s:dL}{d:bh}{v:Value}(y:s.J)(aa:s.mk y=d)(h:bK w av d v)(hw:kZ d):wb w av [s] [v]:=
 ⟨(y,()),⟨rfl,fun j h1 h2=>by
  simp only[fw,List.length_cons,List.length_nil] at h1;obtain rfl:j=0:=by omega
  simpa[fw,aa] using h⟩,fun adH ak=>by simp only[fw,List.mem_singleton] at ak;rw[ak,aa];exact hw⟩
section
variable {H:Type}{kl:TypeId×Value->H}{P:Program}{w:World}{base:Nat}{spare:Nat->Bool}{held:Bool}{av:Nat->Prop}{tt:TypeId->cg}
theorem ae4{r:TypeId->Option (List dL)}{n:Nat}{cs:List Value}(ih:∀{T:TypeId} {bc:List dL} {cs:List Value} {x:DataW H×List MemPlace},r T=some bc->DataW.trod kl P w base spare held n T cs=some x->wb w av bc cs):
  ∀(bR:List Field) (D:Nat) (bc:List dL),vx P r bR D=some bc->D+bc.length<=cs.length->(∀(i:Nat) (f:Field),bR[i]? =some f->∃x,DataW.trod kl P w base spare held n f.type ((cs.drop f.offset).take (P.cellsOf f.type))=some x)->
   wb w av bc ((cs.drop D).take bc.length):=by
 intro bR;induction bR with
 |nil=>
  intro D bc h hl _;simp only[vx] at h;cases h;exact⟨(),⟨by simp[fw],fun j g=>by simp[fw] at g⟩,fun d aa=>by simp[fw] at aa⟩
 |cons f bR aw8=>
  intro D bc h hl hx;simp only[vx] at h;split at h
  ·rename_i a b h1 h2;split at h
   ·rename_i hc;cases h;obtain⟨x,ox⟩:=hx 0 f rfl;have gx:D+a.length+b.length<=cs.length:=by simp only[List.length_append] at hl;omega
    rw[hc.1,hc.2] at ox;rw[hc.2] at h2;obtain⟨cH,aE,aF⟩:=ih h1 ox;obtain⟨dm,bJ,cB⟩:=aw8 (D+a.length) b h2 gx (fun i g hg=>hx (i+1) g (by simpa using hg))
    obtain⟨z,hz⟩:=akx a b cH dm;have fO:(cs.drop D).take (a++b).length=(cs.drop D).take a.length++(cs.drop (D+a.length)).take b.length:=by
     rw[List.length_append,List.take_add,List.drop_drop]
    refine⟨z,?_,?_⟩
    ·rw[hz,fO];exact aE.bZ bJ
    ·rw[hz];intro d aa;rcases List.mem_append.1 aa with aa|aa
     ·exact aF d aa
     ·exact cB d aa
   ·cases h
  ·cases h
theorem agM(cc:∀b,¬av b):∀(m:Nat) {T:TypeId} {bc:List dL} {n:Nat} {cs:List Value} {x:DataW H×List MemPlace},qF tt P m T=some bc->DataW.trod kl P w base spare held n T cs=some x->wb w av bc cs:=by
 intro m;induction m with
 |zero=>intro T bc n cs x h;cases h
 |succ m ih=>
  intro T bc n cs x h hx;simp only[qF] at h;split at h
  ·rename_i k hu;cases h;obtain⟨z,rfl,_,hw⟩:=DataW.trod_int hu hx;exact .one (s:=.int k) z rfl (.int k z) (.int k z hw)
  ·rename_i hu;cases h;obtain⟨b,rfl,_⟩:=DataW.trod_bool hu hx;exact .one (s:=.bool) b rfl (.bool b) (.bool b)
  ·rename_i hu;cases h;obtain⟨s,rfl,_,hl⟩:=DataW.trod_string hu hx;exact .one (s:=.str) s.data.toList rfl (.str _ _ rfl) (.str _ (by rw[Array.length_toList];exact hl))
  ·rename_i e hu;split at h
   ·rename_i cI t bytes ou jx lO;split at h
    ·rename_i hc;cases h;rcases DataW.trod_slice hu hx with⟨rfl,_⟩|⟨a,len,cap,aBu,rest,hH,rfl,rfl,_,hb,uh,hcm,mB,bB,_⟩
     ·exact .one (s:=.sl t) [] rfl (.nil t) (.sl t [] (Nat.zero_le _) (fun x h=>by cases h))
     ·have key:∀j,j<=len->∃xs:List (den t),∃cs:List Value,xs.length=j/\cs.length=j*bd t/\(∀i u,cs[i]? =some u->w.cell? (a.add i)=some u)/\c5 w av (flat t xs) cs/\∀x,x∈xs->∀d,d∈enc t x->kZ d:=by
       intro j;induction j with
       |zero=>intro _;exact⟨[],[],rfl,by simp,fun i u h=>by simp at h,⟨rfl,fun i h=>by simp[flat] at h⟩,fun x h=>by cases h⟩
       |succ j aw7=>
        intro hj;obtain⟨xs,cs,h1,h2,h3,aC,bk⟩:=aw7 (by omega)
        have j2:=bB j (by omega)
        rw[List.getElem?_eq_getElem (by omega)] at j2
        obtain⟨oI,aE,aF⟩:=Option.bind_eq_some_iff.1 j2;obtain⟨bJ,cB,fS⟩:=World.cells?_some aE;obtain⟨y,ix,p4⟩:=ih lO aF;obtain⟨hc1,rG⟩:=hc;subst hc1;obtain⟨xY,hxe⟩:=anf t y;rw[<-hxe] at ix p4;have gx:oI.length=bd t:=by rw[cB,rG]
        refine⟨xs++[xY],cs++oI,by simp[h1],by rw[List.length_append,h2,gx,Nat.succ_mul],fun i u hi=>?_,?_,fun x hx=>?_⟩
        ·by_cases hlt:i<cs.length
         ·rw[List.getElem?_append_left hlt] at hi;exact h3 i u hi
         ·rw[List.getElem?_append_right (by omega)] at hi
          have pF:i-cs.length<bd t:=by rw[<-gx];exact(List.getElem?_eq_some_iff.1 hi).1
          have:=fS (i-cs.length) (by rw[rG];exact pF)
          rw[Deep.add_add,rG,hi,show j*bd t+(i-cs.length)=i by omega] at this
          exact this
        ·rw[sh,show flat t [xY]=enc t xY by simp[flat]]
         exact aC.bZ ix
        ·rcases List.mem_append.1 hx with hx|hx
         ·exact bk x hx
         ·rw[List.mem_singleton.1 hx];exact p4
      obtain⟨xs,cs,h1,h2,h3,aC,bk⟩:=key len (Nat.le_refl _);exact .one (s:=.sl t) xs rfl (.sl t xs a cap cs len h1.symm uh (fun _=>cc _) (by rw[h2,e7,h1]) h3 aC.2) (.sl t xs (by omega) bk)
    ·cases h
   ·cases h
  ·rename_i bR hu;split at h
   ·rename_i ou axP;split at h
    ·rename_i hc;cases h;obtain⟨xs,hH,_,_,hl,hlen,hf⟩:=DataW.trod_struct hu hx;have:=ae4 (cs:=cs) (fun h1 h2=>ih h1 h2) bR.toList 0 bc axP (by omega) (fun i f ab2=>by
      have:=hf i f (by simpa using ab2)
      have hi:i<xs.length:=by
       rw[hlen];have:=(List.getElem?_eq_some_iff.1 ab2).1;simpa using this
      exact⟨xs[i],by rw[this,List.getElem?_eq_getElem hi]⟩)
     rw[List.drop_zero,List.take_of_length_le (by omega)] at this
     exact this
    ·cases h
   ·cases h
  ·cases h
theorem vt{w:World}{av:Nat->Prop}{d:bh}{ds:List bh}{vs:List Value}(h:c5 w av (d::ds) vs):∃v cv,vs=v::cv/\bK w av d v/\c5 w av ds cv:=by
 obtain⟨h1,h2⟩:=h;match vs,h1 with
 |v::vs,h1=>
  refine⟨v,vs,rfl,?_,by simpa using h1,fun j g1 g2=>?_⟩
  ·have:=h2 0 (by simp) (by simp)
   simpa using this
  ·have:=h2 (j+1) (by simp only[List.length_cons];omega) (by simp only[List.length_cons];omega)
   simpa using this
theorem ajM{w:World}{av:Nat->Prop}:∀{ds:List bh} {vs:List Value},c5 w av ds vs->lB w av (cG ds) vs []:=by
 intro ds;induction ds with
 |nil=>
  intro vs h;match vs,h.1 with
  |[],_=>rfl
 |cons d ds ih=>
  intro vs h;obtain⟨v,cv,rfl,h1,h2⟩:=vt h;exact⟨[],[],rfl,⟨rfl,h1⟩,ih h2⟩
def wL(P:Program)(T:TypeId):Bool:=match P.underlying T with
 |some (.struct _)=>true
 |_=>false
def wA(b:Bool)(ds:List bh):Arg:=match b,ds with
 |true,ds=>.av (.agg (cG ds))
 |false,[d]=>.av (.an (.d d))
 |false,_=>.av (.an .any)
theorem ao9(cc:∀b,¬av b){m:Nat}{T:TypeId}{bc:List dL}{v:Value}{d:DataW H}{p:List MemPlace}{r:Reach}{r4:Nat}(hp:qF tt P m T=some bc)(iV:Value.okWide P w r r4 T v)
  (aa:DataW.Trod kl P w base spare held T v d p):∃y:kY bc,TS w av (wA (wL P T) (fw bc y)) v []/\d_ [wA (wL P T) (fw bc y)] [v]=[]/\∀d,d∈fw bc y->kZ d:=by
 obtain⟨n,hn⟩:=aa;obtain⟨y,h1,h2⟩:=agM cc m hp hn;refine⟨y,?_,?_,h2⟩
 ·cases m with
  |zero=>cases hp
  |succ m=>
   simp only[qF] at hp;unfold wL;split at hp
   ·rename_i k hu;cases hp;rw[hu];obtain⟨z,rfl⟩:=okWide_int hu iV;obtain⟨v',cv,e,h3,aC⟩:=vt h1;cases e;exact⟨rfl,h3⟩
   ·rename_i hu;cases hp;rw[hu];obtain⟨z,rfl⟩:=okWide_bool hu iV;obtain⟨v',cv,e,h3,aC⟩:=vt h1;cases e;exact⟨rfl,h3⟩
   ·rename_i hu;cases hp;rw[hu];obtain⟨z,rfl⟩:=okWide_string hu iV;obtain⟨v',cv,e,h3,aC⟩:=vt h1;cases e;exact⟨rfl,h3⟩
   ·rename_i e hu;split at hp
    ·split at hp
     ·cases hp;rw[hu];obtain⟨a,len,cap,rfl⟩:=okWide_slice hu iV;obtain⟨v',cv,e,h3,aC⟩:=vt h1;cases e;exact⟨rfl,h3⟩
     ·cases hp
    ·cases hp
   ·rename_i bR hu;rw[hu];obtain⟨cs,rfl,_⟩:=okWide_struct hu iV;exact⟨cs.toList,rfl,ajM h1⟩
   ·cases hp
 ·unfold wA;split<;>cases v<;>rfl
def vw(tt:TypeId->cg)(P:Program)(m:Nat):List TypeId->Option (List (Bool×List dL))
 |[]=>some []
 |T::cZ=>match qF tt P m T,vw tt P m cZ with
  |some bc,some r=>some ((wL P T,bc)::r)
  |_,_=>none
@[reducible] def xO:List (Bool×List dL)->Type
 |[]=>Unit
 |p::r=>kY p.2×xO r
def tb:(ps:List (Bool×List dL))->xO ps->List Arg
 |[],_=>[]
 |p::r,(y,z)=>wA p.1 (fw p.2 y)::tb r z
def K6:(ps:List (Bool×List dL))->xO ps->Prop
 |[],_=>True
 |p::r,(y,z)=>(∀d,d∈fw p.2 y->kZ d)/\K6 r z
theorem ant(cc:∀b,¬av b){m:Nat}{r:Reach}{r4:Nat}:∀{cZ:List TypeId} {ps:List (Bool×List dL)} {vs:List Value} {ds:List (DataW H)} {p:List MemPlace},vw tt P m cZ=some ps->
  (∀(j:Nat) (t:TypeId) (v:Value),cZ[j]? =some t->vs[j]? =some v->Value.okWide P w r r4 t v)->DataW.TrodAll kl P w base spare held cZ vs ds p->
  ∃y:xO ps,ji w av (tb ps y) vs []/\d_ (tb ps y) vs=[]/\K6 ps y:=by
 intro cZ;induction cZ with
 |nil=>
  intro ps vs ds p hp _ aa;simp only[vw] at hp;cases hp;obtain⟨rfl,rfl,rfl⟩:=trodAll_nil aa;exact⟨(),rfl,rfl,trivial⟩
 |cons T cZ ih=>
  intro ps vs ds p hp iV aa;simp only[vw] at hp;split at hp
  ·rename_i bc eH h1 h2;cases hp;obtain⟨v,cv,d,kX,h9,iM,rfl,rfl,rfl,hd1,hd2⟩:=trodAll_cons aa;obtain⟨y,aE,aF,bJ⟩:=ao9 cc h1 (iV 0 T v rfl rfl) hd1;obtain⟨z,cB,fS,ix⟩:=ih h2 (fun j t u g1 g2=>iV (j+1) t u (by simpa using g1) (by simpa using g2)) hd2
   refine⟨(y,z),⟨[],[],rfl,aE,cB⟩,?_,bJ,ix⟩;have:=Oo (as:=[wA (wL P T) (fw bc y)]) (vs:=[v]) (oK:=tb eH z) (cv:=cv) rfl;rw[aF,fS] at this;exact this
  ·cases hp
theorem afa{P:Program}{w:World}:∀{laid:List (String×DataW Unit)} {ps:List MemPlace} {n:String} {d:DataW Unit},DataW.LaidVars P w laid ps->(n,d)∈laid->∃bY,DataW.LaidVars P w [(n,d)] bY:=by
 intro laid;induction laid with
 |nil=>intro ps n d _ hm;cases hm
 |cons x laid ih=>
  obtain⟨n0,d0⟩:=x;intro ps n d h hm;obtain⟨g,t,cs,mm,p,q,h1,h2,h3,aC,bk,ca⟩:=h;rcases List.mem_cons.1 hm with e|hm
  ·cases e;exact⟨_,g,t,cs,mm,p,[],h1,h2,h3,aC,rfl,rfl⟩
  ·exact ih bk hm
theorem RO{P:Program}{W:World}{laid:List (String×DataW Unit)}{name:String}{k:IntKind}{zs:List Int}{g:Nat}{t e:TypeId}{n i:Nat}(hg:P.globalNamed name=some g)(axn:(P.globals[g]?).map (·.type)=some t)(au:P.underlying t=some (.array n e))
  (he:P.underlying e=some (.int k)) (un:P.cellsOf e=1) (axS:P.cellsOf t=n) (hm:laid[i]? =some (name,Lib.tabData k zs)) (h:laidMet P laid W):oj W g k zs:=by
 obtain⟨ps,h,_⟩:=h;obtain⟨bY,cC,bo,cs,mm,p,q,hg',nD,asU,aa,_,_⟩:=afa h (List.mem_of_getElem? hm);obtain rfl:=Option.some.inj (hg.symm.trans hg');obtain rfl:=Option.some.inj (axn.symm.trans nD);have hc:=Lib.cells_of_tab au he un axS aa;refine ajz hg ?_
 show W.var? P name=_;rw[asU,<-hc]
def LawOk(S:aD)(ps:List (Bool×List dL)):Prop:=∀y:xO ps,K6 ps y->∃r,(S (tb ps y)).comp=some r/\(S (tb ps y)).fl r=[.an (.d (.bool true))]
theorem aer{W c':World}(hl:laidOutB P=true){sp':Nat->Bool}(j0:∀b,b<W.heap.size->sp' b=true)(hb:Below W.heap.size W c'):∀{cZ:List TypeId} {vs:List Value} {ds:List (DataW H)} {p:List MemPlace},
  (∀t,t∈cZ->P.readableRec t=true/\t<P.types.size)->(∀x∈p,x.block<W.heap.size)->DataW.TrodAll kl P W 0 (fun _=>true) true cZ vs ds p->DataW.TrodAll kl P c' 0 sp' true cZ vs ds p:=by
 intro cZ;induction cZ with
 |nil=>intro vs ds p _ _ aa;obtain⟨rfl,rfl,rfl⟩:=trodAll_nil aa;rfl
 |cons T cZ ih=>
  intro vs ds p hr hlt aa;obtain⟨v,cv,d,kX,h9,iM,rfl,rfl,rfl,hd1,hd2⟩:=trodAll_cons aa;refine⟨h9,iM,?_,ih (fun t au=>hr t (List.mem_cons_of_mem _ au)) (fun x hx=>hlt x (List.mem_append.2 (.inr hx))) hd2,rfl⟩
  exact WideElems.Trod_stays hl (hr T List.mem_cons_self).1 (hr T List.mem_cons_self).2 hd1 (fun x hx=>hb.same (hlt x (List.mem_append.2 (.inl hx)))) (fun x hx=>j0 _ (hlt x (List.mem_append.2 (.inl hx))))
theorem aeU{cZ:List TypeId}{vs:List Value}{ds:List (DataW H)}{p:List MemPlace}(h:DataW.TrodAll kl P w base spare held cZ vs ds p):ds.length=cZ.length:=by
 induction cZ generalizing vs ds p with
 |nil=>obtain⟨rfl,rfl,rfl⟩:=trodAll_nil h;rfl
 |cons T cZ ih=>
  obtain⟨v,cv,d,kX,h9,iM,rfl,rfl,rfl,_,hd2⟩:=trodAll_cons h;simp[ih hd2]
def CW(P:Program):List String->Bool
 |[]=>true
 |n::ns=>(match P.globalNamed n with
  |some g=>match(P.globals[g]?).map (·.type) with
   |some t=>P.readableRec t&&decide (t<P.types.size)
   |none=>true
  |none=>true)&&CW P ns
theorem aeh{W c':World}(hl:laidOutB P=true){sp':Nat->Bool}(j0:∀b,b<W.heap.size->sp' b=true)(hb:Below W.heap.size W c'):∀{ns:List String} {gs:List (DataW H)} {q:List MemPlace},
  CW P ns=true->(∀x∈q,x.block<W.heap.size)->DataW.TrodVars kl P W (fun _=>true) ns gs q->DataW.TrodVars kl P c' sp' ns gs q:=by
 intro ns;induction ns with
 |nil=>intro gs q _ _ h;obtain⟨rfl,rfl⟩:=trodVars_none h;rfl
 |cons n ns ih=>
  intro gs q hr hlt h;cases gs with
  |nil=>exact h.elim
  |cons d ds=>
   obtain⟨g,t,cs,mm,p,fx,h1,h2,h3,aC,hs,rfl⟩:=h;simp only[CW,h1,h2,Bool.and_eq_true,decide_eq_true_eq] at hr;have hg:g<W.heap.size:=by
    have MP:=h3;simp only[World.var?,h1,Option.bind_some] at MP;split at MP
    ·rename_i hc;exact(Array.getElem?_eq_some_iff.1 hc).1
    ·cases MP
   have aa:DataW.Trod kl P W 0 (fun _=>true) true t (.agg cs) d p:=⟨mm,aC⟩
   have hx:∀x∈p,x.block<W.heap.size:=fun x hx=>hlt x (List.mem_append.2 (.inl (List.mem_append.2 (.inr hx))))
   obtain⟨aqO,oG⟩:=WideElems.Trod_stays (sp':=sp') hl hr.1.1 hr.1.2 aa (fun x h=>hb.same (hx x h)) (fun x h=>j0 _ (hx x h))
   refine⟨g,t,cs,aqO,p,fx,h1,h2,?_,oG,ih hr.2 (fun x h=>hlt x (List.mem_append.2 (.inr h))) hs,rfl⟩
   simp only[World.var?,h1,Option.bind_some] at h3 ⊢;rw[hb.block g hg];exact h3
theorem aeT{lS:Nat->Bool}:∀{ns:List String} {gs:List (DataW H)} {q:List MemPlace},DataW.TrodVars kl P w lS ns gs q->gs.length=ns.length:=by
 intro ns;induction ns with
 |nil=>intro gs q h;obtain⟨rfl,rfl⟩:=trodVars_none h;rfl
 |cons n ns ih=>
  intro gs q h;cases gs with
  |nil=>exact h.elim
  |cons d ds=>
   obtain⟨g,t,cs,mm,p,fx,h1,h2,h3,aC,hs,rfl⟩:=h;simp[ih hs]
theorem ae9{f:FuncId}{fn:Func}{S:aD}{s:ChangeSpec}{Nq:TypeId}{m:Nat}{ps:List (Bool×List dL)}(eI:aA P f S)(he:∀vs w,(callFunc f vs).run P w=.ok (.enter f vs) w)(hl:laidOutB P=true)
  (aqD:∀t,t∈fn.params.toList->P.readableRec t=true/\t<P.types.size) (kj:fn.resultTypes=#[Nq]) (axp:P.underlying Nq=some .bool) (aqz:CW P s.vars=true)
  (nF:∀ds gs:List (DataW H),ds.length=fn.params.toList.length->gs.length=s.vars.length->s.fn H (ds++gs)={results:=[.lit (.bool true)],args:=ds,vars:=gs}) (oB:vw tt P m fn.params.toList=some ps) (KS:LawOk S ps)
  (W:World) (hG:nG W) (r4:Nat) (args:Array Value) (ds gs:List (DataW H)) (before:List MemPlace) (iV:∀(j:Nat) t v,fn.params[j]? =some t->args[j]? =some v->Value.okWide P W .any r4 t v)
  (hW:DataW.Whole kl P fn.params.toList s.vars false W args.toList ds gs before):
  Calls P f args W fun e c'=>∃v,e=.returned v/\s.post kl P fn false true false false W args v c':=by
 have hlt:=hW.lt;have MM:=hW;obtain⟨p,q,dY,adA,rfl,_,_⟩:=hW;obtain⟨y,h1,h2,h3⟩:=ant (av:=fun b=>False\/b∈([]:List Nat)) (fun b hb=>by simp at hb) oB (fun j t v g1 g2=>iV j t v (by simpa using g1) (by simpa using g2)) dY
 obtain⟨r,aC,bk⟩:=KS y h3;have key:=eI _ r aC W (fun _=>False) args.toList [] h1 List.nodup_nil (fun b hb=>by simp at hb) (fun b hb=>hb.elim) ⟨hG,fun b _ h=>(by cases h),fun _ _ h=>h,ayn hG⟩
 rcases key with⟨_,hc⟩|⟨v,w',hv,_⟩
 ·have e:args.toList.toArray=args:=by simp
  rw[e] at hc;refine hc.mono fun Et c' h=>?_
  cases Et with
  |returned v=>
   obtain⟨ev,eu,rv,eB,hB,hR,hv,_,_⟩:=h;refine⟨v,rfl,?_⟩;rw[bk] at hR;match rv,hR with
   |[v1],⟨c1,c2,e1,⟨_,hr⟩,_⟩=>
    have hr:bK c' _ (.bool true) v1:=hr;have pO:v1=.bool true:=by cases hr;rfl
    subst pO;have hv:v=.bool true:=hv;subst hv;have KY:Below W.heap.size W c':=⟨eB.os,eB.tape,eB.output,eB.size,fun k hk=>eB.block k hk (by simp)⟩
    have gL:=nF ds gs (aeU dY) (aeT adA);refine⟨ds,gs,p++q,[],p,q,MM,?_,?_,?_,KY.frame _,fun h=>by cases h⟩
    ·rw[gL,kj];exact trodAll_mk1 (shut_bool axp _)
    ·rw[gL];exact aer hl (fun b hb=>by simpa using hb) KY aqD (fun x hx=>hlt x (List.mem_append.2 (.inl hx))) dY
    ·rw[gL];exact aeh hl (fun b hb=>by simpa using hb) KY aqz (fun x hx=>hlt x (List.mem_append.2 (.inr hx))) adA
  |panicked c=>exact h.elim
  |outgrown=>exact h.elim
 ·rw[he] at hv;cases hv
end
end Go.Jk
namespace Go.Jk
def bF(c:UInt8):B->List B
 |[]=>[[]]
 |b::r=>bif b==c then []::bF c r else match bF c r with
  |x::xs=>(b::x)::xs
  |[]=>[[b]]
def H2(st:al)(cC:FuncId):a8->Option ((B×UInt8)×List (Nat×Site))
 |.av (.an (.clo g [(gr,s1),(gq,s2),(hX,hD)]))=>bif Nat.beq g cC&&fJ [gr,gq,hX] then
   match fM st gr s1,fM st gq s2,fM st hX hD with
   |some [.d (.str [c])],some [.d (.str s)],some [.d (.int .i64 (.ofNat 0))]=>some ((s,c),[(gr,.dead s1),(gq,.dead s2),(hX,.dead hD)])
   |_,_,_=>none
  else none
 |_=>none
def F7(st:al):List Nat->List (Nat×a8)
 |[]=>[]
 |t::r=>(t,st.get t)::F7 st r
def al.back(st:al)(ci:List Nat):al:=⟨F7 st ci,st.sites,st.nt⟩
def Out.back(ci:List Nat):Out->Out
 |.norm st=>.norm (st.back ci)
 |.exit id st=>.exit id (st.back ci)
 |.ret st=>.ret (st.back ci)
def iD{J bq:Type}(aT:B->J->Option (Sum J bq))(fin:J->Option bq):List B->J->Option bq
 |[],y=>fin y
 |x::xs,y=>match aT x y with
  |none=>none
  |some (.inl y')=>iD aT fin xs y'
  |some (.inr b)=>some b
noncomputable def Jm(C:hV)(assign body:Code)(p eV:Nat)(bb:Shape)(os:List aP)(x:B)(y:bb.J):Option (Sum bb.J (aB os)):=
 exec C assign (2*p) ((bb.st y).set eV (one (.str x))) fun
  |.norm st=>exec C body (2*p+1) st fun
   |.norm st=>(bb.ex (st.back (keys bb.cN))).map .inl
   |D=>(hA os (D.back (keys bb.cN))).map .inr
  |_=>none
def kA:Nat:=4611686018427387904
noncomputable def sz(cC:FuncId)(t:Nat)(bb:Shape)(os:List aP)(aT:B->bb.J->Option (Sum bb.J (aB os)))(fin:bb.J->Option (aB os)):h5:=fun st=>
 ⟨aB os,(H2 st cC (st.get t)).bind fun q=>(bb.ex (st.il q.2)).bind fun y=>bif Nat.ble q.1.1.length kA then iD aT fin (bF q.1.2 q.1.1) y else none,lM os,CN os,R' os⟩
def wc(P:Program)(cC:FuncId):Prop:=
 (∀args w,(callFunc cC args).run P w=.ok (.enter cC args) w)/\
 ∀(l b1 b2 b3:Nat) (p s:ByteArray) (c:UInt8) (df eC fU:TypeId) (W:World) (e6:List B->World->Prop) (j6:World->Prop),p.data.toList=[c]->s.data.toList.length<=kA->b1≠b2->b1≠b3->b2≠b3->
  W.heap[b1]? =some (.cells #[.string p] df)->W.heap[b2]? =some (.cells #[.string s] eC)->W.heap[b3]? =some (.cells #[.int .i64 0] fU)->
  (∀r W c',e6 r W->Fr [b2] W c'->e6 r c')->(∀W c',j6 W->Fr [b2] W c'->j6 c')->(∀r W,e6 r W->iP W [b2] fun _=>False)->(∀W,j6 W->iP W [b2] fun _=>False)->
  (∀x rest W iL,e6 (x::rest) W->b1<W.heap.size->b2<W.heap.size->b3<W.heap.size->iL.data.toList=x->YieldAt (eM none) 0 P l #[.string iL] W fun e c'=>
   (e=.returned (.bool true)/\e6 rest c'/\W.heap.size<=c'.heap.size/\c'.heap[b1]? =W.heap[b1]? /\c'.heap[b2]? =W.heap[b2]? /\c'.heap[b3]? =W.heap[b3]?)\/(e=.returned (.bool false)/\j6 c'))->
  e6 (bF c s.data.toList) W->
  CallsIn (eM none) 0 P cC (#[.func (.yield l) #[] #[]]++#[.pointer (some ⟨b1,0,none⟩),.pointer (some ⟨b2,0,none⟩),.pointer (some ⟨b3,0,none⟩)]) W fun e c'=>(∃v,e=.returned v)/\(e6 [] c'\/j6 c')
section
variable {P:Program}{U:World}{Y:List Nat}{X:Nat->Prop}{F:Nat->Value}{st:al}{M:Array Value}{w:World}
theorem ale(st:al)(ci:List Nat)(t:Nat):(st.back ci).get t=st.get t/\t∈ci\/(st.back ci).get t=.av (.an .any):=by
 unfold al.back al.get;induction ci with
 |nil=>exact .inr rfl
 |cons u ci ih=>
  simp only[F7,look];cases hb:u.beq t with
  |true=>
   have:=Nat.eq_of_beq_eq_true hb;subst this;left;simp only[cond_true,al.get];exact⟨trivial,List.mem_cons_self⟩
  |false=>
   simp only[cond_false];rcases ih with⟨h1,h2⟩|h
   ·exact .inl ⟨h1,List.mem_cons_of_mem _ h2⟩
   ·exact .inr h
theorem aq.back(S:aq U Y X F st M w){b6:Array Value}{ci:List Nat}(au:∀t,t∈ci->M.getD t undef=b6.getD t undef)(hs:b6.size=M.size):aq U Y X F (st.back ci) b6 w:=by
 refine⟨hs.trans S.nt,fun t=>?_,S.sites,S.eh,S.ct,S.frame,S.old,S.e9⟩
 rcases ale st ci t with⟨h,hm⟩|h
 ·rw[h,<-au t hm];exact S.cN t
 ·rw[h];trivial
theorem aq.other(S:aq U Y X F st M w){w':World}{L:List Nat}(aT:Fr L w w')(dR:∀b,b∈L->X b/\(b∈Y\/U.heap.size<=b)):aq U Y X F st M w':=by
 have DU:∀b,¬aJ X F st.sites b->b∉L:=fun b hb h=>hb (.inl (dR b h).1)
 have G:io F F st.sites st.sites w w' (aJ X F st.sites) (aJ X F st.sites):=
  ⟨fun o af h=>⟨af,h,Nat.le_refl _,fun _=>rfl⟩,fun b hb hlt=>aT.block b hlt (DU b hb),fun _ h _=>h⟩
 have hlt:∀b,aJ X F st.sites b->b<w'.heap.size:=fun b hb=>Nat.lt_of_lt_of_le (S.lt hb) aT.size
 refine⟨S.nt,fun t=>(S.cN t).goes G aT.size hlt,fun o af h=>?_,S.eh,S.ct,?_,fun b hb=>Nat.lt_of_lt_of_le (S.old b hb) aT.size,S.e9⟩
 ·exact(S.sites o af h).goes G aT.size hlt rfl fun hl b hb=>aT.block b (S.fI ⟨af,h,hl⟩ hb) fun hm=>(S.ct o b ⟨af,h,hl⟩ hb).1 (dR b hm).1
 ·refine⟨aT.os.trans S.frame.os,aT.tape.trans S.frame.tape,aT.output.trans S.frame.output,Nat.le_trans S.frame.size aT.size,fun b hb hn=>?_⟩
  have h1:b∉L:=fun h=>by
   rcases(dR b h).2 with h2|h2
   ·exact hn h2
   ·omega
  rw[aT.block b (Nat.lt_of_lt_of_le hb S.frame.size) h1];exact S.frame.block b hb hn
theorem Fr.putObj(w:World)(l:Nat)(D:Obj):Fr [l] w (w.putObj l D):=
 ⟨rfl,rfl,rfl,by simp,fun b _ hn=>World.putObj_heap_other fun e=>hn (by simp[e])⟩
theorem Fr.mono{Y mG:List Nat}{U w:World}(aT:Fr Y U w)(h:∀b,b∈Y->b∈mG):Fr mG U w:=⟨aT.os,aT.tape,aT.output,aT.size,fun b hb hn=>aT.block b hb fun ak=>hn (h b ak)⟩
theorem aq.BO(S:aq U Y X F st M w){mG:List Nat}(h:∀o b,cq st.sites o->bQ (F o)=some b->b∈mG)(hg:∀b,b∈mG->b∈Y\/U.heap.size<=b):aq w mG X F st M w:=
 ⟨S.nt,S.cN,S.sites,S.eh,fun o b h1 h2=>⟨(S.ct o b h1 h2).1,.inl (h o b h1 h2)⟩,Fr.refl _ _,S.old,⟨S.k5.1,fun b hb hm=>(hg b hm).elim (S.e9.Y b hb) fun h=>by have:=S.e9.lt b hb;omega,S.e9.X,fun b hb=>(S.k5.2 b hb).2⟩⟩
theorem aq.base(S:aq U Y X F st M w){mG:List Nat}(h:∀b,b∈mG->b∈Y\/U.heap.size<=b):ir U Y X w mG X:=by
 refine⟨fun w' aT=>?_,fun b hb=>?_,fun b hb=>hb⟩
 ·refine⟨aT.os.trans S.frame.os,aT.tape.trans S.frame.tape,aT.output.trans S.frame.output,Nat.le_trans S.frame.size aT.size,fun b hb hn=>?_⟩
  have h1:b∉mG:=fun ak=>by
   rcases h b ak with h2|h2
   ·exact hn h2
   ·omega
  rw[aT.block b (Nat.lt_of_lt_of_le hb S.frame.size) h1];exact S.frame.block b hb hn
 ·rcases hb with hb|hb
  ·exact h b hb
  ·exact .inr (Nat.le_trans S.frame.size hb)
theorem aq.Bs{aY:World}{dP:List Nat}{c9:Nat->Prop}(bq:ir U Y X aY dP c9)(G:iP U Y X)(S:aq aY dP c9 F st M w):aq U Y c9 F st M w:=
 ⟨S.nt,S.cN,S.sites,S.eh,fun o b h1 h2=>⟨(S.ct o b h1 h2).1,bq.ct b (S.ct o b h1 h2).2⟩,bq.cL _ S.frame,S.old,⟨G.ok,G.Y,S.e9.X,G.lt⟩⟩
def GD(sites:List (Nat×Site)):List Nat:=(keys sites).filter fun o=>match look sites o with|some s=>s.live|none=>false
theorem Ok{sites:List (Nat×Site)}{o:Nat}:o∈GD sites <-> cq sites o:=by
 unfold GD cq;rw[List.mem_filter];constructor
 ·rintro⟨_,h⟩;split at h
  ·rename_i s hs;exact⟨s,hs,h⟩
  ·cases h
 ·rintro⟨s,hs,hl⟩;refine⟨?_,by simp only[hs];exact hl⟩
  have:=Tf hs;clear hl hs;induction sites with
  |nil=>cases this
  |cons p sites ih=>
   rcases List.mem_cons.1 this with h|h
   ·simp only[keys];rw[<-h];exact List.mem_cons_self
   ·simp only[keys];exact List.mem_cons_of_mem _ (ih h)
def iR(F:Nat->Value)(sites:List (Nat×Site)):List Nat:=dj F (GD sites)
theorem nU{sites:List (Nat×Site)}{b:Nat}:b∈iR F sites <-> ∃o,cq sites o/\bQ (F o)=some b:=by
 unfold iR;rw[nP];constructor
 ·rintro⟨o,h1,h2⟩;exact⟨o,Ok.1 h1,h2⟩
 ·rintro⟨o,h1,h2⟩;exact⟨o,Ok.2 h1,h2⟩
def l'(ee:al->Prop):Out->Exit->Prop
 |.norm st,.normal=>ee st
 |.exit id st,.exit ja=>id=ja/\ee st
 |.ret st,.ret=>ee st
 |_,_=>False
theorem l'.some{ee:al->Prop}{D:Out}{e:Exit}(h:l' ee D e):∃st,ee st:=by
 cases D<;>cases e<;>first|exact⟨_,h⟩|exact⟨_,h.2⟩|exact h.elim
theorem TL{ee:al->Prop}(L_:∀(bb:Shape) st y,bb.ex st=some y->ee st->ee (bb.st y)):∀{os:List aP} {x:Out} {y:aB os} {e:Exit},hA os x=some y->l' ee x e->l' ee (lM os y) e:=by
 have one:∀{k:Kind} {x:Out} {st:al} {bb:Shape} {y:bb.J} {e:Exit},k.hJ x=some st->bb.ex st=some y->l' ee x e->l' ee (k.mk (bb.st y)) e:=by
  intro k x st bb y e h hy hl;cases k<;>cases x<;>simp only[Kind.hJ] at h<;>try(cases h;done)
  ·cases h;cases e<;>try exact hl.elim
   exact L_ bb _ y hy hl
  ·rename_i id ja ap;cases hb:Nat.beq id ja with
   |false=>simp[hb] at h
   |true=>
    simp only[hb,cond_true,Option.some.injEq] at h;subst h;cases e<;>try exact hl.elim
    exact⟨(Nat.eq_of_beq_eq_true hb).trans hl.1,L_ bb _ y hy hl.2⟩
  ·cases h;cases e<;>try exact hl.elim
   exact L_ bb _ y hy hl
 intro os;induction os with
 |nil=>intro x y;exact y.elim
 |cons D os ih=>
  intro x y e h hl;cases os with
  |nil=>
   simp only[hA] at h;split at h
   ·rename_i st hk;exact one hk h hl
   ·cases h
  |cons c8 r=>
   simp only[hA] at h;split at h
   ·rename_i st hk;obtain⟨cH,aE,aF⟩:=Option.map_eq_some_iff.1 h;subst aF;exact one hk aE hl
   ·obtain⟨cH,aE,aF⟩:=Option.map_eq_some_iff.1 h;subst aF;exact ih aE hl
theorem afC{cC:FuncId}{v:a8}{q:(B×UInt8)×List (Nat×Site)}(h:H2 st cC v=some q):∃gr s1 gq s2 hX hD c s,v=.av (.an (.clo cC [(gr,s1),(gq,s2),(hX,hD)]))/\(gr≠gq/\gr≠hX/\gq≠hX)/\
  fM st gr s1=some [.d (.str [c])]/\fM st gq s2=some [.d (.str s)]/\fM st hX hD=some [.d (.int .i64 0)]/\q=((s,c),[(gr,.dead s1),(gq,.dead s2),(hX,.dead hD)]):=by
 unfold H2 at h;split at h
 ·rename_i g gr s1 gq s2 hX hD;cases hb:Nat.beq g cC&&fJ [gr,gq,hX] with
  |false=>simp[hb] at h
  |true=>
   simp only[hb,cond_true] at h;simp only[Bool.and_eq_true] at hb;have hg:=Nat.eq_of_beq_eq_true hb.1;subst hg;have hn:=(sj _).1 hb.2;simp only[List.nodup_cons,List.mem_cons,List.not_mem_nil,or_false,not_or,not_false_eq_true,List.nodup_nil,and_true] at hn;split at h
   ·rename_i c s h1 h2 h3;cases h;exact⟨gr,s1,gq,s2,hX,hD,c,s,rfl,⟨hn.1.1,hn.1.2,hn.2⟩,h1,h2,h3,rfl⟩
   ·cases h
 ·cases h
theorem E'{J bq:Type}{aT:B->J->Option (Sum J bq)}{fin:J->Option bq}{x:B}{xs:List B}{y:J}{b:bq}(h:iD aT fin (x::xs) y=some b):(∃y',aT x y=some (.inl y')/\iD aT fin xs y'=some b)\/aT x y=some (.inr b):=by
 simp only[iD] at h;split at h
 ·cases h
 ·rename_i y' hy;exact .inl ⟨y',hy,h⟩
 ·rename_i bI hy;cases h;exact .inr hy
end
theorem J_{bb:Shape}{st:al}{y:bb.J}(h:bb.ex st=some y):st.nt=bb.nt:=by
 unfold Shape.ex at h;simp only at h;cases hb:(st.il (qy st bb.cN++qz st bb.sites)).nt.beq bb.nt with
 |false=>rw[hb] at h;cases h
 |true=>rw[<-Sh (qy st bb.cN++qz st bb.sites) st];exact Nat.eq_of_beq_eq_true hb
def tz(n:Nat):List aP->Bool
 |[]=>true
 |D::r=>Nat.beq D.2.nt n&&tz n r
def Out.st:Out->al
 |.norm st|.exit _ st|.ret st=>st
theorem Ts{k:Kind}{x:Out}{st:al}(h:k.hJ x=some st):x.st=st:=by
 cases k<;>cases x<;>simp only[Kind.hJ] at h<;>try(cases h;done)
 ·cases h;rfl
 ·rename_i id ja ap;cases hb:Nat.beq id ja with
  |false=>simp[hb] at h
  |true=>simp only[hb,cond_true,Option.some.injEq] at h;exact h
 ·cases h;rfl
theorem aoX{n:Nat}:∀{os:List aP} {x:Out} {y:aB os},hA os x=some y->tz n os=true->x.st.nt=n:=by
 intro os;induction os with
 |nil=>intro x y;exact y.elim
 |cons D os ih=>
  intro x y h hn;simp only[tz,Bool.and_eq_true] at hn;have hno:=Nat.eq_of_beq_eq_true hn.1;cases os with
  |nil=>
   simp only[hA] at h;split at h
   ·rename_i st hk;rw[Ts hk,J_ h,hno]
   ·cases h
  |cons c8 r=>
   simp only[hA] at h;split at h
   ·rename_i st hk;obtain⟨cH,aE,_⟩:=Option.map_eq_some_iff.1 h;rw[Ts hk,J_ aE,hno]
   ·obtain⟨cH,aE,_⟩:=Option.map_eq_some_iff.1 h;exact ih aE hn.2
section
variable {P:Program}{C:hV}
theorem agF(H:aQ P C.toCtx){cC:FuncId}(uN:wc P cC){t eV p:Nat}{assign body:Code}{bb:Shape}{os:List aP}(ax3:gn P C assign (2*p))(ax2:gn P C body (2*p+1))
  {aT:B->bb.J->Option (Sum bb.J (aB os))} {fin:bb.J->Option (aB os)} (eB:∀x y,aT x y=Jm C assign body p eV bb os x y) (wO:∀y,fin y=hA os (.norm (bb.st y)))
  (KW:e8 (keys bb.cN) (eV::(cx assign++cx body))=true) (KQ:gS assign=true) (KP:gS body=true) (KM:eV<bb.nt) (ry:tz bb.nt os=true):
  aS P (.rangeFunc (.tmp t) #[eV] assign body) (sz cC t bb os aT fin):=by
 intro rn hn U Y X st y hy F M w ds S;have axw:rn=none:=hn.elim id fun h=>by cases h
 subst axw;simp only[sz] at hy y ⊢;obtain⟨q,az,hy⟩:=Option.bind_eq_some_iff.1 hy;obtain⟨dE,Ma,pv⟩:=Option.bind_eq_some_iff.1 hy;obtain⟨gr,s1,gq,s2,hX,hD,c,s,hv,⟨i_,L1,iZ⟩,hb1,hb2,hb3,rfl⟩:=afC az;obtain⟨hlen,pv⟩:s.length<=kA/\iD aT fin (bF c s) dE=some y:=by
  cases hb:Nat.ble s.length kA with
  |false=>rw[hb] at pv;cases pv
  |true=>rw[hb] at pv;exact⟨Nat.le_of_ble_eq_true hb,pv⟩
 have jn:=S.cN t;rw[hv] at jn;obtain⟨vs,iV,mw,q'⟩:=jn;match vs,mw with
 |[v1,v2,v3],_=>
 have r1:v1=F gr:=Ref.at (q' 0 (by simp) (by simp)) (gP hb1) rfl
 have r2:v2=F gq:=Ref.at (q' 1 (by simp) (by simp)) (gP hb2) rfl
 have di:v3=F hX:=Ref.at (q' 2 (by simp) (by simp)) (gP hb3) rfl
 have J':∀{o k:Nat} {d:bh},fM st o k=some [.d d]->∃b T u,F o=.pointer (some ⟨b,0,none⟩)/\w.heap[b]? =some (.cells #[u] T)/\bK w (aJ X F st.sites) d u:=by
  intro o k d h;obtain⟨b,T,cur,g1,g2,g3,g4,_,g5⟩:=S.sites o _ (gP h);match cur,g3 with
  |[u],_=>exact⟨b,T,u,g1,g2,g5 0 (by simp) (by simp)⟩
 obtain⟨b1,df,u1,i1,h1,d1⟩:=J' hb1;obtain⟨b2,eC,u2,i2,h2,d2⟩:=J' hb2;obtain⟨b3,fU,uF,i3,h3,d3⟩:=J' hb3;obtain⟨hF,rfl,DT⟩:=gD d1;obtain⟨aN,rfl,fP⟩:=gD d2;have bC:uF=.int .i64 0:=iA d3;subst bC;have L4:cq st.sites gr:=⟨_,gP hb1,rfl⟩;have DH:cq st.sites gq:=⟨_,gP hb2,rfl⟩;have L3:cq st.sites hX:=⟨_,gP hb3,rfl⟩;have aE:bQ (F gr)=some b1:=by rw[i1];rfl
 have aF:bQ (F gq)=some b2:=by rw[i2];rfl
 have bJ:bQ (F hX)=some b3:=by rw[i3];rfl
 have m12:b1≠b2:=fun e=>i_ (S.eh gr gq b1 L4 DH aE (e▸aF))
 have m13:b1≠b3:=fun e=>L1 (S.eh gr hX b1 L4 L3 aE (e▸bJ))
 have m23:b2≠b3:=fun e=>iZ (S.eh gq hX b2 DH L3 aF (e▸bJ))
 have xm:=S.fI L4 aE;have abJ:=S.fI DH aF;have xl:=S.fI L3 bJ;have aqq:=(S.ct gq b2 DH aF).2;obtain⟨c9,axY,dz,L7,abM,abL⟩:∃c9:Nat->Prop,(∀b,X b->c9 b)/\aq U Y c9 F (st.il [(gr,.dead s1),(gq,.dead s2),(hX,.dead hD)]) M w/\c9 b1/\c9 b2/\c9 b3:=by
  have A:=S.kill (gP hb1) rfl;have fy:look (cw st.sites gr (.dead s1)) gq=some (.box s2 [.d (.str s)]):=by rw[c7,if_neg i_];exact gP hb2
  have bq:=A.kill (st:={st with sites:=cw st.sites gr (.dead s1)}) fy rfl
  have uH:look (cw (cw st.sites gr (.dead s1)) gq (.dead s2)) hX=some (.box hD [.d (.int .i64 0)]):=by rw[c7,if_neg iZ,c7,if_neg L1];exact gP hb3
  have bh:=bq.kill (st:={st with sites:=cw (cw st.sites gr (.dead s1)) gq (.dead s2)}) uH rfl
  exact⟨_,fun b hb=>.inl (.inl (.inl hb)),bh,.inl (.inl (.inr aE)),.inl (.inr aF),.inr bJ⟩
 obtain⟨is,ib,_⟩:=Shape.gm dz Ma;have aB4:M.size=bb.nt:=ib.nt;refine gi.of (n:=0) (wpIn_rangeFunc ?_);intro fn _;obtain⟨rec,oq⟩:∃rec:LoopState->Option Code->Loop,rec=fun st aAv=>{state:=st,pending:=aAv,fn,tmps:=M,params:=#[eV],assign,body,defers:=w.heap.size}:=⟨_,rfl⟩
 obtain⟨W1,hW1⟩:∃W1,(w.alloc (.deferred (some []))).alloc (.loop (rec .ready none))=W1:=⟨_,rfl⟩;obtain⟨l,hl⟩:∃l,l=w.heap.size+1:=⟨_,rfl⟩;obtain⟨bh,fA⟩:∃bh,bh=w.heap.size:=⟨_,rfl⟩;have hsz:W1.heap.size=w.heap.size+2:=by rw[<-hW1];simp
 have ax6:W1.heap[l]? =some (.loop (rec .ready none)):=by
  rw[<-hW1,hl];have:=World.alloc_heap_new (w.alloc (.deferred (some []))) (.loop (rec .ready none));rwa[World.size_alloc] at this
 have acj:W1.heap[bh]? =some (.deferred (some [])):=by
  rw[<-hW1,fA];exact(RowKit.Below.heap_alloc _ _ _ (by simp only[World.size_alloc];omega)).trans (World.alloc_heap_new w _)
 have hold:∀b,b<w.heap.size->W1.heap[b]? =w.heap[b]? :=fun b hb=>by
  rw[<-hW1,RowKit.Below.heap_alloc _ _ _ (by simp only[World.size_alloc];omega),RowKit.Below.heap_alloc _ _ _ hb]
 have atf:Fr Y U W1:=⟨by rw[<-hW1];exact S.frame.os,by rw[<-hW1];exact S.frame.tape,by rw[<-hW1];exact S.frame.output,by have:=S.frame.size;omega,fun b hb hn=>by
  have:=S.frame.size;rw[hold b (by omega)];exact S.frame.block b hb hn⟩
 have pr:=S.frame.size;have je:=ib.jump (w':=W1) (fun b _ hb=>hold b hb) (by omega) atf
 obtain⟨cD,mE⟩:∃cD:Nat->Prop,cD=fun b=>c9 b\/(w.heap.size<=b/\b<W1.heap.size):=⟨_,rfl⟩
 rw[<-mE] at je;have Nl:cD l:=by rw[mE];exact .inr ⟨by omega,by omega⟩
 have Nn:cD bh:=by rw[mE];exact .inr ⟨by omega,by omega⟩
 have ei:cD b1:=by rw[mE];exact .inl L7
 have fR:cD b2:=by rw[mE];exact .inl abM
 have jC:cD b3:=by rw[mE];exact .inl abL
 have MK:∀b,X b->cD b:=fun b hb=>by rw[mE];exact .inl (axY b hb)
 obtain⟨fp,wP⟩:∃fp,fp=l::b2::iR is (bb.st dE).sites:=⟨_,rfl⟩;have Uu:∀b,b∈iR is (bb.st dE).sites->¬cD b/\(b∈Y\/U.heap.size<=b):=fun b hb=>by
  obtain⟨o,g1,g2⟩:=nU.1 hb;exact je.ct o b g1 g2
 have aAA:l∈fp:=by rw[wP];exact List.mem_cons_self
 have acp:b2∈fp:=by rw[wP];exact List.mem_cons_of_mem _ List.mem_cons_self
 have aBa:bh∉fp:=by
  rw[wP];intro h;rcases List.mem_cons.1 h with h|h
  ·omega
  ·rcases List.mem_cons.1 h with h|h
   ·omega
   ·exact(Uu bh h).1 Nn
 have Vv:∀b,b∈fp->b∈Y\/U.heap.size<=b:=fun b hb=>by
  rw[wP] at hb;rcases List.mem_cons.1 hb with h|h
  ·exact .inr (by omega)
  ·rcases List.mem_cons.1 h with h|h
   ·rw[h];exact aqq
   ·exact(Uu b h).2
 have lY:aq W1 fp cD is (bb.st dE) M W1:=je.BO (fun o b g1 g2=>by rw[wP];exact List.mem_cons_of_mem _ (List.mem_cons_of_mem _ (nU.2 ⟨o,g1,g2⟩))) Vv
 have aAc:ir U Y X W1 fp cD:=by
  have:=je.base Vv;exact⟨this.cL,this.ct,MK⟩
 obtain⟨e6,mL⟩:∃e6:List B->World->Prop,∀r W,e6 r W <-> ∃F z,aq W1 fp cD F (bb.st z) M W/\iD aT fin r z=some y/\W.heap[l]? =some (.loop (rec .ready none))/\W.heap[bh]? =some (.deferred (some [])):=⟨_,fun _ _=>Iff.rfl⟩
 obtain⟨j6,xI⟩:∃j6:World->Prop,∀W,j6 W <-> ∃j e,((j=.ret/\e=.ret)\/∃id,j=.exit id/\e=.exit id)/\l' (fun st=>∃F,aq W1 fp cD F st M W) (lM os y) e/\
   W.heap[l]? =some (.loop (rec .done (some j)))/\W.heap[bh]? =some (.deferred (some [])):=⟨_,fun _=>Iff.rfl⟩
 have WG:∀{F:Nat->Value} {st:al} {W:World},aq W1 fp cD F st M W->iP W [b2] fun _=>False:=fun S=>
  ⟨S.k5.1,fun b hb h=>S.e9.Y b hb (by rw[List.mem_singleton.1 h];exact acp),fun _ _ h=>h,fun b hb=>(S.k5.2 b hb).2⟩
 have aAz:l<W1.heap.size:=by omega
 have aAB:bh<W1.heap.size:=by omega
 have Y8:l≠b2:=by omega
 have aax:bh≠b2:=by omega
 have amN:∀{ee adl:al->Prop} {D:Out} {e:Exit},(∀st,ee st->adl st)->l' ee D e->l' adl D e:=fun h k=>by
  rename_i D e;cases D<;>cases e<;>first|exact h _ k|exact⟨k.1,h _ k.2⟩|exact k.elim
 have V5:∀{F:Nat->Value} {st:al} {W c':World},aq W1 fp cD F st M W->Fr [b2] W c'->aq W1 fp cD F st M c':=fun S aT=>S.other aT fun b hb=>by
  rw[List.mem_singleton.1 hb];exact⟨fR,.inl acp⟩
 have J0:∀{F:Nat->Value} {st:al} {M:Array Value} {W:World} {X':Nat->Prop} (D:Obj),(∀b,cD b->X' b)->aq W1 fp X' F st M W->aq W1 fp X' F st M (W.putObj l D):=fun D hx S=>S.other (Fr.putObj _ l D) fun b hb=>by
  rw[List.mem_singleton.1 hb];exact⟨hx _ Nl,.inl aAA⟩
 refine⟨l,[mark bh],W1,{target:=.fn (.func cC) #[.pointer (some ⟨b1,0,none⟩),.pointer (some ⟨b2,0,none⟩),.pointer (some ⟨b3,0,none⟩)],args:=#[.func (.yield l) #[] #[]]},W1,cC,
  #[.func (.yield l) #[] #[]]++#[.pointer (some ⟨b1,0,none⟩),.pointer (some ⟨b2,0,none⟩),.pointer (some ⟨b3,0,none⟩)],W1,?_,?_,fun _ _=>trivial,?_,fun h=>by simp[eM,Fence.wide] at h,?_⟩
 ·rw[<-hW1,oq,hl,fA];exact run_enterLoop_outer _ _ _ _ _
 ·have aqA:Act.eval ⟨M,ds⟩ (.tmp t)=.func (.func cC) #[] #[.pointer (some ⟨b1,0,none⟩),.pointer (some ⟨b2,0,none⟩),.pointer (some ⟨b3,0,none⟩)]:=by
   show M.getD t undef=_;rw[iV,r1,r2,di,i1,i2,i3]
  simp only[rangeCall,resolve,aqA];simp[Deferred.ofValue,Act.eval]
 ·simp[invoke,uN.1]
 ·refine CallsIn.mono (uN.2 l b1 b2 b3 hF aN c df eC fU W1 e6 j6 DT (by rw[fP];exact hlen) m12 m13 m23 ((hold b1 xm).trans h1) ((hold b2 abJ).trans h2) ((hold b3 xl).trans h3) ?_ ?_ ?_ ?_ ?_ ?_) ?_
  ·-- anp two rounds tW aBd turns aw6 aBk box
   intro r W c' hj aT;obtain⟨F,z,g1,g2,g3,g4⟩:=(mL _ _).1 hj;have rB:=Nat.lt_of_lt_of_le aAz g1.frame.size;have ut:=Nat.lt_of_lt_of_le aAB g1.frame.size;exact(mL _ _).2 ⟨F,z,V5 g1 aT,g2,(aT.block l rB (by simpa using Y8)).trans g3,(aT.block bh ut (by simpa using aax)).trans g4⟩
  ·intro W c' hj aT;obtain⟨j,e,g1,g2,g3,g4⟩:=(xI _).1 hj;have rB:l<W.heap.size:=(Array.getElem?_eq_some_iff.1 g3).1;have ut:bh<W.heap.size:=(Array.getElem?_eq_some_iff.1 g4).1;exact(xI _).2 ⟨j,e,g1,amN (fun st ⟨F,h⟩=>⟨F,V5 h aT⟩) g2,(aT.block l rB (by simpa using Y8)).trans g3,(aT.block bh ut (by simpa using aax)).trans g4⟩
  ·intro r W hj;obtain⟨F,z,g1,_⟩:=(mL _ _).1 hj;exact WG g1
  ·intro W hj;obtain⟨j,e,_,g2,_⟩:=(xI _).1 hj;obtain⟨st,F,g1⟩:=g2.some;exact WG g1
  ·-- aCk aBv
   intro x rest W iL hj q1 q2 dF xq;obtain⟨F,z,j5,hz,rB,ut⟩:=(mL _ _).1 hj;have hlt:l<W.heap.size:=(Array.getElem?_eq_some_iff.1 rB).1;have as5:bh<W.heap.size:=(Array.getElem?_eq_some_iff.1 ut).1;refine⟨fn,M.setIfInBounds eV (.string iL),assign,body,?_,?_⟩
   ·have:=run_yield (P:=P) (args:=#[.string iL]) rB (by rw[oq];rfl)
    rw[oq] at this;simpa using this
   refine roundIn_of_wpIn (n:=0) trivial ?_
   show gi (some l) P assign _ _ _;obtain⟨s,hs⟩:∃s,aT x z=some s:=by
    rcases E' hz with⟨eY,h,_⟩|h
    ·exact⟨_,h⟩
    ·exact⟨_,h⟩
   have DQ:=hs;rw[eB] at hs;have uL:aq W1 fp cD F ((bb.st z).set eV (one (.str x))) (M.setIfInBounds eV (.string iL)) W:=j5.put (t:=eV) KM (bK.str _ _ xq);have asM:∀o b,cq ((bb.st z).set eV (one (.str x))).sites o->bQ (F o)=some b->b∈iR F (bb.st z).sites:=fun o b g1 g2=>nU.2 ⟨o,g1,g2⟩
   have yf:=uL.BO asM fun b hb=>by
    obtain⟨o,g1,g2⟩:=nU.1 hb;exact(j5.ct o b g1 g2).2
   have Xg:∀b,b∈iR F (bb.st z).sites->¬cD b/\(b∈fp\/W1.heap.size<=b):=fun b hb=>by
    obtain⟨o,g1,g2⟩:=nU.1 hb;exact j5.ct o b g1 g2
   have N1:ir W1 fp cD W (iR F (bb.st z).sites) cD:=uL.base fun b hb=>(Xg b hb).2
   refine jJ (rn:=some l) H assign (2*p) (.inr KQ) ax3 W _ cD _ F _ W [] _ _ hs yf ?_
   intro o1 e1 a1 aY rC ht;cases o1 with
   |exit id eK=>cases rC
   |ret eK=>cases rC
   |norm eK=>
   cases e1<;>try exact ht.elim
   obtain⟨El,Nz,k8,kO,adS,qe,_,_,acv,aqw⟩:=ht;have uP:Fr (iR F (bb.st z).sites) W aY:=qe.cL _ acv.frame;have adw:∀b,cD b->b∉iR F (bb.st z).sites:=fun b hb h=>(Xg b h).1 hb
   have ht:aY.heap[l]? =some (.loop (rec .ready none)):=(uP.block l hlt (adw l Nl)).trans rB;refine⟨aY.putObj l (.loop {rec .ready none with state:=.busy}),run_beginRound ht (by rw[oq]),?_⟩
   obtain⟨w2,xr⟩:∃w2,w2=aY.putObj l (.loop {rec .ready none with state:=.busy}):=⟨_,rfl⟩
   rw[<-xr];have ayU:aq W1 fp k8 kO eK a1.tmps aY:=aq.Bs (N1.trans qe) lY.e9 acv;have oS:aq W1 fp k8 kO eK a1.tmps w2:=by rw[xr];exact J0 _ qe.x ayU
   have Ks:∀b,b∈iR kO eK.sites->¬k8 b/\(b∈fp\/W1.heap.size<=b):=fun b hb=>by
    obtain⟨o,g1,g2⟩:=nU.1 hb;exact oS.ct o b g1 g2
   have Ey:=oS.BO (mG:=iR kO eK.sites) (fun o b g1 g2=>nU.2 ⟨o,g1,g2⟩) fun b hb=>(Ks b hb).2
   have cj:ir W1 fp k8 w2 (iR kO eK.sites) k8:=oS.base fun b hb=>(Ks b hb).2
   have oD:w2.heap[l]? =some (.loop {rec .ready none with state:=.busy}):=by rw[xr];exact World.putObj_heap_same (Nat.lt_of_lt_of_le hlt uP.size)
   have awG:w2.heap.size=aY.heap.size:=by rw[xr];simp
   show gi (some l) P body _ a1 _;have MJ:a1=⟨a1.tmps,a1.defers⟩:=rfl;rw[MJ];refine jJ (rn:=some l) H body (2*p+1) (.inr KP) ax2 w2 _ k8 eK kO a1.tmps w2 a1.defers _ _ rC Ey ?_
   intro D e a cf hk ga;have abH:∀b,k8 b->b∉iR kO eK.sites:=fun b hb h=>(Ks b h).1 hb
   have Y_:∀{uE eX ye},ir w2 (iR kO eK.sites) k8 uE eX ye->Fr eX uE cf->∀b,cD b->b<W.heap.size->b≠l->cf.heap[b]? =W.heap[b]? :=fun bq aT b hb pF hne=>by
    have yi:=bq.cL _ aT;have hb1:b<aY.heap.size:=Nat.lt_of_lt_of_le pF uP.size;rw[yi.block b (by omega) (abH b (qe.x b hb)),xr,World.putObj_heap_other hne,uP.block b pF (adw b hb)]
   have fin:∀(gu:al),gu.nt=bb.nt->eD w2 (iR kO eK.sites) k8 a1.defers a1.tmps (cx body) gu a cf->∀(jump:Option Code),
     (Instr.endRound l jump).run P cf=.ok (.bool jump.isNone) (cf.putObj l (.loop (rec (if jump.isNone then .ready else .done) jump)))/\
     (∃hY,aq W1 fp cD hY (gu.back (keys bb.cN)) M (cf.putObj l (.loop (rec (if jump.isNone then .ready else .done) jump))))/\
     (cf.putObj l (.loop (rec (if jump.isNone then .ready else .done) jump))).heap[l]? =some (.loop (rec (if jump.isNone then .ready else .done) jump))/\
     (cf.putObj l (.loop (rec (if jump.isNone then .ready else .done) jump))).heap[bh]? =some (.deferred (some []))/\
     W.heap.size<=(cf.putObj l (.loop (rec (if jump.isNone then .ready else .done) jump))).heap.size/\
     (∀b,cD b->b<W.heap.size->b≠l->(cf.putObj l (.loop (rec (if jump.isNone then .ready else .done) jump))).heap[b]? =W.heap[b]?):=by
    rintro gu aBM ⟨uE,eX,ye,hY,adR,xW,_,_,jA,aqv⟩ jump;have yi:=xW.cL _ jA.frame;have hlt2:l<w2.heap.size:=by rw[awG];exact Nat.lt_of_lt_of_le hlt uP.size
    have DV:cf.heap[l]? =some (.loop {rec .ready none with state:=.busy}):=(yi.block l hlt2 (abH l (qe.x l Nl))).trans oD
    have as6:=Nat.lt_of_lt_of_le hlt2 yi.size;have Zp:=run_endRound (P:=P) jump DV;have atp:({({rec .ready none with state:=.busy}:Loop) with state:=if jump.isNone then .ready else .done,pending:=jump}:Loop)=rec (if jump.isNone then .ready else .done) jump:=by rw[oq]
    rw[atp] at Zp;have ayT:aq W1 fp ye hY gu a.tmps cf:=aq.Bs ((cj.trans xW)) oS.e9 jA;have ayS:aq W1 fp cD hY gu a.tmps cf:=ayT.shrink fun b hb=>xW.x b (qe.x b hb)
    have ayR:=J0 (.loop (rec (if jump.isNone then .ready else .done) jump)) (fun _ h=>h) ayS
    have jv:∀bo,bo∈keys bb.cN->bo≠eV/\bo∉cx assign/\bo∉cx body:=fun bo nD=>by
     have hm:bo∉(eV::(cx assign++cx body)):=fun h=>by
      have:=sv nD h;rw[KW] at this;cases this
     simp only[List.mem_cons,List.mem_append,not_or] at hm;exact⟨hm.1,hm.2.1,hm.2.2⟩
    refine⟨Zp,⟨hY,ayR.back (fun bo nD=>?_) ?_⟩,World.putObj_heap_same as6,?_,?_,fun b hb pF hne=>?_⟩
    ·obtain⟨g1,g2,g3⟩:=jv bo nD;rw[aqv bo g3,aqw bo g2];simp only[Array.getD_eq_getD_getElem?,Array.getElem?_setIfInBounds_ne (show eV≠bo from fun e=>g1 e.symm)]
    ·have e1:a.tmps.size=gu.nt:=jA.nt;omega
    ·rw[World.putObj_heap_other (by omega)]
     exact(Y_ xW jA.frame bh Nn as5 (by omega)).trans ut
    ·simp only[World.putObj_size];have:=uP.size;have:=yi.size;omega
    ·rw[World.putObj_heap_other hne];exact Y_ xW jA.frame b hb pF hne
   have CA:∀(gu:al) (jC:Out) (j:Code) (bC:Exit),((j=.ret/\bC=.ret)\/∃id,j=.exit id/\bC=.exit id)->jC.st=gu->(∀ee:al->Prop,ee (gu.back (keys bb.cN))->l' ee (jC.back (keys bb.cN)) bC)->
     (hA os (jC.back (keys bb.cN))).map Sum.inr=some s->eD w2 (iR kO eK.sites) k8 a1.defers a1.tmps (cx body) gu a cf->
     ∃v w',(Instr.endRound l (some j)).run P cf=.ok v w'/\((Ending.returned v=.returned (.bool true)/\e6 rest w'/\W.heap.size<=w'.heap.size/\w'.heap[b1]? =W.heap[b1]? /\w'.heap[b2]? =W.heap[b2]? /\w'.heap[b3]? =W.heap[b3]?)\/(Ending.returned v=.returned (.bool false)/\j6 w')):=by
    intro gu jC j bC My axh KN hex mD;obtain⟨b,hb,ez⟩:=Option.map_eq_some_iff.1 hex;have axD:gu.nt=bb.nt:=by
     have:=aoX hb ry;have e:(jC.back (keys bb.cN)).st.nt=jC.st.nt:=by cases jC<;>rfl
     rw[e,axh] at this;exact this
    obtain⟨f1,⟨hY,f2⟩,f3,f4,f5,f6⟩:=fin gu axD mD (some j);refine⟨_,_,f1,.inr ⟨rfl,(xI _).2 ⟨j,bC,My,?_,f3,f4⟩⟩⟩;have j3:b=y:=by
     rcases E' hz with⟨eY,h,_⟩|h
     ·rw[DQ] at h;cases h;cases ez
     ·rw[DQ] at h;cases h;cases ez;rfl
    subst j3;refine TL (fun awJ ap y' KV ⟨a6,cm⟩=>?_) hb (KN _ ⟨hY,f2⟩)
    obtain⟨Kh,M',_⟩:=Shape.gm cm KV;exact⟨Kh,M'⟩
   cases D with
   |norm gu=>
    cases e<;>try exact ga.elim
    obtain⟨eY,ny,hzs⟩:=Option.map_eq_some_iff.1 hk;obtain⟨f1,⟨hY,f2⟩,f3,f4,f5,f6⟩:=fin gu (show(gu.back (keys bb.cN)).nt=bb.nt from J_ ny) ga none
    obtain⟨avP,f7,_⟩:=Shape.gm f2 ny;refine⟨_,_,f1,.inl ⟨rfl,(mL _ _).2 ⟨avP,eY,f7,?_,f3,f4⟩,f5,f6 b1 ei q1 (by omega),f6 b2 fR q2 (by omega),f6 b3 jC dF (by omega)⟩⟩
    rcases E' hz with⟨z2,h,h2⟩|h
    ·rw[DQ] at h;cases h;cases hzs;exact h2
    ·rw[DQ] at h;cases h;cases hzs
   |exit id gu=>
    cases e<;>try exact ga.elim
    obtain⟨rfl,ga⟩:=ga;exact CA gu (.exit id gu) (.exit id) (.exit id) (.inr ⟨id,rfl,rfl⟩) rfl (fun ee h=>⟨rfl,h⟩) hk ga
   |ret gu=>
    cases e<;>try exact ga.elim
    exact CA gu (.ret gu) .ret .ret (.inl ⟨rfl,rfl⟩) rfl (fun ee h=>h) hk ga
  ·exact(mL _ _).2 ⟨is,dE,lY,by rw[fP];exact pv,ax6,acj⟩
  ·-- aBo aCi aBe
   have land:∀{jF:World} {e:Exit} (c8:Obj),l' (fun st=>∃F,aq W1 fp cD F st M jF) (lM os y) e->jF.heap[l]? ≠none->jF.heap[bh]? =some (.deferred (some []))->
     fg U Y X ds M (cx (.rangeFunc (.tmp t) #[eV] assign body)) (lM os y) e ⟨M,[mark bh]++ds⟩ (jF.putObj l c8):=by
    intro jF e c8 h _ aCc;have mk:∀st,(∃F,aq W1 fp cD F st M jF)->eD U Y X ds M (cx (.rangeFunc (.tmp t) #[eV] assign body)) st ⟨M,[mark bh]++ds⟩ (jF.putObj l c8):=by
     rintro st ⟨F,S⟩;refine⟨W1,fp,cD,F,[bh],aAc,⟨by simp,fun NY h=>by rw[List.mem_singleton.1 h];omega,fun NY h=>by rw[List.mem_singleton.1 h];exact⟨acj,aBa,Nn⟩⟩,⟨rfl,fun h=>absurd List.mem_cons_self h⟩,J0 _ (fun _ h=>h) S,fun _ _=>rfl⟩
    cases hm:lM os y<;>rw[hm] at h<;>cases e<;>first|exact mk _ h|exact⟨h.1,mk _ h.2⟩|exact h.elim
   rintro e jF ⟨⟨v,rfl⟩,hj|hj⟩
   ·obtain⟨F,z,g1,g2,g3,g4⟩:=(mL _ _).1 hj;refine⟨none,jF.putObj l (.loop {rec .ready none with state:=.exhausted}),?_,?_⟩
    ·have:=run_endLoop (P:=P) g3 (by rw[oq];simp)
     rw[oq] at this ⊢;exact this
    ·simp only[iD,wO] at g2;refine land _ ?_ (by rw[g3];simp) g4
     refine TL (fun awJ ap y' KV ⟨a6,cm⟩=>?_) g2 ⟨F,g1⟩
     obtain⟨Kh,M',_⟩:=Shape.gm cm KV;exact⟨Kh,M'⟩
   ·obtain⟨j,e,My,g1,g3,g4⟩:=(xI _).1 hj;refine⟨some j,jF.putObj l (.loop {rec .done (some j) with state:=.exhausted}),?_,?_⟩
    ·have:=run_endLoop (P:=P) g3 (by rw[oq];simp)
     rw[oq] at this ⊢;exact this
    ·have:=land (.loop {rec .done (some j) with state:=.exhausted}) g1 (by rw[g3];simp) g4
     rcases My with⟨rfl,rfl⟩|⟨id,rfl,rfl⟩
     ·exact wpIn_ret this
     ·exact wpIn_exit this
end
def opsOf:Code->Array Oper
 |.region _ D _=>D
 |_=>#[]
section
variable {P:Program}
theorem QW{D:Oper}{M:Array Value}{ds:List Deferred}{W:World}{a b:Nat}{ty:Array TypeId}{l:Nat}{iL:ByteArray}{K:Act->World->Prop}{Q:Exit->Act->World->Prop}{R:Ending->World->Prop}
  (aM:D.op=.call {callee:=.value (.tmp a),args:=#[.tmp b],argTypes:=ty}) (ha:M.getD a undef=.func (.yield l) #[] #[]) (hb:M.getD b undef=.string iL)
  (aAD:YieldAt (eM none) 0 P l #[.string iL] W R) (hR:∀e c',R e c'->∃v,e=.returned v/\K ⟨cE M D.dst v,ds⟩ c'):D.wpIn (eM none) 0 P ⟨M,ds⟩ W K Q:=by
 obtain⟨fn,tmps,assign,body,hy,ax1⟩:=aAD;refine⟨fun f _=>CR none f,?_⟩
 have dw:(D.semAt none (Act.eval ⟨M,ds⟩)).run P W=.ok (.round l fn tmps assign body) W:=by
  rw[Oper.semAt_none];have x9:Act.eval ⟨M,ds⟩ (.tmp a)=.func (.yield l) #[] #[]:=ha;have x8:Act.eval ⟨M,ds⟩ (.tmp b)=.string iL:=hb;unfold execOp;simp only[aM,resolve,x9,Deferred.ofValue,Sem.run_bind,Sem.run_pure,Result.andThen_ok,invoke,List.map_toArray,List.map_cons,List.map_nil,x8];simpa using hy
 show D.uponIn (eM none) 0 P _ K Q ((D.semAt none (Act.eval ⟨M,ds⟩)).run P W);rw[dw];refine⟨fun h=>by simp[eM,Fence.wide] at h,RoundIn.mono ax1 fun e c' he=>?_⟩
 obtain⟨v,rfl,hk⟩:=hR e c' he;rw[<-vh] at hk;exact hk
def fj(k:Nat)(more:List (Nat×e')):Shape:=⟨[(1,.an (.eE [.str] 0)),(2,.an (.ptr 1001 0)),(3,.an (.eE [.int .i64] 0))]++more,[(1001,.box [.d .str],.same)],k⟩
structure jt(b1 b2 b3:Nat)(p:ByteArray)(df fU:TypeId)(l k:Nat)(r:B)(M:Array Value)(W:World):Prop where
 size:M.size=k
 dE:M.getD 0 undef=.func (.yield l) #[] #[]
 cH:M.getD 1 undef=.pointer (some ⟨b1,0,none⟩)
 dm:M.getD 2 undef=.pointer (some ⟨b2,0,none⟩)
 dK:M.getD 3 undef=.pointer (some ⟨b3,0,none⟩)
 h1:W.heap[b1]? =some (.cells #[.string p] df)
 h2:∃s eC,W.heap[b2]? =some (.cells #[.string s] eC)/\s.data.toList=r
 h3:W.heap[b3]? =some (.cells #[.int .i64 0] fU)
 k5:iP W [b2] fun _=>False
theorem jt.ju{b1 b2 b3:Nat}{p:ByteArray}{df fU:TypeId}{l k:Nat}{r:B}{M:Array Value}{W:World}(I:jt b1 b2 b3 p df fU l k r M W)(i_:b1≠b2)(iZ:b2≠b3){c:UInt8}(hp:p.data.toList=[c]):
  aq W [b2] (fun _=>False) (fun _=>.pointer (some ⟨b2,0,none⟩)) ((fj k []).st ((([c],()),((),(((0,()),())))),(((r,()),())))) M W:=by
 obtain⟨s,eC,h2,hs⟩:=I.h2;have xm:b1<W.heap.size:=(Array.getElem?_eq_some_iff.1 I.h1).1;have abJ:b2<W.heap.size:=(Array.getElem?_eq_some_iff.1 h2).1;have xl:b3<W.heap.size:=(Array.getElem?_eq_some_iff.1 I.h3).1;have vV:((fj k []).st ((([c],()),((),(((0,()),())))),(((r,()),())))).sites=[(1001,.box 0 [.d (.str r)])]:=rfl;have cP:∀o,cq [(1001,Site.box 0 [.d (.str r)])] o->o=1001:=fun o ⟨s,h,_⟩=>by
  simp only[look] at h;cases hb:Nat.beq 1001 o with
  |true=>exact(Nat.eq_of_beq_eq_true hb).symm
  |false=>simp[hb] at h
 have cc:∀b,aJ (fun _=>False) (fun _=>Value.pointer (some ⟨b2,0,none⟩)) [(1001,Site.box 0 [.d (.str r)])] b->b=b2:=by
  rintro b (h|⟨o,_,h⟩)
  ·exact h.elim
  ·simp only[bQ,Option.some.injEq] at h;exact h.symm
 refine⟨I.size,fun t=>?_,fun o af h=>?_,fun o ab b h1 h2 _ _=>?_,fun o b h1 h2=>?_,Fr.refl _ _,fun b h=>h.elim,I.k5⟩
 ·rw[vV];show ck _ _ _ _ (match look [(1,b7 (.eE [.str [c]] 0)),(2,b7 (.ptr 1001 0 0)),(3,b7 (.eE [.int .i64 0] 0))] t with|some v=>v|none=>.av (.an .any)) _
  simp only[look];by_cases e1:t=1
  ·subst e1;refine⟨b1,0,I.cH,fun h=>i_ (cc _ h),xm,[.string p],rfl,fun j u hu=>?_,fun j h ak=>?_⟩
   ·match j,hu with
    |0,hu=>cases hu;simp[World.cell?,I.h1]
   ·match j,h,ak with
    |0,_,_=>exact .str _ _ hp
  ·by_cases e2:t=2
   ·subst e2;exact⟨b2,I.dm,_,rfl,Nat.le_refl _,fun _=>rfl⟩
   ·by_cases bC:t=3
    ·subst bC;refine⟨b3,0,I.dK,fun h=>iZ (cc _ h).symm,xl,[.int .i64 0],rfl,fun j u hu=>?_,fun j h ak=>?_⟩
     ·match j,hu with
      |0,hu=>cases hu;simp[World.cell?,I.h3]
     ·match j,h,ak with
      |0,_,_=>exact .int _ _
    ·rw[jV (fun e=>e1 e.symm),jV (fun e=>e2 e.symm),jV (fun e=>bC e.symm)]
     trivial
 ·rw[vV] at h ⊢;simp only[look] at h;cases hb:Nat.beq 1001 o with
  |false=>simp[hb] at h
  |true=>
   simp only[hb,cond_true,Option.some.injEq] at h;subst h;refine⟨b2,eC,[.string s],rfl,h2,rfl,fun u hu=>?_,(fun h=>by cases h),fun j h ak=>?_⟩
   ·rw[List.mem_singleton.1 hu];rfl
   ·match j,h,ak with
    |0,_,_=>exact bK.str _ _ hs
 ·rw[cP o h1,cP ab h2]
 ·simp only[bQ,Option.some.injEq] at h2;exact⟨fun h=>h,.inl (by simp[h2])⟩
theorem jt.of{b1 b2 b3:Nat}{p:ByteArray}{df fU:TypeId}{l k:Nat}{r eH:B}{M b6:Array Value}{W c':World}(I:jt b1 b2 b3 p df fU l k r M W)(i_:b1≠b2)(iZ:b2≠b3){more:List (Nat×e')}{y:(fj k more).J}{F:Nat->Value}
  {X:Nat->Prop} (S:aq W [b2] X F ((fj k more).st y) b6 c') (au:∀t,t<4->b6.getD t undef=M.getD t undef) (hy:y.2=((eH,()),())):jt b1 b2 b3 p df fU l k eH b6 c':=by
 have xm:b1<W.heap.size:=(Array.getElem?_eq_some_iff.1 I.h1).1;have xl:b3<W.heap.size:=(Array.getElem?_eq_some_iff.1 I.h3).1;refine⟨S.nt,(au 0 (by omega)).trans I.dE,(au 1 (by omega)).trans I.cH,(au 2 (by omega)).trans I.dm,(au 3 (by omega)).trans I.dK,(S.frame.block b1 xm (by simp[i_])).trans I.h1,?_,(S.frame.block b3 xl (by simp[iZ.symm])).trans I.h3,⟨S.k5.1,S.e9.Y,fun _ _ h=>h,fun b hb=>(S.k5.2 b hb).2⟩⟩
 have gG:look ((fj k more).st y).sites 1001=some (.box 0 [.d (.str eH)]):=by
  show look (kw (fj k more).sites y.2) 1001=_;rw[hy];rfl
 have jn:=S.cN 2;have hg:((fj k more).st y).get 2=b7 (.ptr 1001 0 0):=rfl;rw[hg] at jn;obtain⟨b,hb,hr⟩:=jn;have cU:=Ref.at hr gG rfl;rw[au 2 (by omega),I.dm] at hb
 simp only[Value.pointer.injEq,Option.some.injEq,Addr.mk.injEq,and_true] at hb;obtain⟨bI,T,cur,g1,g2,g3,g4,_,g5⟩:=S.sites 1001 _ gG;rw[cU] at g1;simp only[Value.pointer.injEq,Option.some.injEq,Addr.mk.injEq,and_true] at g1;match cur,g3 with
 |[u],_=>
  obtain⟨s,jy,rs⟩:=gD (g5 0 (by simp) (by simp))
  simp only[List.getElem_cons_zero] at jy;subst jy;exact⟨s,T,by rw[hb,g1];exact g2,rs⟩
end
theorem oY(c:UInt8)(s:B):bF c s≠[]:=by
 cases s with
 |nil=>simp[bF]
 |cons b r=>
  simp only[bF];cases b==c
  ·simp only[cond_false];split<;>simp
  ·simp
theorem afE{c:UInt8}{s:B}(h:Lib.indexByte s c<0):bF c s=[s]:=by
 induction s with
 |nil=>rfl
 |cons b r ih=>
  simp only[Lib.indexByte] at h;split at h
  ·omega
  ·rename_i hb;split at h
   ·rename_i h1;have h1:Lib.indexByte r c=-1:=by simpa using h1
    have:=ih (by omega)
    have hb:(b==c)=false:=by simpa using hb
    simp only[bF,hb,cond_false,this]
   ·rename_i h1;have:=Lib.indexByte_ge r c;have h1:¬Lib.indexByte r c=-1:=by simpa using h1
    omega
theorem afD{c:UInt8}{s:B}(h:0<=Lib.indexByte s c):bF c s=s.take (Lib.indexByte s c).toNat::bF c (s.drop ((Lib.indexByte s c).toNat+1))/\(Lib.indexByte s c).toNat<s.length:=by
 induction s with
 |nil=>simp[Lib.indexByte] at h
 |cons b r ih=>
  simp only[Lib.indexByte] at h ⊢;by_cases hb:(b==c)=true
  ·simp only[hb,if_true] at h ⊢;simp[bF,hb]
  ·have ed:(b==c)=false:=by simpa using hb
   simp only[ed,Bool.false_eq_true,if_false] at h ⊢;by_cases h1:(Lib.indexByte r c==-1)=true
   ·simp only[h1,if_true] at h;omega
   ·have h1':(Lib.indexByte r c==-1)=false:=by simpa using h1
    simp only[h1',Bool.false_eq_true,if_false] at h ⊢;have hge:=Lib.indexByte_ge r c;have h1:¬Lib.indexByte r c=-1:=by simpa using h1
    obtain⟨g1,g2⟩:=ih (by omega)
    have e:(Lib.indexByte r c+1).toNat=(Lib.indexByte r c).toNat+1:=by omega
    rw[e];refine⟨?_,by simp;omega⟩
    simp only[bF,ed,cond_false,g1,List.take_succ_cons,List.drop_succ_cons]
def k4(k:Nat)(c:UInt8)(r:B):(fj k []).J:=((([c],()),((),((0,()),()))),((r,()),()))
def nx(k:Nat)(c:UInt8)(r:B):al:=(fj k []).st (k4 k c r)
def C5(k:Nat):Out->Option (fj k []).J
 |.norm st=>(fj k []).ex st
 |_=>none
def KI(k t7 t8:Nat):Out->Option (Sum (fj k []).J ((Int×B)×(fj k []).J))
 |.norm st=>match st.get t7,st.get t8 with
  |.av (.an (.d (.int .i64 i))),.av (.an (.d (.str x)))=>((fj k []).ex st).map fun y=>.inr ((i,x),y)
  |_,_=>none
 |_=>none
noncomputable def xn(C:hV)(k t7 t8:Nat)(r7:Code)(p7:Nat):Out->Option (Sum (fj k []).J ((Int×B)×(fj k []).J))
 |.exit id st=>bif Nat.beq id 2 then((fj k []).ex st).map .inl else none
 |.norm st=>exec C r7 p7 st (KI k t7 t8)
 |_=>none
noncomputable def C4(C:hV)(k t7 t8:Nat)(c6 r7:Code)(p6 p7:Nat):Out->Option (Sum (fj k []).J ((Int×B)×(fj k []).J))
 |.norm st=>exec C c6 p6 st (xn C k t7 t8 r7 p7)
 |_=>none
noncomputable def two(k:Nat)(C:Ctx)(st:al)(o0 o1:Oper)(a b:Nat):Option ((Value×B)×(fj k []).J):=
 ky C st o0 fun st=>ky C st o1 fun st=>match st.get a,st.get b with
  |.av (.an (.cV v)),.av (.an (.d (.str x)))=>((fj k []).ex st).map fun y=>((v,x),y)
  |_,_=>none
noncomputable def tD(k:Nat)(C:Ctx)(st:al)(o3:Oper)(t42:Nat):Option (Bool×(fj k []).J):=
 ky C st o3 fun st=>match st.get t42 with
  |.av (.an (.d (.bool b)))=>((fj k []).ex st).map fun y=>(b,y)
  |_=>none
section
variable {P:Program}{U:World}{Y:List Nat}{X:Nat->Prop}{F:Nat->Value}{st:al}{M:Array Value}{w:World}
theorem Rp(S:aq U Y X F st M w){t:Nat}{k:IntKind}{n:Int}(h:st.get t=.av (.an (.d (.int k n)))):M.getD t undef=.int k n:=by
 have:=S.cN t;rw[h] at this;exact iA this
theorem Ro(S:aq U Y X F st M w){t:Nat}{x:B}(h:st.get t=.av (.an (.d (.str x)))):∃b,M.getD t undef=.string b/\b.data.toList=x:=by
 have:=S.cN t;rw[h] at this;exact gD this
theorem FA(S:aq U Y X F st M w){t:Nat}{x:Bool}(h:st.get t=.av (.an (.d (.bool x)))):M.getD t undef=.bool x:=by
 have:=S.cN t;rw[h] at this;exact jK this
theorem ajG(S:aq U Y X F st M w){t:Nat}{x:Value}(h:st.get t=.av (.an (.cV x))):M.getD t undef=x:=by
 have:=S.cN t;rw[h] at this;exact this
theorem T3{C:Ctx}(H:aQ P C){k:Nat}{o0 o1:Oper}{a b:Nat}{v:Value}{x:B}{y:(fj k []).J}(h:two k C st o0 o1 a b=some ((v,x),y))(S:aq U Y X F st M w){ds:List Deferred}{K:Act->World->Prop}{Q:Exit->Act->World->Prop}
  (bT:∀b6 w' iL a6,b6.getD a undef=v->b6.getD b undef=.string iL->iL.data.toList=x->(∀t,t∉o0.dst.toList++o1.dst.toList->b6.getD t undef=M.getD t undef)->
   aq U Y X a6 ((fj k []).st y) b6 w'->K ⟨b6,ds⟩ w'):o0.wpIn (eM none) 0 P ⟨M,ds⟩ w (fun cR w'=>o1.wpIn (eM none) 0 P cR w' K Q) Q:=by
 refine nT S H h fun eK gK hZ aY e1 dz nC=>?_
 refine nT dz H e1 fun xd is pM w2 e2 ib lN=>?_
 split at e2
 ·rename_i v' iv ha hb;obtain⟨y',hy,he⟩:=Option.map_eq_some_iff.1 e2;cases he;obtain⟨iL,g1,g2⟩:=Ro ib hb;obtain⟨hY,je,_⟩:=Shape.gm ib hy;refine bT pM w2 iL hY (ajG ib ha) g1 g2 (fun t au=>?_) je
  simp only[List.mem_append,not_or] at au;rw[lN t au.2,nC t au.1]
 ·cases e2
theorem amO{C:Ctx}(H:aQ P C){k:Nat}{o3:Oper}{t42:Nat}{b:Bool}{y:(fj k []).J}(h:tD k C st o3 t42=some (b,y))(S:aq U Y X F st M w){ds:List Deferred}{K:Act->World->Prop}{Q:Exit->Act->World->Prop}
  (bT:∀b6 w' a6,b6.getD t42 undef=.bool b->(∀t,t∉o3.dst.toList->b6.getD t undef=M.getD t undef)->aq U Y X a6 ((fj k []).st y) b6 w'->K ⟨b6,ds⟩ w'):o3.wpIn (eM none) 0 P ⟨M,ds⟩ w K Q:=by
 refine nT S H h fun eK gK hZ aY e1 dz nC=>?_
 split at e1
 ·rename_i bI hb;obtain⟨y',hy,he⟩:=Option.map_eq_some_iff.1 e1;cases he;obtain⟨hY,je,_⟩:=Shape.gm dz hy;exact bT hZ aY hY (FA dz hb) nC je
 ·cases e1
structure alj(P:Program)(C:hV)(cC:FuncId)(fn:Func)(k:Nat)(A r5 c6 r7 r9:Code)(o0 o1 o2 o3 q0 q1 q2:Oper)(pA p5 p6 p7 p9 t7 t8 a1 a2 t41 t42 u1 u2:Nat)(ty Dz:Array TypeId):Prop where
 Za:P.funcs[cC]? =some fn
 nt:fn.ntmps=k
 cB:4<=k
 fl:fn.results=#[]
 aco:∀args w,(callFunc cC args).run P w=.ok (.enter cC args) w
 body:∃i8 i10,fn.body=some (.seq A (.seq (.block 2 (.loop (.block 3 (.seq r5 (.seq c6 (.seq r7 (.seq (.seq (.region i8 #[o0,o1,o2,o3] false) (.cond (.tmp t42) .ret .skip)) r9))))))) (.region i10 #[q0,q1,q2] false)))
 x0:(gS A&&(gS r5&&(gS c6&&(gS r7&&gS r9))))=true
 wr:e8 [0,1,2,3] (cx A++(cx r5++(cx c6++(cx r7++cx r9))))=true
 aV:o0.guard=none/\o1.guard=none/\o2.guard=none/\o3.guard=none/\q0.guard=none/\q1.guard=none/\q2.guard=none
 ado:e8 [0,1,2,3,t7] (o0.dst.toList++(o1.dst.toList++(o3.dst.toList++[t41])))=true
 adn:e8 [0,1,2,3] (q0.dst.toList++q1.dst.toList)=true
 d2:o2.dst=some t41
 KD:t41<k
 c2:o2.op=.call {callee:=.value (.tmp a1),args:=#[.tmp a2],argTypes:=ty}
 d5:q2.op=.call {callee:=.value (.tmp u1),args:=#[.tmp u2],argTypes:=Dz}
 kI:gn P C A pA/\gn P C r5 p5/\gn P C c6 p6/\gn P C r7 p7/\gn P C r9 p9
 dY:∀c r,exec C A pA (nx k c r) (C5 k)=some (k4 k c r)
 hB:∀c r,exec C r5 p5 (nx k c r) (C4 C k t7 t8 c6 r7 p6 p7)=bif decide (Lib.indexByte r c<0) then some (.inl (k4 k c r)) else(bm r 0 (IntKind.i64.wrap (Lib.indexByte r c+0))).bind fun x=>some (.inr ((Lib.indexByte r c,x),k4 k c r))
 bl:∀c r i x v,two k C.toCtx ((((nx k c r).set t7 (one (.int .i64 i))).set t8 (one (.str x))).set 0 (b7 (.cV v))) o0 o1 a1 a2=some ((v,x),k4 k c r)
 h3:∀c r b,tD k C.toCtx ((nx k c r).set t41 (one (.bool b))) o3 t42=some (!b,k4 k c r)
 acl:(ky C.toCtx ⟨[(t41,one (.bool false))],[],k⟩ o3 fun st=>match st.get t42 with|.av (.an (.d (.bool b)))=>some b|_=>none)=some true
 x7:∀c r i,exec C r9 p9 ((nx k c r).set t7 (one (.int .i64 i))) (C5 k)=(bm r (IntKind.i64.wrap (i+(([c]:B).length:Int))) r.length).bind fun x=>some (k4 k c x)
 Er:∀c r v,two k C.toCtx ((nx k c r).set 0 (b7 (.cV v))) q0 q1 u1 u2=some ((v,r),k4 k c r)
end
end Go.Jk
