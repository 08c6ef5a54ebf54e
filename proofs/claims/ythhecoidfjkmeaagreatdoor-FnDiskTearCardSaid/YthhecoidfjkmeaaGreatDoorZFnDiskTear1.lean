/- FnDiskTear: writing a root is atomic. (part 2 of 7: JkCall3, JkCall4, JkCall5, JkBld, JkCall6, JkDraw1, JkLogic, JkWalk0, JkDraw2, JkDraw3, JkWalk1, JkShape, JkShape2, JkWalk2, JkWalk3, JkWalk4, JkHand, JkHand2, JkLaw0, JkRange, JkRange2, JkIter, JkIte) Conditions: none beyond the statement. -/
import Derived.Test.YthhecoidfjkmeaaGreatDoorZFnDiskTear0
import Derived.RangeFuncRecord
import Derived.Below
import Derived.RangeFuncSeq
import Derived.Orders
import Derived.OrdersIn
import Derived.ControlIn
import Derived.LoopIn
import Derived.RangeFuncCalls
import Derived.RangeFuncLeaves
import Derived.Lib.Bytealg
import Derived.Laws.Externs
import Derived.Lib.LaidTab
import Derived.Lib.ItoaNum
import Derived.Deep.Draws
import Derived.Sort.Grow
import Derived.Deep.Slices
import Derived.ChangeSame
import Derived.Carry
import Derived.ProofKit
import Derived.OpenShut
set_option linter.unusedVariables false
set_option linter.unusedSimpArgs false
namespace Go.Jk
theorem vu(n:Nat)(l:List Nat):f' n l=true <-> n∈l:=by
 induction l with
 |nil=>simp[f']
 |cons m l ih=>
  simp only[f',Bool.or_eq_true,ih,List.mem_cons];constructor
  ·rintro(h|h)
   ·exact .inl (Nat.eq_of_beq_eq_true h)
   ·exact .inr h
  ·rintro(rfl|h)
   ·exact .inl (Nat.beq_refl n)
   ·exact .inr h
theorem sv(l:List Nat):fM l=true <-> l.Nodup:=by
 induction l with
 |nil=>simp[fM]
 |cons n l ih=>
  simp only[fM,Bool.and_eq_true,ih,List.nodup_cons,Bool.not_eq_true'];constructor
  ·rintro⟨h1,h2⟩;exact⟨fun h=>(by rw[(vu n l).2 h] at h1;cases h1),h2⟩
  ·rintro⟨h1,h2⟩;refine⟨?_,h2⟩;cases h:f' n l with
   |false=>rfl
   |true=>exact absurd ((vu n l).1 h) h1
theorem Q7(l m:List Nat):e_ l m=true <-> ∀n,n∈l->n∉m:=by
 induction l with
 |nil=>simp[e_]
 |cons n l ih=>
  simp only[e_,Bool.and_eq_true,ih,Bool.not_eq_true',List.mem_cons];constructor
  ·rintro⟨h1,h2⟩ k (rfl|hk)
   ·intro h;rw[(vu k m).2 h] at h1;cases h1
   ·exact h2 k hk
  ·intro h;refine⟨?_,fun k hk=>h k (.inr hk)⟩
   cases aj:f' n m with
   |false=>rfl
   |true=>exact absurd ((vu n m).1 aj) (h n (.inl rfl))
theorem nV{sites us:List (Nat×Site)}{o:Nat}(h:o∉keys us):look (bv sites us) o=look sites o:=by
 induction us generalizing sites with
 |nil=>rfl
 |cons p us ih=>
  obtain⟨n,s⟩:=p;simp only[keys,List.mem_cons,not_or] at h;simp only[bv];rw[ih h.2,c9];have:¬n=o:=fun e=>h.1 e.symm
  simp[this]
theorem GM{aJ:Type}{us:List (Nat×aJ)}{o:Nat}{s:aJ}(h:(o,s)∈us):o∈keys us:=by
 induction us with
 |nil=>simp at h
 |cons p us ih=>
  rcases List.mem_cons.1 h with rfl|h
  ·exact List.mem_cons_self
  ·exact List.mem_cons_of_mem _ (ih h)
theorem zO{aJ:Type}{us:List (Nat×aJ)}{o:Nat}(h:o∈keys us):∃s,(o,s)∈us:=by
 induction us with
 |nil=>simp[keys] at h
 |cons p us ih=>
  obtain⟨n,s⟩:=p;rcases List.mem_cons.1 h with h|h
  ·exact⟨s,by rw[h];exact List.mem_cons_self⟩
  ·obtain⟨aN,aj⟩:=ih h;exact⟨aN,List.mem_cons_of_mem _ aj⟩
section
variable {U:World}{Y:List Nat}{X:Nat->Prop}{F:Nat->Value}{st:al}{M:Array Value}{w:World}
theorem ar.aqM:∀{us:List (Nat×Site)} {st:al} {X:Nat->Prop},ar U Y X F st M w->gZ st.sites us->(keys us).Nodup->
  ar U Y (fun b=>X b\/b∈dj F (keys us)) F {st with sites:=bv st.sites us} M w:=by
 intro us;induction us with
 |nil=>intro st X S _ _;exact S.shrink fun b h=>by rcases h with h|h;exact h;simp[keys,dj] at h
 |cons p us ih=>
  obtain⟨o,aN⟩:=p;intro st X S hg hn;obtain⟨af,h1,h2,rfl⟩:=hg o aN List.mem_cons_self;simp only[keys,List.nodup_cons] at hn;have dA:=S.kill h1 h2;have ie:=ih dA (fun ab s hm=>by
   obtain⟨t,aE,aF,bJ⟩:=hg ab s (List.mem_cons_of_mem _ hm);have:¬o=ab:=fun e=>hn.1 (by rw[e];exact GM hm)
   exact⟨t,by simp[c9,this,aE],aF,bJ⟩) hn.2
  refine ie.shrink fun b h=>?_
  rcases h with h|h
  ·exact .inl (.inl h)
  ·simp only[keys,dj,List.filterMap_cons] at h;cases hb:bQ (F o) with
   |none=>simp only[hb] at h;exact .inr h
   |some c=>
    simp only[hb,List.mem_cons] at h;rcases h with rfl|h
    ·exact .inl (.inr rfl)
    ·exact .inr h
structure j2(U:World)(Y:List Nat)(X X':Nat->Prop)(F aY:Nat->Value)(st:al)(M:Array Value)(w:World)(us:List (Nat×Site)):Prop where
 jw:ar U Y X' aY {st with sites:=bv st.sites us} M w
 le:∀c,aI X' aY (bv st.sites us) c->aI X F st.sites c
 go:∀{a v},ck F st.sites w (aI X F st.sites) a v->ck aY (bv st.sites us) w (aI X' aY (bv st.sites us)) a v
 same:∀o,o∉keys us->aY o=F o
theorem j2.nil{X':Nat->Prop}(S:ar U Y X F st M w)(h:∀b,X' b->X b):j2 U Y X X' F F st M w []:=
 ⟨S.shrink h,fun c hc=>by
  rcases hc with hc|hc
  ·exact .inl (h c hc)
  ·exact .inr hc,fun k=>k.hh (fun c hc=>by
   rcases hc with hc|hc
   ·exact .inl (h c hc)
   ·exact .inr hc) (fun c hc=>(S.shrink h).lt hc),fun _ _=>rfl⟩
theorem j2.trans{c_ cC:Nat->Prop}{gM iv:Nat->Value}{us vs:List (Nat×Site)}(A:j2 U Y X c_ F gM st M w us)(bq:j2 U Y c_ cC gM iv {st with sites:=bv st.sites us} M w vs):
  j2 U Y X cC F iv st M w (us++vs):=by
 refine⟨?_,?_,?_,fun o h=>?_⟩
 ·rw[lm];exact bq.jw
 ·rw[lm];exact fun c hc=>A.le c (bq.le c hc)
 ·rw[lm];exact fun h=>bq.go (A.go h)
 ·rw[kc,List.mem_append,not_or] at h;rw[bq.same o h.2,A.same o h.1]
theorem j2.one{X':Nat->Prop}{n:Nat}{bZ:Site}{nv:Value}(S:ar U Y X F st M w)(gD:∀b,X' b->X b)
  (dU:(∀af,look st.sites n=some af->af.cy<bZ.cy)\/(F n=nv/\∀af,look st.sites n=some af->af.cy=bZ.cy/\af.live=false))
  (hb:∀b,bQ nv=some b->X b/\¬X' b/\(b∈Y\/U.heap.size<=b))
  (fI:∀{bY:List (Nat×Site)} {aY:Nat->Value},bY=cw st.sites n bZ->aY n=nv->(∀{a v},ck F st.sites w (aI X F st.sites) a v->ck aY bY w (aI X' aY bY) a v)->
   (∀b,aI X' aY bY b->aI X F st.sites b)->kj aY bY w (aI X' aY bY) n bZ):
  j2 U Y X X' F (fun ab=>if ab=n then nv else F ab) st M w [(n,bZ)]:=by
 obtain⟨h1,h2,h3⟩:=S.wM gD dU hb fI;exact⟨h1,h2,h3,fun o h=>by
  simp only[keys,List.mem_singleton] at h;simp[h]⟩
theorem Fj{av cl:Nat->Prop}{l:aQ}{v:Value}{sites:List (Nat×Site)}(hf:∀t xs,l≠.fresh t xs)(h:ea mq [] w av l v)(hle:∀b,cl b->av b)(hlt:∀b,cl b->b<w.heap.size):ea F sites w cl l v:=by
 have hh:∀{d:bh} {v:Value},bK w av d v->bK w cl d v:=fun h=>ck.hh (F:=F) (sites:=[]) (a:=one _) hle hlt h
 cases l with
 |d x=>exact hh h
 |nil t=>exact h
 |own o s=>obtain⟨_,_,h,_⟩:=h;cases h
 |ptr o s off=>obtain⟨_,_,_,h,_⟩:=h;cases h
 |eE cells off=>
  obtain⟨b,D,h1,h2,h3,cs,aA,bl,ca⟩:=h;exact⟨b,D,h1,fun hx=>h2 (hle b hx),h3,cs,aA,bl,fun j g1 g2=>hh (ca j g1 g2)⟩
 |e5 o s t k off=>obtain⟨_,_,_,h,_⟩:=h;cases h
 |clo g bE=>
  obtain⟨vs,h1,h2,h3⟩:=h;match bE,vs,h2 with
  |[],[],_=>exact⟨[],h1,rfl,fun i h=>by simp at h⟩
  |c::bE,v::vs,_=>obtain⟨_,h,_⟩:=h3 0 (by simp) (by simp);cases h
 |cW u=>exact h
 |fresh t xs=>exact absurd rfl (hf t xs)
 |dz=>trivial
 |any=>trivial
theorem cA.go{aY:Nat->Value}{sites bY:List (Nat×Site)}{w':World}{av cl:Nat->Prop}(go:∀{a:a7} {v:Value},ck F sites w av a v->ck aY bY w' cl a v){ai:List aQ}{vs:List Value}
  (h:cA F sites w av ai vs):cA aY bY w' cl ai vs:=B2 go h
structure Left(U:World)(Y:List Nat)(X:Nat->Prop)(F:Nat->Value)(st:al)(av:Nat->Prop)(bs:List Nat):Prop where
 nodup:bs.Nodup
 ct:∀b,b∈bs->¬X b/\(b∈Y\/U.heap.size<=b)
 le:∀c,aI (fun b=>X b\/b∈bs) F st.sites c->av c
def lH(bD:al)(sites:List (Nat×Site))(gl:List Nat):Prop:=∀m,m∈gl->∀af,look sites m=some af->af.cy<bz bD m
theorem lH.step{bD:al}{sites us:List (Nat×Site)}{gl:List Nat}(h:lH bD sites gl)(Z:∀n,n∈keys us->n∉gl):lH bD (bv sites us) gl:=by
 intro m hm af hs;rw[nV (fun aj=>Z m aj hm)] at hs
 exact h m hm af hs
theorem afW{u:Bool}{e:TypeId}{s:Nat}{v:Value}{n:Nat}{cs:List Value}(h:rowAt w u e s v n cs):v.oneCell'=true:=by
 rcases h.2 with⟨h,_⟩|⟨g,cap,cur,fz,h,_⟩<;>rw[h]<;>rfl
theorem SE{av:Nat->Prop}(bD:al):∀(ai:List aQ) (n:Nat) {F:Nat->Value} {st:al} {vs:List Value} {bs rest:List Nat},ar U Y (fun b=>X b\/b∈bs++rest) F st M w->lI w av ai vs bs->
  Left U Y X F st av (bs++rest)->lH bD st.sites (keys (take bD n ai).2)->(keys (take bD n ai).2).Nodup->
  ∃aY,j2 U Y (fun b=>X b\/b∈bs++rest) (fun b=>X b\/b∈rest) F aY st M w (take bD n ai).2/\cA aY (bv st.sites (take bD n ai).2) w (aI (fun b=>X b\/b∈rest) aY (bv st.sites (take bD n ai).2)) (take bD n ai).1 vs/\
   Left U Y X aY {st with sites:=bv st.sites (take bD n ai).2} av rest:=by
 intro ai;induction ai with
 |nil=>
  intro n F st vs bs rest S h L eL Z;match vs,h with
  |[],h=>
   have h:bs=[]:=h;subst h;exact⟨F,.nil S (fun b hb=>hb),.nil,L⟩
 |cons l ai ih=>
  intro n F st vs bs rest S h L eL Z;match vs,h with
  |v::vs,⟨b1,b2,ez,h1,h2⟩=>
   subst ez;by_cases hf:∃t xs,l=.fresh t xs
   ·obtain⟨t,xs,rfl⟩:=hf;obtain⟨hb1,e,cs,aM,hr⟩:=h1;simp only[take,keys,List.nodup_cons] at Z eL;have k2:=L.nodup;rw[List.append_assoc,hb1] at k2;have dh:j2 U Y (fun b=>X b\/b∈b1++b2++rest) (fun b=>X b\/b∈b2++rest) F (fun ab=>if ab=n then v else F ab) st M w [(n,.row (bz bD n) t xs)]:=by
     refine .one S (fun b hb=>?_) (.inl fun af hs=>eL n List.mem_cons_self af hs) (fun b hb=>?_) (fun fS kr go le=>?_)
     ·rcases hb with hb|hb
      ·exact .inl hb
      ·exact .inr (by rw[List.append_assoc];exact List.mem_append.2 (.inr hb))
     ·have hm:b∈b1:=by rw[hb1,hb];simp
      have mI:b∈b1++b2++rest:=by rw[List.append_assoc];exact List.mem_append.2 (.inl hm)
      refine⟨.inr mI,?_,(L.ct b mI).2⟩;rintro(hx|hx)
      ·exact(L.ct b mI).1 hx
      ·rw[hb] at k2;simp only[Option.toList_some,List.singleton_append,List.nodup_cons] at k2;exact k2.1 hx
     ·refine⟨e,cs,by rw[kr];exact aM,fun j g1 g2=>?_⟩
      have k:=hr.2 j g1 g2;have hle:∀b,aI (fun b=>X b\/b∈b2++rest) _ _ b->av b:=fun b hb=>L.le b (le b hb)
      exact ck.hh (F:=F) (sites:=[]) (a:=one _) hle (fun b hb=>S.lt (le b hb)) k
    have so:Left U Y X (fun ab=>if ab=n then v else F ab) {st with sites:=bv st.sites [(n,.row (bz bD n) t xs)]} av (b2++rest):=by
     refine⟨(List.nodup_append.1 (by rw[List.append_assoc] at L;exact L.nodup)).2.1,fun b hb=>L.ct b (by rw[List.append_assoc];exact List.mem_append.2 (.inr hb)),fun c hc=>L.le c (dh.le c hc)⟩
    obtain⟨aY,eC,h3,aA⟩:=ih (n+1) (st:={st with sites:=bv st.sites [(n,.row (bz bD n) t xs)]}) dh.jw h2 so
     (lH.step (us:=[(n,.row (bz bD n) t xs)]) (fun m hm=>eL m (List.mem_cons_of_mem _ hm)) (fun m hm=>by simp only[keys,List.mem_singleton] at hm;subst hm;exact Z.1)) Z.2
    refine⟨aY,dh.trans eC,?_,aA⟩;refine cA.cons ?_ h3;have:ea (fun ab=>if ab=n then v else F ab) (bv st.sites [(n,.row (bz bD n) t xs)]) w (aI (fun b=>X b\/b∈b2++rest) (fun ab=>if ab=n then v else F ab) (bv st.sites [(n,.row (bz bD n) t xs)])) (.own n (bz bD n)) v:=
     ⟨afW aM,Ref.mk (af:=.row (bz bD n) t xs) (by simp[bv,c9]) rfl (by simp)⟩
    exact eC.go (a:=b6 (.own n (bz bD n))) (v:=v) this
   ·have MA:∀t xs,l≠.fresh t xs:=fun t xs h=>hf ⟨t,xs,h⟩
    have aq8:take bD n (l::ai)=(l::(take bD (n+1) ai).1,(take bD (n+1) ai).2):=by
     cases l<;>first|rfl|exact absurd rfl (MA _ _)
    have h1':b1=[]/\ea mq [] w av l v:=by
     cases l<;>first|exact h1|exact absurd rfl (MA _ _)
    obtain⟨rfl,h1'⟩:=h1';rw[aq8] at Z eL ⊢;simp only[List.nil_append] at S L ⊢;obtain⟨aY,eC,h3,aA⟩:=ih (n+1) S h2 L eL Z;refine⟨aY,eC,?_,aA⟩;refine cA.cons ?_ h3;exact Fj MA h1' (fun b hb=>L.le b (eC.le b hb)) (fun b hb=>eC.jw.lt hb)
end
section
variable {U:World}{Y:List Nat}{X:Nat->Prop}{F:Nat->Value}{st:al}{M:Array Value}{w:World}
def pH(F:Nat->Value)(sites:List (Nat×Site))(w:World)(av:Nat->Prop)(as:List bS)(vs:List Value):Prop:=
 vs.length=as.length/\∀j (h:j<as.length) (aj:j<vs.length),ho F sites w av (as[j]) (vs[j])
theorem pH.cons{sites:List (Nat×Site)}{av:Nat->Prop}{a:bS}{as:List bS}{v:Value}{vs:List Value}(h:ho F sites w av a v)(hs:pH F sites w av as vs):pH F sites w av (a::as) (v::vs):=
 ⟨by simp[hs.1],fun j h1 h2=>by
  cases j with
  |zero=>exact h
  |succ j=>exact hs.2 j (by simpa using h1) (by simpa using h2)⟩
theorem Left.rest{av:Nat->Prop}{a b:List Nat}(L:Left U Y X F st av (a++b)){aY:Nat->Value}{ao:al}(h:∀c,aI (fun c=>X c\/c∈b) aY ao.sites c->aI (fun c=>X c\/c∈a++b) F st.sites c):Left U Y X aY ao av b:=
 ⟨(List.nodup_append.1 L.nodup).2.1,fun c hc=>L.ct c (List.mem_append.2 (.inr hc)),fun c hc=>L.le c (h c hc)⟩
theorem ahY{bD:al}{n:Nat}{ai:List aQ}(h:(take bD n ai).1.head?=some .dz):ai.head?=some .dz:=by
 cases ai with
 |nil=>cases h
 |cons l ai=>cases l<;>first|exact h|cases h
theorem take_one(bD:al)(n:Nat)(l:aQ):∃gC,(take bD n [l]).1=[gC]:=by cases l<;>exact⟨_,rfl⟩
theorem ajP{av:Nat->Prop}(bD:al):∀(as:List bS) (n:Nat) {F:Nat->Value} {st:al} {vs:List Value} {bs rest:List Nat},ar U Y (fun b=>X b\/b∈bs++rest) F st M w->lz w av as vs bs->
  Left U Y X F st av (bs++rest)->lH bD st.sites (keys (ee bD n as).2)->(keys (ee bD n as).2).Nodup->
  ∃aY,j2 U Y (fun b=>X b\/b∈bs++rest) (fun b=>X b\/b∈rest) F aY st M w (ee bD n as).2/\pH aY (bv st.sites (ee bD n as).2) w (aI (fun b=>X b\/b∈rest) aY (bv st.sites (ee bD n as).2)) (ee bD n as).1 vs/\
   Left U Y X aY {st with sites:=bv st.sites (ee bD n as).2} av rest:=by
 intro as;induction as with
 |nil=>
  intro n F st vs bs rest S h L eL Z;match vs,h with
  |[],h=>
   have h:bs=[]:=h;subst h;exact⟨F,.nil S (fun b hb=>hb),⟨rfl,fun j h=>by simp[ee] at h⟩,L⟩
 |cons a as ih=>
  intro n F st vs bs rest S h L eL Z;match vs,h with
  |v::vs,⟨b1,b2,ez,h1,h2⟩=>
   subst ez;have go:∀(ai:List aQ) (us:List Value),lI w av ai us b1->(ee bD n (a::as)).2=(take bD n ai).2++(ee bD (n+100) as).2->
     ∃aY,j2 U Y (fun b=>X b\/b∈b1++b2++rest) (fun b=>X b\/b∈rest) F aY st M w (ee bD n (a::as)).2/\cA aY (bv st.sites (ee bD n (a::as)).2) w (aI (fun b=>X b\/b∈rest) aY (bv st.sites (ee bD n (a::as)).2)) (take bD n ai).1 us/\
      pH aY (bv st.sites (ee bD n (a::as)).2) w (aI (fun b=>X b\/b∈rest) aY (bv st.sites (ee bD n (a::as)).2)) (ee bD (n+100) as).1 vs/\Left U Y X aY {st with sites:=bv st.sites (ee bD n (a::as)).2} av rest:=by
    intro ai us bL e;rw[e] at eL Z ⊢;rw[kc] at eL Z;obtain⟨d1,d2,d3⟩:=List.nodup_append.1 Z;rw[List.append_assoc] at S L ⊢;obtain⟨gM,dh,aE,so⟩:=SE bD ai n S bL L (fun m hm=>eL m (List.mem_append.2 (.inl hm))) d1
    obtain⟨iv,eC,aF,uW⟩:=ih (n+100) (st:={st with sites:=bv st.sites (take bD n ai).2}) dh.jw h2 so
     (lH.step (fun m hm=>eL m (List.mem_append.2 (.inr hm))) (fun m hm mI=>d3 m hm m mI rfl)) d2
    refine⟨iv,dh.trans eC,?_,?_,?_⟩
    ·rw[lm];exact aE.go eC.go
    ·rw[lm];exact aF
    ·rw[lm];exact uW
   cases a with
   |am l=>
    have h1:nn w av l v b1:=h1;obtain⟨aY,T,aE,aF,bJ⟩:=go [l] [v] ⟨b1,[],by simp,h1,rfl⟩ rfl
    refine⟨aY,T,?_,bJ⟩;obtain⟨gC,gz⟩:=take_one bD n l;have:(ee bD n (bS.am l::as)).1=bS.am gC::(ee bD (n+100) as).1:=by simp only[ee,gz]
    rw[this];refine pH.cons ?_ aF;rw[gz] at aE;exact aE.2 0 (by simp) (by simp)
   |agg ai=>
    obtain⟨us,e,h1⟩:=h1;obtain⟨aY,T,aE,aF,bJ⟩:=go ai us h1 rfl;refine⟨aY,T,?_,bJ⟩;have:(ee bD n (bS.agg ai::as)).1=bS.agg (take bD n ai).1::(ee bD (n+100) as).1:=rfl;rw[this];exact pH.cons ⟨us,e,aE.1,aE.2⟩ aF
def nO(F:Nat->Value):List (Nat×Nat)->List Nat->Prop
 |[],[]=>True
 |p::r,b::dG=>F p.1=.pointer (some ⟨b,0,none⟩)/\nO F r dG
 |_,_=>False
theorem nO.of:∀{boxes:List (Nat×Nat)},(∀o s,(o,s)∈boxes->∃b,F o=.pointer (some ⟨b,0,none⟩))->nO F boxes (dj F (keys boxes)):=by
 intro boxes;induction boxes with
 |nil=>intro _;trivial
 |cons q boxes ih=>
  obtain⟨ρ,r⟩:=q;intro h;obtain⟨c,hc⟩:=h ρ r List.mem_cons_self;have:=ih fun o s hm=>h o s (List.mem_cons_of_mem _ hm)
  have e:dj F (keys ((ρ,r)::boxes))=c::dj F (keys boxes):=by simp[dj,keys,hc,bQ]
  rw[e];exact⟨hc,this⟩
theorem nO.congr{aY:Nat->Value}:∀{boxes:List (Nat×Nat)} {dG:List Nat},nO F boxes dG->(∀ab,ab∈keys boxes->aY ab=F ab)->nO aY boxes dG:=by
 intro boxes;induction boxes with
 |nil=>
  intro dG h _;match dG,h with
  |[],_=>trivial
 |cons q boxes ih=>
  intro dG h aj;match dG,h with
  |b::dG,⟨h1,h2⟩=>exact⟨by rw[aj q.1 List.mem_cons_self];exact h1,ih h2 fun ab bU=>aj ab (List.mem_cons_of_mem _ bU)⟩
theorem Ps{av:Nat->Prop}{bD:al}{ab:Nat}:∀{boxes:List (Nat×Nat)} {cR:List (List aQ)} {dG bs:List Nat},nO F boxes dG->jp w av dG cR bs->ab∈keys boxes->ab∈keys (gX bD boxes cR):=by
 intro boxes;induction boxes with
 |nil=>intro cR dG bs _ _ h;simp[keys] at h
 |cons q boxes ih=>
  obtain⟨ρ,r⟩:=q;intro cR dG bs hl bL hm;match dG,cR,hl,bL with
  |c::dG,cs::cR,⟨_,hl⟩,⟨_,_,_,_,bL⟩=>
   simp only[gX,kc,keys,List.mem_append,List.mem_cons];rcases List.mem_cons.1 hm with rfl|hm
   ·exact .inr (.inl rfl)
   ·exact .inr (.inr (ih hl bL hm))
theorem Rr{av:Nat->Prop}(bD:al):∀(boxes:List (Nat×Nat)) {cR:List (List aQ)} {F:Nat->Value} {st:al} {dG bs rest:List Nat},ar U Y (fun b=>X b\/b∈bs++rest) F st M w->nO F boxes dG->jp w av dG cR bs->
  (∀o s,(o,s)∈boxes->look st.sites o=some (.dead s))->
  Left U Y X F st av (bs++rest)->lH bD st.sites (keys (gX bD boxes cR))->(keys (gX bD boxes cR)).Nodup->
  ∃aY,j2 U Y (fun b=>X b\/b∈bs++rest) (fun b=>X b\/b∈rest) F aY st M w (gX bD boxes cR)/\Left U Y X aY {st with sites:=bv st.sites (gX bD boxes cR)} av rest:=by
 intro boxes;induction boxes with
 |nil=>
  intro cR F st dG bs rest S eY h hB L eL Z;match dG,cR,eY,h with
  |[],[],_,h=>
   have h:bs=[]:=h;subst h;exact⟨F,.nil S (fun b hb=>hb),L⟩
 |cons p boxes ih=>
  obtain⟨o,s⟩:=p;intro cR F st dG bs rest S eY h hB L eL Z;have bA:=hB o s List.mem_cons_self;match dG,cR,eY,h with
  |b::dG,cs::cR,⟨hb,eY⟩,⟨b1,b2,ez,⟨T,cur,qc,e1,e2,br,da⟩,h2⟩=>
   subst ez e1;have hb:F o=.pointer (some ⟨b,0,none⟩):=hb;have se:gX bD ((o,s)::boxes) (cs::cR)=(take bD (1000000+o*100) cs).2++([(o,Site.box s (take bD (1000000+o*100) cs).1)]++gX bD boxes cR):=rfl;rw[se] at eL Z ⊢;rw[kc,kc] at eL Z;obtain⟨d1,d2,d3⟩:=List.nodup_append.1 Z;obtain⟨d4,d5,d6⟩:=List.nodup_append.1 d2;have CP:∀c,c∈b::qc++b2++rest <-> c∈qc++(b::(b2++rest)):=by intro c;simp[or_assoc,or_left_comm]
   have azc:=L.nodup;have dA:ar U Y (fun c=>X c\/c∈qc++(b::(b2++rest))) F st M w:=S.shrink fun c hc=>hc.imp id (CP c).2
   have so:Left U Y X F st av (qc++(b::(b2++rest))):=by
    refine⟨?_,fun c hc=>L.ct c ((CP c).2 hc),fun c hc=>L.le c ?_⟩
    ·have:List.Perm (b::qc++b2++rest) (qc++(b::(b2++rest))):=by
      simp only[List.cons_append,List.append_assoc];exact List.perm_middle.symm
     exact this.nodup_iff.1 azc
    ·rcases hc with hc|hc
     ·exact .inl (hc.imp id (CP c).2)
     ·exact .inr hc
   obtain⟨gM,dh,aE,uW⟩:=SE bD cs (1000000+o*100) dA da.2 so (fun m hm=>eL m (List.mem_append.2 (.inl hm))) d1
   have Zi:o∉keys (take bD (1000000+o*100) cs).2:=fun h=>d3 o h o (by simp[keys]) rfl
   have KW:gM o=F o:=dh.same o Zi;have hA:look (bv st.sites (take bD (1000000+o*100) cs).2) o=some (.dead s):=by rw[nV Zi,bA]
   have acr:=uW.nodup;simp only[List.nodup_cons] at acr;have eC:j2 U Y (fun c=>X c\/c∈b::(b2++rest)) (fun c=>X c\/c∈b2++rest) gM (fun ab=>if ab=o then F o else gM ab) {st with sites:=bv st.sites (take bD (1000000+o*100) cs).2} M w [(o,Site.box s (take bD (1000000+o*100) cs).1)]:=by
    refine .one dh.jw (fun c hc=>hc.imp id (List.mem_cons_of_mem _)) (.inr ⟨KW,fun af hs=>?_⟩) (fun c hc=>?_) (fun fS kr go le=>?_)
    ·have hs:look (bv st.sites (take bD (1000000+o*100) cs).2) o=some af:=hs;rw[hA] at hs;cases hs;exact⟨rfl,rfl⟩
    ·rw[hb] at hc;cases hc;refine⟨.inr List.mem_cons_self,?_,(uW.ct b List.mem_cons_self).2⟩;rintro(hx|hx)
     ·exact(uW.ct b List.mem_cons_self).1 hx
     ·exact acr.1 hx
    ·have:=B2 go aE;exact⟨b,T,cur,by rw[kr,hb],e2,this.1,br,fun bL=>da.1 (ahY bL),this.2⟩
   have Oa:Left U Y X (fun ab=>if ab=o then F o else gM ab) {st with sites:=bv (bv st.sites (take bD (1000000+o*100) cs).2) [(o,Site.box s (take bD (1000000+o*100) cs).1)]} av (b2++rest):=
    Left.rest (a:=[b]) (st:={st with sites:=bv st.sites (take bD (1000000+o*100) cs).2}) uW eC.le
   have hbk:∀ab,ab∈keys boxes->(fun ab=>if ab=o then F o else gM ab) ab=F ab:=by
    intro ab bU;have hk:=Ps (bD:=bD) eY h2 bU;by_cases e:ab=o
    ·subst e;simp
    ·simp only[e,if_false];exact dh.same ab fun hm=>d3 ab hm ab (List.mem_append.2 (.inr hk)) rfl
   obtain⟨aY,fW,N'⟩:=ih (st:={st with sites:=bv (bv st.sites (take bD (1000000+o*100) cs).2) [(o,Site.box s (take bD (1000000+o*100) cs).1)]}) eC.jw (eY.congr hbk) h2
    (fun ab r hm=>by
     have hk:=Ps (bD:=bD) eY h2 (GM hm);show look (bv (bv st.sites _) _) ab=_;rw[nV (fun h=>d6 ab h ab hk rfl),nV (fun h=>d3 ab h ab (List.mem_append.2 (.inr hk)) rfl)]
     exact hB ab r (List.mem_cons_of_mem _ hm))
    Oa
    (lH.step (lH.step (fun m hm=>eL m (List.mem_append.2 (.inr (List.mem_append.2 (.inr hm))))) (fun m hm mI=>d3 m hm m (List.mem_append.2 (.inr mI)) rfl)) (fun m hm mI=>d6 m hm m mI rfl)) d5
   refine⟨aY,?_,?_⟩
   ·have ay1:=dh.trans eC;have N6:j2 U Y (fun c=>X c\/c∈b::qc++b2++rest) (fun c=>X c\/c∈qc++(b::(b2++rest))) F F st M w []:=.nil S fun c hc=>hc.imp id (CP c).2
    have atP:=N6.trans (vs:=(take bD (1000000+o*100) cs).2++[(o,Site.box s (take bD (1000000+o*100) cs).1)]) ay1;have:=atP.trans (vs:=gX bD boxes cR) (by simpa only[List.nil_append,lm] using fW)
    simpa only[List.nil_append,List.append_assoc] using this
   ·simpa only[lm] using N'
end
theorem EQ{us:List (Nat×Site)}:∀{sites:List (Nat×Site)} {o:Nat} {s:Site},(keys us).Nodup->(o,s)∈us->look (bv sites us) o=some s:=by
 induction us with
 |nil=>intro sites o s _ h;simp at h
 |cons p us ih=>
  obtain⟨n,aN⟩:=p;intro sites o s hn hm;simp only[keys,List.nodup_cons] at hn;simp only[bv];rcases List.mem_cons.1 hm with hm|hm
  ·cases hm;rw[nV hn.1,c9];simp
  ·exact ih hn.2 hm
section plain
variable {w:World}{av cl:Nat->Prop}
theorem R5{d:bh}{v:Value}(h:aQ.pm (.d d)=false)(r:bK w av d v):bK w cl d v:=by
 cases r with
 |int k n=>exact .int k n
 |bool b=>exact .bool b
 |str l s hs=>exact .str l s hs
 |nil t=>cases h
 |sl=>cases h
 |fn=>cases h
 |wV=>cases h
 |map=>cases h
 |w7 T=>exact .w7 T
 |err T n=>exact .err T n
theorem aje{t:bf}(h:t.pm=false)(x:den t):∀d,d∈enc t x->aQ.pm (.d d)=false:=by
 cases t<;>first|(cases h;done)|(intro d Z;simp only[enc,List.mem_cons,List.not_mem_nil,or_false] at Z;(rcases Z with rfl|rfl|rfl|rfl|rfl);all_goals rfl)|skip
 all_goals(intro d Z;simp only[enc,List.mem_cons,List.not_mem_nil,or_false] at Z)
 all_goals first|(subst Z;rfl)|(rcases Z with rfl|rfl<;>rfl)|(rcases Z with rfl|rfl|rfl<;>rfl)|(rcases Z with rfl|rfl|rfl|rfl<;>rfl)
theorem aih{t:bf}{xs:List (den t)}{cs:List Value}(h:t.pm=false)(r:c5 w av (flat t xs) cs):c5 w cl (flat t xs) cs:=by
 refine⟨r.1,fun j g1 g2=>R5 ?_ (r.2 j g1 g2)⟩
 have hm:(flat t xs)[j]∈flat t xs:=List.getElem_mem g1;simp only[flat,List.mem_flatMap] at hm;obtain⟨x,_,hx⟩:=hm;exact aje h x _ hx
theorem Pc{l:aQ}{v:Value}{bs:List Nat}(h:l.pm=false)(k:nn w av l v bs):nn w cl l v bs:=by
 cases l with
 |d x=>exact⟨k.1,R5 h k.2⟩
 |fresh t xs=>
  obtain⟨h1,e,cs,h2,h3⟩:=k;exact⟨h1,e,cs,h2,aih h h3⟩
 |cW v=>exact k
 |dz=>exact k
 |_=>cases h
theorem Pa:∀{ai:List aQ} {vs:List Value} {bs:List Nat},sG ai=false->lI w av ai vs bs->lI w cl ai vs bs:=by
 intro ai;induction ai with
 |nil=>
  intro vs bs _ k;match vs,k with
  |[],k=>exact k
 |cons l ai ih=>
  intro vs bs h k;simp only[sG,Bool.or_eq_false_iff] at h;match vs,k with
  |v::vs,⟨b1,b2,aE,aF,bJ⟩=>exact⟨b1,b2,aE,Pc h.1 aF,ih h.2 bJ⟩
theorem afo:∀{as:List bS} {vs:List Value} {bs:List Nat},sz as=false->lz w av as vs bs->lz w cl as vs bs:=by
 intro as;induction as with
 |nil=>
  intro vs bs _ k;match vs,k with
  |[],k=>exact k
 |cons a as ih=>
  intro vs bs h k;simp only[sz,Bool.or_eq_false_iff] at h;match vs,k with
  |v::vs,⟨b1,b2,aE,aF,bJ⟩=>
   refine⟨b1,b2,aE,?_,ih h.2 bJ⟩;cases a with
   |am l=>
    have h1:=h.1;simp only[bS.cells,sG,Bool.or_false] at h1;exact Pc h1 aF
   |agg ai=>
    obtain⟨us,e,aF⟩:=aF;exact⟨us,e,Pa h.1 aF⟩
theorem afn:∀{cR:List (List aQ)} {dG bs:List Nat},sy cR=false->jp w av dG cR bs->jp w cl dG cR bs:=by
 intro cR;induction cR with
 |nil=>
  intro dG bs _ k;match dG,k with
  |[],k=>exact k
 |cons a as ih=>
  intro dG bs h k;simp only[sy,Bool.or_eq_false_iff] at h;match dG,k with
  |b::dG,⟨b1,b2,aE,⟨T,cur,oQ,e1,e2,br,da,eS⟩,bJ⟩=>
   exact⟨b1,b2,aE,⟨T,cur,oQ,e1,e2,br,da,Pa h.1 eS⟩,ih h.2 bJ⟩
theorem Si{l:aQ}{v:Value}{bs:List Nat}(k:nn w av l v bs):∀b,b∈bs->b<w.heap.size:=by
 cases l with
 |fresh t xs=>
  obtain⟨h1,e,cs,h2,h3⟩:=k;intro b hb;rw[h1] at hb;rcases h2.2 with⟨h,_⟩|⟨g,cap,cur,fz,h,_,hg,_⟩
  ·rw[h] at hb;simp[bQ] at hb
  ·rw[h] at hb;simp[bQ] at hb;subst hb;exact(Array.getElem?_eq_some_iff.1 hg).1
 |_=>intro b hb;rw[k.1] at hb;simp at hb
theorem Sh:∀{ai:List aQ} {vs:List Value} {bs:List Nat},lI w av ai vs bs->∀b,b∈bs->b<w.heap.size:=by
 intro ai;induction ai with
 |nil=>
  intro vs bs k;match vs,k with
  |[],k=>have k:bs=[]:=k;intro b hb;rw[k] at hb;simp at hb
 |cons l ai ih=>
  intro vs bs k;match vs,k with
  |v::vs,⟨b1,b2,aE,aF,bJ⟩=>
   intro b hb;rw[aE] at hb;rcases List.mem_append.1 hb with hb|hb
   ·exact Si aF b hb
   ·exact ih bJ b hb
theorem ai6:∀{as:List bS} {vs:List Value} {bs:List Nat},lz w av as vs bs->∀b,b∈bs->b<w.heap.size:=by
 intro as;induction as with
 |nil=>
  intro vs bs k;match vs,k with
  |[],k=>have k:bs=[]:=k;intro b hb;rw[k] at hb;simp at hb
 |cons a as ih=>
  intro vs bs k;match vs,k with
  |v::vs,⟨b1,b2,aE,aF,bJ⟩=>
   intro b hb;rw[aE] at hb;rcases List.mem_append.1 hb with hb|hb
   ·cases a with
    |am l=>exact Si (show nn w av l v b1 from aF) b hb
    |agg ai=>obtain⟨us,e,aF⟩:=aF;exact Sh aF b hb
   ·exact ih bJ b hb
theorem QY:∀{cR:List (List aQ)} {dG bs:List Nat},jp w av dG cR bs->∀b,b∈bs->b<w.heap.size:=by
 intro cR;induction cR with
 |nil=>
  intro dG bs k;match dG,k with
  |[],k=>have k:bs=[]:=k;intro b hb;rw[k] at hb;simp at hb
 |cons a as ih=>
  intro dG bs k;match dG,k with
  |c::dG,⟨b1,b2,aE,⟨T,cur,oQ,e1,e2,br,_,da⟩,bJ⟩=>
   intro b hb;rw[aE] at hb;rcases List.mem_append.1 hb with hb|hb
   ·rw[e1] at hb;rcases List.mem_cons.1 hb with rfl|hb
    ·exact(Array.getElem?_eq_some_iff.1 e2).1
    ·exact Sh da b hb
   ·exact ih bJ b hb
end plain
section
variable {P:Program}{U:World}{Y:List Nat}{X:Nat->Prop}{F:Nat->Value}{st:al}{M:Array Value}{w:World}{D:Oper}
theorem nW{gl:List Nat}{b:Nat}:b∈dj F gl <-> ∃o,o∈gl/\bQ (F o)=some b:=by simp[dj]
theorem ON(S:ar U Y X F st M w):∀{gl:List Nat},gl.Nodup->(∀o,o∈gl->cq st.sites o)->(dj F gl).Nodup:=by
 intro gl;induction gl with
 |nil=>intro _ _;exact List.nodup_nil
 |cons o gl ih=>
  intro hn hl;rw[List.nodup_cons] at hn;have:=ih hn.2 fun ab bU=>hl ab (List.mem_cons_of_mem _ bU)
  simp only[dj,List.filterMap_cons] at this ⊢;cases hb:bQ (F o) with
  |none=>simpa using this
  |some b=>
   simp only[List.nodup_cons];refine⟨fun hm=>?_,this⟩
   obtain⟨ab,h1,h2⟩:=nW.1 hm;have:=S.eg o ab b (hl o List.mem_cons_self) (hl ab (List.mem_cons_of_mem _ h1)) hb h2;subst this;exact hn.1 h1
structure atT(U:World)(Y:List Nat)(X:Nat->Prop)(F:Nat->Value)(st:al)(M:Array Value)(w:World)(a:kv)(vs:List Value):Prop where
 fz:dT st.sites a.eW
 lb:∀o,o∈a.fZ->cq st.sites o
 nS:gZ st.sites a.gone
 arg:∀av,fE U Y X F st M w a.eW a.fZ av->jl w av a.as vs (dj F (keys a.gone))
 dG:dZ a.as vs=dj F (keys a.boxes)
 fv:∀o s,(o,s)∈a.boxes->(o,.dead s)∈a.gone/\∃b,F o=.pointer (some ⟨b,0,none⟩)
theorem Pf{us:List (Nat×Site)}{sites:List (Nat×Site)}(aS:dT sites us){o:Nat}(h:cq (bv sites us) o):cq sites o:=by
 obtain⟨af,h1,h2⟩:=h;rcases l5 aS o with h|⟨s,t,xs,aA,bl⟩
 ·exact⟨af,h▸h1,h2⟩
 ·rw[bl] at h1;cases h1;cases h2
theorem alu(S:ar U Y X F st M w){g:FuncId}{au:aD}(eI:aB P g au){a:kv}{vs:List Value}(A:atT U Y X F st M w a vs){d:Nat}(Z:cr st D.dst=true)
  (dy:(execOp (Act.eval ⟨M,[]⟩) D).run P w=(callFunc g vs.toArray).run P w):Holds (pG d st au a) (cN P U Y X st M w D):=by
 intro y hy hc;simp only[pG] at y hy hc ⊢;simp only[Bool.and_eq_true] at hc;obtain⟨⟨⟨⟨c1,c2⟩,c3⟩,df⟩,gP⟩:=hc;rw[sv] at c1 c3;rw[Q7] at c2 df;have sB:∀o,o∈keys a.gone->cq st.sites o:=fun o bA=>by
  obtain⟨s,hs⟩:=zO bA;obtain⟨af,h1,h2,_⟩:=A.nS o s hs;exact⟨af,h1,h2⟩
 have QU:∀o,o∈keys a.gone->o∉keys a.eW:=fun o h1 h2=>c2 o (List.mem_append.2 (.inl h2)) h1
 have aAR:∃X':Nat->Prop,∀b,X' b <-> (aI X F (bv st.sites a.eW) b/\b∉dj F (keys a.gone)/\∀o,o∈a.fZ->bQ (F o)≠some b):=⟨_,fun b=>Iff.rfl⟩
 obtain⟨X',uC⟩:=aAR;have dK:fE U Y X F st M w a.eW a.fZ (fun b=>X' b\/b∈dj F (keys a.gone)):=by
  refine⟨⟨S,A.fz⟩,fun b hb=>?_,fun o bA b hb hx=>?_⟩
  ·rcases hb with hb|hb
   ·exact((uC b).1 hb).1
   ·obtain⟨o,h1,h2⟩:=nW.1 hb;obtain⟨af,h3,aA⟩:=sB o h1;exact .inr ⟨o,⟨af,by rw[nV (QU o h1)];exact h3,aA⟩,h2⟩
  ·rcases hx with hx|hx
   ·exact((uC b).1 hx).2.2 o bA hb
   ·obtain⟨ab,h1,h2⟩:=nW.1 hx;have:=S.eg o ab b (A.lb o bA) (sB ab h1) hb h2;subst this;exact c2 o (List.mem_append.2 (.inr bA)) h1
 have Ed:(dj F (keys a.gone)).Nodup:=ON S c1 sB;have G6:∀b,b∈dj F (keys a.gone)->¬X b/\(b∈Y\/U.heap.size<=b):=fun b hb=>by
  obtain⟨o,h1,h2⟩:=nW.1 hb;exact S.ct o b (sB o h1) h2
 have acC:∀b,X b->X' b:=fun b hb=>(uC b).2 ⟨.inl hb,fun h=>(G6 b h).1 hb,fun o bA h=>(S.ct o b (A.lb o bA) h).1 hb⟩
 have hG:iQ w (dj F (keys a.gone)) X':=by
  obtain⟨g1,g2⟩:=S.ld;refine⟨g1,fun b hb h=>?_,fun b hb h=>?_,fun b hb=>(g2 b hb).2⟩
  ·obtain⟨o,h1,h2⟩:=nW.1 h;exact(g2 b hb).1 (.inr ⟨o,sB o h1,h2⟩)
  ·rcases((uC b).1 h).1 with h|⟨o,h1,h2⟩
   ·exact(g2 b hb).1 (.inl h)
   ·exact(g2 b hb).1 (.inr ⟨o,Pf A.fz h1,h2⟩)
 have E:=eI a.as y hy w X' vs (dj F (keys a.gone)) (A.arg _ dK) Ed (fun b hb hx=>((uC b).1 hx).2.1 hb) (fun b hb=>dK.lt (.inl hb)) hG
 intro K Q bT;have core:∀v w',(∃ev eu rv,Fr (dj F (keys a.gone)) w w'/\jp w' (fun b=>X' b\/b∈ev++eu) (dZ a.as vs) ((au a.as).fv y) ev/\lz w' (fun b=>X' b\/b∈ev++eu) ((au a.as).fp y) rv eu/\
   v=oi rv/\(ev++eu).Nodup/\∀b,b∈ev++eu->¬X' b/\(b∈dj F (keys a.gone)\/w.heap.size<=b))->K ⟨cD M D.dst v,[]⟩ w':=by
  rintro v w' ⟨ev,eu,rv,aS,hB,dX,rfl,k2,hm⟩;obtain⟨sl,ix⟩:∃sl,(sz ((au a.as).fp y)||sy ((au a.as).fv y))=sl:=⟨_,rfl⟩;rw[ix] at gP bT;obtain⟨dp,Ea⟩:∃dp,(bif sl then a.eW else [])=dp:=⟨_,rfl⟩
  rw[Ea] at bT;have ZC:dT st.sites dp:=by rw[<-Ea];cases sl;exact .nil;exact A.fz
  have aqN:∀o,o∈keys dp->o∈keys a.eW:=by rw[<-Ea];cases sl;intro o h;simp[keys] at h;exact fun o h=>h
  have dA:ar U Y X F {st with sites:=bv st.sites dp} M w:=S.Bs ZC
  have Ee:gZ (bv st.sites dp) a.gone:=fun o s hs=>by
   obtain⟨af,h1,h2,h3⟩:=A.nS o s hs;exact⟨af,by rw[nV (fun h=>QU o (GM hs) (aqN o h))];exact h1,h2,h3⟩
  have ie:=dA.aqM Ee c1;have jh:=ie.jump (w':=w') (fun b hb hlt=>aS.block b hlt (fun h=>hb (.inr h))) aS.size
   ⟨aS.os.trans S.frame.os,aS.tape.trans S.frame.tape,aS.output.trans S.frame.output,Nat.le_trans S.frame.size aS.size,fun b hlt hb=>by
    rw[aS.block b (Nat.lt_of_lt_of_le hlt S.frame.size) (fun h=>by rcases(G6 b h).2 with aj|aj;exact hb aj;omega)]
    exact S.frame.block b hlt hb⟩
  have axa:∀b,b∈ev++eu->b<w'.heap.size:=fun b hb=>by
   rcases List.mem_append.1 hb with hb|hb
   ·exact QY hB b hb
   ·exact ai6 dX b hb
  have l4:ar U Y (fun b=>X b\/b∈ev++(eu++[])) F {st with sites:=bv (bv st.sites dp) a.gone} M w':=jh.shrink fun b hb=>by
   rcases hb with hb|hb
   ·exact .inl (.inl hb)
   ·rw[List.append_nil] at hb;rcases(hm b hb).2 with h|h
    ·exact .inl (.inr h)
    ·exact .inr ⟨h,axa b hb⟩
  obtain⟨av,ZA,atA,atz⟩:∃av:Nat->Prop,jp w' av (dZ a.as vs) ((au a.as).fv y) ev/\lz w' av ((au a.as).fp y) rv eu/\
    ∀c,aI (fun b=>X b\/b∈ev++(eu++[])) F (bv (bv st.sites dp) a.gone) c->av c:=by
   cases sl with
   |false=>
    rw[Bool.or_eq_false_iff] at ix;exact⟨_,afn ix.2 hB,afo ix.1 dX,fun c hc=>hc⟩
   |true=>
    refine⟨_,hB,dX,fun c hc=>?_⟩
    rcases hc with(hc|hc)|⟨o,⟨af,h1,h2⟩,h3⟩
    ·exact .inl (acC c hc)
    ·rw[List.append_nil] at hc;exact .inr hc
    ·refine .inl ((uC c).2 ?_);have bA:o∉keys a.gone:=fun h=>by
      obtain⟨s,hs⟩:=zO h;rw[EQ c1 hs] at h1;obtain⟨_,_,_,e⟩:=A.nS o s hs;cases h1;rw[e] at h2;cases h2
     rw[nV bA] at h1;have atC:a.eW=dp:=Ea;rw[<-atC] at h1;have live:cq st.sites o:=Pf A.fz ⟨af,h1,h2⟩;refine⟨.inr ⟨o,⟨af,h1,h2⟩,h3⟩,fun h=>?_,fun ab bU h=>?_⟩
     ·obtain⟨ab,aE,aF⟩:=nW.1 h;have:=S.eg o ab c live (sB ab aE) h3 aF;subst this;exact bA aE
     ·simp only[Bool.not_true,Bool.false_or,List.isEmpty_iff] at gP;rw[gP] at bU;simp at bU
  have L:Left U Y X F {st with sites:=bv (bv st.sites dp) a.gone} av (ev++(eu++[])):=by
   refine⟨by simpa using k2,fun b hb=>?_,atz⟩
   rw[List.append_nil] at hb;obtain⟨h1,h2⟩:=hm b hb;refine⟨fun hx=>h1 (acC b hx),?_⟩
   rcases h2 with h2|h2
   ·exact(G6 b h2).2
   ·exact .inr (Nat.le_trans S.frame.size h2)
  have Wv:∀gl,lH st (bv (bv st.sites dp) a.gone) gl:=fun gl m _ af hs=>by
   have h1:∀af,look (bv st.sites dp) m=some af->af.cy<bz st m:=fun af hs=>by
    rcases l5 ZC m with h|⟨s,t,xs,aA,bl⟩
    ·rw[h] at hs;exact l6 hs
    ·rw[bl] at hs;cases hs;rcases aA with aA|aA<;>(have q:=l6 aA;exact q)
   by_cases hk:m∈keys a.gone
   ·obtain⟨s,fS⟩:=zO hk;rw[EQ c1 fS] at hs;obtain⟨bZ,e1,_,br⟩:=Ee m s fS;rw[br] at hs;cases hs;exact h1 bZ e1
   ·rw[nV hk] at hs;exact h1 af hs
  rw[kc] at c3;obtain⟨d1,d2,d3⟩:=List.nodup_append.1 c3;rw[A.dG] at ZA;obtain⟨gM,dh,so⟩:=Rr st a.boxes (st:={st with sites:=bv (bv st.sites dp) a.gone}) l4 (nO.of fun o s hs=>(A.fv o s hs).2) ZA
   (fun o s hs=>EQ c1 (A.fv o s hs).1) L (Wv _) d1
  obtain⟨iv,eC,ks,_⟩:=ajP st ((au a.as).fp y) (2000000+d*10000) (st:={st with sites:=bv (bv (bv st.sites dp) a.gone) (gX st a.boxes ((au a.as).fv y))}) dh.jw atA so
   (lH.step (Wv _) (fun n h1 h2=>d3 n h1 n h2 rfl)) d2
  have N8:ar U Y X iv {st with sites:=bv st.sites (dp++a.gone++gX st a.boxes ((au a.as).fv y)++(ee st (2000000+d*10000) ((au a.as).fp y)).2)} M w':=by
   have:=eC.jw.shrink (X':=X) fun b hb=>.inl hb
   simpa only[lm] using this
  refine bT iv _ w' (ar.cY N8 Z (v:=Wi (ee st (2000000+d*10000) ((au a.as).fp y)).1) ?_);have WJ:pH iv (bv st.sites (dp++a.gone++gX st a.boxes ((au a.as).fv y)++(ee st (2000000+d*10000) ((au a.as).fp y)).2)) w'
    (aI X iv (bv st.sites (dp++a.gone++gX st a.boxes ((au a.as).fv y)++(ee st (2000000+d*10000) ((au a.as).fp y)).2))) (ee st (2000000+d*10000) ((au a.as).fp y)).1 rv:=by
   have e:(fun b=>X b\/b∈([]:List Nat))=X:=by funext b;simp
   rw[e] at ks;simpa only[lm] using ks
  generalize(ee st (2000000+d*10000) ((au a.as).fp y)).1=axb at WJ;match axb,rv,WJ with
  |[],[],h=>exact⟨[],rfl,rfl,fun j h=>by simp at h⟩
  |[l],[v],h=>exact h.2 0 (by simp) (by simp)
  |l::fC::ai,v::v2::cv,h=>exact⟨v::v2::cv,rfl,h.1,h.2⟩
 rcases E with⟨h1,h2⟩|⟨v,w',h1,h2⟩
 ·unfold Oper.wp;rw[dy,h1,Oper.upon_enter];refine h2.mono fun e w' he=>?_
  cases e with
  |returned v=>
   have:=core v w' he;cases dI:D.dst with
   |none=>rw[dI] at this;simpa[Act.put,cD] using this
   |some t=>rw[dI] at this;simpa[Act.put,cD] using this
  |panicked c=>exact he.elim
  |outgrown=>exact he.elim
 ·exact pj (dy.trans h1) (core v w' h2)
end
def CE(P:Program)(g:FuncId):Prop:=
 ∀(b:Nat) (p v:Value) (w:World),w.heap[b]? =some (.cells #[p,v] rS (0,0))->(p=.pointer none\/p=.pointer (some ⟨b,0,none⟩))->
  Enters P g #[.pointer (some ⟨b,0,none⟩)] w fun r w'=>r=.tuple #[]/\w'=w.setRow b #[.pointer (some ⟨b,0,none⟩),v]
def CY(P:Program)(g:FuncId):Prop:=
 ∀(b:Nat) (p v:Value) (T:TypeId) (xs:List Int) (w:World),w.heap[b]? =some (.cells #[p,v] T (0,0))->rowAt w true mN 1 v xs.length (xs.map (Value.int .u8))->
  Enters P g #[.pointer (some ⟨b,0,none⟩)] w fun r w'=>r=.string ⟨(strOf xs).toArray⟩/\w'.os=w.os/\w'.tape=w.tape/\w'.output=w.output/\w.heap.size<=w'.heap.size/\
   (∀c,c<w.heap.size->bQ v≠some c->w'.heap[c]? =w.heap[c]?)/\∀c cur e fz,bQ v=some c->w.heap[c]? =some (.cells cur e fz)->∃fz',w'.heap[c]? =some (.cells cur e fz')
section
variable {P:Program}{U:World}{Y:List Nat}{X:Nat->Prop}{F:Nat->Value}{st:al}{M:Array Value}{w:World}{D:Oper}
theorem ar.alf(S:ar U Y X F st M w){o s:Nat}{t:bf}{xs:List (den t)}(hl:look st.sites o=some (.row s t xs)){w':World}(h1:w'.os=w.os)(h2:w'.tape=w.tape)(h3:w'.output=w.output)(aA:w.heap.size<=w'.heap.size)
  (bl:∀c,c<w.heap.size->bQ (F o)≠some c->w'.heap[c]? =w.heap[c]?) (ca:∀c cur e fz,bQ (F o)=some c->w.heap[c]? =some (.cells cur e fz)->∃fz',w'.heap[c]? =some (.cells cur e fz')):
  ar U Y X F {st with sites:=cw st.sites o (.dq s t xs)} M w':=by
 have cQ:cq st.sites o:=⟨_,hl,rfl⟩;have ek:∀ab,cq (cw st.sites o (.dq s t xs)) ab->cq st.sites ab/\ab≠o:=by
  rintro ab ⟨af,h1,h2⟩;rw[c9] at h1;by_cases e:o=ab
  ·subst e;simp at h1;subst h1;cases h2
  ·simp only[e,if_false] at h1;exact⟨⟨af,h1,h2⟩,fun h=>e h.symm⟩
 have cc:∀bH,aI X F (cw st.sites o (.dq s t xs)) bH->aI X F st.sites bH:=by
  rintro bH (h|⟨ab,h1,h2⟩)
  ·exact .inl h
  ·exact .inr ⟨ab,(ek ab h1).1,h2⟩
 have aS:=S.frame;refine S.ra (fun ab af bU=>?_) (fun bH h hb=>bl bH hb (fun aj=>h (.inr ⟨o,cQ,aj⟩))) (fun bH h _ aj=>h (cc bH aj)) (fun go ab af bU=>?_) (fun ab ρ bH h1 h2=>S.eg ab ρ bH (ek ab h1).1 (ek ρ h2).1)
  (fun ab bH h=>S.ct ab bH (ek ab h).1) (fun ab bH h hb=>Nat.lt_of_lt_of_le (S.fL (ek ab h).1 hb) aA)
  ⟨h1.trans aS.os,h2.trans aS.tape,h3.trans aS.output,Nat.le_trans aS.size aA,fun b hb hn=>by
   have hs:=aS.size;rw[bl b (by omega) (fun aj=>by
    rcases(S.ct o b cQ aj).2 with aj|aj
    ·exact hn aj
    ·omega)]
   exact aS.block b hb hn⟩ aA
 ·rw[c9];by_cases e:o=ab
  ·subst e;rw[hl] at bU;cases bU;exact⟨.dq s t xs,by simp,Nat.le_refl _,fun _=>rfl⟩
  ·exact⟨af,by simp[e,bU],Nat.le_refl _,fun _=>rfl⟩
 ·rw[c9] at bU;by_cases e:o=ab
  ·subst e;simp only[if_true,Option.some.injEq] at bU;subst bU;refine .inr ?_
   show bK _ _ (.sl t xs) (F o)/\Dv (F o);obtain⟨cI,cs,aE,aF⟩:=S.sites o _ hl;rcases aE.2 with⟨hn,h0⟩|⟨g,cap,cur,fz,hv,_,hg,hnc,_,_,htk⟩
   ·have:xs=[]:=List.eq_nil_of_length_eq_zero h0;subst this;rw[hn];exact⟨.nil t,.inl rfl⟩
   ·obtain⟨fz',hg'⟩:=ca g cur cI fz (by rw[hv];rfl) hg
    rw[hv];refine⟨?_,.inr ⟨_,_,_,rfl⟩⟩;have hlen:cs.length=(flat t xs).length:=by rw[e9];exact aE.1
    refine .sl t xs _ cap cs xs.length rfl hnc (fun _=>?_) hlen (fun j u hu=>?_) (fun j g1 g2=>px go (aF j g1 g2))
    ·rintro(hx|⟨ab,g1,g2⟩)
     ·exact(S.ct o g cQ (by rw[hv];rfl)).1 hx
     ·obtain⟨g3,g4⟩:=ek ab g1;exact g4 (S.eg ab o g g3 cQ g2 (by rw[hv];rfl))
    ·rw[gW,Nat.zero_add,cell_of_row w' g j cur cI fz' hg'];rw[<-htk,List.getElem?_take] at hu;split at hu
     ·simpa using hu
     ·cases hu
  ·simp only[e,if_false] at bU;refine .inl ⟨bU,rfl,fun tT b hb=>bl b (S.fL ⟨_,bU,tT⟩ hb) fun h=>e (S.eg o ab b cQ ⟨_,bU,tT⟩ h hb)⟩
theorem Gc{g:FuncId}{vs:List Value}{post:Value->World->Prop}(dy:(execOp (Act.eval ⟨M,[]⟩) D).run P w=(callFunc g vs.toArray).run P w)(eI:Enters P g vs.toArray w post){K:Act->World->Prop}{Q:Exit->Act->World->Prop}
  (core:∀v w',post v w'->K ⟨cD M D.dst v,[]⟩ w'):D.wp P ⟨M,[]⟩ w K Q:=by
 rcases eI with⟨h1,h2⟩|⟨v,w',h1,h2⟩
 ·unfold Oper.wp;rw[dy,h1,Oper.upon_enter];refine h2.mono fun e w' he=>?_
  cases e with
  |returned v=>
   have:=core v w' he;cases dI:D.dst with
   |none=>rw[dI] at this;simpa[Act.put,cD] using this
   |some t=>rw[dI] at this;simpa[Act.put,cD] using this
  |panicked c=>exact he.elim
  |outgrown=>exact he.elim
 ·exact pj (dy.trans h1) (core v w' h2)
theorem alr(S:ar U Y X F st M w){g:FuncId}(eI:CE P g){cE:List a7}{vs:List Value}(hl:cE.length=vs.length)
  (hv:∀i (h:i<cE.length) (aj:i<vs.length),ck F st.sites w (aI X F st.sites) (cE[i]) (vs[i])) (Z:cr st D.dst=true) (dy:(execOp (Act.eval ⟨M,[]⟩) D).run P w=(callFunc g vs.toArray).run P w):
  Holds (copyV st cE) (cN P U Y X st M w D):=by
 unfold copyV;split
 ·rename_i o s;split
  ·rename_i aN l gJ;have gJ:look st.sites o=some (.box aN [.dz,l]):=gJ;cases lV:aN.beq s with
   |false=>exact .fail
   |true=>
    have:=Nat.eq_of_beq_eq_true lV;subst this;refine Holds.fH ?_
    intro K Q bT;match vs,hl,hv,dy with
    |[r3],_,hv,dy=>
    obtain⟨sg,hb0,lW⟩:ea F st.sites w (aI X F st.sites) (.ptr o aN 0) r3:=hv 0 (by simp) (by simp)
    have lW:=Ref.at lW gJ rfl;obtain⟨b,T,cur,e1,e2,br,da,eS,uS⟩:=S.sites o _ gJ;rw[e1] at lW;have lW:b=sg:=by cases lW;rfl
    subst lW;subst hb0;match cur,e2,br,da,eS,uS with
    |[p,v],e2,_,da,eS,uS=>
     obtain⟨rfl,hp⟩:=eS rfl;have hp:p=.pointer none\/p=.pointer (some ⟨b,0,none⟩):=by simpa using hp
     refine Gc dy (eI b p v w e2 hp) ?_
     rintro r w' ⟨rfl,rfl⟩;have cm:ar U Y X F {st with sites:=cw st.sites o (.box aN [.dz,l])} M (w.setRow b #[.pointer (some ⟨b,0,none⟩),v]):=by
      refine S.write gJ rfl rfl rfl (by rw[e1];rfl) e2 (fun hs hw hg' go=>⟨b,rS,[.pointer (some ⟨b,0,none⟩),v],e1,hg',rfl,fun u hu=>?_,fun _=>⟨rfl,.inr rfl⟩,fun j h aj=>?_⟩)
      ·rcases List.mem_cons.1 hu with rfl|hu
       ·rfl
       ·exact da u (List.mem_cons_of_mem _ hu)
      ·match j,h,aj with
       |0,_,_=>trivial
       |1,_,_=>exact go (a:=b6 l) (uS 1 (by simp) (by simp))
     exact bT _ _ _ (ar.cY (us:=[(o,.box aN [.dz,l])]) cm Z (v:=.j3 []) ⟨[],rfl,rfl,fun j h=>by simp at h⟩)
  ·exact .fail
 ·exact .fail
theorem ajO{av:Nat->Prop}{xs:List Int}{cs:List Value}(h0:cs.length=xs.length)(h:∀j (h:j<(flat .u8 (xs:List (den .u8))).length) (aj:j<cs.length),bK w av ((flat .u8 (xs:List (den .u8)))[j]) (cs[j])):cs=xs.map (Value.int .u8):=by
 refine List.ext_getElem (by rw[List.length_map];exact h0) fun j g1 g2=>?_
 have acy:j<xs.length:=by simpa using g2
 have:=h j (by rw[e9];simpa[bd] using acy) g1
 rw[List.getElem_map];generalize Z:(flat .u8 (xs:List (den .u8)))[j]'(by rw[e9];simpa[bd] using acy)=d at this
 have hd2:d=.int .u8 xs[j]:=by
  rw[<-Z];simp only[s0,List.getElem_map]
 subst hd2;generalize cs[j]=v at this;cases this;rfl
theorem agE(S:ar U Y X F st M w){g:FuncId}(eI:CY P g){cE:List a7}{vs:List Value}(hl:cE.length=vs.length)
  (hv:∀i (h:i<cE.length) (aj:i<vs.length),ck F st.sites w (aI X F st.sites) (cE[i]) (vs[i])) (Z:cr st D.dst=true) (dy:(execOp (Act.eval ⟨M,[]⟩) D).run P w=(callFunc g vs.toArray).run P w):
  Holds (sQ st cE) (cN P U Y X st M w D):=by
 unfold sQ;split
 ·rename_i o s;match vs,hl,hv,dy with
  |[r3],_,hv,dy=>
  have nG:ea F st.sites w (aI X F st.sites) (.ptr o s 0) r3:=hv 0 (by simp) (by simp)
  split
  ·rename_i adH mu;have gJ:=gR mu;obtain⟨b,T,cur,cV,rfl,hg,_,hc⟩:=S.box gJ nG;refine Holds.ok ?_
   intro K Q bT;obtain⟨p,r1,rfl,_,hc⟩:=hc.inv;obtain⟨v,r2,rfl,xF,hc⟩:=hc.inv;have:r2=[]:=List.eq_nil_of_length_eq_zero hc.1;subst this;have xF:v=.slice none 0 0:=xF;subst xF;refine Gc dy (eI b p _ T [] w hg (FN w true mN 1)) ?_
   rintro r w' ⟨rfl,aE,aF,bJ,cL,fV,iB⟩;have dA:=S.jump (w':=w') (fun c _ hc=>fV c hc (by simp[bQ])) cL ⟨aE.trans S.frame.os,aF.trans S.frame.tape,bJ.trans S.frame.output,Nat.le_trans S.frame.size cL,fun c hc hn=>by
    rw[fV c (Nat.lt_of_lt_of_le hc S.frame.size) (by simp[bQ])]
    exact S.frame.block c hc hn⟩
   have ie:ar U Y X F {st with sites:=bv st.sites []} M w':=dA.shrink fun b hb=>.inl hb
   exact bT _ _ _ (ar.cY (us:=[]) ie Z (v:=one (.str [])) (bK.str _ _ rfl))
  ·rename_i adH ab u mu;have gJ:=gR mu;obtain⟨b,T,cur,cV,rfl,hg,_,hc⟩:=S.box gJ nG;split
   ·rename_i bV xs hrow;have hrow:look st.sites ab=some (.row bV .u8 xs):=hrow;cases axx:bV.beq u with
    |false=>exact .fail
    |true=>
     have:=Nat.eq_of_beq_eq_true axx;subst this;refine Holds.fH ?_
     intro K Q bT;obtain⟨p,r1,rfl,_,hc⟩:=hc.inv;obtain⟨v,r2,rfl,xF,hc⟩:=hc.inv;have:r2=[]:=List.eq_nil_of_length_eq_zero hc.1;subst this;have Zl:v=F ab:=Ref.at xF.2 hrow rfl;obtain⟨e,cs,h1,h2⟩:=S.sites ab _ hrow;have hlen:cs.length=xs.length:=by have:=h1.1;simpa[bd] using this
     have hcs:cs=List.map (Value.int .u8) xs:=ajO hlen h2;have lN:rowAt w true mN 1 v xs.length (List.map (Value.int .u8) xs):=by
      rw[<-hcs,Zl];refine⟨h1.1,?_⟩;rcases h1.2 with h|⟨cB,cap,cur',fz,q1,q2,dF⟩
      ·exact .inl h
      ·have:=q2.1 rfl;subst this;exact .inr ⟨cB,cap,cur',fz,q1,q2,dF⟩
     refine Gc dy (eI b p v T xs w hg lN) ?_
     rintro r w' ⟨rfl,aE,aF,bJ,cL,fV,iB⟩;rw[Zl] at fV iB;have ie:=S.alf hrow aE aF bJ cL fV iB;exact bT _ _ _ (ar.cY (us:=[(ab,.dq bV .u8 xs)]) ie Z (v:=one (.str (strOf xs))) (bK.str _ _ (by simp)))
   ·exact .fail
  ·exact .fail
 ·exact .fail
end
def By(P:Program)(g cB:FuncId):Prop:=
 ∀(a b:ByteArray) (w:World),Enters P g #[.string a,.string b] w fun v w'=>∃dh eC,v=.func (.func cB) #[] #[.pointer (some ⟨w.heap.size+1,0,none⟩),.pointer (some ⟨w.heap.size,0,none⟩),.pointer (some ⟨w.heap.size+2,0,none⟩)]/\
  w'=((w.alloc (.cells #[.string a] dh)).alloc (.cells #[.string b] dh)).alloc (.cells #[.int .i64 0] eC)
def CC(P:Program)(g:FuncId):Prop:=
 ∀(xs:List Int) (v:Value) (w:World) (av:Nat->Prop),bK w av (.sl .u8 xs) v->Enters P g #[v] w fun v' w'=>∃u T,bK w av (.sl .u8 (xs.take 2000)) u/\v'=.pointer (some ⟨w.heap.size,0,none⟩)/\w'=w.alloc (.cells #[u,.int .i64 0] T)
structure aR(P:Program)(C:Ctx):Prop extends CtxOk P C where
 bR:∀g S,C.bR g=some S->aB P g S
 NO:P.follows .mixedOrders=true
 lZ:∀g cB,C.lZ g=some cB->By P g cB
 op:∀g,C.op g=true->CC P g
 kD:∀g,C.kD g=true->CE P g
 bs:∀g,C.bs g=true->CY P g
section
variable {P:Program}{U:World}{Y:List Nat}{X:Nat->Prop}{F:Nat->Value}{st:al}{M:Array Value}{w:World}{D:Oper}
theorem Q_:∀{bE:List (Nat×Nat)} {cs:List (List bh)} {us:List (Nat×Site)} {bs:List Nat},lx st bE=some (cs,us,bs)->dT st.sites us/\∀o,o∈bs->cq st.sites o:=by
 intro bE;induction bE with
 |nil=>intro cs us bs h;simp only[lx] at h;cases h;exact⟨.nil,fun o h=>by simp at h⟩
 |cons c bE ih=>
  obtain⟨o,s⟩:=c;intro cs us bs h;simp only[lx] at h;split at h
  ·rename_i cells mu;split at h
   ·rename_i ds u1 rest u2 b2 gN pC;cases h;obtain⟨aE,aF⟩:=ih pC;refine⟨(I5 gN).append aE,fun ab bU=>?_⟩
    rcases List.mem_cons.1 bU with rfl|bU
    ·exact⟨_,gR mu,rfl⟩
    ·exact aF ab bU
   ·cases h
  ·cases h
theorem Ig{l gC:aQ}{us:List (Nat×Site)}{bs:List Nat}(h:nr st l=some (gC,us,bs)):dT st.sites us/\∀o,o∈bs->cq st.sites o:=by
 unfold nr at h;split at h
 ·cases h;exact⟨.nil,fun o h=>by simp at h⟩
 ·split at h
  ·rename_i hc;cases h;exact Q_ hc
  ·cases h
 ·split at h
  ·rename_i Z;cases h;exact⟨VL Z,fun o h=>by simp at h⟩
  ·cases h
theorem ak0:∀{ai gy:List aQ} {us:List (Nat×Site)} {bs:List Nat},mi st ai=some (gy,us,bs)->dT st.sites us/\∀o,o∈bs->cq st.sites o:=by
 intro ai;induction ai with
 |nil=>intro gy us bs h;simp only[mi] at h;cases h;exact⟨.nil,fun o h=>by simp at h⟩
 |cons l ai ih=>
  intro gy us bs h;simp only[mi] at h;split at h
  ·rename_i a u1 b1 as u2 b2 h1 h2;cases h;obtain⟨aE,aF⟩:=Ig h1;obtain⟨bJ,cL⟩:=ih h2;refine⟨aE.append bJ,fun o bA=>?_⟩
   rcases List.mem_append.1 bA with h|h
   ·exact aF o h
   ·exact cL o h
  ·cases h
theorem aiQ:∀{cE:List a7} {a:kv},jo st cE=some a->dT st.sites a.eW/\∀o,o∈a.fZ->cq st.sites o:=by
 intro cE;induction cE with
 |nil=>intro a h;simp only[jo] at h;cases h;exact⟨.nil,fun o h=>by simp at h⟩
 |cons r_ cE ih=>
  intro a h;unfold jo at h;split at h
  ·cases ‹r_::cE=[]›
  ·rename_i b7;cases b7;split at h
   ·rename_i hr;split at h
    ·cases h;have q:=ih hr;exact q
    ·cases h
   ·cases h
  ·rename_i b7;cases b7;split at h
   ·rename_i h1 hr;cases h;obtain⟨aE,aF⟩:=Ig h1;obtain⟨bJ,cL⟩:=ih hr;refine⟨aE.append bJ,fun o bA=>?_⟩
    rcases List.mem_append.1 bA with h|h
    ·exact aF o h
    ·exact cL o h
   ·cases h
  ·rename_i b7;cases b7;split at h
   ·rename_i h1 hr;cases h;obtain⟨aE,aF⟩:=ak0 h1;obtain⟨bJ,cL⟩:=ih hr;refine⟨aE.append bJ,fun o bA=>?_⟩
    rcases List.mem_append.1 bA with h|h
    ·exact aF o h
    ·exact cL o h
   ·cases h
  ·cases h
theorem ai8{l gC:aQ}{gs us:List (Nat×Site)}{bs:List Nat}(h:pq st l=some (gC,gs,us,bs)):dT st.sites us/\∀o,o∈bs->cq st.sites o:=by
 unfold pq at h;split at h
 ·split at h
  ·cases h;exact⟨.nil,fun o h=>by simp at h⟩
  ·cases h
 ·cases h;exact⟨.nil,fun o h=>by simp at h⟩
 ·split at h
  ·rename_i hl;cases h;exact Ig hl
  ·cases h
theorem ag5:∀{cE:List a7} {a:kv},ma st cE=some a->dT st.sites a.eW/\∀o,o∈a.fZ->cq st.sites o:=by
 intro cE;induction cE with
 |nil=>intro a h;simp only[ma] at h;cases h;exact⟨.nil,fun o h=>by simp at h⟩
 |cons r_ cE ih=>
  intro a h;unfold ma at h;split at h
  ·cases ‹r_::cE=[]›
  ·rename_i b7;cases b7;split at h
   ·rename_i h1 hr;cases h;obtain⟨aE,aF⟩:=ai8 h1;obtain⟨bJ,cL⟩:=ih hr;refine⟨aE.append bJ,fun o bA=>?_⟩
    rcases List.mem_append.1 bA with h|h
    ·exact aF o h
    ·exact cL o h
   ·cases h
  ·cases h
theorem ag3{b:Bool}{cE:List a7}{a:kv}(h:sR b st cE=some a):dT st.sites a.eW/\∀o,o∈a.fZ->cq st.sites o:=by
 cases b
 ·exact aiQ h
 ·exact ag5 h
theorem apj(S:ar U Y X F st M w)(C:Ctx):∀(xs:List Operand) (cZ:List TypeId),(gA C st xs cZ).length=(xs.map (Act.eval ⟨M,[]⟩)).length/\
  ∀i (h:i<(gA C st xs cZ).length) (aj:i<(xs.map (Act.eval ⟨M,[]⟩)).length),ck F st.sites w (aI X F st.sites) ((gA C st xs cZ)[i]) ((xs.map (Act.eval ⟨M,[]⟩))[i]):=by
 intro xs;induction xs with
 |nil=>intro cZ;cases cZ<;>exact⟨rfl,fun i h=>by simp[gA] at h⟩
 |cons x xs ih=>
  intro cZ;have key:∀(T:TypeId) (Nb:List TypeId),gA C st (x::xs) cZ=bg C st T x::gA C st xs Nb->(gA C st (x::xs) cZ).length=((x::xs).map (Act.eval ⟨M,[]⟩)).length/\
    ∀i (h:i<(gA C st (x::xs) cZ).length) (aj:i<((x::xs).map (Act.eval ⟨M,[]⟩)).length),ck F st.sites w (aI X F st.sites) ((gA C st (x::xs) cZ)[i]) (((x::xs).map (Act.eval ⟨M,[]⟩))[i]):=by
   intro T Nb e;obtain⟨aE,aF⟩:=ih Nb;refine⟨by rw[e];simp[aE],fun i h aj=>?_⟩
   simp only[e];cases i with
   |zero=>exact dH S C T x
   |succ i=>
    simp only[List.getElem_cons_succ,List.map_cons];exact aF i (by simpa[e] using h) (by simpa using aj)
  cases cZ with
  |nil=>exact key 0 [] rfl
  |cons T cZ=>exact key T cZ rfl
theorem ah1(S:ar U Y X F st M w){g cB:FuncId}(eI:By P g cB){n:Nat}{cE:List a7}{vs:List Value}(hl:cE.length=vs.length)
  (hv:∀i (h:i<cE.length) (aj:i<vs.length),ck F st.sites w (aI X F st.sites) (cE[i]) (vs[i])) (Z:cr st D.dst=true) (dy:(execOp (Act.eval ⟨M,[]⟩) D).run P w=(callFunc g vs.toArray).run P w):
  Holds (s8 cB n st cE) (cN P U Y X st M w D):=by
 unfold s8;split
 ·rename_i s p;refine Holds.fH ?_
  intro K Q bT;match vs,hl,hv,dy with
  |[r3,vb],_,hv,dy=>
  obtain⟨a,ha,fr⟩:=gF (hv 0 (by simp) (by simp))
  obtain⟨b,hb,ec⟩:=gF (hv 1 (by simp) (by simp))
  simp only[List.getElem_cons_zero,List.getElem_cons_succ] at ha hb;subst ha hb;have core:∀v w',(∃dh eC,v=.func (.func cB) #[] #[.pointer (some ⟨w.heap.size+1,0,none⟩),.pointer (some ⟨w.heap.size,0,none⟩),.pointer (some ⟨w.heap.size+2,0,none⟩)]/\
    w'=((w.alloc (.cells #[.string a] dh)).alloc (.cells #[.string b] dh)).alloc (.cells #[.int .i64 0] eC))->K ⟨cD M D.dst v,[]⟩ w':=by
   rintro v w' ⟨dh,eC,rfl,hw⟩;have hsz:w'.heap.size=w.heap.size+3:=by rw[hw];simp
   have hold:∀b,b<w.heap.size->w'.heap[b]? =w.heap[b]? :=fun b hb=>by
    rw[hw];rw[RowKit.Below.heap_alloc _ _ _ (by simp;omega),RowKit.Below.heap_alloc _ _ _ (by simp;omega),RowKit.Below.heap_alloc _ _ _ hb]
   have h0:w'.heap[w.heap.size]? =some (.cells #[.string a] dh):=by
    rw[hw,RowKit.Below.heap_alloc _ _ _ (by simp only[World.size_alloc];omega),RowKit.Below.heap_alloc _ _ _ (by simp only[World.size_alloc];omega)];exact World.alloc_heap_new w _
   have h1:w'.heap[w.heap.size+1]? =some (.cells #[.string b] dh):=by
    rw[hw,RowKit.Below.heap_alloc _ _ _ (by simp only[World.size_alloc];omega)]
    have:=World.alloc_heap_new (w.alloc (.cells #[.string a] dh)) (.cells #[.string b] dh);rwa[World.size_alloc] at this
   have h2:w'.heap[w.heap.size+2]? =some (.cells #[.int .i64 0] eC):=by
    rw[hw];have:=World.alloc_heap_new ((w.alloc (.cells #[.string a] dh)).alloc (.cells #[.string b] dh)) (.cells #[.int .i64 0] eC);rwa[World.size_alloc,World.size_alloc] at this
   have MO:Fr Y U w':=⟨by rw[hw];exact S.frame.os,by rw[hw];exact S.frame.tape,by rw[hw];exact S.frame.output,by have:=S.frame.size;omega,fun b hb hn=>by
    have:=S.frame.size;rw[hold b (by omega)];exact S.frame.block b hb hn⟩
   have pz:=S.frame.size;have dA:=S.jump (w':=w') (fun b _ hb=>hold b hb) (by omega) MO
   have mk:∀{F:Nat->Value} {sites:List (Nat×Site)} {av:Nat->Prop} {m k:Nat} {T:TypeId} {x:Value} {d:bh},F m=.pointer (some ⟨k,0,none⟩)->w'.heap[k]? =some (.cells #[x] T)->bK w' av d x->
     kj F sites w' av m (.box (bz st m) [.d d]):=by
    intro F sites av m k T x d e1 e2 br;refine⟨k,T,[x],e1,e2,rfl,fun u hu=>?_,(fun h=>by cases h),fun j h aj=>?_⟩
    ·rw[List.mem_singleton.1 hu];exact br.jM
    ·match j,h,aj with
     |0,_,_=>exact br
   obtain⟨On,_,_⟩:=dA.wM (X':=fun b=>(X b\/(w.heap.size<=b/\b<w'.heap.size))/\b≠w.heap.size+1) (n:=n) (bZ:=.box (bz st n) [.d (.str p)]) (nv:=.pointer (some ⟨w.heap.size+1,0,none⟩)) (fun b h=>h.1)
    (.inl fun af h=>l6 h) (fun b h=>by simp only[bQ,Option.some.injEq] at h;subst h;exact⟨.inr ⟨by omega,by omega⟩,fun h=>h.2 rfl,.inr (by omega)⟩) (fun _ e _ _=>mk e h1 (.str _ _ ec))
   obtain⟨Om,_,_⟩:=On.wM (X':=fun b=>((X b\/(w.heap.size<=b/\b<w'.heap.size))/\b≠w.heap.size+1)/\b≠w.heap.size) (n:=n+1) (bZ:=.box (bz st (n+1)) [.d (.str s)]) (nv:=.pointer (some ⟨w.heap.size,0,none⟩)) (fun b h=>h.1)
    (.inl fun af h=>by
     have h:look (cw st.sites n _) (n+1)=some af:=h;rw[c9,if_neg (by omega)] at h
     exact l6 h) (fun b h=>by simp only[bQ,Option.some.injEq] at h;subst h;exact⟨⟨.inr ⟨by omega,by omega⟩,by omega⟩,fun h=>h.2 rfl,.inr (by omega)⟩) (fun _ e _ _=>mk e h0 (.str _ _ fr))
   obtain⟨Ol,_,_⟩:=Om.wM (X':=X) (n:=n+2) (bZ:=.box (bz st (n+2)) [.d (.int .i64 0)]) (nv:=.pointer (some ⟨w.heap.size+2,0,none⟩)) (fun b h=>by have:=S.old b h;exact⟨⟨.inl h,by omega⟩,by omega⟩)
    (.inl fun af h=>by
     have h:look (cw (cw st.sites n _) (n+1) _) (n+2)=some af:=h;rw[c9,if_neg (by omega),c9,if_neg (by omega)] at h
     exact l6 h) (fun b h=>by simp only[bQ,Option.some.injEq] at h;subst h;exact⟨⟨⟨.inr ⟨by omega,by omega⟩,by omega⟩,by omega⟩,fun h=>by have:=S.old _ h;omega,.inr (by omega)⟩) (fun _ e _ _=>mk e h2 (.int _ _))
   refine bT _ _ w' (ar.cY (us:=[(n,.box (bz st n) [.d (.str p)]),(n+1,.box (bz st (n+1)) [.d (.str s)]),(n+2,.box (bz st (n+2)) [.d (.int .i64 0)])]) Ol Z (v:=b6 (.clo cB _)) ?_);refine⟨[.pointer (some ⟨w.heap.size+1,0,none⟩),.pointer (some ⟨w.heap.size,0,none⟩),.pointer (some ⟨w.heap.size+2,0,none⟩)],rfl,rfl,fun i hi jB=>?_⟩
   match i,hi,jB with
   |0,_,_=>exact⟨.box (bz st n) [.d (.str p)],by simp[bv,c9],Nat.le_refl _,fun _=>by simp⟩
   |1,_,_=>exact⟨.box (bz st (n+1)) [.d (.str s)],by simp[bv,c9],Nat.le_refl _,fun _=>by simp⟩
   |2,_,_=>exact⟨.box (bz st (n+2)) [.d (.int .i64 0)],by simp[bv,c9],Nat.le_refl _,fun _=>by simp⟩
  rcases eI a b w with⟨h1,h2⟩|⟨v,w',h1,h2⟩
  ·unfold Oper.wp;rw[dy,h1,Oper.upon_enter];refine h2.mono fun e w' he=>?_
   cases e with
   |returned v=>
    have:=core v w' he;cases dI:D.dst with
    |none=>rw[dI] at this;simpa[Act.put,cD] using this
    |some t=>rw[dI] at this;simpa[Act.put,cD] using this
   |panicked c=>exact he.elim
   |outgrown=>exact he.elim
  ·exact pj (dy.trans h1) (core v w' h2)
 ·exact .fail
theorem akN(S:ar U Y X F st M w){g:FuncId}(eI:CC P g){n:Nat}{cE:List a7}{vs:List Value}(hl:cE.length=vs.length)
  (hv:∀i (h:i<cE.length) (aj:i<vs.length),ck F st.sites w (aI X F st.sites) (cE[i]) (vs[i])) (Z:cr st D.dst=true) (dy:(execOp (Act.eval ⟨M,[]⟩) D).run P w=(callFunc g vs.toArray).run P w):
  Holds (tw n st cE) (cN P U Y X st M w D):=by
 unfold tw;split
 ·rename_i xs;refine Holds.fH ?_
  intro K Q bT;match vs,hl,hv,dy with
  |[r3],_,hv,dy=>
  have dV:bK w (aI X F st.sites) (.sl .u8 xs) r3:=hv 0 (by simp) (by simp)
  have core:∀v w',(∃u T,bK w (aI X F st.sites) (.sl .u8 (xs.take 2000)) u/\v=.pointer (some ⟨w.heap.size,0,none⟩)/\w'=w.alloc (.cells #[u,.int .i64 0] T))->K ⟨cD M D.dst v,[]⟩ w':=by
   rintro v w' ⟨u,T,hu,rfl,hw⟩;have hsz:w'.heap.size=w.heap.size+1:=by rw[hw];simp
   have hold:∀b,b<w.heap.size->w'.heap[b]? =w.heap[b]? :=fun b hb=>by
    rw[hw,RowKit.Below.heap_alloc _ _ _ hb]
   have h0:w'.heap[w.heap.size]? =some (.cells #[u,.int .i64 0] T):=by rw[hw];exact World.alloc_heap_new w _
   have MO:Fr Y U w':=⟨by rw[hw];exact S.frame.os,by rw[hw];exact S.frame.tape,by rw[hw];exact S.frame.output,by have:=S.frame.size;omega,fun b hb hn=>by
    have:=S.frame.size;rw[hold b (by omega)];exact S.frame.block b hb hn⟩
   have pz:=S.frame.size;have dA:=S.jump (w':=w') (fun b _ hb=>hold b hb) (by omega) MO
   have gD:∀b,X b->b<w.heap.size:=S.old;have atn:∀b,aI (fun b=>X b\/(w.heap.size<=b/\b<w'.heap.size)) F st.sites b->b<w'.heap.size:=fun b hb=>dA.lt hb
   have Mq:ck F st.sites w' (aI (fun b=>X b\/(w.heap.size<=b/\b<w'.heap.size)) F st.sites) (one (.sl .u8 (xs.take 2000))) u:=by
    have G:ir F F st.sites st.sites w w' (aI X F st.sites) (aI (fun b=>X b\/(w.heap.size<=b/\b<w'.heap.size)) F st.sites):=
     ⟨fun ab s h=>⟨s,h,Nat.le_refl _,fun _=>rfl⟩,fun b _ ec=>hold b ec,fun b hb ec aj=>by
      rcases aj with(aj|aj)|aj
      ·exact hb (.inl aj)
      ·omega
      ·exact hb (.inr aj)⟩
    exact ck.goes (a:=one (.sl .u8 (xs.take 2000))) G (by omega) atn hu
   obtain⟨On,aCc,aCq⟩:=dA.wM (X':=X) (n:=n) (bZ:=.box (bz st n) [.d (.sl .u8 (xs.take 2000)),.d (.int .i64 0)]) (nv:=.pointer (some ⟨w.heap.size,0,none⟩)) (fun b h=>.inl h)
    (.inl fun af h=>l6 h) (fun b h=>by simp only[bQ,Option.some.injEq] at h;subst h;exact⟨.inr ⟨by omega,by omega⟩,fun h=>by have:=gD _ h;omega,.inr (by omega)⟩) (fun hs e go _=>by
     have Mp:=go Mq;refine⟨w.heap.size,T,[u,.int .i64 0],e,h0,rfl,fun x hx=>?_,(fun h=>by cases h),fun j h aj=>?_⟩
     ·rcases List.mem_cons.1 hx with rfl|hx
      ·exact bK.jM hu
      ·rw[List.mem_singleton.1 hx];rfl
     ·match j,h,aj with
      |0,_,_=>exact Mp
      |1,_,_=>exact bK.int .i64 0)
   refine bT _ _ w' (ar.cY (us:=[(n,.box (bz st n) [.d (.sl .u8 (xs.take 2000)),.d (.int .i64 0)])]) On Z (v:=b6 (.ptr n (bz st n) 0)) ?_);exact⟨w.heap.size,rfl,.box (bz st n) [.d (.sl .u8 (xs.take 2000)),.d (.int .i64 0)],by simp[bv,c9],Nat.le_refl _,fun _=>by simp⟩
  rcases eI xs r3 w _ dV with⟨h1,h2⟩|⟨v,w',h1,h2⟩
  ·unfold Oper.wp;rw[dy,h1,Oper.upon_enter];refine h2.mono fun e w' he=>?_
   cases e with
   |returned v=>
    have:=core v w' he;cases dI:D.dst with
    |none=>rw[dI] at this;simpa[Act.put,cD] using this
    |some t=>rw[dI] at this;simpa[Act.put,cD] using this
   |panicked c=>exact he.elim
   |outgrown=>exact he.elim
  ·exact pj (dy.trans h1) (core v w' h2)
 ·exact .fail
theorem Pk(S:ar U Y X F st M w){C:Ctx}(H:aR P C){c:Go.Call}{f:Operand}(aM:D.op=.call c)(hf:c.callee=.value f)(Z:cr st D.dst=true)(d:Nat)(T:TypeId):
  Holds (l' C d st (bg C st T f) (gA C st c.args.toList c.argTypes.toList)) (cN P U Y X st M w D):=by
 have bC:=dH S C T f;obtain⟨e1,e2⟩:=apj S C c.args.toList c.argTypes.toList;have run:∀{g:FuncId} {fc:List Value},Act.eval ⟨M,[]⟩ f=.func (.func g) #[] fc.toArray->
   (execOp (Act.eval ⟨M,[]⟩) D).run P w=(callFunc g (c.args.toList.map (Act.eval ⟨M,[]⟩)++fc).toArray).run P w:=by
  intro g fc hv;have yg:(#[]++c.args.map (Act.eval ⟨M,[]⟩))++fc.toArray=(c.args.toList.map (Act.eval ⟨M,[]⟩)++fc).toArray:=by apply Array.ext';simp
  unfold execOp;simp only[aM,resolve,hf,hv,Deferred.ofValue,Sem.run_bind,Sem.run_pure,Result.andThen_ok,invoke,yg]
 have go:∀{g:FuncId} {au:aD} {a:kv} {cs:List (List bh)} {us:List (Nat×Site)} {bs:List Nat} {fc:List Value} {gb:Bool},C.bR g=some au->sR gb st (gA C st c.args.toList c.argTypes.toList)=some a->
   Act.eval ⟨M,[]⟩ f=.func (.func g) #[] fc.toArray->(dT st.sites us/\∀o,o∈bs->cq st.sites o)->
   (∀{dp e7 av},fE U Y X F st M w dp e7 av->(∀p,p∈us->p∈dp)->(∀o,o∈bs->o∈e7)->kL w av cs fc)->
   Holds (pG d st au {a with as:=a.as++oe cs,eW:=a.eW++us,fZ:=a.fZ++bs}) (cN P U Y X st M w D):=by
  intro g au a cs us bs fc gb hg ha hv hz hcap;obtain⟨fg,z2⟩:=ag3 ha;have hfz:dT st.sites (a.eW++us):=fg.append hz.1;have Eb:fE U Y X F st M w (a.eW++us) (a.fZ++bs) (fun _=>False):=⟨⟨S,hfz⟩,fun b h=>h.elim,fun _ _ _ _ h=>h⟩
  obtain⟨m1,m2,m3,m4⟩:=PE Eb ha e1 e2 (fun p hp=>List.mem_append.2 (.inl hp)) (fun p hp=>List.mem_append.2 (.inl hp))
  refine alu (a:={a with as:=a.as++oe cs,eW:=a.eW++us,fZ:=a.fZ++bs}) S (H.bR g au hg) (vs:=c.args.toList.map (Act.eval ⟨M,[]⟩)++fc) ⟨hfz,fun o bA=>?_,m2,fun av dK=>?_,?_,m4⟩ Z (run hv)
  ·rcases List.mem_append.1 bA with h|h
   ·exact z2 o h
   ·exact hz.2 o h
  ·obtain⟨n1,_,_,_⟩:=PE dK ha e1 e2 (fun p hp=>List.mem_append.2 (.inl hp)) (fun p hp=>List.mem_append.2 (.inl hp))
   have n2:=ahm (hcap dK (fun p hp=>List.mem_append.2 (.inr hp)) (fun p hp=>List.mem_append.2 (.inr hp)))
   have:=n1.append n2;rwa[List.append_nil] at this
  ·show dZ (a.as++oe cs) _=_;rw[OM m1.length,m3,aho,List.append_nil]
 unfold l';split
 ·rename_i g bE MP;rw[MP] at bC;obtain⟨fc,h1,h2,h3⟩:=bC;split
  ·rename_i cB j6;split
   ·have hcv:fc=[]:=List.eq_nil_of_length_eq_zero (by simpa using h2)
    subst hcv;have r:=run h1;rw[List.append_nil] at r;exact ah1 S (H.lZ g cB j6) e1 e2 Z r
   ·exact .fail
  ·cases My:C.op g with
   |true=>
    simp only[cond_true];split
    ·have hcv:fc=[]:=List.eq_nil_of_length_eq_zero (by simpa using h2)
     subst hcv;have r:=run h1;rw[List.append_nil] at r;exact akN S (H.op g My) e1 e2 Z r
    ·exact .fail
   |false=>
    simp only[cond_false];have Wt:bE=[]->(execOp (Act.eval ⟨M,[]⟩) D).run P w=(callFunc g (c.args.toList.map (Act.eval ⟨M,[]⟩)).toArray).run P w:=by
     rintro rfl;have hcv:fc=[]:=List.eq_nil_of_length_eq_zero (by simpa using h2)
     subst hcv;have r:=run h1;rwa[List.append_nil] at r
    cases acm:C.kD g with
    |true=>
     simp only[cond_true];split
     ·exact alr S (H.kD g acm) e1 e2 Z (Wt rfl)
     ·exact .fail
    |false=>
     simp only[cond_false];cases ez:C.bs g with
     |true=>
      simp only[cond_true];split
      ·exact agE S (H.bs g ez) e1 e2 Z (Wt rfl)
      ·exact .fail
     |false=>
      simp only[cond_false];split
      ·rename_i au a cs us bs hg ha hc;exact go hg ha h1 (Q_ hc) (fun dK hu hb=>Q9 dK hc hu hb h2 h3)
      ·exact .fail
 ·rename_i g bE MP;rw[MP] at bC;obtain⟨fc,h1,_⟩:=kL.Wl bC;split
  ·rename_i au a hg ha;have:=go (us:=[]) (bs:=[]) (cs:=bE) (gb:=false) hg ha h1 ⟨.nil,fun o h=>by simp at h⟩ (fun {dp e7 av} dK _ _=>by
    obtain⟨aB0,aE,aF⟩:=kL.Wl (dK.xp (bC:bK w (aI X F st.sites) (.fn g bE) _));rw[h1] at aE;simp only[Value.func.injEq,Fn.func.injEq,true_and] at aE;have e:=congrArg Array.toList aE;simp only at e;rw[e];exact aF)
   simpa only[List.append_nil] using this
  ·exact .fail
 ·exact .fail
theorem alT(S:ar U Y X F st M w){C:Ctx}(H:aR P C)(Z:cr st D.dst=true):Holds (step C st D) (cN P U Y X st M w D):=by
 unfold step;split
 ·rename_i x aM;exact Holds.ok (Tt S (.inl aM) Z _)
 ·rename_i x aM;exact Holds.ok (Tt S (.inr aM) Z _)
 ·rename_i c a b aM;split
  ·rename_i hc;exact Holds.ok (Tl S aM Z hc)
  ·rename_i hc;exact Holds.ok (Tl S aM Z hc)
  ·exact .fail
 ·rename_i elem aM;split
  ·rename_i o e t n dI bk;exact ajo S H.toCtxOk bk aM Z
  ·rename_i o dI _;split
   ·rename_i z hz;exact Holds.fH (alC S H.toCtxOk aM dI hz Z)
   ·exact .fail
  ·exact .fail
 ·rename_i elem x aM;split
  ·rename_i o e t n dI bk;exact anG S H.toCtxOk bk aM Z
  ·rename_i o dI _;split
   ·rename_i a ha;cases dU:hL a.cells with
    |false=>exact .fail
    |true=>
     have bC:=dH S C elem x;rw[qw ha] at bC;exact Holds.fH (apr S aM dI bC dU Z)
   ·exact .fail
  ·exact .fail
 ·rename_i t parts aM;split
  ·rename_i bR n z eq bk;exact alv S H.toCtxOk bk aM Z
  ·rename_i e ty n bk;split
   ·rename_i z hz;exact ajl S H.toCtxOk bk hz aM Z
   ·exact .fail
  ·exact .fail
 ·rename_i t len parts aM;split
  ·rename_i o e ty bytes dI bk;cases hb:(parts.toList.length.beq len&&sU 0 parts.toList&&Nat.ble (len*bd ty) 1000) with
   |false=>exact .fail
   |true=>
    simp only[Bool.and_eq_true] at hb;obtain⟨⟨b1,b2⟩,b3⟩:=hb;simp only[cond_true];split
    ·rename_i as has;split
     ·rename_i xs us kt;exact Holds.fH (aeL S H.toCtxOk bk aM dI Z (Nat.eq_of_beq_eq_true b1) b2 (Nat.le_of_ble_eq_true b3) has kt)
     ·exact .fail
    ·exact .fail
  ·exact .fail
 ·rename_i t a aM;split
  ·rename_i e ty n bk;exact akV S H.toCtxOk bk aM Z
  ·cases hk:(C.tt t).known with
   |false=>exact .fail
   |true=>exact am9 S H.toCtxOk aM Z hk
 ·rename_i t a x aM;split
  ·rename_i v hv;split
   ·rename_i e ty n bk;exact ahZ S H.toCtxOk bk aM Z hv
   ·cases hk:(C.tt t).known with
    |false=>exact .fail
    |true=>exact ajT S H.toCtxOk aM Z hk hv
  ·exact .fail
 ·rename_i x aM;split
  ·rename_i hx;exact Holds.ok (E3 S aM Z hx fun vv h=>by obtain⟨b,h,_⟩:=h;exact⟨_,h⟩)
  ·rename_i hx;exact Holds.ok (E3 S aM Z hx fun vv h=>by obtain⟨b,D,h,_⟩:=h;exact⟨_,h⟩)
  ·rename_i hx;exact Holds.ok (E3 S aM Z hx fun vv h=>by obtain⟨b,h,_⟩:=h;exact⟨_,h⟩)
  ·exact .fail
 ·rename_i op t x y nP aM;cases hn:B7 y with
  |true=>exact ajc S H.toCtxOk aM Z hn
  |false=>exact anJ S H.toCtxOk aM Z
 ·rename_i op t x aM;split
  ·rename_i b hx;exact Holds.ok (afE S aM Z hx)
  ·rename_i k n hx;exact Holds.ok (afF S aM Z hx)
  ·rename_i k n hx;exact Holds.ok (afD (T:=D.type) S aM Z hx)
  ·exact .fail
 ·rename_i src dst x aM;split
  ·rename_i o dI;exact als S H.toCtxOk aM dI Z
  ·exact .fail
 ·rename_i fn first captured aM
  split
  ·rename_i g;cases hf:first.toList.isEmpty with
   |false=>exact .fail
   |true=>
    simp only[cond_true];split
    ·rename_i bE hc;exact Holds.ok (af2 S aM Z hf hc)
    ·exact .fail
  ·exact .fail
 ·rename_i t l c aM;split
  ·rename_i o e ty bytes x' n ya m dI bk hl hc;split
   ·rename_i z hz;split
    ·rename_i ds us gN;split
     ·rename_i e0 nF;exact Holds.hV fun r hr=>afe S H.toCtxOk bk aM dI Z hl hc hz gN nF r hr
     ·exact .fail
    ·exact .fail
   ·exact .fail
  ·exact .fail
 ·rename_i t x cX hi Ex aM;split
  ·split
   ·rename_i e ty n bk;exact ah3 S H.toCtxOk bk aM Z
   ·exact ajZ S H.toCtxOk aM Z
  ·exact .fail
 ·rename_i s x f aM;split
  ·rename_i bR n z eq bk;split
   ·rename_i off NK hf;exact afq S H.toCtxOk bk aM Z hf
   ·exact .fail
  ·exact .fail
 ·rename_i t x i aM;split
  ·rename_i e ty bytes k n bk hi;exact afm S H.toCtxOk bk hi aM Z
  ·rename_i e ty m k n bk hi;exact aeH S H.toCtxOk bk hi aM Z
  ·exact .fail
 ·rename_i t x i aM;split
  ·rename_i s k n bk hx hi;exact ak6 S H.toCtxOk aM Z bk hx hi
  ·rename_i e ty m k n bk hi;exact ai4 S H.toCtxOk bk hi aM Z
  ·exact .fail
 ·rename_i t i aM;split
  ·rename_i as hx;split
   ·rename_i a ha;exact Holds.ok (ahd S aM Z hx ha)
   ·exact .fail
  ·exact .fail
 ·rename_i c aM;split
  ·rename_i f hf;split
   ·exact Pk S H aM hf Z _ _
   ·exact Pk S H aM hf Z _ _
  ·rename_i b hb;obtain⟨callee,args,argTypes⟩:=c;simp only at hb aM ⊢;subst hb;split
   ·rename_i x t oo KX;have e1:args=#[x]:=Array.ext' oo;have e2:argTypes=#[t]:=Array.ext' KX;subst e1 e2;exact ao3 S H.toCtxOk aM Z
   ·rename_i o s x t u dI oo KX;have e1:args=#[s,x]:=Array.ext' oo;have e2:argTypes=#[t,u]:=Array.ext' KX;subst e1 e2;split
    ·rename_i bk gO;exact ajn S H.toCtxOk bk gO aM dI Z
    ·rename_i bk gO;exact ahs S H.toCtxOk bk gO aM dI Z
    ·exact .fail
   ·rename_i x y oo;have e1:args=#[x,y]:=Array.ext' oo;subst e1;split
    ·rename_i hx hy;exact Holds.ok (QP (tC:=true) S aM Z hx hy)
    ·exact .fail
   ·rename_i x y z u v oo;have e1:args=#[x,y,z,u,v]:=Array.ext' oo;subst e1;split
    ·rename_i hx hy hz hu hv;exact Holds.ok (am6 S aM Z hx hy hz hu hv)
    ·exact .fail
   ·rename_i x y oo;have e1:args=#[x,y]:=Array.ext' oo;subst e1;split
    ·rename_i hx hy;exact Holds.ok (QP (tC:=false) S aM Z hx hy)
    ·exact .fail
   ·exact .fail
  ·exact .fail
 ·exact ag6 S H.toCtxOk Z
end
section
variable {st ao:al}
theorem mV{o:Nat}(h:st.af o=ao.af o)(s:Nat):rowOf st o s=rowOf ao o s:=by unfold rowOf;rw[h]
theorem u6{o:Nat}(h:st.af o=ao.af o)(s:Nat):fP st o s=fP ao o s:=by unfold fP;rw[h]
theorem mU{o:Nat}(h:st.af o=ao.af o):bz st o=bz ao o:=by unfold bz;rw[h]
abbrev cJ(st ao:al)(N:List Nat):Prop:=∀o,o∈N->st.af o=ao.af o
theorem cJ.left{N fi:List Nat}(h:cJ st ao (N++fi)):cJ st ao N:=fun o bA=>h o (List.mem_append.2 (.inl bA))
theorem cJ.right{N fi:List Nat}(h:cJ st ao (N++fi)):cJ st ao fi:=fun o bA=>h o (List.mem_append.2 (.inr bA))
theorem cJ.head{n:Nat}{fi:List Nat}(h:cJ st ao (n::fi)):st.af n=ao.af n:=h n List.mem_cons_self
theorem cJ.tail{n:Nat}{fi:List Nat}(h:cJ st ao (n::fi)):cJ st ao fi:=fun o bA=>h o (List.mem_cons_of_mem _ bA)
theorem sF{N:List Nat}(h:cJ st ao (e4 st N)):cJ st ao N:=by
 induction N with
 |nil=>intro o bA;cases bA
 |cons n N ih=>
  intro o bA;rcases List.mem_cons.1 bA with rfl|bA
  ·exact h.head
  ·exact ih h.tail.right o bA
theorem Sq{N:List Nat}(h:cJ st ao (e4 st N)){o:Nat}(bA:o∈N):cJ st ao (yX st o):=by
 induction N with
 |nil=>cases bA
 |cons n N ih=>
  rcases List.mem_cons.1 bA with rfl|bA
  ·exact h.tail.left
  ·exact ih h.tail.right bA
theorem Gd{N fi:List Nat}:e4 st (N++fi)=e4 st N++e4 st fi:=by
 induction N with
 |nil=>rfl
 |cons n N ih=>simp[e4,ih]
theorem Q8{l:aQ}(h:cJ st ao l.names):j_ st l=j_ ao l:=by
 cases l<;>try rfl
 case own o s=>simp only[j_,mw];rw[mV (h.head) s,h.head]
 case clo g bE=>cases bE<;>rfl
theorem yN{ai:List aQ}(h:cJ st ao (dL ai)):gf st ai=gf ao ai:=by
 induction ai with
 |nil=>rfl
 |cons l ai ih=>
  simp only[dL] at h;simp only[gf,Q8 h.left,ih h.right]
theorem E8{o s:Nat}{cells:List aQ}(h:fP st o s=some cells):yX st o=dL cells:=by
 unfold fP at h;cases hs:st.af o with
 |none=>rw[hs] at h;cases h
 |some x=>
  rw[hs] at h;cases x with
  |box aN cs=>
   have h:(bif aN.beq s then some cs else none)=some cells:=h
   unfold yX;rw[hs];cases hb:aN.beq s with
   |true=>simp only[hb,cond_true,Option.some.injEq] at h;subst h;rfl
   |false=>simp[hb] at h
  |row _ _ _=>cases h
  |dq _ _ _=>cases h
  |map _ _ _=>cases h
  |dead _=>cases h
theorem af3{agg:Bool}{n:Nat}{a:a7}(h:cJ st ao a.names):tA agg n st a=tA agg n ao a:=by
 unfold tA;split
 ·rename_i o s off;rw[u6 (show st.af o=ao.af o from h o (by simp[a7.names,bS.cells,dL,aQ.names]))]
 ·rfl
 ·rename_i o s u k off;rw[mV (show st.af o=ao.af o from h o (by simp[a7.names,bS.cells,dL,aQ.names]))]
 ·rfl
theorem ae3{n:Nat}{a:a7}{v:bS}(h:cJ st ao a.names)(hv:cJ st ao (dL v.cells)):s6 n st a v=s6 n ao a v:=by
 unfold s6;congr 1
 split
 ·rename_i o s off;rw[u6 (show st.af o=ao.af o from h o (by simp[a7.names,bS.cells,dL,aQ.names]))]
 ·rename_i o s u k off;rw[show st.af o=ao.af o from h o (by simp[a7.names,bS.cells,dL,aQ.names]),yN hv]
 ·rfl
theorem aec{u:bf}{x:a7}{i:Int}(h:cJ st ao x.names):sw u st x i=sw u ao x i:=by
 unfold sw;split
 ·rfl
 ·rename_i o s;rw[mV (show st.af o=ao.af o from h o (by simp[a7.names,bS.cells,dL,aQ.names]))]
 ·rfl
theorem ae6{ti:cg}{x:a7}{cX hi:Option a7}(h:cJ st ao x.names):s9 ti st x cX hi=s9 ti ao x cX hi:=by
 unfold s9;split
 ·rfl
 ·rfl
 ·rfl
 ·rename_i o s;simp only[mw];rw[mV (show st.af o=ao.af o from h o (by simp[a7.names,bS.cells,dL,aQ.names])),show st.af o=ao.af o from h o (by simp[a7.names,bS.cells,dL,aQ.names])]
 ·rfl
theorem O9{l:aQ}(h:cJ st ao l.names):mapOf st l=mapOf ao l:=by
 cases l<;>try rfl
 case own o s=>simp only[mapOf];rw[h.head]
 case d v=>cases v<;>rfl
theorem ag8{ti:cg}{x:a7}(h:cJ st ao x.names):tQ ti st x=tQ ti ao x:=by
 unfold tQ;split<;>try rfl
 rotate_left
 ·rename_i l;rw[O9 (l:=l) (fun o bA=>h o (by simp[a7.names,bS.cells,dL,bA]))]
 rename_i o s;rw[mV (show st.af o=ao.af o from h o (by simp[a7.names,bS.cells,dL,aQ.names]))]
theorem afJ{x:a7}(h:cJ st ao x.names):ts st x=ts ao x:=by
 unfold ts;split<;>try rfl
 rename_i o s;rw[mV (show st.af o=ao.af o from h o (by simp[a7.names,bS.cells,dL,aQ.names]))]
theorem ad7{o dst s:Nat}(Z:st.af dst=ao.af dst):bz (st.iC o (.dead s)) dst=bz (ao.iC o (.dead s)) dst:=by
 apply mU;rw[al.ys,al.ys,Z]
theorem OA{bytes:Nat}{t:bf}{dst:Nat}{s:a7}{bj:List (den t)}(h:cJ st ao s.names)(Z:st.af dst=ao.af dst):qU bytes t dst st s bj=qU bytes t dst ao s bj:=by
 unfold qU;split
 ·simp only[mU Z]
 ·rename_i o s;simp only[show st.af o=ao.af o from h o (by simp[a7.names,bS.cells,dL,aQ.names]),ad7 Z]
 ·rfl
theorem aeM{bytes:Nat}{t:bf}{dst:Nat}{s x:a7}(h:cJ st ao s.names)(hx:cJ st ao x.names)(Z:st.af dst=ao.af dst):s4 bytes t dst st s x=s4 bytes t dst ao s x:=by
 unfold s4;rw[afJ hx];split
 ·rfl
 ·split
  ·split
   ·exact OA h Z
   ·rfl
  ·rfl
theorem aeN{bytes:Nat}{t:bf}{dst:Nat}{s x:a7}(h:cJ st ao s.names)(Z:st.af dst=ao.af dst):s5 bytes t dst st s x=s5 bytes t dst ao s x:=by
 unfold s5;split
 ·split
  ·exact OA h Z
  ·rfl
 ·rfl
theorem PD{o:Nat}{t:bf}{n:Nat}{xs:List (den t)}(Z:st.af o=ao.af o):rf o st t n xs=rf o ao t n xs:=by
 unfold rf;rw[mU Z]
theorem aft{o:Nat}{t:bf}{n:Nat}(Z:st.af o=ao.af o):to o st t n=to o ao t n:=by
 unfold to;split<;>first|exact PD Z|rfl
theorem ahp{o:Nat}{t:bf}{n:Nat}{v:a7}(Z:st.af o=ao.af o):t_ o st t n v=t_ o ao t n v:=by
 unfold t_;split
 ·split<;>first|exact PD Z|rfl
 ·rfl
theorem af4{t:bf}{n:Nat}{a:a7}(h:cJ st ao a.names):tB st t n a=tB ao t n a:=by
 unfold tB;split
 ·rename_i o s u;rw[mV (show st.af o=ao.af o from h o (by simp[a7.names,bS.cells,dL,aQ.names]))]
 ·rfl
theorem ae4{t:bf}{n:Nat}{a:a7}{v:bS}(h:cJ st ao a.names):s7 st t n a v=s7 ao t n a v:=by
 unfold s7;split
 ·rename_i o s u ai;rw[show st.af o=ao.af o from h o (by simp[a7.names,bS.cells,dL,aQ.names])]
 ·rfl
theorem aed{C:Ctx}{t:bf}{n:Nat}{x:a7}{i:Int}(h:cJ st ao x.names):sx C st t n x i=sx C ao t n x i:=by
 unfold sx;split
 ·rename_i o s u;rw[mV (show st.af o=ao.af o from h o (by simp[a7.names,bS.cells,dL,aQ.names]))]
 ·rfl
 ·rfl
theorem ae7{t:bf}{n:Nat}{x:a7}{cX hi:Option a7}(h:cJ st ao x.names):s_ st t n x cX hi=s_ ao t n x cX hi:=by
 unfold s_;split
 ·rename_i o s u;simp only[mw];rw[mV (show st.af o=ao.af o from h o (by simp[a7.names,bS.cells,dL,aQ.names])),show st.af o=ao.af o from h o (by simp[a7.names,bS.cells,dL,aQ.names])]
 ·rfl
theorem ahk{t:bf}{as:List bS}(h:cJ st ao (sN as)):lR t st as=lR t ao as:=by
 induction as with
 |nil=>rfl
 |cons a as ih=>
  simp only[sN] at h;simp only[lR,yN h.left,ih h.right]
theorem agi{C:Ctx}{src dst:TypeId}{o:Nat}{x:a7}(h:cJ st ao x.names)(Z:st.af o=ao.af o):tI C src dst o st x=tI C src dst o ao x:=by
 unfold tI;split<;>try rfl
 ·rename_i ab s _ _;rw[mV (show st.af ab=ao.af ab from h ab (by simp[a7.names,bS.cells,dL,aQ.names]))]
 ·rw[mU Z]
theorem OL{bE:List (Nat×Nat)}(h:cJ st ao (e4 st (keys bE))):lx st bE=lx ao bE:=by
 induction bE with
 |nil=>rfl
 |cons p bE ih=>
  obtain⟨o,s⟩:=p;simp only[keys,e4] at h;simp only[lx];rw[<-u6 h.head,<-ih h.tail.right];cases hb:fP st o s with
  |none=>rfl
  |some cells=>
   have:=h.tail.left;rw[E8 hb] at this;simp only[yN this]
theorem Ff{l:aQ}(h:cJ st ao (e4 st l.names)):nr st l=nr ao l:=by
 have Z:=Q8 (sF h);unfold nr;split
 ·rfl
 ·rename_i g c cs;simp only[aQ.names] at h;rw[OL h]
 ·rw[Z]
theorem af6{ai:List aQ}(h:cJ st ao (e4 st (dL ai))):mi st ai=mi ao ai:=by
 induction ai with
 |nil=>rfl
 |cons l ai ih=>
  simp only[dL,Gd] at h;simp only[mi,Ff h.left,ih h.right]
theorem Pd{l:aQ}(h:cJ st ao l.names):oq st l=oq ao l:=by
 unfold oq;split<;>try rfl
 rename_i o s;rw[show st.af o=ao.af o from h.head]
theorem ahc{ai:List aQ}(h:cJ st ao (dL ai)):kT st ai=kT ao ai:=by
 induction ai with
 |nil=>rfl
 |cons l ai ih=>
  simp only[dL] at h;simp only[kT,Pd h.left,ih h.right]
def gS:List a7->List Nat
 |[]=>[]
 |v::vs=>v.names++gS vs
theorem OH{vs:List a7}(h:cJ st ao (e4 st (gS vs))):jo st vs=jo ao vs:=by
 induction vs with
 |nil=>rfl
 |cons v vs ih=>
  simp only[gS,Gd] at h;have ih:=ih h.right;have h:=h.left;cases v with
  |j3 as=>rfl
  |av a=>
   cases a with
   |agg ai=>
    simp only[jo];rw[af6 (by simpa[a7.names,bS.cells] using h),ih]
   |am l=>
    have hl:cJ st ao (e4 st l.names):=by simpa[a7.names,bS.cells,dL] using h
    unfold jo;split
    ·rfl
    ·rename_i o s awI b7;cases b7;have hl:cJ st ao (e4 st [o]):=by simpa[a7.names,bS.cells,dL,aQ.names] using h
     simp only[e4] at hl;rw[<-u6 hl.head,<-ih];cases hb:fP st o s with
     |none=>rfl
     |some cells=>
      have:=hl.tail.left;rw[E8 hb] at this;cases jo st vs with
      |none=>rfl
      |some r=>simp only[ahc this]
    ·rename_i gC awI _ b7;cases b7;rw[Ff hl,ih]
    ·rename_i b7;cases b7
    ·rfl
theorem afp{l:aQ}(h:cJ st ao (e4 st l.names)):pq st l=pq ao l:=by
 unfold pq;split
 ·rw[Pd (sF h)]
 ·rfl
 ·rw[Ff h]
theorem aeE{vs:List a7}(h:cJ st ao (e4 st (gS vs))):ma st vs=ma ao vs:=by
 induction vs with
 |nil=>rfl
 |cons v vs ih=>
  simp only[gS,Gd] at h;have ih:=ih h.right;have h:=h.left;cases v with
  |j3 as=>rfl
  |av a=>
   cases a with
   |agg ai=>rfl
   |am l=>
    have hl:cJ st ao (e4 st l.names):=by simpa[a7.names,bS.cells,dL] using h
    simp only[ma,afp hl,ih]
theorem aeD{b:Bool}{vs:List a7}(h:cJ st ao (e4 st (gS vs))):sR b st vs=sR b ao vs:=by
 cases b
 ·exact OH h
 ·exact aeE h
theorem u5(hb:∀o,1000000<=o->st.af o=ao.af o){o:Nat}(h:1000000<=o):bz st o=bz ao o:=mU (hb o h)
theorem E'(hb:∀o,1000000<=o->st.af o=ao.af o):∀{ai:List aQ} {n:Nat},1000000<=n->take st n ai=take ao n ai:=by
 intro ai;induction ai with
 |nil=>intro n _;rfl
 |cons l ai ih=>
  intro n hn;cases l<;>simp only[take,ih (show 1000000<=n+1 by omega),u5 hb hn]
theorem afH(hb:∀o,1000000<=o->st.af o=ao.af o):∀{as:List bS} {n:Nat},1000000<=n->ee st n as=ee ao n as:=by
 intro as;induction as with
 |nil=>intro n _;rfl
 |cons a as ih=>
  intro n hn;cases a with
  |am l=>simp only[ee];rw[E' hb hn,ih (show 1000000<=n+100 by omega)]
  |agg ai=>simp only[ee];rw[E' hb hn,ih (show 1000000<=n+100 by omega)]
theorem afG(hb:∀o,1000000<=o->st.af o=ao.af o):∀{bs:List (Nat×Nat)} {cR:List (List aQ)},gX st bs cR=gX ao bs cR:=by
 intro bs;induction bs with
 |nil=>intro cR;cases cR<;>rfl
 |cons p bs ih=>
  obtain⟨o,s⟩:=p;intro cR;cases cR with
  |nil=>rfl
  |cons cs cR=>simp only[gX];rw[E' hb (by omega),ih]
theorem Pj(hb:∀o,1000000<=o->st.af o=ao.af o){dst:Nat}{S:aD}{a:kv}:pG dst st S a=pG dst ao S a:=by
 unfold pG;simp only[afG hb,afH hb (show 1000000<=2000000+dst*10000 by omega)]
theorem ae5{g:FuncId}{n:Nat}{vs:List a7}(hb:∀o,1000000<=o->st.af o=ao.af o)(hn:1000000<=n):s8 g n st vs=s8 g n ao vs:=by
 unfold s8;rw[u5 hb hn,u5 hb (show 1000000<=n+1 by omega),u5 hb (show 1000000<=n+2 by omega)]
theorem afX{n:Nat}{vs:List a7}(hb:∀o,1000000<=o->st.af o=ao.af o)(hn:1000000<=n):tw n st vs=tw n ao vs:=by
 unfold tw;rw[u5 hb hn]
theorem agh{vs:List a7}(h:cJ st ao (e4 st (gS vs))):copyV st vs=copyV ao vs:=by
 unfold copyV;split
 ·rename_i o s;rw[show st.af o=ao.af o from sF h o (by simp[gS,a7.names,bS.cells,dL,aQ.names])]
 ·rfl
theorem aeA{vs:List a7}(h:cJ st ao (e4 st (gS vs))):sQ st vs=sQ ao vs:=by
 unfold sQ;split
 ·rename_i o s;have h0:o∈gS [a7.av (.am (.ptr o s 0))]:=by simp[gS,a7.names,bS.cells,dL,aQ.names]
  rw[<-u6 (sF h o h0)];split
  ·rfl
  ·rename_i adH ab u hb;have:=Sq h h0;rw[E8 hb] at this;rw[show st.af ab=ao.af ab from this ab (by simp[dL,aQ.names])]
  ·rfl
 ·rfl
theorem Ox{C:Ctx}(hb:∀o,1000000<=o->st.af o=ao.af o){dst:Nat}{f:a7}{vs:List a7}(hf:cJ st ao (e4 st f.names))(h:cJ st ao (e4 st (gS vs))):l' C dst st f vs=l' C dst ao f vs:=by
 unfold l';split
 ·rename_i g bE;have:cJ st ao (e4 st (keys bE)):=by simpa[a7.names,bS.cells,dL,aQ.names] using hf
  simp only[aeD h,OL this,Pj hb,ae5 hb (show 1000000<=3000000+dst*10 by omega),afX hb (show 1000000<=4000000+dst by omega),agh h,aeA h]
 ·simp only[OH h,Pj hb]
 ·rfl
theorem ali{C:Ctx}{x:Operand}{T:TypeId}(h:∀t,x=.tmp t->st.get t=ao.get t):bg C st T x=bg C ao T x:=by
 cases x with
 |tmp t=>exact h t rfl
 |_=>rfl
theorem aeK{ti:cg}{v:Value}:(vU ti v).names=[]:=by
 unfold vU;split<;>try rfl
 all_goals(split<;>rfl)
theorem z7{C:Ctx}{x:Operand}{T:TypeId}:∀{xs:List Operand},x∈xs->∀o,o∈(bg C st T x).names->o∈n' st xs:=by
 intro xs;induction xs with
 |nil=>intro h;cases h
 |cons y xs ih=>
  intro h o bA;rcases List.mem_cons.1 h with rfl|h
  ·cases x with
   |tmp t=>simp only[n'];exact List.mem_append.2 (.inl bA)
   |const v=>simp only[bg,aeK] at bA;cases bA
   |global g=>simp[bg,a7.names,bS.cells,dL,aQ.names,b6] at bA
   |func g=>simp[bg,a7.names,bS.cells,dL,aQ.names,b6,keys] at bA
  ·have:=ih h o bA;cases y<;>simp only[n']<;>first|exact List.mem_append.2 (.inr this)|exact this
theorem afY{t:Nat}:∀{xs:List Operand},.tmp t∈xs->t∈pd xs:=by
 intro xs;induction xs with
 |nil=>intro h;cases h
 |cons y xs ih=>
  intro h;rcases List.mem_cons.1 h with h|h
  ·subst h;simp only[pd];exact List.mem_cons_self
  ·have:=ih h;cases y<;>simp only[pd]<;>first|exact List.mem_cons_of_mem _ this|exact this
theorem PR{v:a7}{a:bS}(h:my v=some a):dL a.cells=v.names:=by
 cases v with
 |av b=>simp only[my,Option.some.injEq] at h;subst h;rfl
 |j3 _=>cases h
theorem agl{vs:List a7}:∀{as:List bS},ou vs=some as->∀o,o∈sN as->o∈gS vs:=by
 induction vs with
 |nil=>intro as h;simp only[ou,Option.some.injEq] at h;subst h;intro o bA;cases bA
 |cons v vs ih=>
  intro as h o bA;simp only[ou] at h;split at h
  ·rename_i a oR h1 h2;simp only[Option.some.injEq] at h;subst h;simp only[sN,List.mem_append] at bA;simp only[gS,List.mem_append];rcases bA with bA|bA
   ·exact .inl (by rw[PR h1] at bA;exact bA)
   ·exact .inr (ih h2 o bA)
  ·cases h
end
theorem agF{C:Ctx}{st ao:al}{D:Oper}(hs:∀t,t∈pd (lB D.op)->st.get t=ao.get t)(hn:cJ st ao (Kk C st D))(hb:B8 D.op=true->∀o,1000000<=o->st.af o=ao.af o):
  step C st D=step C ao D:=by
 have he:∀x,x∈lB D.op->∀T,bg C st T x=bg C ao T x:=fun x hx T=>ali fun t aq=>hs t (afY (aq▸hx))
 have Zy:looks D.op=true->cJ st ao (e4 st (n' st (lB D.op))):=fun h=>by have:=hn.left.left;rw[h] at this;exact this
 have Zp:looks D.op=true->∀x,x∈lB D.op->∀T,cJ st ao (bg C st T x).names:=fun hl x hx T o bA=>sF (Zy hl) o (z7 hx o bA)
 have VF:looks D.op=true->∀N:List Nat,(∀o,o∈N->o∈n' st (lB D.op))->cJ st ao (e4 st N):=by
  intro hl N;have ack:=Zy hl;induction N with
  |nil=>intro _ o bA;cases bA
  |cons n N ih=>
   intro h o bA;simp only[e4,List.mem_cons,List.mem_append] at bA;rcases bA with rfl|bA|bA
   ·exact sF ack o (h o List.mem_cons_self)
   ·exact Sq ack (h n List.mem_cons_self) o bA
   ·exact ih (fun ab bU=>h ab (List.mem_cons_of_mem _ bU)) o bA
 have Z:∀d,D.dst=some d->st.af d=ao.af d:=fun d h=>hn.left.right d (by simp[h])
 have hz:cJ st ao (J8 C D.op):=hn.right;obtain⟨dst,op,type,pos,after,guard⟩:=D;simp only at he Zp VF Z hb hz;cases op<;>(try have ht:=Zp rfl)<;>(try have Ki:=VF rfl)<;>(try simp only[lB,List.mem_cons,List.not_mem_nil,or_false,forall_eq_or_imp,forall_eq] at he)<;>
  (try simp only[lB,List.mem_cons,List.not_mem_nil,or_false,forall_eq_or_imp,forall_eq] at ht)<;>simp only[step]<;>try rfl
 case move x=>rw[he]
 case assign x=>rw[he]
 case makeMap t r=>
  simp only[lv];cases dst with
  |none=>rfl
  |some o=>
   have e:=mU (Z o rfl);cases C.tt t<;>try rfl
   cases r with
   |none=>simp only[e]
   |some x=>simp only[he x (by simp[lB]),e]
 case lookup t m k c=>
  simp only[lv];rw[he.1,he.2];have h1:=ht.1 t;rw[he.1] at h1;generalize bg C ao t m=adw at h1 ⊢;split
  ·rename_i l n _ _;rw[O9 (l:=l) (fun o bA=>h1 o (by simp[a7.names,bS.cells,dL,bA]))]
  ·rfl
 case mapUpdate t m k x=>
  simp only[lv,lv.tc];rw[he.1,he.2.1,he.2.2];have h1:=ht.1 t;rw[he.1] at h1;generalize bg C ao t m=adw at h1 ⊢;split
  ·rename_i o s n d _ _ _;rw[show st.af o=ao.af o from h1 o (by simp[a7.names,bS.cells,dL,aQ.names])]
  ·rfl
 case insert t m k x=>
  simp only[lv,lv.tc];rw[he.1,he.2.1,he.2.2];have h1:=ht.1 t;rw[he.1] at h1;generalize bg C ao t m=adw at h1 ⊢;split
  ·rename_i o s n d _ _ _;rw[show st.af o=ao.af o from h1 o (by simp[a7.names,bS.cells,dL,aQ.names])]
  ·rfl
 case pick c a b=>rw[he.1,he.2.1,he.2.2]
 case alloc elem=>
  cases dst with
  |none=>rfl
  |some o=>
   have e:=mU (Z o rfl);cases bk:C.tt elem with
   |arr _ t n=>exact aft (Z o rfl)
   |_=>simp only[e]
 case box elem x=>
  rw[he];cases dst with
  |none=>rfl
  |some o=>
   have e:=mU (Z o rfl);cases bk:C.tt elem with
   |arr _ t n=>exact ahp (Z o rfl)
   |_=>simp only[e]
 case build t ps=>
  have go:∀(bR:List (Nat×Nat)) (r:List (Nat×Operand)) (z:List aQ),(∀x,x∈r.map (·.2)->∀T,bg C st T x=bg C ao T x)->step.ng C st bR z r=step.ng C ao bR z r:=by
    intro bR r;induction r with
    |nil=>intro z _;rfl
    |cons p r ih=>
     obtain⟨i,x⟩:=p;intro z h;simp only[step.ng];rw[h x (by simp)]
     split
     ·rw[ih _ fun x hx=>h x (by simp only[List.map_cons,List.mem_cons];exact .inr hx)]
     ·rfl
  split
  ·exact go _ _ _ he
  ·split
   ·exact go _ _ _ he
   ·rfl
  ·rfl
 case buildSlice t len ps=>
  cases dst with
  |none=>rfl
  |some o=>
   cases h2:C.tt t<;>try rfl
   rename_i e ty bytes;simp only;have h1:some o=some o:=rfl;have em:(ps.toList.map fun p=>bg C st e p.2)=ps.toList.map fun p=>bg C ao e p.2:=by
    apply List.map_congr_left;intro p hp;exact he _ (List.mem_map.2 ⟨p,hp,rfl⟩) e
   have k1:cJ st ao (gS (ps.toList.map fun p=>bg C st e p.2)):=by
    have:∀l:List (Nat×Operand),(∀p,p∈l->p∈ps.toList)->cJ st ao (gS (l.map fun p=>bg C st e p.2)):=by
     intro l;induction l with
     |nil=>intro _ o bA;cases bA
     |cons p l ih=>
      intro h o bA;simp only[List.map_cons,gS,List.mem_append] at bA;rcases bA with bA|bA
      ·exact ht _ (List.mem_map.2 ⟨p,h p List.mem_cons_self,rfl⟩) e o bA
      ·exact ih (fun q az=>h q (List.mem_cons_of_mem _ az)) o bA
    exact this _ fun _ h=>h
   rw[<-em,mU (Z o h1)];congr 1
   split
   ·rename_i as has;rw[ahk fun ab bU=>k1 ab (agl has ab bU)]
   ·rfl
 case load t a=>
  rw[<-he];split
  ·exact af4 (ht _)
  ·rw[af3 (ht _)]
 case store t a x=>
  rw[<-he.1,<-he.2];split
  ·rename_i v hv;split
   ·exact ae4 (ht.1 _)
   ·rw[ae3 (ht.1 _) (by rw[PR hv];exact ht.2 _)]
  ·rfl
 case nilCheck x=>rw[he]
 case makeInterface t x=>simp only[lv];rw[he]
 case binOp op t x y ty=>rw[he.1,he.2]
 case unOp op t x=>rw[he]
 case convert src aCK x=>
  cases dst with
  |none=>rfl
  |some o=>simp only;rw[<-he,agi (ht _) (Z o rfl)]
 case makeFunc fn first captured=>
  split
  ·rename_i g;have go:∀(r:List Operand),(∀x,x∈r->∀T,bg C st T x=bg C ao T x)->step.ot C st r=step.ot C ao r:=by
    intro r;induction r with
    |nil=>intro _;rfl
    |cons x r ih=>
     intro h;simp only[step.ot];rw[h x (by simp),ih fun x hx=>h x (List.mem_cons_of_mem _ hx)]
   rw[go _ he]
  ·rfl
 case makeSlice t l c=>
  rw[<-he.1,<-he.2];cases dst with
  |none=>rfl
  |some o=>
   cases h2:C.tt t<;>try rfl
   rename_i e ty bytes;simp only[J8,h2] at hz;have e1:=mU (Z o rfl);have e2:∀z,(C.tt e).zero=some z->gf st z=gf ao z:=fun z hzz=>by
    simp only[hzz] at hz;exact yN hz
   generalize bg C st 0 l=eh;generalize bg C st 0 c=fT;have da:∀n m aE aF,eh=.av (.am (.d (.int aE n)))->fT=.av (.am (.d (.int aF m)))->
     (match(C.tt e).zero with
      |some z=>match gf st z with
       |some (ds,_)=>match dec ty ds with
        |some e0=>dk.hV (j4 bytes n m e0) (fun _=>b6 (.own o (bz st o))) fun r=>[(o,.row (bz st o) ty r)]
        |none=>.fail
       |none=>.fail
      |none=>.fail)=(match(C.tt e).zero with
      |some z=>match gf ao z with
       |some (ds,_)=>match dec ty ds with
        |some e0=>dk.hV (j4 bytes n m e0) (fun _=>b6 (.own o (bz ao o))) fun r=>[(o,.row (bz ao o) ty r)]
        |none=>.fail
       |none=>.fail
      |none=>.fail):=by
    intro n m aE aF _ _;cases hzz:(C.tt e).zero with
    |none=>rfl
    |some z=>simp only[e2 z hzz,e1]
   rcases eh with(dP|_)|_<;>try rfl
   cases dP<;>try rfl
   rename_i d1;cases d1<;>try rfl
   rcases fT with(fC|_)|_<;>try rfl
   cases fC<;>try rfl
   rename_i d2;cases d2<;>try rfl
   exact da _ _ _ _ rfl rfl
 case slice t x cX hi Ex=>
  cases Ex with
  |some _=>rfl
  |none=>
   simp only;have e1:cX.map (bg C st 0)=cX.map (bg C ao 0):=by
    cases cX with
    |none=>rfl
    |some y=>simp only[Option.map_some];rw[he.2 y (by simp)]
   have e2:hi.map (bg C st 0)=hi.map (bg C ao 0):=by
    cases hi with
    |none=>rfl
    |some y=>simp only[Option.map_some];rw[he.2 y (by simp)]
   rw[<-he.1,e1,e2];split
   ·exact ae7 (ht.1 _)
   ·exact ae6 (ht.1 _)
 case fieldAddr s x f=>rw[he]
 case indexAddr t x i=>
  rw[<-he.1,<-he.2];split
  ·rw[aec (ht.1 _)]
  ·rw[aed (ht.1 _)]
  ·rfl
 case index t x i=>rw[he.1,he.2]
 case extract t i=>rw[he]
 case call c=>
  obtain⟨ayP,args,L2⟩:=c;simp only;cases ayP with
  |invoke r m=>rfl
  |value f=>
   simp only[lB,List.mem_append,List.mem_cons,List.not_mem_nil,or_false] at Ki;simp only[B8,forall_const] at hb;simp only[List.mem_append,List.mem_cons,List.not_mem_nil,or_false] at he;have em:∀(xs:List Operand) (cZ:List TypeId),(∀x,x∈xs->∀T,bg C st T x=bg C ao T x)->gA C st xs cZ=gA C ao xs cZ:=by
    intro xs;induction xs with
    |nil=>intro cZ _;cases cZ<;>rfl
    |cons x xs ih=>
     intro cZ h;cases cZ with
     |nil=>simp only[gA];rw[h x (by simp),ih [] fun y hy=>h y (List.mem_cons_of_mem _ hy)]
     |cons T cZ=>simp only[gA];rw[h x (by simp),ih cZ fun y hy=>h y (List.mem_cons_of_mem _ hy)]
   have EA:∀(xs bj:List Operand) (cZ:List TypeId),(∀x,x∈xs->x∈bj)->∀o,o∈gS (gA C st xs cZ)->o∈n' st bj:=by
    intro xs bj;induction xs with
    |nil=>intro cZ _ o bA;cases cZ<;>cases bA
    |cons x xs ih=>
     intro cZ h o bA;cases cZ with
     |nil=>
      simp only[gA,gS,List.mem_append] at bA;rcases bA with bA|bA
      ·exact z7 (h x List.mem_cons_self) o bA
      ·exact ih [] (fun y hy=>h y (List.mem_cons_of_mem _ hy)) o bA
     |cons T cZ=>
      simp only[gA,gS,List.mem_append] at bA;rcases bA with bA|bA
      ·exact z7 (h x List.mem_cons_self) o bA
      ·exact ih cZ (fun y hy=>h y (List.mem_cons_of_mem _ hy)) o bA
   have h1:cJ st ao (e4 st (bg C st 0 f).names):=Ki _ fun o bA=>z7 (List.mem_append.2 (.inl (by simp))) o bA
   have h2:cJ st ao (e4 st (gS (gA C st args.toList L2.toList))):=Ki _ fun o bA=>EA _ _ _ (fun x hx=>List.mem_append.2 (.inr hx)) o bA
   have h3:=he f (.inl rfl) 0;have aA:=em args.toList L2.toList fun x hx=>he x (.inr hx)
   cases dst with
   |none=>show l' C 0 st _ _=l' C 0 ao _ _;rw[<-h3,<-aA];exact Ox hb h1 h2
   |some d=>show l' C d st _ _=l' C d ao _ _;rw[<-h3,<-aA];exact Ox hb h1 h2
  |builtin b=>
   simp only[List.nil_append] at he ht;generalize args.toList=xs at he ht;generalize L2.toList=ch;cases b<;>try rfl
   case append=>
    rcases dst with _|o
    ·rfl
    rcases xs with _|⟨s,_|⟨x,_|_⟩⟩<;>try rfl
    rcases ch with _|⟨t,_|⟨u,_|_⟩⟩<;>try rfl
    have e1:=he s (by simp) t
    have e2:=he x (by simp) u
    dsimp only;cases C.tt t<;>try rfl
    cases C.tt u<;>try rfl
    all_goals dsimp only
    all_goals rw[<-e1,<-e2]
    all_goals first|exact aeM (ht s (by simp) _) (ht x (by simp) _) (Z o rfl)|exact aeN (ht s (by simp) _) (Z o rfl)
   case len=>
    rcases xs with _|⟨s,_|⟨x,_|_⟩⟩<;>try rfl
    rcases ch with _|⟨t,_|⟨u,_|_⟩⟩<;>try rfl
    have e1:=he s (by simp) t
    dsimp only;rw[<-e1];exact ag8 (ht s (by simp) _)
   case max=>
    rcases xs with _|⟨s,_|⟨x,_|⟨z,_|⟨u,_|⟨v,_|_⟩⟩⟩⟩⟩<;>try rfl
    ·have e1:=he s (by simp) type
     have e2:=he x (by simp) type
     dsimp only;rw[<-e1,<-e2]
    ·have e1:=he s (by simp) type
     have e2:=he x (by simp) type
     have br:=he z (by simp) type
     have da:=he u (by simp) type
     have eS:=he v (by simp) type
     dsimp only;rw[<-e1,<-e2,<-br,<-da,<-eS]
   case min=>
    rcases xs with _|⟨s,_|⟨x,_|_⟩⟩<;>try rfl
    have e1:=he s (by simp) type
    have e2:=he x (by simp) type
    dsimp only;rw[<-e1,<-e2]
def eM(r:Option Nat):Fence:={Fence.wide with round:=r}
abbrev gm(r:Option Nat)(P:Program)(c:Code)(Q:Exit->Act->World->Prop)(a:Act)(w:World):Prop:=c.wpIn (eM r) 0 P Q a w
theorem C2(r:Option Nat)(f:FuncId):(eM r).fn f:=trivial
theorem T_(r:Option Nat)(n:Nat):(eM r).room n:=fun _ h=>by simp[eM,Fence.wide] at h
theorem gm.any{r:Option Nat}{P:Program}{c:Code}{Q:Exit->Act->World->Prop}{a:Act}{w:World}(h:gm r P c Q a w)(n:Nat):c.wpIn (eM r) n P Q a w:=
 fun b k cs Mu hb _=>h b k cs Mu hb (T_ r _)
theorem gm.of{r:Option Nat}{P:Program}{c:Code}{Q:Exit->Act->World->Prop}{a:Act}{w:World}{n:Nat}(h:c.wpIn (eM r) n P Q a w):gm r P c Q a w:=
 fun b k cs Mu hb _=>h b k cs Mu hb (T_ r _)
theorem gm.wp{P:Program}{c:Code}{Q:Exit->Act->World->Prop}{a:Act}{w:World}(h:gm none P c Q a w):c.wp P Q a w:=(wpIn_wide (n:=0)).1 h
theorem ahn{r:Option Nat}{n:Nat}{P:Program}{f:FuncId}{args:Array Value}{w:World}{R:Ending->World->Prop}(h:Calls P f args w R):CallsIn (eM r) n P f args w R:=by
 cases r with
 |none=>exact callsIn_wide.2 h
 |some l=>exact CallsIn.inRound l (callsIn_wide.2 h)
theorem aia{r:Option Nat}{n:Nat}{P:Program}{row:String}{args:Array Value}{w:World}{R:Value->World->Prop}(h:Rows P row args w R):RowsIn (eM r) n P row args w R:=by
 intro c cs _;obtain⟨v,w',hr,hs⟩:=h c cs;exact⟨v,w',hr,stepsIn_wide.2 hs⟩
theorem vt(M:Array Value)(ds:List Deferred)(dst:Option Nat)(v:Value):(⟨M,ds⟩:Act).put dst v=⟨cD M dst v,ds⟩:=by cases dst<;>rfl
theorem Kf{P:Program}{D:Oper}{M:Array Value}{w:World}{K:Act->World->Prop}(bT:∀a w,K a w->a.defers=[])(h:D.wp P ⟨M,[]⟩ w K (fun _ _ _=>False))(r:Option Nat)(ds:List Deferred){Q:Exit->Act->World->Prop}:
  D.wpIn (eM r) 0 P ⟨M,ds⟩ w (fun cS w'=>∃v,cS=⟨cD M D.dst v,ds⟩/\K ⟨cD M D.dst v,[]⟩ w') Q:=by
 refine⟨fun f _=>C2 r f,?_⟩
 have bC:(⟨M,ds⟩:Act).eval=(⟨M,[]⟩:Act).eval:=by funext x;cases x<;>rfl
 rw[bC];unfold Oper.wp at h;have Z:∀c,D.op≠.defer c:=by
  intro c aM;have:(execOp (Act.eval ⟨M,[]⟩) D)=(do let d <-resolve (Act.eval ⟨M,[]⟩) c D.type;pure (.defer d)):=by
   unfold execOp;simp only[aM]
  rw[this] at h;simp only[Sem.run_bind] at h;cases hr:(resolve (Act.eval ⟨M,[]⟩) c D.type).run P w with
  |ok d w'=>
   rw[hr] at h;simp only[Result.andThen_ok,Sem.run_pure,Oper.upon] at h;have:=bT _ _ h;cases dI:D.dst<;>rw[dI] at this<;>simp[Act.put] at this
  |halt x w'=>
   rw[hr] at h;cases x<;>simp[Result.andThen,Oper.upon] at h
 rw[Oper.semAt_eq _ _ _ Z];generalize(execOp (Act.eval ⟨M,[]⟩) D).run P w=fp at h;have hp:∀v,(⟨M,ds⟩:Act).put D.dst v=⟨cD M D.dst v,ds⟩:=vt M ds D.dst;have rF:∀v,(⟨M,[]⟩:Act).put D.dst v=⟨cD M D.dst v,[]⟩:=vt M [] D.dst;cases fp with
 |ok x w'=>
  cases x with
  |value v=>simp only[Oper.upon,Oper.uponIn,rF] at h ⊢;exact⟨v,hp v,h⟩
  |skip=>simp only[Oper.upon,Oper.uponIn,rF] at h ⊢;exact⟨undef,hp _,h⟩
  |defer d=>
   simp only[Oper.upon] at h;have:=bT _ _ h;cases dI:D.dst<;>rw[dI] at this<;>simp[Act.put] at this
  |enter f args=>
   simp only[Oper.upon,Oper.uponIn] at h ⊢;refine⟨fun h=>by simp[eM,Fence.wide] at h,(ahn h).mono fun e DJ he=>?_⟩
   cases e with
   |returned v=>simp only[rF] at he;exact⟨v,hp v,he⟩
   |panicked c=>exact he.elim
   |outgrown=>obtain⟨a0,U,az⟩:=he;exact az.elim
  |row row args=>
   simp only[Oper.upon,Oper.uponIn] at h ⊢;refine⟨fun h=>by simp[eM,Fence.wide] at h,(aia h).mono fun v DJ he=>?_⟩
   simp only[rF] at he;exact⟨v,hp v,he⟩
  |_=>simp only[Oper.upon] at h
 |halt x w'=>
  cases x<;>simp only[Oper.upon] at h
def iI:List Oper->List Nat
 |[]=>[]
 |D::r=>D.dst.toList++iI r
def hM:Nat:=1000000000
def cx:Code->List Nat
 |.region _ ops _=>iI ops.toList
 |.seq a b|.cond _ a b=>cx a++cx b
 |.block _ a|.loop a=>cx a
 |.rangeFunc _ ps a b=>hM::(ps.toList++(cx a++cx b))
 |_=>[]
def gU:Code->Bool
 |.seq a b|.cond _ a b=>gU a&&gU b
 |.block _ a|.loop a=>gU a
 |.rangeFunc _ _ _ _=>false
 |_=>true
def mark(bh:Nat):Deferred:={target:=.collected bh,args:=#[]}
structure iu(U:World)(Y:List Nat)(X:Nat->Prop)(aZ:World)(dO:List Nat)(c_:Nat->Prop):Prop where
 cM:∀w,Fr dO aZ w->Fr Y U w
 ct:∀b,(b∈dO\/aZ.heap.size<=b)->(b∈Y\/U.heap.size<=b)
 x:∀b,X b->c_ b
structure Marks(U:World)(dR:List Nat)(aZ:World)(dO:List Nat)(c_:Nat->Prop):Prop where
 nodup:dR.Nodup
 new:∀bh,bh∈dR->U.heap.size<=bh
 hK:∀bh,bh∈dR->aZ.heap[bh]? =some (.deferred (some []))/\bh∉dO/\c_ bh
def eD(U:World)(Y:List Nat)(X:Nat->Prop)(ds:List Deferred)(eP:Array Value)(W:List Nat)(st:al)(a:Act)(w:World):Prop:=
 ∃aZ dO c_ F dR,iu U Y X aZ dO c_/\Marks U dR aZ dO c_/\(a.defers=dR.map mark++ds/\(hM∉W->dR=[]))/\ar aZ dO c_ F st a.tmps w/\∀t,t∉W->a.tmps.getD t undef=eP.getD t undef
def fj(U:World)(Y:List Nat)(X:Nat->Prop)(ds:List Deferred)(eP:Array Value)(W:List Nat):Out->Exit->Act->World->Prop
 |.norm st,.normal,a,w=>eD U Y X ds eP W st a w
 |.exit id st,.exit jc,a,w=>id=jc/\eD U Y X ds eP W st a w
 |.ret st,.ret,a,w=>eD U Y X ds eP W st a w
 |_,_,_,_=>False
theorem iu.refl(U:World)(Y:List Nat)(X:Nat->Prop):iu U Y X U Y X:=⟨fun _ h=>h,fun _ h=>h,fun _ h=>h⟩
theorem iu.trans{U aZ w2:World}{Y dO eZ:List Nat}{X c_ cC:Nat->Prop}(h:iu U Y X aZ dO c_)(k:iu aZ dO c_ w2 eZ cC):iu U Y X w2 eZ cC:=
 ⟨fun w hw=>h.cM w (k.cM w hw),fun b hb=>h.ct b (k.ct b hb),fun b hb=>k.x b (h.x b hb)⟩
theorem Marks.nil(U aZ:World)(Y:List Nat)(X:Nat->Prop):Marks U [] aZ Y X:=⟨List.nodup_nil,fun _ h=>by simp at h,fun _ h=>by simp at h⟩
theorem Marks.lt{U aZ:World}{Y:List Nat}{X:Nat->Prop}{dR:List Nat}(h:Marks U dR aZ Y X){bh:Nat}(e6:bh∈dR):bh<aZ.heap.size:=by
 have:=(h.hK bh e6).1;exact(Array.getElem?_eq_some_iff.1 this).1
theorem Marks.trans{U aZ w2:World}{Y dO eZ:List Nat}{X c_ cC:Nat->Prop}{dR Et:List Nat}(hb:iu U Y X aZ dO c_)(h:Marks U dR aZ dO c_)(k:iu aZ dO c_ w2 eZ cC)(m:Marks aZ Et w2 eZ cC):
  Marks U (Et++dR) w2 eZ cC:=by
 have hf:Fr dO aZ w2:=k.cM w2 (Fr.refl _ _);refine⟨List.nodup_append.2 ⟨m.nodup,h.nodup,fun a ha b hb e=>?_⟩,fun bh e6=>?_,fun bh e6=>?_⟩
 ·subst e;have h1:=m.new a ha;have h2:=h.lt hb;omega
 ·rcases List.mem_append.1 e6 with e6|e6
  ·have h1:=m.new bh e6;have h2:Fr Y U aZ:=hb.cM aZ (Fr.refl _ _);have:=h2.size;omega
  ·exact h.new bh e6
 ·rcases List.mem_append.1 e6 with e6|e6
  ·exact m.hK bh e6
  ·obtain⟨h1,h2,h3⟩:=h.hK bh e6;have hlt:=h.lt e6;refine⟨(hf.block bh hlt h2).trans h1,fun aA=>?_,k.x bh h3⟩
   rcases k.ct bh (.inl aA) with bl|bl
   ·exact h2 bl
   ·omega
section
variable {U:World}{Y:List Nat}{X:Nat->Prop}{ds:List Deferred}{eP:Array Value}{W:List Nat}
theorem eD.of{F:Nat->Value}{st:al}{M:Array Value}{w:World}(S:ar U Y X F st M w)(aq:∀t,t∉W->M.getD t undef=eP.getD t undef):eD U Y X ds eP W st ⟨M,ds⟩ w:=
 ⟨U,Y,X,F,[],iu.refl _ _ _,Marks.nil _ _ _ _,⟨rfl,fun _=>rfl⟩,S,aq⟩
theorem eD.mono{db:List Nat}(h:∀t,t∈W->t∈db){st:al}{a:Act}{w:World}(k:eD U Y X ds eP W st a w):eD U Y X ds eP db st a w:=by
 obtain⟨aZ,dO,c_,F,dR,h1,h2,h3,aA,bl⟩:=k;exact⟨aZ,dO,c_,F,dR,h1,h2,⟨h3.1,fun hn=>h3.2 fun aj=>hn (h _ aj)⟩,aA,fun t aq=>bl t fun aj=>aq (h t aj)⟩
theorem fj.mono{db:List Nat}(h:∀t,t∈W->t∈db):∀{D:Out} {e:Exit} {a:Act} {w:World},fj U Y X ds eP W D e a w->fj U Y X ds eP db D e a w:=by
 intro D e a w k;cases D<;>cases e<;>first|exact eD.mono h k|exact⟨k.1,eD.mono h k.2⟩|exact k.elim
theorem eD.trans{aZ:World}{dO:List Nat}{c_:Nat->Prop}{dR:List Nat}{W1 jH:List Nat}{h5:Array Value}(hb:iu U Y X aZ dO c_)(hm:Marks U dR aZ dO c_)(hr:hM∉W1->dR=[])(aq:∀t,t∉W1->h5.getD t undef=eP.getD t undef)
  {st:al} {a:Act} {w:World} (k:eD aZ dO c_ (dR.map mark++ds) h5 jH st a w):eD U Y X ds eP (W1++jH) st a w:=by
 obtain⟨w2,eZ,cC,F,Et,h1,h2,h3,aA,bl⟩:=k;refine⟨w2,eZ,cC,F,Et++dR,hb.trans h1,hm.trans hb h1 h2,⟨by rw[h3.1,List.map_append,List.append_assoc],fun hn=>by
  simp only[List.mem_append,not_or] at hn;rw[h3.2 hn.2,hr hn.1];rfl⟩,aA,fun t Mr=>?_⟩
 simp only[List.mem_append,not_or] at Mr;rw[bl t Mr.2,aq t Mr.1]
theorem fj.trans{aZ:World}{dO:List Nat}{c_:Nat->Prop}{dR:List Nat}{W1 jH:List Nat}{h5:Array Value}(hb:iu U Y X aZ dO c_)(hm:Marks U dR aZ dO c_)(hr:hM∉W1->dR=[])(aq:∀t,t∉W1->h5.getD t undef=eP.getD t undef)
  {D:Out} {e:Exit} {a:Act} {w:World} (k:fj aZ dO c_ (dR.map mark++ds) h5 jH D e a w):fj U Y X ds eP (W1++jH) D e a w:=by
 cases D<;>cases e<;>first|exact eD.trans hb hm hr aq k|exact⟨k.1,eD.trans hb hm hr aq k.2⟩|exact k.elim
end
def aT(P:Program)(c:Code)(f:h9):Prop:=
 ∀r,r=none\/gU c=true->∀U Y X st y,(f st).comp=some y->∀F M w ds,ar U Y X F st M w->gm r P c (fj U Y X ds M (cx c) ((f st).out y)) ⟨M,ds⟩ w
def gr(P:Program)(C:hY):Code->Nat->Prop
 |.seq a b,p=>(∀f,C.oC p=some f->aT P (.seq a b) f)/\gr P C a (2*p)/\gr P C b (2*p+1)
 |.cond c a b,p=>(∀f,C.oC p=some f->aT P (.cond c a b) f)/\gr P C a (2*p)/\gr P C b (2*p+1)
 |.block id a,p=>(∀f,C.oC p=some f->aT P (.block id a) f)/\gr P C a (2*p)
 |c,p=>∀f,C.oC p=some f->aT P c f
def f_:Code->Nat->List (Nat×Code)
 |.seq a b,p=>(p,.seq a b)::(f_ a (2*p)++f_ b (2*p+1))
 |.cond c a b,p=>(p,.cond c a b)::(f_ a (2*p)++f_ b (2*p+1))
 |.block id a,p=>(p,.block id a)::f_ a (2*p)
 |c,p=>[(p,c)]
theorem Tp{P:Program}{C:hY}:∀(c:Code) (p:Nat),(∀q fu,(q,fu)∈f_ c p->∀f,C.oC q=some f->aT P fu f)->gr P C c p:=by
 intro c;induction c with
 |seq a b mD rz=>
  intro p h;simp only[f_] at h;exact⟨h p _ List.mem_cons_self,mD _ fun q fu hm=>h q fu (List.mem_cons_of_mem _ (List.mem_append.2 (.inl hm))),rz _ fun q fu hm=>h q fu (List.mem_cons_of_mem _ (List.mem_append.2 (.inr hm)))⟩
 |cond D a b mD rz=>
  intro p h;simp only[f_] at h;exact⟨h p _ List.mem_cons_self,mD _ fun q fu hm=>h q fu (List.mem_cons_of_mem _ (List.mem_append.2 (.inl hm))),rz _ fun q fu hm=>h q fu (List.mem_cons_of_mem _ (List.mem_append.2 (.inr hm)))⟩
 |block id a mD=>
  intro p h;simp only[f_] at h;exact⟨h p _ List.mem_cons_self,mD _ fun q fu hm=>h q fu (List.mem_cons_of_mem _ hm)⟩
 |_=>intro p h;exact h p _ (by simp[f_])
section
variable {P:Program}{U:World}{Y:List Nat}{X:Nat->Prop}{F:Nat->Value}{st:al}{M:Array Value}{w:World}
theorem ar.nd(S:ar U Y X F st M w){t:Nat}{v:a7}(hv:ck F st.sites w (aI X F st.sites) v (M.getD t undef)):ar U Y X F (st.set t v) M w:=by
 refine⟨S.nt,fun u=>?_,S.sites,S.eg,S.ct,S.frame,S.old,S.fa⟩
 rw[al.IN];by_cases h:t=u
 ·subst h;simp only[if_true];exact hv
 ·simp only[h,if_false];exact S.cO u
variable {R:Type}{C:Ctx}{ops:Array Oper}
theorem QI(S:ar U Y X F st M w)(H:aR P C){D:Oper}{K:al->Option R}{r:R}(h:kI C st D K=some r){N:Act->World->Prop}{Q:Exit->Act->World->Prop}
  (bT:∀ao aY b0 w',K ao=some r->ar U Y X aY ao b0 w'->N ⟨b0,[]⟩ w'):D.wp P ⟨M,[]⟩ w N Q:=by
 unfold kI at h;cases Z:cr st D.dst with
 |false=>simp[Z] at h
 |true=>
  simp only[Z,cond_true] at h;have hs:=alT S H Z;cases hc:(step C st D).comp with
  |none=>simp[hc] at h
  |some y=>
   simp only[hc,Option.bind_some] at h;cases hk:(step C st D).rT y with
   |false=>simp[hk] at h
   |true=>
    simp only[hk,cond_true] at h;exact hs y hc hk N Q fun aY b0 w' cm=>bT _ aY b0 w' h cm
theorem agJ{T e:TypeId}(h:P.underlying T=some (.slice e))(a:Option Addr)(n c:Nat)(neg:Bool):
  (binOp (if neg then .neq else .eql) T (.slice a n c) (.slice none 0 0)).run P w=.ok (.bool (if neg then !a.isNone else a.isNone)) w:=by
 have e:(Op.equal T (.slice a n c) (.slice none 0 0)).run P w=.ok a.isNone w:=by
  have key:∀d:Nat,(Op.equalIn (d+1) T (.slice a n c) (.slice none 0 0)).run P w=.ok a.isNone w:=fun d=>by cases a<;>simp[Op.equalIn,run_underlying h]
  exact key 9999
 cases neg
 ·show((do pure (.bool (<-Op.equal T (.slice a n c) (.slice none 0 0)))):Sem Value).run P w=_
  simp only[Sem.run_bind,e,Result.andThen_ok,Sem.run_pure];rfl
 ·show((do pure (.bool (!(<-Op.equal T (.slice a n c) (.slice none 0 0))))):Sem Value).run P w=_
  simp only[Sem.run_bind,e,Result.andThen_ok,Sem.run_pure];rfl
theorem ad9{op:BinOp}{T:TypeId}{x y:Operand}{a b:Option Addr}{n c hI fu:Nat}:(eqGuard op T x y (.slice a n c) (.slice b hI fu)).run P w=.ok () w:=by
 unfold eqGuard;cases op<;>rfl
theorem agZ{D:Oper}{t:bf}{xs:List (den t)}{neg:Bool}(h:Jy C st D=some (⟨t,xs⟩,neg)):∃T x nP e ty bytes,D.op=.binOp (if neg then .neq else .eql) T x (.const (.slice none 0 0)) nP/\C.tt T=.slice e ty bytes/\bg C st T x=.av (.am (.d (.sl t xs))):=by
 unfold Jy at h;split at h
 ·rename_i op T x nP aM;split at h
  ·rename_i e ty bytes bk;split at h
   ·split at h
    ·rename_i bo iZ hx;cases h;exact⟨T,x,nP,e,ty,bytes,aM,bk,hx⟩
    ·cases h
   ·split at h
    ·rename_i bo iZ hx;cases h;exact⟨T,x,nP,e,ty,bytes,aM,bk,hx⟩
    ·cases h
   ·cases h
  ·cases h
 ·cases h
theorem aey{t:bf}{xs:List (den t)}{a b:Option R}{r:R}(h:qy xs a b=some r):b=some r/\(xs=[]->a=some r):=by
 unfold qy at h;split at h
 ·rename_i acp;exact⟨h,fun he=>(acp he).trans h⟩
 ·cases h
theorem aj3(S:ar U Y X F st M w)(H:aR P C){D:Oper}{K:al->Option R}{r:R}(h:wz C st D K=some r){N:Act->World->Prop}{Q:Exit->Act->World->Prop}
  (bT:∀ao aY b0 w',K ao=some r->ar U Y X aY ao b0 w'->N ⟨b0,[]⟩ w'):D.wp P ⟨M,[]⟩ w N Q:=by
 unfold wz at h;split at h
 ·rename_i t xs neg hn;cases Z:cr st D.dst with
  |false=>simp[Z] at h
  |true=>
   simp only[Z,cond_true] at h;obtain⟨h2,h1⟩:=aey h;obtain⟨T,x,nP,e,ty,bytes,aM,bk,hx⟩:=agZ hn;have hs:=dH S C T x;rw[hx] at hs;have bO:=H.tt T;rw[bk] at bO;have run:∀{a:Option Addr} {n c:Nat},Act.eval ⟨M,[]⟩ x=.slice a n c->(execOp (Act.eval ⟨M,[]⟩) D).run P w=.ok (.value (.bool (if neg then !a.isNone else a.isNone))) w:=by
    intro a n c hv;unfold execOp;have hc:Act.eval ⟨M,[]⟩ (.const (.slice none 0 0))=.slice none 0 0:=rfl;simp only[aM,hv,hc,Sem.run_bind,ad9,agJ bO.1.1,Result.andThen_ok,Sem.run_pure]
   have fin:∀b:Bool,(execOp (Act.eval ⟨M,[]⟩) D).run P w=.ok (.value (.bool b)) w->K (st.cY D.dst (one (.bool b)) [])=some r->D.wp P ⟨M,[]⟩ w N Q:=by
    intro b hr hk;refine pj hr (bT _ _ _ _ hk (ar.cY (us:=[]) S Z ?_));exact bK.bool b
   have hs:bK w (aI X F st.sites) (.sl t xs) (Act.eval ⟨M,[]⟩ x):=hs;generalize iX:Act.eval ⟨M,[]⟩ x=v at hs;cases hs with
   |nil=>
    have:=run iX;cases neg
    ·exact fin true this (h1 rfl)
    ·exact fin false this (h1 rfl)
   |sl t xs a cap cs n iM hcap hb hl hc hr=>
    have:=run iX;cases neg
    ·exact fin false this h2
    ·exact fin true this h2
 ·exact QI S H h bT
theorem ah4(S:ar U Y X F st M w){D:Oper}{K:al->Option R}{r:R}(h:s' st D K=some r){N:Act->World->Prop}
  (bT:∀ao aY b0 w',K ao=some r->ar U Y X aY ao b0 w'->N ⟨b0,[]⟩ w'):N ((⟨M,[]⟩:Act).put D.dst undef) w:=by
 unfold s' at h;cases Z:cr st D.dst with
 |false=>simp[Z] at h
 |true=>
  simp only[Z,cond_true] at h;have:(⟨M,[]⟩:Act).put D.dst undef=⟨cD M D.dst undef,[]⟩:=by cases D.dst<;>rfl
  rw[this];exact bT _ _ _ _ h (ar.cY (us:=[]) S Z rfl)
theorem jm{M:Array Value}{dst:Option Nat}{v:Value}{t:Nat}(h:t∉dst.toList):(cD M dst v).getD t undef=M.getD t undef:=by
 cases dst with
 |none=>rfl
 |some d=>
  have:d≠t:=fun e=>h (by simp[e])
  simp[cD,Array.getD_eq_getD_getElem?,Array.getElem?_setIfInBounds_ne this]
variable {rn:Option Nat}{ds:List Deferred}
theorem GH(S:ar U Y X F st M w)(H:aR P C){D:Oper}{K:al->Option R}{r:R}(h:wz C st D K=some r){N:Act->World->Prop}{Q:Exit->Act->World->Prop}
  (bT:∀ao aY b0 w',K ao=some r->ar U Y X aY ao b0 w'->(∀t,t∉D.dst.toList->b0.getD t undef=M.getD t undef)->N ⟨b0,ds⟩ w'):D.wpIn (eM rn) 0 P ⟨M,ds⟩ w N Q:=by
 refine Oper.wpIn_mono ?_ (Kf (K:=fun a w=>a.defers=[]/\∃ao aY,K ao=some r/\ar U Y X aY ao a.tmps w) (fun _ _ h=>h.1) (aj3 S H h fun ao aY b0 w' hk cm=>⟨rfl,ao,aY,hk,cm⟩) rn ds)
 rintro a w' ⟨v,rfl,_,ao,aY,hk,cm⟩;exact bT ao aY _ w' hk cm fun t aq=>jm aq
theorem n3(S:ar U Y X F st M w)(H:aR P C){D:Oper}{K:al->Option R}{r:R}(h:kI C st D K=some r){N:Act->World->Prop}{Q:Exit->Act->World->Prop}
  (bT:∀ao aY b0 w',K ao=some r->ar U Y X aY ao b0 w'->(∀t,t∉D.dst.toList->b0.getD t undef=M.getD t undef)->N ⟨b0,ds⟩ w'):D.wpIn (eM rn) 0 P ⟨M,ds⟩ w N Q:=by
 refine Oper.wpIn_mono ?_ (Kf (K:=fun a w=>a.defers=[]/\∃ao aY,K ao=some r/\ar U Y X aY ao a.tmps w) (fun _ _ h=>h.1) (QI S H h fun ao aY b0 w' hk cm=>⟨rfl,ao,aY,hk,cm⟩) rn ds)
 rintro a w' ⟨v,rfl,_,ao,aY,hk,cm⟩;exact bT ao aY _ w' hk cm fun t aq=>jm aq
theorem yV(S:ar U Y X F st M w){D:Oper}{K:al->Option R}{r:R}(h:s' st D K=some r){N:Act->World->Prop}
  (bT:∀ao aY b0 w',K ao=some r->ar U Y X aY ao b0 w'->(∀t,t∉D.dst.toList->b0.getD t undef=M.getD t undef)->N ⟨b0,ds⟩ w'):N ((⟨M,ds⟩:Act).put D.dst undef) w:=by
 rw[vt];refine ah4 (N:=fun a w=>∀t0,a.tmps=t0->t0=cD M D.dst undef->N ⟨t0,ds⟩ w) S h (fun ao aY b0 w' hk cm t0 e1 e2=>?_) (cD M D.dst undef) (by rw[vt]) rfl
 subst e1;exact bT ao aY _ w' hk cm fun t aq=>by have e2:b0=cD M D.dst undef:=e2;rw[e2];exact jm aq
theorem ah9(H:aR P C){r:R}{W:List Nat}:∀(n k:Nat),ops.size=k+n->(∀D,D∈ops.toList.drop k->∀t,t∈D.dst.toList->t∈W)->∀(st:al) (F:Nat->Value) (M:Array Value) (w:World) (K:al->Option R) (Q:Exit->Act->World->Prop),ar U Y X F st M w->
  v6 C ops (ops.toList.drop k) st K=some r->(∀ao aY b0 w',K ao=some r->ar U Y X aY ao b0 w'->(∀t,t∉W->b0.getD t undef=M.getD t undef)->Q .normal ⟨b0,ds⟩ w')->wpOpsIn (eM rn) 0 P ops Q (List.range' k n) ⟨M,ds⟩ w:=by
 intro n;induction n with
 |zero=>
  intro k hk _ st F M w K Q S h bT;rw[List.drop_eq_nil_of_le (by simp;omega)] at h
  exact bT st F M w h S fun _ _=>rfl
 |succ n ih=>
  intro k hk hW st F M w K Q S h bT;have hlt:k<ops.size:=by omega
  have aM:ops[k]? =some ops[k]:=Array.getElem?_eq_getElem hlt;have wH:ops.toList.drop k=ops[k]::ops.toList.drop (k+1):=by
   rw[List.drop_eq_getElem_cons (by simpa using hlt)];simp
  rw[wH] at h hW;simp only[v6] at h;rw[show List.range' k (n+1)=k::List.range' (k+1) n from rfl]
  simp only[wpOpsIn,aM];have ayb:=hW _ List.mem_cons_self;have MW:=fun D aM=>hW D (List.mem_cons_of_mem _ aM)
  have next:∀ao aY b0 w',v6 C ops (ops.toList.drop (k+1)) ao K=some r->ar U Y X aY ao b0 w'->(∀t,t∉(ops[k]).dst.toList->b0.getD t undef=M.getD t undef)->wpOpsIn (eM rn) 0 P ops Q (List.range' (k+1) n) ⟨b0,ds⟩ w':=
   fun ao aY b0 w' aj cm aq=>ih (k+1) (by omega) MW ao aY b0 w' K Q cm aj fun xo iv pT w2 hk2 ie lU=>bT xo iv pT w2 hk2 ie fun t ab3=>(lU t ab3).trans (aq t fun aj=>ab3 (ayb t aj))
  generalize ops[k]=D at h next ⊢
  have oZ:∀f,D.about P w (Act.eval ⟨M,ds⟩)=some f->(eM rn).fn f:=fun f _=>C2 rn f
  unfold TR at h;cases hg:D.guard with
  |none=>
   simp only[hg] at h;rw[if_pos (by simp[Region.wanted,hg])]
   exact GH S H h next
  |some NR=>
   obtain⟨j,want⟩:=NR;simp only[hg] at h;have hw:Region.wanted D (yielded ops M)=(yielded ops M j==some want):=by simp[Region.wanted,hg]
   cases hj:(ops[j]?).bind (·.dst) with
   |none=>simp[hj] at h
   |some t=>
    simp only[hj] at h;have jq:=S.cO t;split at h
    ·rename_i b hb;rw[hb] at jq;have hv:=jO jq;have hy:yielded ops M j=some b:=by
      have aq:t<M.size:=by
       rcases Nat.lt_or_ge t M.size with aj|aj
       ·exact aj
       ·simp[Array.getD,Nat.not_lt.2 aj,undef] at hv
      have:M[t]? =some (.bool b):=by
       rw[Array.getElem?_eq_getElem aq];simpa[Array.getD,aq] using hv
      simp[yielded,hj,this]
     rw[hy] at hw;have go:∀bH,b=bH->ar U Y X F (st.set t (one (.bool bH))) M w:=fun bH e=>S.nd (by rw[hv,e];exact .bool _)
     cases b<;>cases want<;>simp only[cond_true,cond_false,Bool.not_true,Bool.not_false] at h
     ·rw[if_pos (by rw[hw];rfl)];exact GH (go false rfl) H h next
     ·rw[if_neg (by rw[hw];decide)];exact⟨oZ,yV (go false rfl) h next⟩
     ·rw[if_neg (by rw[hw];decide)];exact⟨oZ,yV (go true rfl) h next⟩
     ·rw[if_pos (by rw[hw];rfl)];exact GH (go true rfl) H h next
    ·rename_i x hb;rw[hb] at jq;have hv:M.getD t undef=.tuple x:=jq;have hy:yielded ops M j=none:=by
      simp only[yielded,hj,Option.bind_some];cases aq:M[t]? with
      |none=>rfl
      |some v=>
       have:M.getD t undef=v:=by simp[Array.getD_eq_getD_getElem?,aq]
       rw[this] at hv;rw[hv]
     rw[hy] at hw;rw[if_neg (by rw[hw];simp)]
     exact⟨oZ,yV S h next⟩
    ·cases h
end
abbrev o6:=Nat⊕Nat
def er(st:al):o6->a7⊕Option Site
 |.inl t=>.inl (st.get t)
 |.inr o=>.inr (st.af o)
def n5{aJ:Type}:List (Nat×aJ)->Nat->Option aJ
 |[],_=>none
 |(k,v)::r,n=>match n5 r n with
  |some x=>some x
  |none=>bif k.beq n then some v else none
def Rec.wr(x:Rec):o6->Option (a7⊕Option Site)
 |.inl t=>match x.D.dst with
  |some d=>bif d.beq t then some (.inl x.v) else none
  |none=>none
 |.inr o=>(n5 x.us o).map fun s=>.inr (some s)
theorem ahU:∀(us:List (Nat×Site)) (st:al) (o:Nat),(st.io us).af o=match n5 us o with|some s=>some s|none=>st.af o:=by
 intro us;induction us with
 |nil=>intro st o;rfl
 |cons p us ih=>
  obtain⟨k,s⟩:=p;intro st o;simp only[al.io,ih,n5];cases n5 us o with
  |some x=>rfl
  |none=>
   simp only[al.ys];by_cases h:k=o
   ·subst h;simp
   ·simp[h,j1 h]
theorem Ro:∀(us:List (Nat×Site)) (st:al) (t:Nat),(st.io us).get t=st.get t:=by
 intro us;induction us with
 |nil=>intro st t;rfl
 |cons p us ih=>intro st t;simp only[al.io,ih,al.af9]
theorem SC:∀(us:List (Nat×Site)) (st:al),(st.io us).nt=st.nt:=by
 intro us;induction us with
 |nil=>intro st;rfl
 |cons p us ih=>intro st;simp only[al.io,ih,al.agY]
theorem J2(st:al)(d:Option Nat)(v:a7)(us:List (Nat×Site)):(st.cY d v us).nt=st.nt:=by
 cases d<;>simp only[al.cY,al.ao0,SC]
theorem zl(st:al)(x:Rec)(l:o6):er (st.cY x.D.dst x.v x.us) l=match x.wr l with|some u=>u|none=>er st l:=by
 cases l with
 |inl t=>
  simp only[er,Rec.wr];cases x.D.dst with
  |none=>simp only[al.cY,Ro]
  |some d=>
   simp only[al.cY,al.IN,Ro];by_cases h:d=t
   ·subst h;simp
   ·simp[h,j1 h]
 |inr o=>
  simp only[er,Rec.wr];have:(st.cY x.D.dst x.v x.us).af o=(st.io x.us).af o:=by cases x.D.dst<;>simp only[al.cY,al.aj0]
  rw[this,ahU];cases n5 x.us o<;>rfl
def ew(L:Nat->Bool):Nat->List Rec->al->al
 |_,[],st=>st
 |k,x::r,st=>ew L (k+1) r (bif L k then st.cY x.D.dst x.v x.us else st)
theorem Hh{L:Nat->Bool}:∀{xs:List Rec} {k:Nat} {st:al},(ew L k xs st).nt=st.nt:=by
 intro xs;induction xs with
 |nil=>intro k st;rfl
 |cons x xs ih=>intro k st;simp only[ew,ih];cases L k<;>simp[J2]
theorem Fp{L L':Nat->Bool}:∀{xs:List Rec} {k:Nat} {st ao:al} {l:o6},er st l=er ao l->(∀j x,xs[j]? =some x->x.wr l≠none->L (k+j)=L' (k+j))->er (ew L k xs st) l=er (ew L' k xs ao) l:=by
 intro xs;induction xs with
 |nil=>intro k st ao l h _;exact h
 |cons x xs ih=>
  intro k st ao l h dK;simp only[ew];refine ih ?_ fun j y hy hw=>?_
  ·cases hw:x.wr l with
   |none=>
    have e1:∀s:al,er (s.cY x.D.dst x.v x.us) l=er s l:=fun s=>by rw[zl,hw]
    cases L k<;>cases L' k<;>simp only[cond_true,cond_false,e1,h]
   |some u=>
    have:=dK 0 x rfl (by rw[hw];intro h;cases h)
    simp only[Nat.add_zero] at this;rw[this];cases L' k with
    |true=>simp only[cond_true,zl,hw]
    |false=>simp only[cond_false,h]
  ·have:=dK (j+1) y (by simpa using hy) hw
   rw[show k+(j+1)=k+1+j from by omega] at this
   exact this
theorem Fq{xs:List Rec}:∀{k:Nat} {st:al} {L:Nat->Bool},(∀j,k<=j->L j=false)->ew L k xs st=st:=by
 induction xs with
 |nil=>intro k st L _;rfl
 |cons x xs ih=>
  intro k st L h;simp only[ew,h k (Nat.le_refl _),cond_false];exact ih fun j hj=>h j (by omega)
theorem Pl{L L':Nat->Bool}:∀{xs:List Rec} {k k':Nat} {st:al},(∀j,j<xs.length->L (k+j)=L' (k'+j))->ew L k xs st=ew L' k' xs st:=by
 intro xs;induction xs with
 |nil=>intro k k' st _;rfl
 |cons x xs ih=>
  intro k k' st h;simp only[ew];have h0:=h 0 (by simp)
  simp only[Nat.add_zero] at h0;rw[h0];exact ih fun j hj=>by have:=h (j+1) (by simpa using hj);rw[show k+(j+1)=k+1+j from by omega,show k'+(j+1)=k'+1+j from by omega] at this;exact this
theorem ahr{L:Nat->Bool}:∀{xs:List Rec} {k i:Nat} {st:al} {l:o6} {x:Rec} {u:a7⊕Option Site},xs[i]? =some x->L (k+i)=true->x.wr l=some u->
  (∀j y,i<j->xs[j]? =some y->y.wr l≠none->L (k+j)=false)->er (ew L k xs st) l=u:=by
 intro xs;induction xs with
 |nil=>intro k i st l x u h;cases h
 |cons y xs ih=>
  intro k i st l x u h dK hw hj;simp only[ew];cases i with
  |zero=>
   simp only[List.getElem?_cons_zero,Option.some.injEq] at h;subst h;simp only[Nat.add_zero] at dK;rw[dK];simp only[cond_true];have e:er (st.cY y.D.dst y.v y.us) l=u:=by rw[zl,hw]
   rw[<-e];have e2:st.cY y.D.dst y.v y.us=ew (fun _=>false) (k+1) xs (st.cY y.D.dst y.v y.us):=(Fq fun _ _=>rfl).symm
   conv=>rhs;rw[e2]
   refine Fp rfl fun j z hz Mn=>?_
   have:=hj (j+1) z (by omega) (by simpa using hz) Mn
   rw[show k+(j+1)=k+1+j from by omega] at this
   exact this
  |succ i=>
   refine ih (by simpa using h) (by rw[show k+1+i=k+(i+1) from by omega];exact dK) hw fun j z p1 hz Mn=>?_
   have:=hj (j+1) z (by omega) (by simpa using hz) Mn
   rw[show k+(j+1)=k+1+j from by omega] at this
   exact this
section
variable {P:Program}{ops:Array Oper}
def DC(ops:Array Oper)(L:Nat->Bool)(i:Nat):Prop:=∀D,ops[i]? =some D->∀e,e∈D.after.toList->Region.binds .any e=true->L e.on=true
def CF(ops:Array Oper)(L:Nat->Bool):Prop:=∀j,L j=true->DC ops L j
def uM(ops:Array Oper)(k i:Nat):Prop:=∀L,CF ops L->DC ops L i->L k=true
theorem Tx{aJ:Type}{l:List (Nat×aJ)}{n:Nat}{v:aJ}(h:look l n=some v):(n,v)∈l:=by
 induction l with
 |nil=>cases h
 |cons p l ih=>
  obtain⟨m,u⟩:=p;simp only[look] at h;cases hb:m.beq n with
  |true=>
   simp only[hb,cond_true,Option.some.injEq] at h;rw[<-Nat.eq_of_beq_eq_true hb,h];exact List.mem_cons_self
  |false=>simp only[hb,cond_false] at h;exact List.mem_cons_of_mem _ (ih h)
theorem aly{acc:List (Nat×Rec×List Nat)}(ha:∀k x b,(k,x,b)∈acc->∀m,m∈b->uM ops m k){i:Nat}:∀{es:List Edge} {m:Nat},m∈mn acc es->∀L,CF ops L->
  (∀e,e∈es->Region.binds .any e=true->L e.on=true)->L m=true:=by
 intro es;induction es with
 |nil=>intro m h;cases h
 |cons e es ih=>
  intro m h L hc hf;simp only[mn] at h;cases hb:Region.binds .any e with
  |false=>
   simp only[hb,cond_false] at h;exact ih h L hc fun cI mK=>hf cI (List.mem_cons_of_mem _ mK)
  |true=>
   simp only[hb,cond_true] at h;have h0:=hf e List.mem_cons_self hb;split at h
   ·rename_i x hx;rcases List.mem_cons.1 h with rfl|h
    ·exact h0
    ·rcases List.mem_append.1 h with h|h
     ·have hm:(e.on,x)∈acc:=Tx hx;obtain⟨eh,fT⟩:=x;exact ha _ _ _ hm m h L hc (hc _ h0)
     ·exact ih h L hc fun cI mK=>hf cI (List.mem_cons_of_mem _ mK)
   ·exact ih h L hc fun cI mK=>hf cI (List.mem_cons_of_mem _ mK)
structure tM(C:Ctx)(ops:Array Oper)(st:al)(D:Oper)(x:Rec):Prop where
 hK:x.D=D
 guard:∀j want,D.guard=some (j,want)->∃t,(ops[j]?).bind (·.dst)=some t/\t∈x.la/\((∃b,st.get t=one (.bool b)/\(x.go=(b==want)))\/((∃u,st.get t=b6 (.cW (.tuple u)))/\x.go=false))
 free:D.guard=none->x.go=true
 skip:x.go=false->x.v=BD/\x.us=[]
 run:x.go=true->∃y,(step C st D).comp=some y/\(step C st D).rT y=true/\x.v=(step C st D).val y/\x.us=(step C st D).us y/\(∀t,t∈pd (lB D.op)->t∈x.la)/\(∀o,o∈Kk C st D->o∈x.rn)/\(B8 D.op=true->x.Ef=true)
inductive lj(C:Ctx)(ops:Array Oper):List Oper->Nat->List (Nat×Rec×List Nat)->al->List Rec->al->Prop where
 |nil {i acc st}:lj C ops [] i acc st [] st
 |cons {D r i acc st x xs ao} (Z:cr st D.dst=true) (he:s3 i D.after.toList=true) (hx:tM C ops st D x) (hk:tb (mn acc D.after.toList) x acc=true)
   (h:lj C ops r (i+1) ((i,x,mn acc D.after.toList)::acc) (st.cY D.dst x.v x.us) xs ao):lj C ops (D::r) i acc st (x::xs) ao
theorem aiX{R:Type}{g:Bool}{v:a7}{K:a7->Option R}{r:R}(h:KR g v K=some r):K v=some r:=by
 unfold KR at h;cases g with
 |false=>exact h
 |true=>
  simp only[cond_true] at h;split at h
  ·rename_i b;cases b<;>exact h
  ·exact h
theorem agd{R:Type}{C:Ctx}{g:Bool}{st:al}{D:Oper}{K:Rec->Option R}{r:R}(h:J1 C ops g st D K=some r):∃x,tM C ops st D x/\K x=some r:=by
 have run:∀gs,Bv C g st D gs K=some r->(∀j want,D.guard=some (j,want)->∃t,(ops[j]?).bind (·.dst)=some t/\t∈gs/\∃b,st.get t=one (.bool b)/\(b==want)=true)->∃x,tM C ops st D x/\K x=some r:=by
  intro gs h hg;unfold Bv at h;obtain⟨y,hy,h⟩:=Option.bind_eq_some_iff.1 h;cases hc:(step C st D).rT y with
  |false=>simp[hc] at h
  |true=>
   simp only[hc,cond_true] at h;refine⟨_,⟨rfl,fun j want hj=>?_,fun _=>rfl,fun h=>(by cases h),fun _=>⟨y,hy,hc,rfl,rfl,fun t aq=>List.mem_append.2 (.inr aq),fun _ h=>h,fun h=>h⟩⟩,aiX h⟩
   obtain⟨t,h1,h2,b,h3,aA⟩:=hg j want hj;exact⟨t,h1,List.mem_append.2 (.inl h2),.inl ⟨b,h3,aA.symm⟩⟩
 have skip:∀gs,Hf D gs K=some r->(∃j want,D.guard=some (j,want)/\∃t,(ops[j]?).bind (·.dst)=some t/\t∈gs/\((∃b,st.get t=one (.bool b)/\(b==want)=false)\/∃u,st.get t=b6 (.cW (.tuple u))))->∃x,tM C ops st D x/\K x=some r:=by
  intro gs h hg;obtain⟨j,want,hj,t,h1,h2,h3⟩:=hg;refine⟨_,⟨rfl,fun adI aBB j8=>?_,fun h=>(by rw[hj] at h;cases h),fun _=>⟨rfl,rfl⟩,fun h=>(by cases h)⟩,h⟩
  rw[hj] at j8;cases j8;refine⟨t,h1,h2,?_⟩;rcases h3 with⟨b,h3,aA⟩|h3
  ·exact .inl ⟨b,h3,aA.symm⟩
  ·exact .inr ⟨h3,rfl⟩
 unfold J1 at h;split at h
 ·rename_i hg;exact run [] h fun j want hj=>by rw[hg] at hj;cases hj
 ·rename_i j want hg;split at h
  ·rename_i t aq;split at h
   ·rename_i b hb;cases b<;>cases want<;>simp only[cond_true,cond_false,Bool.not_true,Bool.not_false] at h
    ·exact run [t] h fun adI w' j8=>by rw[hg] at j8;cases j8;exact⟨t,aq,List.mem_singleton.2 rfl,false,hb,rfl⟩
    ·exact skip [t] h ⟨j,true,hg,t,aq,List.mem_singleton.2 rfl,.inl ⟨false,hb,rfl⟩⟩
    ·exact skip [t] h ⟨j,false,hg,t,aq,List.mem_singleton.2 rfl,.inl ⟨true,hb,rfl⟩⟩
    ·exact run [t] h fun adI w' j8=>by rw[hg] at j8;cases j8;exact⟨t,aq,List.mem_singleton.2 rfl,true,hb,rfl⟩
   ·rename_i u hu;exact skip [t] h ⟨j,want,hg,t,aq,List.mem_singleton.2 rfl,.inr ⟨u,hu⟩⟩
   ·cases h
  ·cases h
theorem ajg{R:Type}{C:Ctx}{K:al->Option R}{r:R}:∀{os:List Oper} {i:Nat} {acc:List (Nat×Rec×List Nat)} {st:al},Cx C ops os i acc st K=some r->∃xs ao,lj C ops os i acc st xs ao/\K ao=some r:=by
 intro os;induction os with
 |nil=>intro i acc st h;exact⟨[],st,.nil,h⟩
 |cons D os ih=>
  intro i acc st h;simp only[Cx] at h;cases Z:cr st D.dst&&s3 i D.after.toList with
  |false=>simp[Z] at h
  |true=>
   simp only[Z,cond_true] at h;obtain⟨x,hx,h⟩:=agd h;cases hk:tb (mn acc D.after.toList) x acc with
   |false=>simp[hk] at h
   |true=>
    simp only[hk,cond_true] at h;obtain⟨xs,ao,h1,h2⟩:=ih h;simp only[Bool.and_eq_true] at Z;exact⟨x::xs,ao,.cons Z.1 Z.2 hx hk h1,h2⟩
theorem lj.length{C:Ctx}{os:List Oper}{i:Nat}{acc:List (Nat×Rec×List Nat)}{st ao:al}{xs:List Rec}(h:lj C ops os i acc st xs ao):xs.length=os.length:=by
 induction h with
 |nil=>rfl
 |cons _ _ _ _ _ ih=>simp[ih]
theorem lj.atG{C:Ctx}{os:List Oper}{i:Nat}{acc:List (Nat×Rec×List Nat)}{st ao:al}{xs:List Rec}(h:lj C ops os i acc st xs ao):∀k,ew (fun _=>true) k xs st=ao:=by
 induction h with
 |nil=>intro k;rfl
 |cons _ _ hx _ _ ih=>intro k;simp only[ew,cond_true,hx.hK];exact ih _
theorem lj.at_{C:Ctx}{os:List Oper}{i:Nat}{acc:List (Nat×Rec×List Nat)}{st ao:al}{xs:List Rec}(h:lj C ops os i acc st xs ao):∀j x,xs[j]? =some x->
  ∃D,os[j]? =some D/\cr st D.dst=true/\s3 (i+j) D.after.toList=true/\tM C ops (ew (fun k=>decide (k<j)) 0 xs st) D x:=by
 induction h with
 |nil=>intro j x h;cases h
 |@cons D r i acc st x xs ao Z he hx hk h ih=>
  intro j y hy;cases j with
  |zero=>
   simp only[List.getElem?_cons_zero,Option.some.injEq] at hy;subst hy;refine⟨D,rfl,Z,he,?_⟩;rw[Fq fun j _=>by simp[Nat.blt]]
   exact hx
  |succ j=>
   obtain⟨c7,h1,h2,h3,aA⟩:=ih j y (by simpa using hy)
   refine⟨c7,by simpa using h1,?_,by rw[show i+(j+1)=i+1+j from by omega];exact h3,?_⟩
   ·revert h2;cases c7.dst<;>simp[cr,J2]
   ·simp only[ew];have eT:decide (0<j+1)=true:=by simp
    rw[eT,cond_true,hx.hK];rw[Pl (L':=fun k=>decide (k<j)) (k':=0) fun m _=>by simp only[decide_eq_decide];omega]
    exact aA
theorem QO{n:Nat}{l:List Nat}:f' n l=true <-> n∈l:=by
 induction l with
 |nil=>simp[f']
 |cons m l ih=>
  simp only[f',Bool.or_eq_true,ih,List.mem_cons];constructor
  ·rintro(h|h)
   ·exact .inl (Nat.eq_of_beq_eq_true h)
   ·exact .inr h
  ·rintro(h|h)
   ·exact .inl (by rw[h];exact Nat.beq_refl m)
   ·exact .inr h
theorem agX{xW:List Nat}{x:Rec}:∀{acc:List (Nat×Rec×List Nat)},tb xW x acc=true->∀k y b,(k,y,b)∈acc->k∈xW\/mr y x=false:=by
 intro acc;induction acc with
 |nil=>intro _ k y b h;cases h
 |cons p acc ih=>
  obtain⟨j,z,aCL⟩:=p;intro h k y b hm;simp only[tb,Bool.and_eq_true,Bool.or_eq_true] at h;rcases List.mem_cons.1 hm with hm|hm
  ·cases hm;rcases h.1 with h1|h1
   ·exact .inl (QO.1 h1)
   ·exact .inr (by simpa using h1)
  ·exact ih h.2 k y b hm
theorem lj.aw0{C:Ctx}{os:List Oper}{i:Nat}{acc:List (Nat×Rec×List Nat)}{st ao:al}{xs:List Rec}(h:lj C ops os i acc st xs ao):∀(pre:List Rec),pre.length=i->(∀j,ops[i+j]? =os[j]?)->
  (∀k y,pre[k]? =some y->∃b,(k,y,b)∈acc)->(∀k x b,(k,x,b)∈acc->∀m,m∈b->uM ops m k)->∀j x,xs[j]? =some x->∀k y,k<i+j->(pre++xs)[k]? =some y->uM ops k (i+j)\/mr y x=false:=by
 induction h with
 |nil=>intro pre _ _ _ _ j x h;cases h
 |@cons D r i acc st x xs ao Z he hx hk h ih=>
  intro pre hlen Zo Zn iL j y hy k z axR hz;have Zz:∀m,m∈mn acc D.after.toList->uM ops m i:=fun m hm L hc hf=>by
   refine aly iL (i:=i) hm L hc fun e he hb=>hf D ?_ e he hb
   have:=Zo 0;simpa using this
  cases j with
  |zero=>
   simp only[List.getElem?_cons_zero,Option.some.injEq] at hy;subst hy;simp only[Nat.add_zero] at axR ⊢;rw[List.getElem?_append_left (by omega)] at hz
   obtain⟨b,hb⟩:=Zn k z hz;rcases agX hk k z b hb with h1|h1
   ·exact .inl (Zz k h1)
   ·exact .inr h1
  |succ j=>
   have:=ih (pre++[x]) (by simp[hlen]) (fun j=>by have:=Zo (j+1);rw[show i+1+j=i+(j+1) from by omega];simpa using this)
    (fun k y hy=>?_) (fun k iy b hm m ab6=>?_) j y (by simpa using hy) k z (by omega) (by simpa using hz)
   ·rw[show i+(j+1)=i+1+j from by omega];exact this
   ·rcases Nat.lt_or_ge k pre.length with aj|aj
    ·rw[List.getElem?_append_left aj] at hy;obtain⟨b,hb⟩:=Zn k y hy;exact⟨b,List.mem_cons_of_mem _ hb⟩
    ·rw[List.getElem?_append_right aj] at hy;have h0:k-pre.length=0:=by
      rcases Nat.eq_zero_or_pos (k-pre.length) with h0|h0
      ·exact h0
      ·rw[List.getElem?_eq_none (by simp;omega)] at hy;cases hy
     rw[h0] at hy;simp only[List.getElem?_cons_zero,Option.some.injEq] at hy;subst hy;have:k=i:=by omega
     subst this;exact⟨_,List.mem_cons_self⟩
   ·rcases List.mem_cons.1 hm with hm|hm
    ·cases hm;exact Zz m ab6
    ·exact iL k iy b hm m ab6
end
section
variable {P:Program}{U:World}{Y:List Nat}{X:Nat->Prop}{F:Nat->Value}{st ao:al}{M:Array Value}{w:World}
theorem ar.same(S:ar U Y X F st M w)(hv:∀l,er st l=er ao l)(hn:st.nt=ao.nt):ar U Y X F ao M w:=by
 have hs:∀o,look st.sites o=look ao.sites o:=fun o=>by have:=hv (.inr o);simpa[er,al.af] using this
 have hg:∀t,st.get t=ao.get t:=fun t=>by have:=hv (.inl t);simpa[er] using this
 have hl:∀o,cq st.sites o <-> cq ao.sites o:=fun o=>by unfold cq;rw[hs]
 have ha:aI X F ao.sites=aI X F st.sites:=by
  funext b
  unfold aI;simp only[hl]
 have G:ir F F st.sites ao.sites w w (aI X F st.sites) (aI X F ao.sites):=by
  rw[ha];exact⟨fun o af h=>⟨af,by rw[<-hs];exact h,Nat.le_refl _,fun _=>rfl⟩,fun _ _ _=>rfl,fun _ h _=>h⟩
 have hlt:∀b,aI X F ao.sites b->b<w.heap.size:=fun b hb=>S.lt (by rw[<-ha];exact hb)
 refine⟨S.nt.trans hn,fun t=>?_,fun o af h=>?_,fun o ab b h1 h2=>S.eg o ab b ((hl o).2 h1) ((hl ab).2 h2),fun o b h=>S.ct o b ((hl o).2 h),S.frame,S.old,S.fa⟩
 ·rw[<-hg];exact(S.cO t).goes G (Nat.le_refl _) hlt
 ·exact(S.sites o af (by rw[hs];exact h)).goes G (Nat.le_refl _) hlt rfl (fun _ _ _=>rfl)
theorem ar.drawn(S:ar U Y X F st M w)(n:Nat):ar U Y X F st M {w with drawn:=n}:=by
 have G:ir F F st.sites st.sites w {w with drawn:=n} (aI X F st.sites) (aI X F st.sites):=
  ⟨fun o af h=>⟨af,h,Nat.le_refl _,fun _=>rfl⟩,fun _ _ _=>rfl,fun _ h _=>h⟩
 refine⟨S.nt,fun t=>(S.cO t).goes G (Nat.le_refl _) fun b hb=>S.lt hb,fun o af h=>(S.sites o af h).goes G (Nat.le_refl _) (fun b hb=>S.lt hb) rfl (fun _ _ _=>rfl),S.eg,S.ct,⟨S.frame.os,S.frame.tape,S.frame.output,S.frame.size,S.frame.block⟩,S.old,S.fa⟩
theorem aeF{aJ:Type}:∀{us:List (Nat×aJ)} {o:Nat} {s:aJ},n5 us o=some s->o∈keys us:=by
 intro us;induction us with
 |nil=>intro o s h;cases h
 |cons p us ih=>
  obtain⟨k,v⟩:=p;intro o s h;simp only[n5] at h;split at h
  ·rename_i x hx;exact List.mem_cons_of_mem _ (ih hx)
  ·cases hb:k.beq o with
   |true=>rw[<-Nat.eq_of_beq_eq_true hb];exact List.mem_cons_self
   |false=>simp[hb] at h
theorem FR{n:Nat}{l:List Nat}:f' n l=true <-> n∈l:=QO
theorem sE{l m:List Nat}{n:Nat}(h1:n∈l)(h2:n∈m):e_ l m=false:=by
 induction l with
 |nil=>cases h1
 |cons k l ih=>
  simp only[e_];rcases List.mem_cons.1 h1 with rfl|h1
  ·rw[FR.2 h2];rfl
  ·rw[ih h1,Bool.and_false]
theorem PU{l:List Nat}{n:Nat}(h1:n∈l)(h2:1000000<=n):wo l=true:=by
 induction l with
 |nil=>cases h1
 |cons k l ih=>
  simp only[wo,Bool.or_eq_true];rcases List.mem_cons.1 h1 with rfl|h1
  ·exact .inl (Nat.ble_eq_true_of_le h2)
  ·exact .inr (ih h1)
def Rec.at_(x:Rec):o6->Prop
 |.inl t=>t∈x.la
 |.inr o=>o∈x.rn\/(x.Ef=true/\1000000<=o)
theorem BC{x:Rec}{t:Nat}(h:x.wr (.inl t)≠none):x.D.dst=some t:=by
 simp only[Rec.wr] at h;split at h
 ·rename_i d Z;cases hb:d.beq t with
  |true=>rw[Z,Nat.eq_of_beq_eq_true hb]
  |false=>simp[hb] at h
 ·exact absurd rfl h
theorem BA{x:Rec}{o:Nat}(h:x.wr (.inr o)≠none):o∈keys x.us:=by
 simp only[Rec.wr] at h;cases hl:n5 x.us o with
 |none=>simp[hl] at h
 |some s=>exact aeF hl
theorem anj{a b:Rec}{l:o6}(h1:a.wr l≠none)(h2:b.at_ l):mr a b=true:=by
 unfold mr;cases l with
 |inl t=>
  have:=BC h1;have h2:t∈b.la:=h2;simp[this,tP,FR.2 h2]
 |inr o=>
  have:=BA h1;rcases h2 with h2|⟨h2,h3⟩
  ·have:e_ (keys a.us) (b.rn++keys b.us)=false:=sE this (List.mem_append.2 (.inl h2));simp[this]
  ·have:=PU this h3;simp[this,h2]
theorem ank{a b:Rec}{l:o6}(h1:a.at_ l)(h2:b.wr l≠none):mr a b=true:=by
 unfold mr;cases l with
 |inl t=>
  have:=BC h2;have h1:t∈a.la:=h1;simp[this,tP,FR.2 h1]
 |inr o=>
  have:=BA h2;rcases h1 with h2|⟨h2,h3⟩
  ·have:e_ (keys b.us) a.rn=false:=sE this h2;simp[this]
  ·have:=PU this h3;simp[this,h2]
theorem ani{a b:Rec}{l:o6}(h1:a.wr l≠none)(h2:b.wr l≠none):mr a b=true:=by
 unfold mr;cases l with
 |inl t=>
  have e1:=BC h1;have e2:=BC h2;simp[e1,e2,tP,f']
 |inr o=>
  have e1:=BA h1;have e2:=BA h2;have:e_ (keys a.us) (b.rn++keys b.us)=false:=sE e1 (List.mem_append.2 (.inr e2));simp[this]
variable {C:Ctx}{ops:Array Oper}{rn:Option Nat}{ds:List Deferred}
def oz(L:Nat->Bool)(i:Nat):Nat->Bool:=fun j=>L j||decide (j=i)
theorem ajf(H:aR P C){xs:List Rec}{bD:al}{i:Nat}{D:Oper}{x:Rec}(hx:xs[i]? =some x)(Z:cr bD D.dst=true)(hr:tM C ops (ew (fun k=>decide (k<i)) 0 xs bD) D x)
  (rk:∀j y,xs[j]? =some y->∀k z,k<j->xs[k]? =some z->uM ops k j\/mr z y=false) {L:Nat->Bool} (hc:CF ops L) (hi:L i=false) (hf:DC ops L i) (axM:ops[i]? =some D)
  (S:ar U Y X F (ew L 0 xs bD) M w) {Q:Exit->Act->World->Prop} {K:Act->World->Prop} (bT:∀aY b0 w',ar U Y X aY (ew (oz L i) 0 xs bD) b0 w'->(∀t,t∉D.dst.toList->b0.getD t undef=M.getD t undef)->K ⟨b0,ds⟩ w'):wpOpIn (eM rn) 0 P ops Q i K ⟨M,ds⟩ w:=by
 have L8:∀l,x.at_ l->er (ew (fun k=>decide (k<i)) 0 xs bD) l=er (ew L 0 xs bD) l:=fun l hl=>by
  refine(Fp rfl fun j y hy hw=>?_).symm
  simp only[Nat.zero_add];rcases Nat.lt_trichotomy j i with h|h|h
  ·rcases rk i x hx j y h hy with h1|h1
   ·rw[h1 L hc hf];simp[h]
   ·rw[anj hw hl] at h1;cases h1
  ·subst h;rw[hi];simp
  ·have:L j=false:=by
    cases rQ:L j with
    |false=>rfl
    |true=>
     rcases rk j y hy i x h hx with h1|h1
     ·have:=h1 L hc (hc j rQ);rw[hi] at this;cases this
     ·rw[ank hl hw] at h1;cases h1
   rw[this];simp;omega
 have Xi:∀t,t∈x.la->(ew (fun k=>decide (k<i)) 0 xs bD).get t=(ew L 0 xs bD).get t:=fun t aq=>by
  have:=L8 (.inl t) aq;simpa[er] using this
 have CM:∀l,er ((ew L 0 xs bD).cY x.D.dst x.v x.us) l=er (ew (oz L i) 0 xs bD) l:=fun l=>by
  rw[zl];cases hw:x.wr l with
  |none=>
   simp only;refine Fp rfl fun j y hy Mo=>?_
   simp only[Nat.zero_add,oz];by_cases h:j=i
   ·subst h;rw[hx] at hy;cases hy;exact absurd hw Mo
   ·simp[h]
  |some u=>
   simp only;refine(ahr hx (by simp[oz]) hw fun j y p1 hy Mo=>?_).symm
   simp only[Nat.zero_add,oz];have:L j=false:=by
    cases rQ:L j with
    |false=>rfl
    |true=>
     rcases rk j y hy i x p1 hx with h1|h1
     ·have:=h1 L hc (hc j rQ);rw[hi] at this;cases this
     ·rw[ani (by rw[hw];intro h;cases h) Mo] at h1;cases h1
   rw[this];simp;omega
 have acl:cr (ew L 0 xs bD) D.dst=true:=by revert Z;cases D.dst<;>simp[cr,Hh]
 have fin:∀aY b0 w',ar U Y X aY ((ew L 0 xs bD).cY x.D.dst x.v x.us) b0 w'->(∀t,t∉D.dst.toList->b0.getD t undef=M.getD t undef)->K ⟨b0,ds⟩ w':=fun aY b0 w' cm=>bT aY b0 w' (cm.same CM (by rw[J2,Hh,Hh]))
 unfold wpOpIn;rw[axM];simp only;have CO:Region.wanted D (yielded ops M)=x.go:=by
  cases hg:D.guard with
  |none=>rw[hr.free hg];simp[Region.wanted,hg]
  |some NR=>
   obtain⟨j,want⟩:=NR;obtain⟨t,h1,h2,h3⟩:=hr.guard j want hg;rw[show Region.wanted D (yielded ops M)=(yielded ops M j==some want) by simp[Region.wanted,hg]]
   have jq:=S.cO t;rw[<-Xi t h2] at jq;rcases h3 with⟨b,h3,aA⟩|⟨⟨u,h3⟩,aA⟩
   ·rw[h3] at jq;have hv:=jO jq;have hy:yielded ops M j=some b:=by
     have aq:t<M.size:=by
      rcases Nat.lt_or_ge t M.size with aj|aj
      ·exact aj
      ·simp[Array.getD,Nat.not_lt.2 aj,undef] at hv
     have:M[t]? =some (.bool b):=by
      rw[Array.getElem?_eq_getElem aq];simpa[Array.getD,aq] using hv
     simp[yielded,h1,this]
    rw[hy,aA];cases b<;>cases want<;>rfl
   ·rw[h3] at jq;have hv:M.getD t undef=.tuple u:=jq;have hy:yielded ops M j=none:=by
     simp only[yielded,h1,Option.bind_some];cases aq:M[t]? with
     |none=>rfl
     |some v=>
      have:M.getD t undef=v:=by simp[Array.getD_eq_getD_getElem?,aq]
      rw[this] at hv;rw[hv]
    rw[hy,aA];rfl
 cases uy:x.go with
 |false=>
  rw[uy] at CO;rw[if_neg (by rw[CO];decide)]
  obtain⟨e1,e2⟩:=hr.skip uy;refine⟨fun f _=>C2 rn f,yV (R:=al) (r:=(ew L 0 xs bD).cY D.dst BD []) S (K:=some) (by simp[s',acl]) fun eK gM h5 aZ h1 dA=>?_⟩
  cases h1;refine fin gM h5 aZ ?_
  rw[hr.hK,e1,e2];exact dA
 |true=>
  rw[uy] at CO;rw[if_pos CO];obtain⟨y,g1,g2,g3,g4,g5,g6,g7⟩:=hr.run uy;have dU:step C (ew (fun k=>decide (k<i)) 0 xs bD) D=step C (ew L 0 xs bD) D:=by
   refine agF (fun t aq=>Xi t (g5 t aq)) (fun o bA=>?_) fun aq3 o bA=>?_
   ·have:=L8 (.inr o) (.inl (g6 o bA));simpa[er] using this
   ·have:=L8 (.inr o) (.inr ⟨g7 aq3,bA⟩);simpa[er] using this
  revert y
  rw[dU];intro y g1 g2 g3 g4;refine n3 (R:=al) (r:=(ew L 0 xs bD).cY D.dst x.v x.us) S H (K:=some) ?_ fun eK gM h5 aZ h1 dA=>?_
  ·unfold kI;rw[acl,cond_true,g1];simp only[Option.bind_some,g2,cond_true,g3,g4]
  ·cases h1;refine fin gM h5 aZ ?_
   rw[hr.hK];exact dA
def xn(listed:Array Bool):Nat:=listed.toList.count false
def gH(listed:Array Bool):Nat->Bool:=fun j=>listed.getD j false
theorem alO{listed:Array Bool}{i:Nat}(h:listed.getD i true=false):xn (listed.setIfInBounds i true)+1=xn listed:=by
 unfold xn;have hlt:i<listed.size:=by
  rcases Nat.lt_or_ge i listed.size with aj|aj
  ·exact aj
  ·simp[Array.getD,Nat.not_lt.2 aj] at h
 have hv:listed.toList[i]'(by simpa using hlt)=false:=by simpa[Array.getD,hlt] using h
 rw[Array.toList_setIfInBounds,List.count_set (by simpa using hlt)]
 rw[hv];have:0<listed.toList.count false:=List.count_pos_iff.2 (by rw[<-hv];exact List.getElem_mem _)
 have e1:(if(false==false)=true then 1 else 0)=1:=rfl
 have e2:(if(true==false)=true then 1 else 0)=0:=rfl
 rw[e1,e2];omega
theorem Q5{D:Oper}{t:Nat}:∀{l:List Oper},D∈l->t∈D.dst.toList->t∈iI l:=by
 intro l;induction l with
 |nil=>intro h;cases h
 |cons p l ih=>
  intro h aq;simp only[iI,List.mem_append];rcases List.mem_cons.1 h with rfl|h
  ·exact .inl aq
  ·exact .inr (ih h aq)
theorem alo(H:aR P C){bD DO:al}{xs:List Rec}(bk:lj C ops ops.toList 0 [] bD xs DO){Q:Exit->Act->World->Prop}{eP:Array Value}(Ez:∀F M w,ar U Y X F DO M w->(∀t,t∉iI ops.toList->M.getD t undef=eP.getD t undef)->Q .normal ⟨M,ds⟩ w):
  ∀(mv:Nat) (listed:Array Bool) (F:Nat->Value) (M:Array Value) (w:World),listed.size=ops.size->xn listed<=mv->CF ops (gH listed)->ar U Y X F (ew (gH listed) 0 xs bD) M w->
   (∀t,t∉iI ops.toList->M.getD t undef=eP.getD t undef)->wpAnyIn (eM rn) 0 P .any ops Q mv listed ⟨M,ds⟩ w:=by
 have hlen:xs.length=ops.size:=by rw[bk.length];simp
 have rk:∀j y,xs[j]? =some y->∀k z,k<j->xs[k]? =some z->uM ops k j\/mr z y=false:=fun j y hy k z hk hz=>by
  have:=bk.aw0 [] rfl (fun j=>by simp) (fun k y h=>by simp at h) (fun k x b h=>by simp at h) j y hy k z (by omega) (by simpa using hz)
  simpa using this
 have all:∀listed:Array Bool,listed.size=ops.size->(∀j,j<ops.size->gH listed j=true)->∀F M w,ar U Y X F (ew (gH listed) 0 xs bD) M w->(∀t,t∉iI ops.toList->M.getD t undef=eP.getD t undef)->Q .normal ⟨M,ds⟩ w:=fun listed hs hl F M w S aq=>by
  refine Ez F M w ?_ aq;rw[<-bk.atG 0];rw[Pl (L':=gH listed) (k':=0) fun j hj=>by simp only[Nat.zero_add];rw[hl j (by omega)]]
  exact S
 have done:∀listed:Array Bool,listed.size=ops.size->Region.ready .any ops listed=[]->∀j,j<ops.size->gH listed j=true:=fun listed hs hr j=>by
  induction j using Nat.strongRecOn with
  |_ j ih=>
   intro hj;cases rQ:gH listed j with
   |true=>rfl
   |false=>
    exfalso
    have hx:xs[j]? =some (xs[j]'(by omega)):=List.getElem?_eq_getElem _
    obtain⟨D,h1,_,h3,_⟩:=bk.at_ j _ hx;have h1:ops[j]? =some D:=by simpa using h1
    have hm:j∈Region.ready .any ops listed:=by
     rw[mem_ready];refine⟨?_,D,h1,fun e he hb=>?_⟩
     ·have hlt:j<listed.size:=by omega
      simpa[gH,Array.getD,hlt] using rQ
     ·have:e.on<j:=by
       have mK:e∈D.after.toList:=by simpa using he
       clear he hr;revert h3
       simp only[Nat.zero_add];generalize D.after.toList=es at mK;induction es with
       |nil=>cases mK
       |cons cI es axl=>
        intro h3;simp only[s3,Bool.and_eq_true] at h3;rcases List.mem_cons.1 mK with rfl|mK
        ·rw[hb] at h3;simpa using h3.1
        ·exact axl mK h3.2
      have:=ih e.on this (by omega)
      simpa[gH] using this
    rw[hr] at hm;cases hm
 intro mv;induction mv with
 |zero=>
  intro listed F M w hs hu hc S aq;have nx:∀j,j<ops.size->gH listed j=true:=fun j hj=>by
   have h0:listed.toList.count false=0:=Nat.le_zero.1 hu;rw[List.count_eq_zero] at h0;cases rQ:gH listed j with
   |true=>rfl
   |false=>
    exfalso
    have hlt:j<listed.size:=by omega
    apply h0;have:listed.toList[j]'(by simpa using hlt)=false:=by simpa[gH,Array.getD,hlt] using rQ
    rw[<-this];exact List.getElem_mem _
  refine⟨?_,all listed hs nx F M w S aq⟩;rw[List.eq_nil_iff_forall_not_mem];intro j hj;rw[mem_ready] at hj;obtain⟨h1,D,h2,_⟩:=hj;have hj:j<ops.size:=(Array.getElem?_eq_some_iff.1 h2).1;have:=nx j hj;have hlt:j<listed.size:=by omega
  simp[gH,Array.getD,hlt] at this h1;rw[h1] at this;cases this
 |succ mv ih=>
  intro listed F M w hs hu hc S aq;refine⟨fun hr=>all listed hs (done listed hs hr) F M w S aq,fun i hi=>?_⟩
  have jB:=mem_ready.1 hi;obtain⟨h1,D,h2,h3⟩:=jB;have ux:i<ops.size:=(Array.getElem?_eq_some_iff.1 h2).1;have hx:xs[i]? =some (xs[i]'(by omega)):=List.getElem?_eq_getElem _
  obtain⟨c7,g1,g2,g3,g4⟩:=bk.at_ i _ hx;have g1:ops[i]? =some c7:=by simpa using g1
  rw[h2] at g1;cases g1;have hlt:i<listed.size:=by omega
  have ayi:gH listed i=false:=by simpa[gH,Array.getD,hlt] using h1
  have hf:DC ops (gH listed) i:=fun o2 xK e he hb=>by
   rw[h2] at xK;cases xK;have:=h3 e (by simpa using he) hb
   simpa[gH] using this
  have wY:gH (listed.setIfInBounds i true)=oz (gH listed) i:=by
   funext j
   simp only[gH,oz];by_cases h:j=i
   ·subst h;simp[hlt]
   ·simp[h,Array.getElem?_setIfInBounds_ne (show i≠j from fun e=>h e.symm)]
  refine ajf H hx g2 g4 rk hc ayi hf h2 S fun aY b0 w' cm nJ=>ih _ aY b0 w' (by simpa using hs) (by have:=alO h1;omega) ?_ (by rw[wY];exact cm) fun t htn=>(nJ t fun aj=>htn (Q5 (l:=ops.toList) (by simpa using Array.mem_of_getElem? h2) aj)).trans (aq t htn)
  rw[wY];intro j hj o2 xK e he hb;simp only[oz,Bool.or_eq_true,decide_eq_true_eq] at hj;simp only[oz,Bool.or_eq_true,decide_eq_true_eq];rcases hj with hj|hj
  ·exact .inl (hc j hj o2 xK e he hb)
  ·subst hj;exact .inl (hf o2 xK e he hb)
theorem ai9:∀l:List Nat,dT st.sites (Cl st l):=by
 intro l;induction l with
 |nil=>exact .nil
 |cons t l ih=>
  refine dT.append ?_ ih;unfold WP;split
  ·rename_i o s _;split
   ·rename_i aN t xs hs;cases hb:aN.beq s with
    |false=>exact .nil
    |true=>
     intro ab af hm;simp only[cond_true,List.mem_singleton,Prod.mk.injEq] at hm;obtain⟨rfl,rfl⟩:=hm;exact⟨aN,t,xs,rfl,.inl hs⟩
   ·exact .nil
  ·exact .nil
theorem ahi(H:aR P C)(hm:P.follows .mixedOrders=true){R:Type}{r:R}{K:al->Option R}{id:Nat}{Q:Exit->Act->World->Prop}(S:ar U Y X F st M w)(h:T4 C ops st K=some r)
  (bT:∀ao aY b0 w',K ao=some r->ar U Y X aY ao b0 w'->(∀t,t∉iI ops.toList->b0.getD t undef=M.getD t undef)->Q .normal ⟨b0,ds⟩ w'):gm rn P (Code.region id ops true) Q ⟨M,ds⟩ w:=by
 obtain⟨xs,DO,bk,hk⟩:=ajg h;have S:ar U Y X F (st.io (Cl st (GD ops.toList ops.toList))) M w:=by rw[al.vA];exact S.Bs (ai9 _)
 refine wpIn_region_any hm (alo H bk (fun F M w S=>bT DO F M w hk S) _ _ F M _ (by simp) ?_ ?_ ?_ (fun _ _=>rfl))
 ·unfold xn;simp
 ·intro j hj;simp only[gH] at hj;exfalso
  rw[Array.getD_eq_getD_getElem?,Array.getElem?_replicate] at hj;split at hj<;>cases hj
 ·rw[Fq fun j _=>by
   simp only[gH];rw[Array.getD_eq_getD_getElem?,Array.getElem?_replicate];split<;>rfl]
  exact S.drawn _
end
def tN(r:Option Nat)(c:Code):Prop:=r=none\/gU c=true
theorem tN.left{r:Option Nat}{a b:Bool}(h:r=none\/(a&&b)=true):r=none\/a=true:=by
 rcases h with h|h
 ·exact .inl h
 ·simp only[Bool.and_eq_true] at h;exact .inr h.1
theorem tN.right{r:Option Nat}{a b:Bool}(h:r=none\/(a&&b)=true):r=none\/b=true:=by
 rcases h with h|h
 ·exact .inl h
 ·simp only[Bool.and_eq_true] at h;exact .inr h.2
theorem jN{P:Program}{C:hY}(H:aR P C.toCtx){R:Type}{r:R}{rn:Option Nat}:∀(c:Code) (p:Nat),(rn=none\/gU c=true)->gr P C c p->∀(U:World) (Y:List Nat) (X:Nat->Prop) (st:al) (F:Nat->Value) (M:Array Value) (w:World)
  (ds:List Deferred) (K:Out->Option R)
  (Q:Exit->Act->World->Prop),exec C c p st K=some r->ar U Y X F st M w->(∀D e a w',K D=some r->fj U Y X ds M (cx c) D e a w'->Q e a w')->gm rn P c Q ⟨M,ds⟩ w:=by
 have piece:∀(c:Code) (p:Nat),(rn=none\/gU c=true)->(∀f,C.oC p=some f->aT P c f)->∀(U:World) (Y:List Nat) (X:Nat->Prop) (st:al) (F:Nat->Value) (M:Array Value) (w:World) (ds:List Deferred) (K:Out->Option R) (Q:Exit->Act->World->Prop) (x:Option R),
   wrap C p st K x=some r->ar U Y X F st M w->(∀D e a w',K D=some r->fj U Y X ds M (cx c) D e a w'->Q e a w')->(x=some r->gm rn P c Q ⟨M,ds⟩ w)->gm rn P c Q ⟨M,ds⟩ w:=by
  intro c p hn hf U Y X st F M w ds K Q x h S bT hx;unfold wrap at h;cases aM:C.oC p with
  |none=>simp only[aM] at h;exact hx h
  |some f=>
   simp only[aM] at h;cases hc:(f st).comp with
   |none=>simp[hc] at h
   |some y=>
    simp only[hc,Option.bind_some,(f st).run_eq] at h;exact wpIn_mono (hf f aM rn hn U Y X st y hc F M w ds S) fun e a w' hl=>bT _ e a w' h hl
 intro c;induction c with
 |skip=>
  intro p _ _ U Y X st F M w ds K Q h S bT;exact wpIn_skip (bT (.norm st) .normal _ _ h (eD.of S fun _ _=>rfl))
 |region id ops draw=>
  intro p hn ep U Y X st F M w ds K Q h S bT;cases draw with
  |false=>
   simp only[exec] at h;refine piece _ p hn ep U Y X st F M w ds K Q _ h S bT fun aj=>?_
   refine wpIn_region ?_
   rw[List.range_eq_range'];refine ah9 H (W:=iI ops.toList) ops.size 0 (by omega) (fun D aM t aq=>Q5 (by simpa using aM) aq) st F M w _ Q S aj ?_
   intro ao aY b0 w' hk cm aq;exact bT (.norm ao) .normal _ _ hk (eD.of cm aq)
  |true=>
   simp only[exec] at h;refine piece _ p hn ep U Y X st F M w ds K Q _ h S bT fun aj=>?_
   exact ahi H H.NO S aj fun ao aY b0 w' hk cm aq=>bT (.norm ao) .normal _ _ hk (eD.of cm aq)
 |seq a b mD rz=>
  intro p hn ep U Y X st F M w ds K Q h S bT;simp only[exec] at h;refine piece _ p hn ep.1 U Y X st F M w ds K Q _ h S bT fun aj=>?_
  refine wpIn_seq (mD _ (tN.left hn) ep.2.1 U Y X st F M w ds _ _ aj S ?_);intro D e cS w' hk hl;have up:∀{D e cS w'},fj U Y X ds M (cx a) D e cS w'->fj U Y X ds M (cx (.seq a b)) D e cS w':=fun hl=>hl.mono fun t aq=>List.mem_append.2 (.inl aq)
  cases D with
  |norm ao=>
   cases e<;>try exact hl.elim
   obtain⟨aZ,dO,c_,aY,dR,h1,h2,h3,cm,bl⟩:=hl;obtain⟨b0,NW⟩:=cS;obtain⟨h3,ayt⟩:=h3;have h3:NW=dR.map mark++ds:=h3;subst h3;exact rz _ (tN.right hn) ep.2.2 aZ dO c_ ao aY b0 w' _ K Q hk cm fun D e a2 w2 hk2 oK=>bT D e a2 w2 hk2 (fj.trans h1 h2 ayt bl oK)
  |exit id ao=>
   cases e<;>try exact hl.elim
   exact bT _ _ _ _ hk (up hl)
  |ret ao=>
   cases e<;>try exact hl.elim
   exact bT _ _ _ _ hk (up hl)
 |cond D a b mD rz=>
  intro p hn ep U Y X st F M w ds K Q h S bT;simp only[exec] at h;refine piece _ p hn ep.1 U Y X st F M w ds K Q _ h S bT fun aj=>?_
  split at aj
  ·rename_i t aq;have hv:=I2 S aq;have hv:Act.eval ⟨M,ds⟩ D=.bool t:=by cases D<;>exact hv
   cases t with
   |true=>exact wpIn_cond hv (mD _ (tN.left hn) ep.2.1 U Y X st F M w ds K Q aj S fun D e a2 w2 hk2 oK=>bT D e a2 w2 hk2 (oK.mono fun t aq=>List.mem_append.2 (.inl aq)))
   |false=>exact wpIn_cond hv (rz _ (tN.right hn) ep.2.2 U Y X st F M w ds K Q aj S fun D e a2 w2 hk2 oK=>bT D e a2 w2 hk2 (oK.mono fun t aq=>List.mem_append.2 (.inr aq)))
  ·cases aj
 |block id a mD=>
  intro p hn ep U Y X st F M w ds K Q h S bT;simp only[exec] at h;refine piece _ p hn ep.1 U Y X st F M w ds K Q _ h S bT fun aj=>?_
  refine wpIn_block (mD _ hn ep.2 U Y X st F M w ds _ _ aj S ?_);intro D e cS w' hk hl;cases D with
  |norm ao=>
   cases e<;>try exact hl.elim
   exact bT _ _ _ _ hk hl
  |exit jc ao=>
   cases e<;>try exact hl.elim
   rename_i aCd;obtain⟨rfl,hl⟩:=hl;simp only[Exit.inBlock];cases hb:jc.beq id with
   |true=>
    simp only[hb,cond_true] at hk;have:=Nat.eq_of_beq_eq_true hb;subst this;simp only[if_true];exact bT _ _ _ _ hk hl
   |false=>
    simp only[hb,cond_false] at hk;have:jc≠id:=by rintro rfl;rw[Nat.beq_refl] at hb;cases hb
    simp only[this,if_false];exact bT _ _ _ _ hk ⟨rfl,hl⟩
  |ret ao=>
   cases e<;>try exact hl.elim
   exact bT _ _ _ _ hk hl
 |loop a _=>
  intro p hn ep U Y X st F M w ds K Q h S bT;simp only[exec] at h;exact piece _ p hn ep U Y X st F M w ds K Q _ h S bT fun aj=>by cases aj
 |rangeFunc=>
  intro p hn ep U Y X st F M w ds K Q h S bT;simp only[exec] at h;exact piece _ p hn ep U Y X st F M w ds K Q _ h S bT fun aj=>by cases aj
 |exit id=>
  intro p _ _ U Y X st F M w ds K Q h S bT;exact wpIn_exit (bT (.exit id st) (.exit id) _ _ h ⟨rfl,eD.of S fun _ _=>rfl⟩)
 |ret=>
  intro p _ _ U Y X st F M w ds K Q h S bT;exact wpIn_ret (bT (.ret st) .ret _ _ h (eD.of S fun _ _=>rfl))
 |_=>
  intro p _ _ U Y X st F M w ds K Q h S bT;simp only[exec] at h;cases h
inductive dQ:Type where
 |int (k:IntKind)
 |bool
 |str
 |sl (t:bf)
 |map (t:bf)
 |err (T:Nat)
@[reducible] def dQ.J:dQ->Type
 |.int _=>Int
 |.bool=>Bool
 |.str=>B
 |.sl t=>List (den t)
 |.map t=>List (B×den t)
 |.err _=>Option Int
def dQ.mk:(s:dQ)->s.J->bh
 |.int k,n=>.int k n
 |.bool,b=>.bool b
 |.str,s=>.str s
 |.sl t,xs=>.sl t xs
 |.map t,es=>.map t es
 |.err T,D=>.err T D
def dQ.ex:(s:dQ)->bh->Option s.J
 |.int k,.int k' n=>if k=k' then some n else none
 |.bool,.bool b=>some b
 |.str,.str s=>some s
 |.sl t,.sl bo xs=>if h:bo=t then some (h▸xs) else none
 |.map t,.map bo es=>if h:bo=t then some (h▸es) else none
 |.err T,.err gE D=>if gE=T then some D else none
 |_,_=>none
theorem dQ.Ww{s:dQ}{d:bh}{y:s.J}(h:s.ex d=some y):s.mk y=d:=by
 unfold dQ.ex at h;split at h
 ·split at h
  ·rename_i e;cases h;subst e;rfl
  ·cases h
 ·cases h;rfl
 ·cases h;rfl
 ·split at h
  ·rename_i e;cases h;subst e;rfl
  ·cases h
 ·split at h
  ·rename_i e;cases h;subst e;rfl
  ·cases h
 ·split at h
  ·rename_i e;cases h;subst e;rfl
  ·cases h
 ·cases h
@[reducible] def k6:List dQ->Type
 |[]=>Unit
 |s::r=>s.J×k6 r
def fF:(bc:List dQ)->k6 bc->List bh
 |[],_=>[]
 |s::r,(y,z)=>s.mk y::fF r z
def w6:(bc:List dQ)->List bh->Option (k6 bc)
 |[],[]=>some ()
 |s::r,d::ds=>match s.ex d,w6 r ds with
  |some y,some z=>some (y,z)
  |_,_=>none
 |_,_=>none
theorem Tu:∀{bc:List dQ} {ds:List bh} {y:k6 bc},w6 bc ds=some y->fF bc y=ds:=by
 intro bc;induction bc with
 |nil=>intro ds y h;cases ds with
  |nil=>rfl
  |cons=>cases h
 |cons s bc ih=>
  intro ds y h;cases ds with
  |nil=>cases h
  |cons d ds=>
   simp only[w6] at h;split at h
   ·rename_i a b h1 h2;cases h;simp only[fF,dQ.Ww h1,ih h2]
   ·cases h
@[reducible] def w9:List (List dQ)->Type
 |[]=>Unit
 |s::r=>k6 s×w9 r
def wC:(bc:List (List dQ))->w9 bc->List (List bh)
 |[],_=>[]
 |s::r,(y,z)=>fF s y::wC r z
def CU:(bc:List (List dQ))->List (List bh)->Option (w9 bc)
 |[],[]=>some ()
 |s::r,d::ds=>match w6 s d,CU r ds with
  |some y,some z=>some (y,z)
  |_,_=>none
 |_,_=>none
theorem akQ:∀{bc:List (List dQ)} {ds:List (List bh)} {y:w9 bc},CU bc ds=some y->wC bc y=ds:=by
 intro bc;induction bc with
 |nil=>intro ds y h;cases ds with
  |nil=>rfl
  |cons=>cases h
 |cons s bc ih=>
  intro ds y h;cases ds with
  |nil=>cases h
  |cons d ds=>
   simp only[CU] at h;split at h
   ·rename_i a b h1 h2;cases h;simp only[wC,Tu h1,ih h2]
   ·cases h
inductive dt:Type where
 |any
 |d (s:dQ)
 |fn (g:FuncId) (cR:List (List dQ))
 |eE (bc:List dQ) (off:Nat)
 |own (n:Nat)
 |ptr (n off:Nat)
 |clo (g:FuncId) (ns:List Nat)
 |dz
 |Db -- uf nil interface
 |e5 (n:Nat) (t:bf)
@[reducible] def dt.J:dt->Type
 |.d s=>s.J
 |.fn _ cR=>w9 cR
 |.eE bc _=>k6 bc
 |_=>Unit
def dt.mk:(s:dt)->s.J->aQ
 |.any,_=>.any
 |.d s,y=>.d (s.mk y)
 |.fn g cR,y=>.d (.fn g (wC cR y))
 |.eE bc off,y=>.eE (fF bc y) off
 |.own n,_=>.own n 0
 |.ptr n off,_=>.ptr n 0 off
 |.clo g ns,_=>.clo g (ns.map fun n=>(n,0))
 |.dz,_=>.dz
 |.Db,_=>.cW .nilIface
 |.e5 n t,_=>.e5 n 0 t 0 0
abbrev Ren:=List (Nat×Option (Nat×Nat))
def ni(ρ:Ren)(n o s:Nat):Bool:=match look ρ n with
 |some (some (aaF,aN))=>aaF.beq o&&aN.beq s
 |_=>false
def vE(ρ:Ren):List Nat->List (Nat×Nat)->Bool
 |[],[]=>true
 |n::ns,(o,s)::cs=>ni ρ n o s&&vE ρ ns cs
 |_,_=>false
def na(ρ:Ren):List Nat
 :=match ρ with
 |[]=>[]
 |(_,some (o,_))::r=>o::na r
 |(_,none)::r=>na r
def dt.ex(st:al)(ρ:Ren):(s:dt)->aQ->Option s.J
 |.any,_=>some ()
 |.d s,.d v=>s.ex v
 |.d (.sl t),.nil _=>some ([]:List (den t))
 |.d (.err _),.cW .nilIface=>some (none:Option Int)
 |.d (.sl t),.own o s=>match st.af o with
  |some (.dq aN bo xs)=>bif aN.beq s then(if h:bo=t then some (h▸xs:List (den t)) else none) else none
  |_=>none
 |.d (.map t),.own o s=>match st.af o with
  |some (.map aN bo es)=>bif aN.beq s&&!f' o (na ρ) then(if h:bo=t then some (h▸es:List (B×den t)) else none) else none
  |_=>none
 |.fn g cR,.d (.fn cB cs)=>bif Nat.beq g cB then CU cR cs else none
 |.fn g [],.clo cB []=>bif Nat.beq g cB then some () else none
 |.eE bc off,.eE ds pK=>bif Nat.beq off pK then w6 bc ds else none
 |.own n,.own o s=>bif ni ρ n o s then some () else none
 |.own n,.nil _=>match look ρ n with|some none=>some ()|_=>none
 |.ptr n off,.ptr o s pK=>bif ni ρ n o s&&Nat.beq off pK then some () else none
 |.clo g ns,.clo cB cs=>bif Nat.beq g cB&&vE ρ ns cs then some () else none
 |.dz,.dz=>some ()
 |.Db,.cW .nilIface=>some ()
 |.e5 n t,.e5 o s bo 0 0=>bif ni ρ n o s then(if bo=t then some () else none) else none
 |_,_=>none
@[reducible] def rr:List dt->Type
 |[]=>Unit
 |s::r=>s.J×rr r
def tx:(bc:List dt)->rr bc->List aQ
 |[],_=>[]
 |s::r,(y,z)=>s.mk y::tx r z
def q_(st:al)(ρ:Ren):(bc:List dt)->List aQ->Option (rr bc)
 |[],[]=>some ()
 |s::r,l::ai=>match s.ex st ρ l,q_ st ρ r ai with
  |some y,some z=>some (y,z)
  |_,_=>none
 |_,_=>none
inductive fe:Type where
 |am (s:dt)
 |agg (bc:List dt)
@[reducible] def fe.J:fe->Type
 |.am s=>s.J
 |.agg bc=>rr bc
def fe.mk:(s:fe)->s.J->a7
 |.am s,y=>b6 (s.mk y)
 |.agg bc,y=>.av (.agg (tx bc y))
def fe.ex(st:al)(ρ:Ren):(s:fe)->a7->Option s.J
 |.am s,.av (.am l)=>s.ex st ρ l
 |.agg bc,.av (.agg ai)=>q_ st ρ bc ai
 |_,_=>none
@[reducible] def wq:List (Nat×fe)->Type
 |[]=>Unit
 |s::r=>s.2.J×wq r
def vJ:(bc:List (Nat×fe))->wq bc->List (Nat×a7)
 |[],_=>[]
 |s::r,(y,z)=>(s.1,s.2.mk y)::vJ r z
def Bt(st:al)(ρ:Ren):(bc:List (Nat×fe))->Option (wq bc)
 |[]=>some ()
 |s::r=>match s.2.ex st ρ (st.get s.1),Bt st ρ r with
  |some y,some z=>some (y,z)
  |_,_=>none
inductive eA:Type where
 |row (t:bf)
 |rb (t:bf) (n:Nat) -- aCN aBr row,aBA length hK told
 |box (bc:List dt)
 |map (t:bf)
@[reducible] def eA.J:eA->Type
 |.row t=>List (den t)
 |.rb t _=>List (den t)
 |.box bc=>rr bc
 |.map t=>List (B×den t)
def C'{aJ:Type}(z:aJ):Nat->List aJ->List aJ
 |0,_=>[]
 |n+1,xs=>xs.headD z::C' z n xs.tail
theorem Tn{aJ:Type}(z:aJ):∀(xs:List aJ),C' z xs.length xs=xs
 |[]=>rfl
 |x::xs=>by simp only[List.length_cons,C',List.headD_cons,List.tail_cons,Tn z xs]
def pad{t:bf}(n:Nat)(xs:List (den t)):List (den t):=match x5 t with
 |some z=>C' z n xs
 |none=>xs
theorem aoY{t:bf}{n:Nat}{xs:List (den t)}(h:xs.length=n):pad n xs=xs:=by
 subst h;unfold pad;split
 ·exact Tn _ _
 ·rfl
def eA.mk:(s:eA)->s.J->Site
 |.row t,xs=>.row 0 t xs
 |.rb t n,xs=>.row 0 t (pad n xs)
 |.box bc,y=>.box 0 (tx bc y)
 |.map t,es=>.map 0 t es
def eA.ex(st:al)(ρ:Ren):(s:eA)->Option (Nat×Nat)->Option s.J
 |.row t,none=>some ([]:List (den t))
 |.row t,some (o,s)=>match st.af o with
  |some (.row aN bo xs)=>bif aN.beq s then(if h:bo=t then some (h▸xs:List (den t)) else none) else none
  |_=>none
 |.rb _ _,none=>none
 |.rb t n,some (o,s)=>match st.af o with
  |some (.row aN bo xs)=>bif aN.beq s then(if h:bo=t then(if xs.length=n then some (h▸xs:List (den t)) else none) else none) else none
  |_=>none
 |.box bc,some (o,s)=>match fP st o s with
  |some cells=>q_ st ρ bc cells
  |none=>none
 |.box _,none=>none
 |.map t,some (o,s)=>match st.af o with
  |some (.map aN bo es)=>bif aN.beq s then(if h:bo=t then some (h▸es:List (B×den t)) else none) else none
  |_=>none
 |.map _,none=>none
inductive Loc:Type where
 |same
 |slot (t j:Nat)
 |cell (o j:Nat)
def aqK(st:al):Loc->Option aQ
 |.same=>none
 |.slot t j=>match st.get t with
  |.av (.am l)=>bif Nat.beq j 0 then some l else none
  |.av (.agg ai)=>ai[j]?
  |_=>none
 |.cell o j=>match st.af o with
  |some (.box _ cells)=>cells[j]?
  |_=>none
def Kg(st:al)(n:Nat)(l:Loc):Option (Option (Nat×Nat)):=
 match l with
 |.same=>match st.af n with|some s=>some (some (n,s.cy))|none=>none
 |l=>match aqK st l with
  |some (.own o s)=>some (some (o,s))
  |some (.ptr o s _)=>some (some (o,s))
  |some (.e5 o s _ _ _)=>some (some (o,s))
  |some (.nil _)=>some none
  |_=>none
@[reducible] def tp:List (Nat×eA×Loc)->Type
 |[]=>Unit
 |s::r=>s.2.1.J×tp r
def kG:(bc:List (Nat×eA×Loc))->tp bc->List (Nat×Site)
 |[],_=>[]
 |s::r,(y,z)=>(s.1,s.2.1.mk y)::kG r z
def Bu(st:al)(ρ:Ren):(bc:List (Nat×eA×Loc))->Option (tp bc)
 |[]=>some ()
 |s::r=>match(look ρ s.1).bind fun D=>s.2.1.ex st ρ D,Bu st ρ r with
  |some y,some z=>some (y,z)
  |_,_=>none
def q3(st:al):List (Nat×eA×Loc)->Option Ren
 |[]=>some []
 |s::r=>match Kg st s.1 s.2.2,q3 st r with
  |some D,some ρ=>some ((s.1,D)::ρ)
  |_,_=>none
structure Shape where
 cO:List (Nat×fe)
 sites:List (Nat×eA×Loc)
 nt:Nat
@[reducible] def Shape.J(bb:Shape):Type:=wq bb.cO×tp bb.sites
def Shape.st(bb:Shape)(y:bb.J):al:=⟨vJ bb.cO y.1,kG bb.sites y.2,bb.nt⟩
def Dj(st:al):dt->aQ->List (Nat×Site)
 |.d (.sl _),.own o s=>match st.af o with
  |some (.row aN t xs)=>bif aN.beq s then [(o,.dq s t xs)] else []
  |_=>[]
 |_,_=>[]
def Di(st:al):List dt->List aQ->List (Nat×Site)
 |s::bc,l::ai=>Dj st s l++Di st bc ai
 |_,_=>[]
def ZF(st:al):fe->a7->List (Nat×Site)
 |.am s,.av (.am l)=>Dj st s l
 |.agg bc,.av (.agg ai)=>Di st bc ai
 |_,_=>[]
def qH(st:al):List (Nat×fe)->List (Nat×Site)
 |[]=>[]
 |s::r=>ZF st s.2 (st.get s.1)++qH st r
def ZE(st:al):eA->Option (Option (Nat×Nat))->List (Nat×Site)
 |.box bc,some (some (o,s))=>match fP st o s with
  |some cells=>Di st bc cells
  |none=>[]
 |_,_=>[]
def qI(st:al):List (Nat×eA×Loc)->List (Nat×Site)
 |[]=>[]
 |s::r=>ZE st s.2.1 (Kg st s.1 s.2.2)++qI st r
def Shape.ex(bb:Shape)(bD:al):Option bb.J:=
 let st:=bD.io (qH bD bb.cO++qI bD bb.sites)
 bif st.nt.beq bb.nt then
  match q3 st bb.sites with
  |some ρ=>bif fM (keys ρ)&&fM (na ρ) then
    match Bt st ρ bb.cO,Bu st ρ bb.sites with
    |some y,some z=>some (y,z)
    |_,_=>none
   else none
  |none=>none
 else none
theorem T2{st:al}{s:dt}{l:aQ}:dT st.sites (Dj st s l):=by
 unfold Dj;split
 ·rename_i o s;split
  ·rename_i aN t xs hl;cases hb:aN.beq s with
   |false=>exact .nil
   |true=>
    have:=Nat.eq_of_beq_eq_true hb;subst this;intro ab af hm;simp only[cond_true,List.mem_singleton,Prod.mk.injEq] at hm;obtain⟨rfl,rfl⟩:=hm;exact⟨_,_,_,rfl,.inl hl⟩
  ·exact .nil
 ·exact .nil
theorem T1{st:al}:∀{bc:List dt} {ai:List aQ},dT st.sites (Di st bc ai):=by
 intro bc;induction bc with
 |nil=>intro ai;cases ai<;>exact .nil
 |cons s bc ih=>
  intro ai;cases ai with
  |nil=>exact .nil
  |cons l ai=>exact T2.append ih
theorem aga{st:al}:∀{bc:List (Nat×fe)},dT st.sites (qH st bc):=by
 intro bc;induction bc with
 |nil=>exact .nil
 |cons s bc ih=>
  refine dT.append ?_ ih;unfold ZF;split
  ·exact T2
  ·exact T1
  ·exact .nil
theorem agb{st:al}:∀{bc:List (Nat×eA×Loc)},dT st.sites (qI st bc):=by
 intro bc;induction bc with
 |nil=>exact .nil
 |cons s bc ih=>
  refine dT.append ?_ ih;unfold ZE;split
  ·split
   ·exact T1
   ·exact .nil
  ·exact .nil
def tL(st:al)(ρ:Ren)(bY:List (Nat×Site)):Prop:=
 ∀n D,look ρ n=some D->(∃aN,look bY n=some aN/\aN.cy=0)/\∀o s,D=some (o,s)->∃af,look st.sites o=some af/\af.cy=s/\af.live=true
def fN(F:Nat->Value)(ρ:Ren)(n:Nat):Value:=
 match look ρ n with
 |some (some (o,_))=>F o
 |some none=>.slice none 0 0
 |none=>undef
theorem agL{ρ:Ren}{n o s:Nat}(h:ni ρ n o s=true):look ρ n=some (some (o,s)):=by
 unfold ni at h;split at h
 ·rename_i aaF aN hl;simp only[Bool.and_eq_true] at h;rw[hl,Nat.eq_of_beq_eq_true h.1,Nat.eq_of_beq_eq_true h.2]
 ·cases h
section
variable {U:World}{Y:List Nat}{X:Nat->Prop}{F:Nat->Value}{st:al}{M:Array Value}{w:World}{ρ:Ren}{bY:List (Nat×Site)}{cl:Nat->Prop}
theorem AW(S:ar U Y X F st M w)(hR:tL st ρ bY){n o s:Nat}(h:ni ρ n o s=true){p hH:Prop}(hr:Ref st.sites o s p)(hp:fN F ρ n=F o->p->hH):Ref bY n 0 hH:=by
 have hl:=agL h;obtain⟨⟨aN,h1,h2⟩,h3⟩:=hR n _ hl;obtain⟨af,aA,bl,_⟩:=h3 o s rfl;exact Ref.mk h1 h2 (hp (by simp[fN,hl]) (Ref.at hr aA bl))
theorem agM(S:ar U Y X F st M w)(hR:tL st ρ bY):∀{ns:List Nat} {cs:List (Nat×Nat)} {vs:List Value},vE ρ ns cs=true->vs.length=cs.length->
  (∀i (h:i<cs.length) (aj:i<vs.length),Ref st.sites (cs[i]).1 (cs[i]).2 (vs[i]=F (cs[i]).1))->
  vs.length=(ns.map fun n=>(n,0)).length/\∀i (h:i<(ns.map fun n=>((n,0):Nat×Nat)).length) (aj:i<vs.length),Ref bY ((ns.map fun n=>((n,0):Nat×Nat))[i]).1 ((ns.map fun n=>((n,0):Nat×Nat))[i]).2 (vs[i]=fN F ρ ((ns.map fun n=>((n,0):Nat×Nat))[i]).1):=by
 intro ns;induction ns with
 |nil=>
  intro cs vs h hl _;match cs,h with
  |[],_=>exact⟨by simpa using hl,fun i h=>by simp at h⟩
 |cons n ns ih=>
  intro cs vs h hl hr;match cs,h with
  |(o,s)::cs,h=>
   simp only[vE,Bool.and_eq_true] at h;match vs,hl with
   |v::vs,hl=>
    obtain⟨aE,aF⟩:=ih (vs:=vs) h.2 (by simpa using hl) (fun i g1 g2=>hr (i+1) (by simpa using g1) (by simpa using g2))
    refine⟨by simpa using aE,fun i g1 g2=>?_⟩
    cases i with
    |zero=>exact AW S hR h.1 (hr 0 (by simp) (by simp)) (fun e p=>p.trans e.symm)
    |succ i=>exact aF i (by simpa using g1) (by simpa using g2)
def C3(F:Nat->Value)(st:al)(ρ:Ren)(cl:Nat->Prop):Prop:=∀o,cq st.sites o->f' o (na ρ)=false->∀b,bQ (F o)=some b->¬cl b
theorem dt.gq(S:ar U Y X F st M w)(hR:tL st ρ bY)(cc:∀b,cl b->aI X F st.sites b)(ep:C3 F st ρ cl){s:dt}{l:aQ}{y:s.J}{v:Value}(h:s.ex st ρ l=some y)(hv:ea F st.sites w (aI X F st.sites) l v):
  ea (fN F ρ) bY w cl (s.mk y) v:=by
 have hh:∀{d:bh} {v:Value},bK w (aI X F st.sites) d v->bK w cl d v:=fun h=>ck.hh (F:=F) (sites:=[]) (a:=one _) cc (fun b hb=>S.lt (cc b hb)) h
 unfold dt.ex at h;split at h
 ·trivial
 ·rename_i s v';have:s.mk y=v':=dQ.Ww h;show bK w cl (s.mk y) v;rw[this];exact hh hv
 ·rename_i t u;cases h;have hv:v=.slice none 0 0:=hv;rw[hv];exact bK.nil t
 ·rename_i T;cases h;have hv:v=.nilIface:=hv;rw[hv];exact bK.w7 T
 ·rename_i t o s;split at h
  ·rename_i aN bo xs hl;cases hb:aN.beq s with
   |false=>simp[hb] at h
   |true=>
    simp only[hb,cond_true] at h;split at h
    ·rename_i e;subst e;cases h;have hs:=Nat.eq_of_beq_eq_true hb;subst hs;have hl:look st.sites o=some (.dq aN bo xs):=hl;have nH:v=F o:=Ref.at hv.2 hl rfl;rw[nH];exact hh (S.sites o _ hl).1
    ·cases h
  ·cases h
 ·rename_i t o s;split at h
  ·rename_i aN bo es hl;cases hb:(aN.beq s&&!f' o (na ρ)) with
   |false=>simp[hb] at h
   |true=>
    simp only[hb,cond_true] at h;simp only[Bool.and_eq_true,Bool.not_eq_true'] at hb;split at h
    ·rename_i e;subst e;cases h;have hs:=Nat.eq_of_beq_eq_true hb.1;subst hs;have hl:look st.sites o=some (.map aN bo es):=hl;have nH:v=F o:=Ref.at hv.2 hl rfl;obtain⟨b,h1,h2⟩:=S.sites o _ hl;rw[nH,h1];exact bK.map bo es b (ep o ⟨_,hl,rfl⟩ hb.2 b (by rw[h1];rfl)) h2
    ·cases h
  ·cases h
 ·rename_i g cR cB cs;cases hb:Nat.beq g cB with
  |false=>simp[hb] at h
  |true=>
   simp only[hb,cond_true] at h;have:=Nat.eq_of_beq_eq_true hb;subst this;show bK w cl (.fn g (wC cR y)) v;rw[akQ h];exact hh hv
 ·rename_i g cB;cases hb:Nat.beq g cB with
  |false=>simp[hb] at h
  |true=>
   have:=Nat.eq_of_beq_eq_true hb;subst this;obtain⟨vs,h1,h2,_⟩:=hv;rw[List.eq_nil_of_length_eq_zero h2] at h1;rw[h1];exact kL.fn (bE:=[]) (vs:=[]) trivial
 ·rename_i bc off ds pK;cases hb:Nat.beq off pK with
  |false=>simp[hb] at h
  |true=>
   simp only[hb,cond_true] at h;have:=Nat.eq_of_beq_eq_true hb;subst this;have e:=Tu h;obtain⟨b,D,h1,h2,h3,cs,aA,bl,ca⟩:=hv;show ea (fN F ρ) bY w cl (.eE (fF bc y) off) v;rw[e];exact⟨b,D,h1,fun hx=>h2 (cc b hx),h3,cs,aA,bl,fun j g1 g2=>hh (ca j g1 g2)⟩
 ·rename_i n o s;cases hb:ni ρ n o s with
  |false=>simp[hb] at h
  |true=>exact⟨hv.1,AW S hR hb hv.2 (fun e p=>p.trans e.symm)⟩
 ·rename_i n t;split at h
  ·rename_i hl;have hv:v=.slice none 0 0:=hv;obtain⟨⟨aN,h1,h2⟩,_⟩:=hR n _ hl;exact⟨by rw[hv];rfl,Ref.mk h1 h2 (by simp[fN,hl,hv])⟩
  ·cases h
 ·rename_i n off o s pK;cases hb:(ni ρ n o s&&Nat.beq off pK) with
  |false=>simp[hb] at h
  |true=>
   simp only[Bool.and_eq_true] at hb;have:=Nat.eq_of_beq_eq_true hb.2;subst this;obtain⟨b,h1,h2⟩:=hv;exact⟨b,h1,AW S hR hb.1 h2 (fun e p=>e.trans p)⟩
 ·rename_i g ns cB cs;cases hb:(Nat.beq g cB&&vE ρ ns cs) with
  |false=>simp[hb] at h
  |true=>
   simp only[Bool.and_eq_true] at hb;have:=Nat.eq_of_beq_eq_true hb.1;subst this;obtain⟨vs,h1,h2,h3⟩:=hv;obtain⟨aE,aF⟩:=agM S hR hb.2 h2 h3;exact⟨vs,h1,aE,aF⟩
 ·trivial
 ·exact hv
 ·rename_i n t o s bo;cases hb:ni ρ n o s with
  |false=>simp[hb] at h
  |true=>
   simp only[hb,cond_true] at h;split at h
   ·rename_i e;subst e;obtain⟨b,h1,h2⟩:=hv;exact⟨b,h1,AW S hR hb h2 (fun e p=>by rw[e];exact p)⟩
   ·cases h
 ·cases h
theorem ahg{bc:List dt}{ai:List aQ}{y:rr bc}(h:q_ st ρ bc ai=some y)(bL:(tx bc y).head?=some .dz):ai.head?=some .dz:=by
 cases bc with
 |nil=>cases bL
 |cons s bc=>
  cases ai with
  |nil=>cases h
  |cons l ai=>
   simp only[q_] at h;split at h
   ·rename_i a b h1 h2;cases h;simp only[tx,List.head?_cons,Option.some.injEq] at bL ⊢;cases s with
    |dz=>cases l<;>first|rfl|cases h1
    |_=>cases bL
   ·cases h
theorem Sp(S:ar U Y X F st M w)(hR:tL st ρ bY)(cc:∀b,cl b->aI X F st.sites b)(ep:C3 F st ρ cl):∀{bc:List dt} {ai:List aQ} {y:rr bc} {vs:List Value},q_ st ρ bc ai=some y->
  cA F st.sites w (aI X F st.sites) ai vs->cA (fN F ρ) bY w cl (tx bc y) vs:=by
 intro bc;induction bc with
 |nil=>
  intro ai y vs h hv;match ai,h with
  |[],_=>rw[hv.oc];exact .nil
 |cons s bc ih=>
  intro ai y vs h hv;match ai,h with
  |l::ai,h=>
   simp only[q_] at h;split at h
   ·rename_i a b h1 h2;cases h;obtain⟨v,cv,rfl,aE,aF⟩:=hv.inv;exact .cons (dt.gq S hR cc ep h1 aE) (ih h2 aF)
   ·cases h
theorem fe.gq(S:ar U Y X F st M w)(hR:tL st ρ bY)(cc:∀b,cl b->aI X F st.sites b)(ep:C3 F st ρ cl){s:fe}{a:a7}{y:s.J}{v:Value}(h:s.ex st ρ a=some y)(hv:ck F st.sites w (aI X F st.sites) a v):
  ck (fN F ρ) bY w cl (s.mk y) v:=by
 unfold fe.ex at h;split at h
 ·exact dt.gq S hR cc ep h hv
 ·obtain⟨vs,h1,h2,h3⟩:=hv;have:=Sp S hR cc ep h ⟨h2,h3⟩;exact⟨vs,h1,this.1,this.2⟩
 ·cases h
theorem ahe:∀{bc:List (Nat×fe)} {y:wq bc},Bt st ρ bc=some y->∀t v,look (vJ bc y) t=some v->∃s:fe,∃y':s.J,s.ex st ρ (st.get t)=some y'/\v=s.mk y':=by
 intro bc;induction bc with
 |nil=>intro y h t v hl;cases hl
 |cons s bc ih=>
  intro y h t v hl;simp only[Bt] at h;split at h
  ·rename_i a b h1 h2;cases h;simp only[vJ,look] at hl;cases hb:s.1.beq t with
   |true=>
    simp only[hb,cond_true,Option.some.injEq] at hl;have:=Nat.eq_of_beq_eq_true hb;subst this;exact⟨s.2,a,h1,hl.symm⟩
   |false=>
    simp only[hb,cond_false] at hl;exact ih h2 t v hl
  ·cases h
theorem ahf:∀{bc:List (Nat×eA×Loc)} {y:tp bc},Bu st ρ bc=some y->∀n bZ,look (kG bc y) n=some bZ->∃z:eA,∃y':z.J,∃D,look ρ n=some D/\z.ex st ρ D=some y'/\bZ=z.mk y':=by
 intro bc;induction bc with
 |nil=>intro y h n bZ hl;cases hl
 |cons s bc ih=>
  intro y h n bZ hl;simp only[Bu] at h;split at h
  ·rename_i a b h1 h2;cases h;simp only[kG,look] at hl;cases hb:s.1.beq n with
   |true=>
    simp only[hb,cond_true,Option.some.injEq] at hl;have:=Nat.eq_of_beq_eq_true hb;subst this;obtain⟨D,aE,aF⟩:=Option.bind_eq_some_iff.1 h1;exact⟨s.2.1,a,D,aE,aF,hl.symm⟩
   |false=>
    simp only[hb,cond_false] at hl;exact ih h2 n bZ hl
  ·cases h
theorem eA.cy(z:eA)(y:z.J):(z.mk y).cy=0:=by cases z<;>rfl
theorem ag2{eK:al}:∀{bc:List (Nat×eA×Loc)} {ρ:Ren} {y:tp bc},q3 eK bc=some ρ->∀n D,look ρ n=some D->(∃aN,look (kG bc y) n=some aN/\aN.cy=0):=by
 intro bc;induction bc with
 |nil=>intro ρ y h n D hl;simp only[q3] at h;cases h;cases hl
 |cons s bc ih=>
  intro ρ y h n D hl;simp only[q3] at h;split at h
  ·rename_i a b h1 h2;cases h;obtain⟨cH,dm⟩:=y;simp only[kG,look] at hl ⊢;cases hb:s.1.beq n with
   |true=>simp only[cond_true];exact⟨_,rfl,eA.cy _ _⟩
   |false=>
    simp only[hb,cond_false] at hl ⊢;exact ih h2 n D hl
  ·cases h
theorem ag1{eK:al}:∀{bc:List (Nat×eA×Loc)} {ρ:Ren},q3 eK bc=some ρ->(keys ρ).Nodup->∀n z,(n,z,Loc.same)∈bc->∃s,look ρ n=some (some (n,s)):=by
 intro bc;induction bc with
 |nil=>intro ρ h _ n z hm;simp at hm
 |cons s bc ih=>
  intro ρ h hn n z hm;simp only[q3] at h;split at h
  ·rename_i a b h1 h2;cases h;simp only[keys,List.nodup_cons] at hn;rcases List.mem_cons.1 hm with hm|hm
   ·subst hm;simp only[Kg] at h1;split at h1
    ·cases h1;exact⟨_,by simp[look];rfl⟩
    ·cases h1
   ·obtain⟨aN,fS⟩:=ih h2 hn.2 n z hm;refine⟨aN,?_⟩;simp only[look];have:¬s.1=n:=by
     rintro rfl;have key:∀{ρ:Ren} {n:Nat} {D},look ρ n=some D->n∈keys ρ:=by
      intro ρ;induction ρ with
      |nil=>intro n D h;cases h
      |cons p ρ axn=>
       obtain⟨m,q⟩:=p;intro n D h;simp only[look] at h;cases hb:m.beq n with
       |true=>have:=Nat.eq_of_beq_eq_true hb;subst this;exact List.mem_cons_self
       |false=>simp only[hb,cond_false] at h;exact List.mem_cons_of_mem _ (axn h)
     exact hn.1 (key fS)
    rw[j1 this];exact fS
  ·cases h
theorem E2:∀{ρ:Ren} {n o s:Nat},look ρ n=some (some (o,s))->o∈na ρ:=by
 intro ρ;induction ρ with
 |nil=>intro n o s h;cases h
 |cons p ρ ih=>
  obtain⟨m,D⟩:=p;intro n o s h;simp only[look] at h;cases hb:m.beq n with
  |true=>
   simp only[hb,cond_true,Option.some.injEq] at h;subst h;exact List.mem_cons_self
  |false=>
   simp only[hb,cond_false] at h;have:=ih h;cases D with
   |none=>exact this
   |some q=>exact List.mem_cons_of_mem _ this
theorem afP:∀{ρ:Ren} {n m o s aN:Nat},(na ρ).Nodup->look ρ n=some (some (o,s))->look ρ m=some (some (o,aN))->n=m:=by
 intro ρ;induction ρ with
 |nil=>intro n m o s aN _ h;cases h
 |cons p ρ ih=>
  obtain⟨k,D⟩:=p;intro n m o s aN Z h aj;simp only[look] at h aj;have rN:(na ρ).Nodup:=by
   cases D with
   |none=>exact Z
   |some q=>exact(List.nodup_cons.1 Z).2
  cases hb:k.beq n with
  |true=>
   simp only[hb,cond_true,Option.some.injEq] at h;subst h;cases ec:k.beq m with
   |true=>rw[<-Nat.eq_of_beq_eq_true hb,<-Nat.eq_of_beq_eq_true ec]
   |false=>
    simp only[ec,cond_false] at aj;exact absurd (E2 aj) (List.nodup_cons.1 Z).1
  |false=>
   simp only[hb,cond_false] at h;cases ec:k.beq m with
   |true=>
    simp only[ec,cond_true,Option.some.injEq] at aj;subst aj;exact absurd (E2 h) (List.nodup_cons.1 Z).1
   |false=>
    simp only[ec,cond_false] at aj;exact ih rN h aj
theorem Shape.gq(S:ar U Y X F st M w){bb:Shape}{y:bb.J}(h:bb.ex st=some y):∃aY,ar U Y X aY (bb.st y) M w/\∀n z,(n,z,Loc.same)∈bb.sites->aY n=F n:=by
 unfold Shape.ex at h;have eB:dT st.sites (qH st bb.cO++qI st bb.sites):=aga.append agb;have dA:=S.Bs eB;rw[<-al.vA] at dA;generalize st.io (qH st bb.cO++qI st bb.sites)=eK at h dA;cases rG:eK.nt.beq bb.nt with
 |false=>simp[rG] at h
 |true=>
  simp only[rG,cond_true] at h;split at h
  ·rename_i ρ abW;cases hc:(fM (keys ρ)&&fM (na ρ)) with
   |false=>simp[hc] at h
   |true=>
    simp only[hc,cond_true] at h;simp only[Bool.and_eq_true,sv] at hc;split at h
    ·rename_i cH dm h1 h2;cases h;have facts:=ahf h2;have V':∀{z:eA} {y':z.J} {o s:Nat},z.ex eK ρ (some (o,s))=some y'->∃af,look eK.sites o=some af/\af.cy=s/\af.live=true:=by
      intro z y' o s hz;cases z with
      |row t=>
       simp only[eA.ex] at hz;split at hz
       ·rename_i aN bo xs hl;cases hb:aN.beq s with
        |false=>simp[hb] at hz
        |true=>exact⟨_,hl,Nat.eq_of_beq_eq_true hb,rfl⟩
       ·cases hz
      |rb t n=>
       simp only[eA.ex] at hz;split at hz
       ·rename_i aN bo xs hl;cases hb:aN.beq s with
        |false=>simp[hb] at hz
        |true=>exact⟨_,hl,Nat.eq_of_beq_eq_true hb,rfl⟩
       ·cases hz
      |box bc=>
       simp only[eA.ex] at hz;split at hz
       ·rename_i hl;exact⟨_,gR hl,rfl,rfl⟩
       ·cases hz
      |map t=>
       simp only[eA.ex] at hz;split at hz
       ·rename_i aN bo xs hl;cases hb:aN.beq s with
        |false=>simp[hb] at hz
        |true=>exact⟨_,hl,Nat.eq_of_beq_eq_true hb,rfl⟩
       ·cases hz
     have hR:tL eK ρ (kG bb.sites dm):=by
      intro n D hn;obtain⟨aN,jA,rE⟩:=ag2 (y:=dm) abW n D hn;refine⟨⟨aN,jA,rE⟩,fun o s e=>?_⟩
      obtain⟨z,y',c7,aE,aF,_⟩:=facts n aN jA;rw[hn] at aE;cases aE;subst e;exact V' aF
     have live:∀n,cq (kG bb.sites dm) n->∀b,bQ (fN F ρ n)=some b->∃o s,look ρ n=some (some (o,s))/\cq eK.sites o/\fN F ρ n=F o:=by
      rintro n ⟨bZ,hn,_⟩ b hb;obtain⟨z,y',D,aE,aF,_⟩:=facts n bZ hn;cases D with
      |none=>simp[fN,aE,bQ] at hb
      |some q=>
       obtain⟨o,s⟩:=q;obtain⟨af,q1,_,dF⟩:=V' aF;exact⟨o,s,aE,⟨af,q1,dF⟩,by simp[fN,aE]⟩
     have cc:∀b,aI X (fN F ρ) (kG bb.sites dm) b->aI X F eK.sites b:=by
      rintro b (hb|⟨n,hn,hb⟩)
      ·exact .inl hb
      ·obtain⟨o,s,_,q2,dF⟩:=live n hn b hb;exact .inr ⟨o,q2,by rw[<-dF];exact hb⟩
     have hh:∀{d:bh} {v:Value},bK w (aI X F eK.sites) d v->bK w (aI X (fN F ρ) (kG bb.sites dm)) d v:=
      fun h=>ck.hh (F:=F) (sites:=[]) (a:=one _) cc (fun b hb=>dA.lt (cc b hb)) h
     have ep:C3 F eK ρ (aI X (fN F ρ) (kG bb.sites dm)):=by
      rintro o cQ hm b hb (hx|⟨n,hn,xL⟩)
      ·exact(dA.ct o b cQ hb).1 hx
      ·obtain⟨ab,s,q1,q2,dF⟩:=live n hn b xL;rw[dF] at xL;have e:=dA.eg o ab b cQ q2 hb xL;subst e;have hin:=E2 q1;rw[<-vu] at hin;rw[hm] at hin;cases hin
     refine⟨fN F ρ,⟨?_,fun t=>?_,fun n bZ hn=>?_,fun n m b dP fC g1 g2=>?_,fun n b dP g1=>?_,dA.frame,dA.old,dA.fa⟩,fun n z hm=>?_⟩
     ·rw[dA.nt];exact Nat.eq_of_beq_eq_true rG
     ·show ck _ _ _ _ (al.get _ t) _;unfold al.get;cases hl:look (vJ bb.cO cH) t with
      |none=>simp only[Shape.st,hl];trivial
      |some v=>
       simp only[Shape.st,hl];obtain⟨s,y',aE,aF⟩:=ahe h1 t v hl;rw[aF];exact fe.gq dA hR cc ep aE (dA.cO t)
     ·have hn:look (kG bb.sites dm) n=some bZ:=hn;obtain⟨z,y',D,aE,aF,bJ⟩:=facts n bZ hn;rw[bJ];cases z with
      |row t=>
       cases D with
       |none=>
        simp only[eA.ex] at aF;cases aF;exact⟨0,[],⟨by simp,.inl ⟨by simp[fN,aE],rfl⟩⟩,fun j h=>by simp[flat] at h⟩
       |some q=>
        obtain⟨o,s⟩:=q;simp only[eA.ex] at aF;split at aF
        ·rename_i aN bo xs hl;cases hb:aN.beq s with
         |false=>simp[hb] at aF
         |true=>
          simp only[hb,cond_true] at aF;split at aF
          ·rename_i e;subst e;cases aF;obtain⟨e,cs,q1,q2⟩:=dA.sites o _ hl;refine⟨e,cs,?_,fun j g1 g2=>hh (q2 j g1 g2)⟩
           have:fN F ρ n=F o:=by simp[fN,aE]
           rw[this];exact q1
          ·cases aF
        ·cases aF
      |rb t m=>
       cases D with
       |none=>cases aF
       |some q=>
        obtain⟨o,s⟩:=q;simp only[eA.ex] at aF;split at aF
        ·rename_i aN bo xs hl;cases hb:aN.beq s with
         |false=>simp[hb] at aF
         |true=>
          simp only[hb,cond_true] at aF;split at aF
          ·rename_i e;subst e;split at aF
           ·rename_i hlen;cases aF;obtain⟨e,cs,q1,q2⟩:=dA.sites o _ hl;simp only[eA.mk,aoY hlen];refine⟨e,cs,?_,fun j g1 g2=>hh (q2 j g1 g2)⟩
            have:fN F ρ n=F o:=by simp[fN,aE]
            rw[this];exact q1
           ·cases aF
          ·cases aF
        ·cases aF
      |box bc=>
       cases D with
       |none=>cases aF
       |some q=>
        obtain⟨o,s⟩:=q;simp only[eA.ex] at aF;split at aF
        ·rename_i cells hl;obtain⟨b,T,cur,q1,q2,dF,mR,awX,Ew⟩:=dA.sites o _ (gR hl);have:=Sp dA hR cc ep aF ⟨dF,Ew⟩;exact⟨b,T,cur,by simp[fN,aE,q1],q2,this.1,mR,fun bL=>awX (ahg aF bL),this.2⟩
        ·cases aF
      |map t=>
       cases D with
       |none=>cases aF
       |some q=>
        obtain⟨o,s⟩:=q;simp only[eA.ex] at aF;split at aF
        ·rename_i aN bo es hl;cases hb:aN.beq s with
         |false=>simp[hb] at aF
         |true=>
          simp only[hb,cond_true] at aF;split at aF
          ·rename_i e;subst e;cases aF;obtain⟨b,q1,q2⟩:=dA.sites o _ hl;have:fN F ρ n=F o:=by simp[fN,aE]
           exact⟨b,this.trans q1,q2⟩
          ·cases aF
        ·cases aF
     ·obtain⟨o,s,a1,a2,a3⟩:=live n dP b g1;obtain⟨ab,aN,b1,b2,b3⟩:=live m fC b g2;rw[a3] at g1;rw[b3] at g2;have:=dA.eg o ab b a2 b2 g1 g2;subst this;exact afP hc.2 a1 b1
     ·obtain⟨o,s,a1,a2,a3⟩:=live n dP b g1;rw[a3] at g1;exact dA.ct o b a2 g1
     ·obtain⟨s,hs⟩:=ag1 abW hc.1 n z hm;simp[fN,hs]
    ·cases h
  ·cases h
end
inductive Kind:Type where
 |norm
 |exit (id:Nat)
 |ret
abbrev aP:=Kind×Shape
@[reducible] def aC:List aP->Type
 |[]=>Empty
 |[D]=>D.2.J
 |D::c7::r=>Sum D.2.J (aC (c7::r))
def Kind.mk:Kind->al->Out
 |.norm,st=>.norm st
 |.exit id,st=>.exit id st
 |.ret,st=>.ret st
def lT:(os:List aP)->aC os->Out
 |[D],y=>D.1.mk (D.2.st y)
 |D::c7::r,y=>match y with
  |.inl y=>D.1.mk (D.2.st y)
  |.inr y=>lT (c7::r) y
def Kind.hK:Kind->Out->Option al
 |.norm,.norm st=>some st
 |.exit id,.exit jc st=>bif Nat.beq id jc then some st else none
 |.ret,.ret st=>some st
 |_,_=>none
def hC:(os:List aP)->Out->Option (aC os)
 |[],_=>none
 |[D],x=>match D.1.hK x with
  |some st=>D.2.ex st
  |none=>none
 |D::c7::r,x=>match D.1.hK x with
  |some st=>(D.2.ex st).map Sum.inl
  |none=>(hC (c7::r) x).map Sum.inr
section
variable {U:World}{Y:List Nat}{X:Nat->Prop}{ds:List Deferred}{eP:Array Value}{W:List Nat}
theorem eD.ex{st:al}{bb:Shape}{y:bb.J}{a:Act}{w:World}(hy:bb.ex st=some y)(h:eD U Y X ds eP W st a w):eD U Y X ds eP W (bb.st y) a w:=by
 obtain⟨aZ,dO,c_,F,dR,h1,h2,h3,S,bl⟩:=h;obtain⟨aY,cm,_⟩:=Shape.gq S hy;exact⟨aZ,dO,c_,aY,dR,h1,h2,h3,cm,bl⟩
theorem Kind.G5{k:Kind}{x:Out}{st:al}{bb:Shape}{y:bb.J}{e:Exit}{a:Act}{w:World}(h:k.hK x=some st)(hy:bb.ex st=some y)(hl:fj U Y X ds eP W x e a w):fj U Y X ds eP W (k.mk (bb.st y)) e a w:=by
 cases k<;>cases x<;>simp only[Kind.hK] at h<;>try(cases h;done)
 ·cases h;cases e<;>try exact hl.elim
  exact eD.ex hy hl
 ·rename_i id jc ao;cases hb:Nat.beq id jc with
  |false=>simp[hb] at h
  |true=>
   simp only[hb,cond_true,Option.some.injEq] at h;subst h;cases e<;>try exact hl.elim
   exact⟨(Nat.eq_of_beq_eq_true hb).trans hl.1,eD.ex hy hl.2⟩
 ·cases h;cases e<;>try exact hl.elim
  exact eD.ex hy hl
theorem vm:∀{os:List aP} {x:Out} {y:aC os} {e:Exit} {a:Act} {w:World},hC os x=some y->fj U Y X ds eP W x e a w->fj U Y X ds eP W (lT os y) e a w:=by
 intro os;induction os with
 |nil=>intro x y;exact y.elim
 |cons D os ih=>
  intro x y e a w h hl;cases os with
  |nil=>
   simp only[hC] at h;split at h
   ·rename_i st hk;exact Kind.G5 hk h hl
   ·cases h
  |cons c7 r=>
   simp only[hC] at h;split at h
   ·rename_i st hk;obtain⟨cH,aE,aF⟩:=Option.map_eq_some_iff.1 h;subst aF;exact Kind.G5 hk aE hl
   ·obtain⟨cH,aE,aF⟩:=Option.map_eq_some_iff.1 h;subst aF;exact ih aE hl
end
section
variable {J bq:Type}
def iter(f:J->Option (Sum J bq)):Nat->J->Option bq
 |0,_=>none
 |n+1,y=>match f y with
  |none=>none
  |some (.inl y')=>iter f n y'
  |some (.inr b)=>some b
theorem QW{f:J->Option (Sum J bq)}:∀{n m:Nat} {y:J} {b:bq},n<=m->iter f n y=some b->iter f m y=some b:=by
 intro n;induction n with
 |zero=>intro m y b _ h;cases h
 |succ n ih=>
  intro m y b hle h;obtain⟨m,rfl⟩:∃k,m=k+1:=⟨m-1,by omega⟩
  simp only[iter] at h ⊢;split at h
  ·cases h
  ·exact ih (by omega) h
  ·exact h
open Classical in
noncomputable def bu(f:J->Option (Sum J bq))(y:J):Option bq:=
 if h:∃n b,iter f n y=some b then some (Classical.choose (Classical.choose_spec h)) else none
theorem FT{f:J->Option (Sum J bq)}{y:J}{b:bq}:bu f y=some b <-> ∃n,iter f n y=some b:=by
 unfold bu;constructor
 ·intro h;split at h
  ·rename_i aj;cases h;exact⟨_,Classical.choose_spec (Classical.choose_spec aj)⟩
  ·cases h
 ·rintro⟨n,hn⟩;have h:∃n b,iter f n y=some b:=⟨n,b,hn⟩;rw[dif_pos h];have h1:=Classical.choose_spec (Classical.choose_spec h);have h2:=QW (Nat.le_max_left (Classical.choose h) n) h1;have h3:=QW (Nat.le_max_right (Classical.choose h) n) hn;rw[h2] at h3;exact h3
theorem zN(f:J->Option (Sum J bq))(y:J):bu f y=match f y with
  |none=>none
  |some (.inl y')=>bu f y'
  |some (.inr b)=>some b:=by
 apply Option.ext;intro b;rw[FT];cases hf:f y with
 |none=>
  simp only;constructor
  ·rintro⟨n,hn⟩;cases n with
   |zero=>cases hn
   |succ n=>simp only[iter,hf] at hn;cases hn
  ·intro h;cases h
 |some s=>
  cases s with
  |inl y'=>
   simp only;rw[FT];constructor
   ·rintro⟨n,hn⟩;cases n with
    |zero=>cases hn
    |succ n=>simp only[iter,hf] at hn;exact⟨n,hn⟩
   ·rintro⟨n,hn⟩;exact⟨n+1,by simp only[iter,hf];exact hn⟩
  |inr bH=>
   simp only;constructor
   ·rintro⟨n,hn⟩;cases n with
    |zero=>cases hn
    |succ n=>simp only[iter,hf] at hn;exact hn
   ·intro h;exact⟨1,by simp only[iter,hf];exact h⟩
theorem least{p:Nat->Prop}(h:∃n,p n):∃n,p n/\∀m,p m->n<=m:=by
 obtain⟨n,hn⟩:=h;induction n using Nat.strongRecOn with
 |_ n ih=>
  by_cases aj:∃m,m<n/\p m
  ·obtain⟨m,h1,h2⟩:=aj;exact ih m h1 h2
  ·exact⟨n,hn,fun m hm=>Nat.le_of_not_lt fun hlt=>aj ⟨m,hlt,hm⟩⟩
end
noncomputable def ta(C:hY)(c:Code)(p:Nat)(bb:Shape)(os:List aP)(y:bb.J):Option (Sum bb.J (aC os)):=
 exec C c (2*p) (bb.st y) fun
  |.norm st=>(bb.ex st).map .inl
  |x=>(hC os x).map .inr
def CX:(os:List aP)->(R:Type)->aC os->(Out->Option R)->Option R
 |[D],R,y,K=>K (D.1.mk (D.2.st y))
 |D::c7::r,R,y,K=>match y with
  |.inl y=>K (D.1.mk (D.2.st y))
  |.inr y=>CX (c7::r) R y K
theorem Su:∀(os:List aP) (R:Type) (y:aC os) (K:Out->Option R),CX os R y K=K (lT os y):=by
 intro os;induction os with
 |nil=>intro R y;exact y.elim
 |cons D os ih=>
  intro R y K;cases os with
  |nil=>rfl
  |cons c7 r=>
   cases y with
   |inl y=>rfl
   |inr y=>exact ih R y K
def aU(bb:Shape)(os:List aP)(g:bb.J->Option (aC os)):h9:=fun st=>⟨aC os,(bb.ex st).bind g,lT os,CX os,Su os⟩
section
variable {P:Program}{C:hY}
theorem aiV(H:aR P C.toCtx){c:Code}{p:Nat}{bb:Shape}{os:List aP}(ep:gr P C c (2*p)){g:bb.J->Option (aC os)}(hg:∀y,g y=bu (ta C c p bb os) y):
  aT P (.loop c) (aU bb os g):=by
 intro rn hn U Y X st y hy F M w ds S;simp only[aU] at hy y ⊢;obtain⟨dE,h1,h2⟩:=Option.bind_eq_some_iff.1 hy;obtain⟨mz,o5,_⟩:=Shape.gq S h1;rw[hg] at h2;obtain⟨n0,rH⟩:=FT.1 h2;have aAS:∃e8:Nat->Act->World->Prop,∀n a w,e8 n a w <-> ∃z,iter (ta C c p bb os) n z=some y/\eD U Y X ds M (cx c) (bb.st z) a w:=⟨_,fun _ _ _=>Iff.rfl⟩
 obtain⟨e8,mS⟩:=aAS;classical
 refine wpIn_loop (I:=fun a w=>∃n,e8 n a w) (μ:=fun a w=>if h:∃n,e8 n a w then Classical.choose (least h) else 0) ⟨n0,(mS _ _ _).2 ⟨dE,rH,eD.of o5 fun _ _=>rfl⟩⟩ ?_
 intro a w' dr;have ati:=(Classical.choose_spec (least dr)).1;obtain⟨z,hz,aZ,dO,c_,gM,dR,b1,b2,b3,dA,yj⟩:=(mS _ _ _).1 ati;obtain⟨h5,NW⟩:=a;obtain⟨b3,ayQ⟩:=b3;have b3:NW=dR.map mark++ds:=b3;subst b3;have join:∀{D:Out} {e:Exit} {a2:Act} {w2:World},fj aZ dO c_ (dR.map mark++ds) h5 (cx c) D e a2 w2->fj U Y X ds M (cx c) D e a2 w2:=fun hl=>
  (fj.trans b1 b2 ayQ yj hl).mono fun t aq=>(List.mem_append.1 aq).elim id id
 cases iM:Classical.choose (least dr) with
 |zero=>rw[iM] at hz;cases hz
 |succ n=>
  rw[iM] at hz;simp only[iter] at hz;have go:∀s,ta C c p bb os z=some s->gm rn P c (fun e a w=>match s with
    |.inl e0=>fj U Y X ds M (cx c) (.norm (bb.st e0)) e a w
    |.inr b=>fj U Y X ds M (cx c) (lT os b) e a w/\e≠.normal) ⟨h5,dR.map mark++ds⟩ w':=by
   intro s hs;refine jN H c (2*p) hn ep aZ dO c_ (bb.st z) gM h5 w' _ _ _ hs dA ?_
   intro D e a w2 hk hl;have hl:=join hl;cases D with
   |norm xo=>
    obtain⟨e0,q1,q2⟩:=Option.map_eq_some_iff.1 hk;subst q2;exact Kind.G5 (k:=.norm) rfl q1 hl
   |exit id xo=>
    obtain⟨e0,q1,q2⟩:=Option.map_eq_some_iff.1 hk;subst q2;exact⟨vm q1 hl,by rintro rfl;exact hl⟩
   |ret xo=>
    obtain⟨e0,q1,q2⟩:=Option.map_eq_some_iff.1 hk;subst q2;exact⟨vm q1 hl,by rintro rfl;exact hl⟩
  cases hr:ta C c p bb os z with
  |none=>rw[hr] at hz;cases hz
  |some s=>
   cases s with
   |inl e0=>
    rw[hr] at hz;refine wpIn_mono (go _ hr) fun e a2 w2 hl=>?_
    cases e<;>try exact hl.elim
    have MX:e8 n a2 w2:=(mS _ _ _).2 ⟨e0,hz,hl⟩;refine⟨⟨n,MX⟩,?_⟩;have hex:∃n,e8 n a2 w2:=⟨n,MX⟩;simp only[dif_pos hex,dif_pos dr,iM];have:Classical.choose (least hex)<=n:=(Classical.choose_spec (least hex)).2 n MX;omega
   |inr b=>
    rw[hr] at hz;simp only[Option.some.injEq] at hz;subst hz;refine wpIn_mono (go _ hr) fun e a2 w2 hl=>?_
    cases e<;>first|exact absurd rfl hl.2|exact hl.1
noncomputable def UM(C:hY)(c:Code)(p:Nat)(bb:Shape)(os:List aP)(y:bb.J):Option (aC os):=exec C c p (bb.st y) (hC os)
theorem agW(H:aR P C.toCtx){c:Code}{p:Nat}{bb:Shape}{os:List aP}(ep:gr P C c p){g:bb.J->Option (aC os)}(hg:∀y,g y=UM C c p bb os y):aT P c (aU bb os g):=by
 intro rn hn U Y X st y hy F M w ds S;simp only[aU] at hy y ⊢;obtain⟨dE,h1,h2⟩:=Option.bind_eq_some_iff.1 hy;obtain⟨mz,o5,_⟩:=Shape.gq S h1;rw[hg] at h2;exact jN H c p hn ep U Y X (bb.st dE) mz M w _ _ _ h2 o5 fun D e a w' hk hl=>vm hk hl
end
def aQ.Tr:aQ->Bool
 |.fresh _ _=>false
 |_=>true
def l9:List aQ->Bool
 |[]=>true
 |l::ai=>l.Tr&&l9 ai
def qJ(i:Nat):List Arg->Option (List (Nat×a7))
 |[]=>some []
 |.av a::r=>bif l9 a.cells then(qJ (i+1) r).map fun l=>(i,.av a)::l else none
 |.fv _::r=>(qJ (i+1) r).map fun l=>(i,b6 (.ptr (500000+i) 0 0))::l
def kf(i:Nat):List Arg->List (Nat×Nat)
 |[]=>[]
 |.av _::r=>kf (i+1) r
 |.fv _::r=>(500000+i,0)::kf (i+1) r
def Cz:List Arg->List (List aQ)
 |[]=>[]
 |.av _::r=>Cz r
 |.fv cs::r=>cs::Cz r
def n9(i:Nat):List Arg->List Nat
 |[]=>[]
 |.av _::r=>n9 (i+1) r
 |.fv _::r=>i::n9 (i+1) r
def lF:List (Nat×Nat)->List (Nat×Site)
 |[]=>[]
 |(o,s)::r=>(o,.dead s)::lF r
def Cw(nt:Nat)(as:List Arg)(l:List (Nat×a7)):al:=⟨l,lF (kf 0 as),nt⟩
def J0(nt:Nat)(as:List Arg)(l:List (Nat×a7)):List (Nat×Site):=gX (Cw nt as l) (kf 0 as) (Cz as)
def entry(nt:Nat)(as:List Arg):Option al:=bif Nat.ble as.length nt then(match qJ 0 as with
 |some l=>bif fM (keys (J0 nt as l)) then some ⟨l,bv (lF (kf 0 as)) (J0 nt as l),nt⟩ else none
 |none=>none) else none
def n7(st:al):List Nat->Option (List (List aQ)×List (Nat×Site))
 |[]=>some ([],[])
 |t::ch=>match st.get t with
  |.av (.am (.ptr o s 0))=>match fP st o s,n7 st ch with
   |some cells,some (cR,us)=>match kT st cells with
    |some (cs,gone)=>some (cs::cR,(o,.dead s)::(gone++us))
    |none=>none
   |_,_=>none
  |_=>none
def uF:List Nat->List Nat->Bool
 |[],[]=>true
 |n::r,m::s=>n.beq m&&uF r s
 |_,_=>false
def aq5(st:al):bS->Option (bS×List (Nat×Site))
 |.am l=>(oq st l).map fun p=>(.am p.1,p.2)
 |.agg ai=>(kT st ai).map fun p=>(.agg p.1,p.2)
def Kd(tt:TypeId->cg)(st:al):ResultVar->Option bS
 |.tmp t=>my (st.get t)
 |.cell a T=>match tt T with
  |.arr _ t n=>match st.get a with
   |.av (.am (.e5 o s u 0 0))=>match rowOf st o s with
    |some ⟨bo,xs⟩=>if bo=t/\bo=u then(long n xs).map fun xs=>.agg (Dn bo xs n) else none
    |none=>none
   |_=>none
  |ti=>match st.get a with
   |.av (.am (.ptr o s off))=>bif ti.known then(match fP st o s with
    |some cells=>(cut ti.agg off ti.size cells).bind my
    |none=>none) else none
   |_=>none
def od(tt:TypeId->cg)(st:al):List ResultVar->Option (List bS×List (Nat×Site))
 |[]=>some ([],[])
 |t::ch=>match Kd tt st t with
  |some a=>match aq5 st a,od tt st ch with
   |some (cS,us),some (as,vs)=>some (cS::as,us++vs)
   |_,_=>none
  |none=>none
def as5(bb:Shape):Out->Option bb.J
 |.ret st=>bb.ex st
 |.norm st=>bb.ex st
 |.exit _ _=>none
noncomputable def Kn(C:hY)(c:Code)(kO fD:Shape)(a:kO.J):Option fD.J:=exec C c 1 (kO.st a) (as5 fD)
noncomputable def ph(tt:TypeId->cg)(nt:Nat)(kO fD:Shape)(outs:List ResultVar)(ft:List Nat)(f:kO.J->Option fD.J):aD:=fun as=>
 match entry nt as with
 |some st=>bif uF (n9 0 as) ft then⟨fD.J,(kO.ex st).bind f,fun y=>(match n7 (fD.st y) ft with|some r=>r.1|none=>[]),fun y=>match od tt (fD.st y) outs with|some r=>r.1|none=>[]⟩ else w_.fail
 |none=>w_.fail
section
variable {w:World}{av:Nat->Prop}
theorem aeI:∀{ai:List aQ} {vs:List Value} {bs:List Nat},l9 ai=true->lI w av ai vs bs->bs=[]/\cA mq [] w av ai vs:=by
 intro ai;induction ai with
 |nil=>
  intro vs bs _ h;match vs,h with
  |[],h=>exact⟨h,.nil⟩
 |cons l ai ih=>
  intro vs bs hn h;simp only[l9,Bool.and_eq_true] at hn;match vs,h with
  |v::vs,⟨b1,b2,h1,h2,h3⟩=>
   obtain⟨aE,aF⟩:=ih hn.2 h3;have:b1=[]/\ea mq [] w av l v:=by
    cases l<;>first|exact h2|cases hn.1
   exact⟨by rw[h1,this.1,aE];rfl,.cons this.2 aF⟩
theorem aeJ{a:bS}{v:Value}{bs:List Nat}(hn:l9 a.cells=true)(h:C1 w av a v bs):bs=[]/\ho mq [] w av a v:=by
 cases a with
 |am l=>
  simp only[bS.cells,l9,Bool.and_true] at hn;cases l<;>first|exact h|cases hn
 |agg ai=>
  obtain⟨vs,h1,h2⟩:=h;obtain⟨aE,aF⟩:=aeI hn h2;exact⟨aE,vs,h1,aF.1,aF.2⟩
def ow:Value->Nat
 |.pointer (some a)=>a.block
 |_=>0
theorem afd{ai:List aQ}(h:l9 ai=true){l:aQ}(hl:l∈ai):l.Tr=true:=by
 induction ai with
 |nil=>cases hl
 |cons a ai ih=>
  simp only[l9,Bool.and_eq_true] at h;rcases List.mem_cons.1 hl with rfl|hl
  ·exact h.1
  ·exact ih h.2 hl
theorem alA{F:Nat->Value}{cl:Nat->Prop}{a:bS}{v:Value}{sites:List (Nat×Site)}(hn:l9 a.cells=true)(h:ho mq [] w av a v)(hle:∀b,cl b->av b)(hlt:∀b,cl b->b<w.heap.size):ho F sites w cl a v:=by
 cases a with
 |am l=>exact Fj (fun t xs e=>by subst e;cases hn) h hle hlt
 |agg ai=>
  obtain⟨vs,h1,h2,h3⟩:=h;exact⟨vs,h1,h2,fun j g1 g2=>Fj (fun t xs e=>by have:=afd hn (List.getElem_mem g1);rw[e] at this;cases this) (h3 j g1 g2) hle hlt⟩
theorem EX:∀{as:List Arg} {i o s:Nat},(o,s)∈kf i as->s=0:=by
 intro as;induction as with
 |nil=>intro i o s h;cases h
 |cons a as ih=>
  intro i o s h;cases a with
  |av a=>exact ih h
  |fv c=>
   rcases List.mem_cons.1 h with h|h
   ·cases h;rfl
   ·exact ih h
theorem PG{L:List (Nat×Nat)}(h:∀o s,(o,s)∈L->s=0){o s:Nat}(hm:(o,s)∈L):look (lF L) o=some (.dead 0):=by
 induction L with
 |nil=>cases hm
 |cons p L ih=>
  obtain⟨k,r⟩:=p;simp only[lF,look];cases hb:k.beq o with
  |true=>simp only[cond_true];rw[h k r List.mem_cons_self]
  |false=>
   simp only[cond_false];refine ih (fun o s hm=>h o s (List.mem_cons_of_mem _ hm)) ?_
   rcases List.mem_cons.1 hm with e|e
   ·cases e;rw[Nat.beq_refl] at hb;cases hb
   ·exact e
theorem PQ{L:List (Nat×Nat)}{o:Nat}{af:Site}(h:look (lF L) o=some af):∃s,af=.dead s:=by
 induction L with
 |nil=>cases h
 |cons p L ih=>
  obtain⟨k,r⟩:=p;simp only[lF,look] at h;cases hb:k.beq o with
  |true=>simp only[hb,cond_true,Option.some.injEq] at h;exact⟨r,h.symm⟩
  |false=>simp only[hb,cond_false] at h;exact ih h
theorem agm{F:Nat->Value}:∀{as:List Arg} {i:Nat} {l:List (Nat×a7)} {vs:List Value} {bs:List Nat},qJ i as=some l->jl w av as vs bs->(∀j,F (500000+i+j)=vs.getD j undef)->
  jp w av (dZ as vs) (Cz as) bs/\nO F (kf i as) (dZ as vs)/\dZ as vs=(n9 i as).map (fun t=>ow (vs.getD (t-i) undef))/\(∀t,t∈n9 i as->i<=t)/\
  ∀t v,look l t=some v->i<=t/\((∃a,v=.av a/\l9 a.cells=true/\ho mq [] w av a (vs.getD (t-i) undef))\/(v=b6 (.ptr (500000+t) 0 0)/\(500000+t,0)∈kf i as/\∃b,vs.getD (t-i) undef=.pointer (some ⟨b,0,none⟩))):=by
 intro as;induction as with
 |nil=>
  intro i l vs bs h bL cV;simp only[qJ] at h;cases h;match vs,bL with
  |[],bL=>exact⟨bL,trivial,rfl,fun t h=>(by cases h),fun t v h=>(by cases h)⟩
 |cons a as ih=>
  intro i l vs bs h bL cV;match vs,bL with
  |v::vs,⟨b1,b2,e,h2,h3⟩=>
  have kr:∀j,F (500000+(i+1)+j)=vs.getD j undef:=fun j=>by
   have:=cV (j+1);rw[List.getD_cons_succ] at this;rw[<-this];congr 1;omega
  have shift:∀t,i+1<=t->(v::vs).getD (t-i) undef=vs.getD (t-(i+1)) undef:=fun t aq=>by
   obtain⟨m,hm⟩:∃m,t-i=m+1:=⟨t-i-1,by omega⟩
   have mI:t-(i+1)=m:=by omega
   rw[hm,List.getD_cons_succ,mI]
  have Zc:∀{L:List Nat},(∀t,t∈L->i+1<=t)->L.map (fun t=>ow (vs.getD (t-(i+1)) undef))=L.map (fun t=>ow ((v::vs).getD (t-i) undef)):=fun dK=>List.map_congr_left fun t aq=>by rw[shift t (dK t aq)]
  cases a with
  |fv c=>
   simp only[qJ] at h;obtain⟨gC,h1,aA⟩:=Option.map_eq_some_iff.1 h;subst aA;obtain⟨b,hv,p4⟩:=h2;obtain⟨aE,aF,bJ,cL,fV⟩:=ih h1 h3 kr;have eY:dZ (.fv c::as) (v::vs)=b::dZ as vs:=by subst hv;rfl
   refine⟨by rw[eY];exact⟨b1,b2,e,p4,aE⟩,by rw[eY];exact⟨by have:=cV 0;rw[Nat.add_zero] at this;rw[this];exact hv,aF⟩,?_,fun t aq=>?_,fun t u hl=>?_⟩
   ·rw[eY,bJ,Zc cL];simp only[n9,List.map_cons,Nat.sub_self,List.getD_cons_zero,hv,ow]
   ·rcases List.mem_cons.1 aq with rfl|aq
    ·exact Nat.le_refl _
    ·exact Nat.le_trans (Nat.le_succ _) (cL t aq)
   ·simp only[look] at hl;cases hb:i.beq t with
    |true=>
     have:=Nat.eq_of_beq_eq_true hb;subst this;simp only[hb,cond_true,Option.some.injEq] at hl;subst hl;exact⟨Nat.le_refl _,.inr ⟨rfl,List.mem_cons_self,b,by simp only[Nat.sub_self,List.getD_cons_zero];exact hv⟩⟩
    |false=>
     simp only[hb,cond_false] at hl;obtain⟨q1,q2⟩:=fV t u hl;refine⟨by omega,?_⟩
     rw[shift t q1];rcases q2 with q2|⟨r1,r2,dn⟩
     ·exact .inl q2
     ·exact .inr ⟨r1,List.mem_cons_of_mem _ r2,dn⟩
  |av a=>
   simp only[qJ] at h;cases hn:l9 a.cells with
   |false=>simp[hn] at h
   |true=>
    simp only[hn,cond_true] at h;obtain⟨gC,h1,aA⟩:=Option.map_eq_some_iff.1 h;subst aA;obtain⟨g1,g2⟩:=aeJ hn h2;obtain⟨aE,aF,bJ,cL,fV⟩:=ih h1 h3 kr;have eY:dZ (.av a::as) (v::vs)=dZ as vs:=by cases v<;>rfl
    refine⟨by rw[eY,e,g1];exact aE,by rw[eY];exact aF,by rw[eY,bJ,Zc cL];rfl,fun t aq=>Nat.le_trans (Nat.le_succ _) (cL t aq),fun t u hl=>?_⟩
    simp only[look] at hl;cases hb:i.beq t with
    |true=>
     have:=Nat.eq_of_beq_eq_true hb;subst this;simp only[hb,cond_true,Option.some.injEq] at hl;subst hl;exact⟨Nat.le_refl _,.inl ⟨a,rfl,hn,by simp only[Nat.sub_self,List.getD_cons_zero];exact g2⟩⟩
    |false=>
     simp only[hb,cond_false] at hl;obtain⟨q1,q2⟩:=fV t u hl;refine⟨by omega,?_⟩
     rw[shift t q1];exact q2
theorem apl:∀{l m:List Nat},uF l m=true->l=m:=by
 intro l;induction l with
 |nil=>intro m h;cases m<;>first|rfl|cases h
 |cons n l ih=>
  intro m h;cases m with
  |nil=>cases h
  |cons k m=>
   simp only[uF,Bool.and_eq_true] at h;rw[Nat.eq_of_beq_eq_true h.1,ih h.2]
end
section
variable {P:Program}{U:World}{Y:List Nat}{X:Nat->Prop}{F:Nat->Value}{st:al}{M:Array Value}{w:World}{dp:List (Nat×Site)}{e7:List Nat}{av:Nat->Prop}
def qX(M:Array Value)(r:ResultVar):Sem Value:=
 match r with
 |.tmp t=>pure (M.getD t undef)
 |.cell a t=>do loadVar t (<-asAddr (M.getD a undef))
theorem akL(S:ar U Y X F st M w){C:Ctx}(H:CtxOk P C){r:ResultVar}{a:bS}(h:Kd C.tt st r=some a):∃v,(qX M r).run P w=.ok v w/\ho F st.sites w (aI X F st.sites) a v:=by
 cases r with
 |tmp t=>
  have hs:=S.cO t;rw[qw h] at hs;exact⟨_,by simp only[qX,Sem.run_pure],hs⟩
 |cell x T=>
  simp only[Kd] at h;split at h
  ·rename_i e t n bk;split at h
   ·rename_i o s u hx;have hs:=S.cO x;rw[hx] at hs;split at h
    ·rename_i bo xs hrow;split at h
     ·rename_i jz;obtain⟨rfl,rfl⟩:=jz;obtain⟨bj,hy,axr⟩:=Option.map_eq_some_iff.1 h;obtain⟨rfl,hlen⟩:=vh hy;subst axr;have bO:=H.tt T;rw[bk] at bO;obtain⟨he,_,_,e0,_,nF,_⟩:=nY bO.2.2;obtain⟨b,c,cs,hv,_,hc,hr⟩:=S.arr hrow hs;have hcl:cs.length=n:=by rw[hr.1,e9,he,hlen,Nat.mul_one]
      have dy:=uZ (P:=P) (w:=w) bO (by rintro h;cases h) ⟨b,0,none⟩ cs hcl (fun j u hu=>by rw[gW];exact hc j u hu)
      refine⟨.agg cs.toArray,?_,?_⟩
      ·simp only[qX,hv,asAddr,Sem.run_bind,Sem.run_pure,Result.andThen_ok,dy];rfl
      ·subst hlen;have:=hQ (F:=F) (sites:=st.sites) hr.1 hr.2;rw[<-T7 nF] at this;exact⟨cs,rfl,this.1,this.2⟩
     ·cases h
    ·cases h
   ·cases h
  split at h
  ·rename_i o s off hx;have hs:=S.cO x;rw[hx] at hs;cases hk:(C.tt T).known with
   |false=>simp[hk] at h
   |true=>
    simp only[hk,cond_true] at h;split at h
    ·rename_i cells hb;obtain⟨v,hc,hv⟩:=Option.bind_eq_some_iff.1 h;have hv:=qw hv;subst hv;obtain⟨b,gE,cur,h1,h2,h3,aA,bl⟩:=S.box (gR hb) hs;obtain⟨aE,aF⟩:=VM hc Hj bl;refine⟨_,?_,aF⟩;have hl:(loadVar T ⟨b,off,none⟩).run P w=.ok (tv (C.tt T).agg ((cur.drop off).take (C.tt T).size)) w:=by
      refine uZ (H.tt T) (G3 hk) _ _ (by simp;omega) fun j u hu=>?_
      rw[gW];have:=((ii.row h3).drop off).take (C.tt T).size j u hu;simpa using this
     simp only[qX,h2,asAddr,Sem.run_bind,Sem.run_pure,Result.andThen_ok,hl]
    ·cases h
  ·cases h
theorem PL{C:Ctx}(H:CtxOk P C)(L:fE U Y X F st M w dp e7 av):∀{outs:List ResultVar} {as:List bS} {us:List (Nat×Site)},od C.tt st outs=some (as,us)->
  ∃rv,(outs.mapM (qX M)).run P w=.ok rv w/\lz w av as rv (dj F (keys us))/\gZ st.sites us:=by
 intro outs;induction outs with
 |nil=>intro as us h;simp only[od] at h;cases h;exact⟨[],by simp,rfl,.nil⟩
 |cons t outs ih=>
  intro as us h;simp only[od] at h;split at h
  ·rename_i a ha;split at h
   ·rename_i cS u1 oR u2 h1 h2;cases h;obtain⟨rv,l1,aE,aF⟩:=ih h2;obtain⟨v,q0,hs⟩:=akL L.fz.old H ha;have:C1 w av cS v (dj F (keys u1))/\gZ st.sites u1:=by
     cases a with
     |am l=>
      obtain⟨p,q1,q2⟩:=Option.map_eq_some_iff.1 h1;cases q2;exact zP L q1 hs
     |agg ai=>
      obtain⟨p,q1,q2⟩:=Option.map_eq_some_iff.1 h1;cases q2;obtain⟨vs,e1,e2,br⟩:=hs;obtain⟨r1,r2⟩:=IM L q1 ⟨e2,br⟩;exact⟨⟨vs,e1,r1⟩,r2⟩
    refine⟨v::rv,?_,⟨_,_,by rw[kc,o7],this.1,aE⟩,this.2.append aF⟩
    simp only[List.mapM_cons,Sem.run_bind,q0,Result.andThen_ok,l1,Sem.run_pure]
   ·cases h
  ·cases h
theorem Pb(L:fE U Y X F st M w dp e7 av):∀{ch:List Nat} {cR:List (List aQ)} {us:List (Nat×Site)},n7 st ch=some (cR,us)->
  jp w av (ch.map fun t=>ow (M.getD t undef)) cR (dj F (keys us))/\gZ st.sites us:=by
 intro ch;induction ch with
 |nil=>intro cR us h;simp only[n7] at h;cases h;exact⟨rfl,.nil⟩
 |cons t ch ih=>
  intro cR us h;have hs:=L.fz.old.cO t;simp only[n7] at h;split at h
  ·rename_i o s hx;rw[hx] at hs;split at h
   ·rename_i cells aB1 nA mu hr;split at h
    ·rename_i cs gone hg;cases h;obtain⟨aE,aF⟩:=ih hr;have jW:=gR mu;obtain⟨b,T,cur,e1,e2,br,da,eS⟩:=L.fz.old.box jW hs;obtain⟨g1,g2⟩:=IM L hg eS;have KY:nm cells T cur b:=by
      obtain⟨b2,eC,ZG,q1,q2,_,_,dF,_⟩:=L.fz.old.sites o _ jW;rw[e1] at q1;cases q1;rw[br] at q2;cases q2;exact dF
     have yf:ow (M.getD t undef)=b:=by rw[e2];rfl
     have ayC:bQ (F o)=some b:=by rw[e1];rfl
     refine⟨⟨b::dj F (keys gone),dj F (keys nA),?_,?_,aE⟩,?_⟩
     ·simp only[keys,kc,o7,List.cons_append];simp[dj,ayC]
     ·show I9 w av (ow (M.getD t undef)) cs _;rw[yf];exact⟨T,cur,_,rfl,br,da,fun bL=>KY (QZ hg bL),g1⟩
     ·intro ab aN hm;rcases List.mem_cons.1 hm with hm|hm
      ·cases hm;exact⟨_,jW,rfl,rfl⟩
      ·exact(gZ.append g2 aF) ab aN hm
    ·cases h
   ·cases h
  ·cases h
theorem O6{fn:Func}{outs:List ResultVar}(h:fn.results=outs.toArray){M:Array Value}{w:World}{rv:List Value}(k:(outs.mapM (qX M)).run P w=.ok rv w):(results fn M).run P w=.ok (oi rv) w:=by
 have e:(results fn M)=(do let vs <-fn.results.mapM (qX M);pure (if h:vs.size=1 then vs[0] else .tuple vs)):=by
  unfold results;congr 2
 rw[e,h];simp only[List.mapM_toArray,Sem.run_bind,Sem.run_map];rw[k];match rv with
 |[]=>simp[oi]
 |[t]=>simp[oi]
 |t::t2::r=>simp[oi]
theorem ar.as0(S:ar U Y X F st M w){bh:Nat}(gD:X bh)(e6:U.heap.size<=bh)(D:Obj):ar U Y X F st M (w.putObj bh D):=by
 have hsz:(w.putObj bh D).heap.size=w.heap.size:=by simp[World.putObj]
 have K1:∀b,b≠bh->(w.putObj bh D).heap[b]? =w.heap[b]? :=fun b hb=>World.putObj_heap_other hb
 have G:ir F F st.sites st.sites w (w.putObj bh D) (aI X F st.sites) (aI X F st.sites):=
  ⟨fun o af h=>⟨af,h,Nat.le_refl _,fun _=>rfl⟩,fun b hb _=>K1 b fun e=>hb (.inl (e▸gD)),fun _ h _=>h⟩
 have hlt:∀b,aI X F st.sites b->b<(w.putObj bh D).heap.size:=fun b hb=>by rw[hsz];exact S.lt hb
 refine⟨S.nt,fun t=>(S.cO t).goes G (by rw[hsz];exact Nat.le_refl _) hlt,fun o af h=>?_,S.eg,S.ct,?_,fun b hb=>by rw[hsz];exact S.old b hb,S.fa⟩
 ·exact(S.sites o af h).goes G (by rw[hsz];exact Nat.le_refl _) hlt rfl fun hl b hb=>K1 b fun e=>(S.ct o b ⟨af,h,hl⟩ hb).1 (e▸gD)
 ·exact⟨S.frame.os,S.frame.tape,S.frame.output,by rw[hsz];exact S.frame.size,fun b hb hn=>(K1 b (by omega)).trans (S.frame.block b hb hn)⟩
theorem aff{fn:Func}{R:Ending->World->Prop}:∀(dR:List Nat) (w:World),ar U Y X F st M w->dR.Nodup->(∀bh,bh∈dR->U.heap.size<=bh/\X bh/\w.heap[bh]? =some (.deferred (some [])))->
  (∀w',ar U Y X F st M w'->∃v,(results fn M).run P w'=.ok v w'/\R (.returned v) w')->LeavesInM Fence.wide 0 P fn M R (dR.map mark) .returning w:=by
 intro dR;induction dR with
 |nil=>intro w S _ _ hR;exact hR w S
 |cons bh dR ih=>
  intro w S hn e6 hR;obtain⟨h1,h2,h3⟩:=e6 bh List.mem_cons_self;have hn:=List.nodup_cons.1 hn;refine⟨by simp,.inl ⟨bh,w.putObj bh (.deferred none),rfl,run_takeDeferred h3,ih _ (S.as0 h2 h1 _) hn.2 (fun Oh acv=>?_) hR⟩⟩
  obtain⟨g1,g2,g3⟩:=e6 Oh (List.mem_cons_of_mem _ acv);exact⟨g1,g2,(World.putObj_heap_other (fun e=>hn.1 (by rw[<-e];exact acv))).trans g3⟩
def Th(ed:Value->World->Prop):Ending->World->Prop
 |.returned v,w=>ed v w
 |_,_=>False
theorem alk{nt:Nat}{as:List Arg}{st:al}{vs:List Value}{dB:List Nat}(he:entry nt as=some st)(bL:jl w (fun b=>X b\/b∈dB) as vs dB)(k2:dB.Nodup)(gD:∀b,b∈dB->¬X b)(hlt:∀b,X b->b<w.heap.size)(hG:iQ w dB X):
  (∃F,ar w dB X F st (vs.toArray++Array.replicate (nt-vs.toArray.size) undef) w)/\dZ as vs=(n9 0 as).map (fun t=>ow (vs.getD t undef))/\(∀t,(vs.toArray++Array.replicate (nt-vs.toArray.size) undef).getD t undef=vs.getD t undef):=by
 unfold entry at he;cases hle:Nat.ble as.length nt with
 |false=>simp[hle] at he
 |true=>
  simp only[hle,cond_true] at he;split at he
  ·rename_i l hl;cases hn:fM (keys (J0 nt as l)) with
   |false=>simp[hn] at he
   |true=>
    simp only[hn,cond_true,Option.some.injEq] at he;subst he;rw[sv] at hn;have hlen:=bL.length;have hle:=Nat.le_of_ble_eq_true hle;obtain⟨mz,Zj⟩:∃mz:Nat->Value,∀j,mz (500000+0+j)=vs.getD j undef:=⟨fun o=>vs.getD (o-500000) undef,fun j=>by simp⟩
    obtain⟨aE,aF,bJ,_,fV⟩:=agm hl bL Zj;have tU:∀t,(vs.toArray++Array.replicate (nt-vs.toArray.size) undef).getD t undef=vs.getD t undef:=fun t=>by
     simp only[Array.getD_eq_getD_getElem?,List.getD_eq_getElem?_getD,Array.getElem?_append,List.size_toArray];by_cases h:t<vs.length
     ·simp[h]
     ·simp only[h,if_false];rw[List.getElem?_eq_none (Nat.le_of_not_lt h)];rw[Array.getElem?_replicate];split<;>rfl
    have ml:∀o,¬cq (lF (kf 0 as)) o:=fun o ⟨af,h1,h2⟩=>by obtain⟨s,rfl⟩:=PQ h1;cases h2
    have Ed:∀b,b∈dB->b<w.heap.size:=QY aE;have cc:∀b,aI (fun b=>X b\/b∈dB++[]) mz (lF (kf 0 as)) b->X b\/b∈dB:=by
     rintro b (h|⟨o,h,_⟩)
     ·simpa using h
     ·exact(ml o h).elim
    have atk:∀b,aI (fun b=>X b\/b∈dB++[]) mz (lF (kf 0 as)) b->b<w.heap.size:=fun b h=>(cc b h).elim (hlt b) (Ed b)
    have o5:ar w dB (fun b=>X b\/b∈dB++[]) mz (Cw nt as l) (vs.toArray++Array.replicate (nt-vs.toArray.size) undef) w:=by
     refine⟨?_,fun t=>?_,fun o af h=>?_,fun o ab b h=>(ml o h).elim,fun o b h=>(ml o h).elim,Fr.refl _ _,fun b hb=>?_,hG.aqL fun b h=>by simpa using h⟩
     ·show(vs.toArray++_).size=nt;simp;omega
     ·rw[tU];unfold al.get;show ck mz (lF (kf 0 as)) w _ (match look l t with|some v=>v|none=>.av (.am .any)) _
      cases aq:look l t with
      |none=>simp only;trivial
      |some v=>
       simp only;obtain⟨_,k⟩:=fV t v aq;rw[Nat.sub_zero] at k;rcases k with⟨a,rfl,q1,q2⟩|⟨rfl,q1,b,q2⟩
       ·exact alA q1 q2 cc atk
       ·refine⟨b,q2,.dead 0,PG (fun _ _ h=>EX h) q1,Nat.le_refl _,fun _=>?_⟩
        have:=Zj t;rw[Nat.add_zero] at this;rw[this,q2]
     ·obtain⟨s,rfl⟩:=PQ h;trivial
     ·exact(show X b\/b∈dB by simpa using hb).elim (hlt b) (Ed b)
    obtain⟨gM,T,_⟩:=Rr (av:=fun b=>X b\/b∈dB) (rest:=[]) (Cw nt as l) (kf 0 as) o5 aF aE (fun o s hm=>by
      have:=EX hm;subst this;exact PG (fun _ _ h=>EX h) hm)
     ⟨by simpa using k2,fun b hb=>⟨gD b (by simpa using hb),.inl (by simpa using hb)⟩,cc⟩
     (fun m _ af hs=>by
      have hs:look (lF (kf 0 as)) m=some af:=hs;have:(Cw nt as l).af m=some af:=hs;unfold bz;rw[this];exact Nat.lt_succ_self _) hn
    exact⟨⟨gM,T.jw.shrink fun b hb=>.inl hb⟩,by simpa using bJ,tU⟩
  ·cases he
theorem alQ{C:hY}(H:aR P C.toCtx){g:FuncId}{fn:Func}{c:Code}{kO fD:Shape}{outs:List ResultVar}{ft:List Nat}{f:kO.J->Option fD.J}(nL:P.funcs[g]? =some fn)(tF:fn.body=some c)(q6:(fn.name== "runtime.NumGoroutine")=false)
  (ks:fn.results=outs.toArray) (ep:gr P C c 1) (p0:e_ ft (cx c)=true) (ri:∀y,∃r oX,od C.tt (fD.st y) outs=some r/\n7 (fD.st y) ft=some oX/\fM (keys (oX.2++r.2))=true) (hf:∀a,f a=Kn C c kO fD a):aB P g (ph C.tt fn.ntmps kO fD outs ft f):=by
 intro as;unfold ph;cases he:entry fn.ntmps as with
 |none=>intro y hy;cases hy
 |some st=>
  simp only;cases oM:uF (n9 0 as) ft with
  |false=>intro y hy;cases hy
  |true=>
  simp only[cond_true];have oM:=apl oM;rw[Q7] at p0;intro y hy w X vs dB bL k2 gD hlt hG;obtain⟨a,MT,acq⟩:=Option.bind_eq_some_iff.1 hy;obtain⟨⟨mz,o5⟩,eY,tU⟩:=alk he bL k2 gD hlt hG;obtain⟨gM,dA,_⟩:=Shape.gq o5 MT;rw[hf] at acq;refine .inl ⟨?_,Calls.mono (R:=Th _) ((callsIn_wide (n:=0)).1 (callsIn_of_wp_marks nL tF trivial (jN (rn:=none) H c 1 (.inl rfl) ep w dB X _ gM _ w [] _ _ acq dA fun D e cS w' hk hl=>?_) rfl)) fun e w' h=>by cases e<;>first|exact h|exact h.elim⟩
  ·have apa:¬fn.name= "runtime.NumGoroutine" :=by simpa using q6
   simp[callFunc,nL,apa,tF]
  ·-- where it ends
   have fin:∀ao,fD.ex ao=some y->eD w dB X [] (vs.toArray++Array.replicate (fn.ntmps-vs.toArray.size) undef) (cx c) ao cS w'->LeavesInM Fence.wide 0 P fn cS.tmps (Th fun v w'=>∃ev eu rv,Fr dB w w'/\
     jp w' (fun b=>X b\/b∈ev++eu) (dZ as vs) (match n7 (fD.st y) ft with|some r=>r.1|none=>[]) ev/\
     lz w' (fun b=>X b\/b∈ev++eu) (match od C.tt (fD.st y) outs with|some r=>r.1|none=>[]) rv eu/\v=oi rv/\(ev++eu).Nodup/\∀b,b∈ev++eu->¬X b/\(b∈dB\/w.heap.size<=b)) cS.defers .returning w':=by
    rintro ao MH ⟨aZ,dO,c_,iv,dR,b1,b2,b3,ie,kept⟩;obtain⟨h4,jC,_⟩:=Shape.gq ie MH;rw[b3.1,List.append_nil];have jh:ar w dB c_ h4 (fD.st y) cS.tmps w':=⟨jC.nt,jC.cO,jC.sites,jC.eg,fun o b h1 h2=>⟨(jC.ct o b h1 h2).1,b1.ct b (jC.ct o b h1 h2).2⟩,b1.cM _ jC.frame,jC.old,⟨hG.ok,hG.Y,jC.fa.X,hG.lt⟩⟩
    refine aff dR w' jh b2.nodup (fun bh e6=>⟨b2.new bh e6,(b2.hK bh e6).2.2,(jC.frame.block bh (b2.lt e6) (b2.hK bh e6).2.1).trans (b2.hK bh e6).1⟩) fun DJ aza=>?_
    have l4:=aza.shrink b1.x;obtain⟨⟨la,us⟩,⟨cR,r6⟩,hr,Mv,hn⟩:=ri y;rw[sv] at hn;have hn:(keys (r6++us)).Nodup:=hn;have Eb:fE w dB X h4 (fD.st y) cS.tmps DJ [] [] (fun _=>False):=⟨⟨l4,.nil⟩,fun b h=>h.elim,fun _ _ _ _ h=>h⟩
    obtain⟨_,_,_,Ee⟩:=PL H.toCtxOk Eb hr;have ayv:=(Pb Eb Mv).2;have nS:=gZ.append ayv Ee;have NP:∀o,o∈keys (r6++us)->cq (fD.st y).sites o:=fun o bA=>by
     obtain⟨s,hs⟩:=zO bA;obtain⟨af,h1,h2,_⟩:=nS o s hs;exact⟨af,h1,h2⟩
    have dK:fE w dB X h4 (fD.st y) cS.tmps DJ [] [] (fun b=>X b\/b∈dj h4 (keys r6)++dj h4 (keys us)):=by
     refine⟨⟨l4,.nil⟩,fun b hb=>?_,fun _ h=>by simp at h⟩
     rcases hb with hb|hb
     ·exact .inl hb
     ·rw[<-o7,<-kc] at hb;obtain⟨o,h1,h2⟩:=nW.1 hb;exact .inr ⟨o,NP o h1,h2⟩
    obtain⟨rv,dy,dX,_⟩:=PL H.toCtxOk dK hr;have hB:=(Pb dK Mv).1;have axS:(ft.map fun t=>ow (cS.tmps.getD t undef))=dZ as vs:=by
     rw[eY,oM];exact List.map_congr_left fun t aq=>by rw[kept t (p0 t aq),tU]
    rw[axS] at hB;refine⟨_,O6 ks dy,dj h4 (keys r6),dj h4 (keys us),rv,l4.frame,?_,?_,rfl,?_,fun b hb=>?_⟩
    ·rw[Mv];exact hB
    ·rw[hr];exact dX
    ·rw[<-o7,<-kc];exact ON l4 hn NP
    ·rw[<-o7,<-kc] at hb;obtain⟨o,h1,h2⟩:=nW.1 hb;exact l4.ct o b (NP o h1) h2
   cases D with
   |norm ao=>
    cases e<;>try exact hl.elim
    exact fin ao hk hl
   |ret ao=>
    cases e<;>try exact hl.elim
    exact fin ao hk hl
   |exit id ao=>cases hk
end
def an(c:Code)(q p:Nat):Code:=match look (f_ c q) p with|some c=>c|none=>.skip
def c4:Code->Code
 |.loop c=>c
 |_=>.skip
def codeOf(f:Func):Code:=match f.body with|some c=>c|none=>.skip
def Ve:Code->Bool
 |.loop _=>true
 |_=>false
def tz:List (Nat×h9)->Nat->Option h9
 |[],_=>none
 |(k,v)::r,n=>bif k.beq n then some v else tz r n
def gV(C:Ctx)(cM:List (Nat×h9)):hY:={C with oC:=tz cM}
def lJ(P:Program)(c:Code)(q:Nat):List (Nat×h9)->Prop
 |[]=>True
 |(p,f)::r=>aT P (an c q p) f/\lJ P c q r
theorem akU{aJ:Type}{l:List (Nat×aJ)}{n:Nat}{v:aJ}(h:look l n=some v):(n,v)∈l:=by
 induction l with
 |nil=>cases h
 |cons p l ih=>
  obtain⟨m,u⟩:=p;simp only[look] at h;cases hb:m.beq n with
  |true=>
   simp only[hb,cond_true,Option.some.injEq] at h;rw[<-Nat.eq_of_beq_eq_true hb,h];exact List.mem_cons_self
  |false=>simp only[hb,cond_false] at h;exact List.mem_cons_of_mem _ (ih h)
theorem akS{aJ:Type}{l:List (Nat×aJ)}{n:Nat}{v:aJ}(hn:(keys l).Nodup)(h:(n,v)∈l):look l n=some v:=by
 induction l with
 |nil=>simp at h
 |cons p l ih=>
  obtain⟨m,u⟩:=p;simp only[keys,List.nodup_cons] at hn;simp only[look];rcases List.mem_cons.1 h with h|h
  ·cases h;simp
  ·have:¬m=n:=by rintro rfl;exact hn.1 (aiR h)
   rw[j1 this];exact ih hn.2 h
where
 aiR {aJ:Type} {us:List (Nat×aJ)} {o:Nat} {s:aJ} (h:(o,s)∈us):o∈keys us:=by
  induction us with
  |nil=>simp at h
  |cons p us ih=>
   rcases List.mem_cons.1 h with rfl|h
   ·exact List.mem_cons_self
   ·exact List.mem_cons_of_mem _ (ih h)
theorem lp{P:Program}{C:Ctx}{c:Code}{q:Nat}{cM:List (Nat×h9)}(hu:fM (keys (f_ c q))=true)(h:lJ P c q cM):gr P (gV C cM) c q:=by
 rw[sv] at hu;refine Tp c q fun p fu hm f xQ=>?_
 have hl:=akS hu hm;have hf:tz cM p=some f:=xQ;clear xQ;clear hm;induction cM with
 |nil=>cases hf
 |cons x cM ih=>
  obtain⟨k,g⟩:=x;simp only[tz] at hf;cases hb:k.beq p with
  |true=>
   simp only[hb,cond_true,Option.some.injEq] at hf;have:=Nat.eq_of_beq_eq_true hb;subst this hf;have:=h.1;unfold an at this;rw[hl] at this;exact this
  |false=>simp only[hb,cond_false] at hf;exact ih h.2 hf
theorem ae{P:Program}{c:Code}{q:Nat}:lJ P c q []:=trivial
theorem am7{P:Program}{C:Ctx}(H:aR P C){c:Code}{q p:Nat}{bb:Shape}{os:List aP}{cM:List (Nat×h9)}{g:bb.J->Option (aC os)}(hl:Ve (an c q p)=true)
  (hu:fM (keys (f_ (c4 (an c q p)) (2*p)))=true) (eB:lJ P (c4 (an c q p)) (2*p) cM)
  (hg:∀y,g y=bu (ta (gV C cM) (c4 (an c q p)) p bb os) y):aT P (an c q p) (aU bb os g):=by
 have:an c q p=.loop (c4 (an c q p)):=by
  generalize an c q p=d at hl;cases d<;>first|rfl|cases hl
 rw[this];exact aiV (C:=gV C cM) H (lp hu eB) hg
theorem ce{P:Program}{C:Ctx}(H:aR P C){c:Code}{q p:Nat}{bb:Shape}{os:List aP}{cM:List (Nat×h9)}{g:bb.J->Option (aC os)}
  (hu:fM (keys (f_ (an c q p) p))=true) (eB:lJ P (an c q p) p cM)
  (hg:∀y,g y=UM (gV C cM) (an c q p) p bb os y):aT P (an c q p) (aU bb os g):=
 agW (C:=gV C cM) H (lp hu eB) hg
theorem aph{P:Program}{C:Ctx}(H:aR P C){g:FuncId}{fn:Func}{kO fD:Shape}{outs:List ResultVar}{ft:List Nat}{cM:List (Nat×h9)}{f:kO.J->Option fD.J}(nL:P.funcs[g]? =some fn)(tF:fn.body=some (codeOf fn))
  (q6:(fn.name== "runtime.NumGoroutine")=false) (ks:fn.results=outs.toArray) (hu:fM (keys (f_ (codeOf fn) 1))=true) (eB:lJ P (codeOf fn) 1 cM) (hk:e_ ft (cx (codeOf fn))=true)
  (ri:∀y,∃r oX,od C.tt (fD.st y) outs=some r/\n7 (fD.st y) ft=some oX/\fM (keys (oX.2++r.2))=true) (hf:∀a,f a=Kn (gV C cM) (codeOf fn) kO fD a):aB P g (ph C.tt fn.ntmps kO fD outs ft f):=
 alQ (C:=gV C cM) H nL tF q6 ks (lp hu eB) hk ri hf
def jU{A bq:Type}(ff:(A->Option bq)->A->Option bq):Nat->A->Option bq
 |0=>fun _=>none
 |n+1=>ff (jU ff n)
def km:Nat:=4611686018427387904
theorem Js{P:Program}{g:FuncId}{tt:TypeId->cg}{nt:Nat}{l0 k_:Shape}{outs:List ResultVar}{ft:List Nat}{ff:(l0.J->Option k_.J)->l0.J->Option k_.J}
  (h:∀aS,aB P g (ph tt nt l0 k_ outs ft aS)->aB P g (ph tt nt l0 k_ outs ft (ff aS))):∀n,aB P g (ph tt nt l0 k_ outs ft (jU ff n)):=by
 intro n;induction n with
 |zero=>
  intro as;unfold ph;cases entry nt as with
  |none=>intro y hy;cases hy
  |some st=>
   simp only;cases uF (n9 0 as) ft with
   |false=>intro y hy;cases hy
   |true=>
    intro y hy;simp only[cond_true,jU] at hy;obtain⟨a,_,h2⟩:=Option.bind_eq_some_iff.1 hy;cases h2
 |succ n ih=>exact h _ ih
def C8:List (Nat×cg)->TypeId->cg
 |[],_=>.none
 |(k,v)::r,n=>bif Nat.beq k n then v else C8 r n
def Ko(P:Program):List (Nat×cg)->Prop
 |[]=>True
 |(k,v)::r=>v.ok P k/\Ko P r
theorem alP{P:Program}:∀{l:List (Nat×cg)},Ko P l->∀T,(C8 l T).ok P T:=by
 intro l;induction l with
 |nil=>intro _ T;trivial
 |cons p l ih=>
  obtain⟨k,v⟩:=p;intro h T;simp only[C8];cases hb:Nat.beq k T with
  |true=>have:=Nat.eq_of_beq_eq_true hb;subst this;exact h.1
  |false=>exact ih h.2 T
theorem aha{J bq:Type}{f g:J->Option (Sum J bq)}(h:∀y,f y=g y):∀y,bu f y=bu g y:=by
 have:f=g:=funext h;rw[this];exact fun _=>rfl
def sV:List Arg->Option (B×Int)
 |[.av (.am (.d (.str s))),.av (.am (.d (.int .u8 c)))]=>some (s,c)
 |_=>none
def F5:aD:=fun as=>match sV as with
 |some (s,c)=>⟨Unit,some (),fun _=>[],fun _=>[.am (.d (.int .i64 (Lib.indexByte s c.toNat.toUInt8)))]⟩
 |none=>.fail
theorem O'{as:List Arg}{s:B}{c:Int}(h:sV as=some (s,c)):as=[.av (.am (.d (.str s))),.av (.am (.d (.int .u8 c)))]:=by
 unfold sV at h;split at h
 ·cases h;rfl
 ·cases h
theorem afk{P:Program}{g:FuncId}{fn:Func}(hf:P.funcs[g]? =some fn)(q6:(fn.name== "runtime.NumGoroutine")=false)(hb:fn.body.isNone=true)(hn:Extern.findNext fn=none)
  (he:Extern.find fn=some Extern.BytealgIndexByte.indexByte):aB P g F5:=by
 intro as;unfold F5;cases az:sV as with
 |none=>intro y hy;cases hy
 |some q=>
  obtain⟨s,c⟩:=q;have has:=O' az;subst has;intro y hy w X vs dB bL _ _ _ _;match vs,bL with
  |[v1,v2],⟨a1,a2,e1,h1,c1,c2,e2,h2,br⟩=>
   obtain⟨fg,r1⟩:=h1;obtain⟨z2,r2⟩:=h2;subst fg z2 br;simp only[List.append_nil] at e2;subst e2;simp only[List.append_nil] at e1;subst e1;obtain⟨b,rfl,ec⟩:=gF r1;have e:=iE r2;subst e;refine .inr ⟨.int .i64 (Lib.indexByte b.data.toList c.toNat.toUInt8),w,?_,[],[],[.int .i64 (Lib.indexByte s c.toNat.toUInt8)],Fr.refl _ _,?_,?_,?_,by simp,fun b hb=>by simp at hb⟩
   ·rw[run_callFunc_extern hf q6 hb hn he];show((Extern.BytealgIndexByte.indexByte #[.string b,.int .u8 c]).run P w).andThen _=_;rw[Lib.run_indexByteString];rfl
   ·simp[dZ,jp]
   ·exact⟨[],[],rfl,⟨rfl,.int _ _⟩,rfl⟩
   ·rw[ec];rfl
end Go.Jk
namespace Go.Jk
open Go.RowKit Go.Sort
theorem ajQ{P:Program}{w:World}{g:Nat}{name:String}{k:IntKind}{zs:List Int}(hg:P.globalNamed name=some g)(h:ov w g k zs):Lib.TabIs P w name k zs:=by
 obtain⟨T,fz,h⟩:=h;simp[Lib.TabIs,World.var?,hg,h]
theorem ajR{P:Program}{w:World}{g:Nat}{name:String}{k:IntKind}{zs:List Int}(hg:P.globalNamed name=some g)(h:Lib.TabIs P w name k zs):ov w g k zs:=by
 simp only[Lib.TabIs,World.var?,hg,Option.bind_some] at h;split at h
 ·rename_i cs T fz hc;cases h;exact⟨_,_,hc⟩
 ·cases h
def CN:List Arg->Option Int
 |[.av (.am (.d (.int .i64 n)))]=>some n
 |_=>none
theorem aiZ{as:List Arg}{n:Int}(h:CN as=some n):as=[.av (.am (.d (.int .i64 n)))]:=by
 unfold CN at h;split at h
 ·cases h;rfl
 ·cases h
def G4:aD:=fun as=>match CN as with
 |some n=>⟨Unit,if-9223372036854775808<=n/\n<=9223372036854775807 then some () else none,fun _=>[],fun _=>[.am (.d (.str (Lib.itoa n)))]⟩
 |none=>.fail
theorem anl(w:World)(k:Nat)(os:Array Obj):Fr [] w (grow (w.drewN k) os):=
 ⟨rfl,rfl,rfl,by simp[grow,World.drewN],fun b hb _=>by
  show(w.heap++os)[b]? =w.heap[b]?;rw[Array.getElem?_append_left hb]⟩
theorem anf{P:Program}{g:FuncId}(he:∀args w,(callFunc g args).run P w=.ok (.enter g args) w)
  (h:∀n:Int,-9223372036854775808<=n->n<=9223372036854775807->∀w,nM w->Calls P g #[.int .i64 n] w fun e w'=>e=.returned (.string ⟨(Lib.itoa n).toArray⟩)/\∃k os,w'=grow (w.drewN k) os):aB P g G4:=by
 intro as;unfold G4;cases az:CN as with
 |some n=>
  have has:=aiZ az;subst has;intro y hy w X vs dB bL _ gD hlt hG;have hy:(if-9223372036854775808<=n/\n<=9223372036854775807 then some () else none)=some y:=hy
  split at hy
  ·rename_i hn;match vs,bL with
   |[v1],⟨a1,a2,e1,h1,e2⟩=>
    obtain⟨fg,r1⟩:=h1;subst fg e2;simp only[List.append_nil] at e1;subst e1;have e:=iE r1;subst e;refine .inl ⟨he _ _,(h n hn.1 hn.2 w hG.ok).mono fun e w' hw=>?_⟩
    obtain⟨rfl,k,os,rfl⟩:=hw;exact⟨[],[],[.string ⟨(Lib.itoa n).toArray⟩],anl w k os,rfl,⟨[],[],rfl,⟨rfl,.str _ _ rfl⟩,rfl⟩,rfl,by simp,fun b hb=>by simp at hb⟩
  ·cases hy
 |none=>intro y hy;cases hy
end Go.Jk
namespace Go.Jk
open Go.ChangeShapes Go.WideShapes Go.RowKit
def KA:bf->List dQ
 |.i64=>[.int .i64]
 |.u8=>[.int .u8]
 |.u32=>[.int .u32]
 |.bool=>[.bool]
 |.str=>[.str]
 |.entry=>[.str,.int .i64,.int .i64,.str]
 |.need=>[.str,.int .i64,.str]
 |.pack=>[.str,.str,.sl .need,.sl .entry]
 |.file|.lt|.source|.piece=>[.str,.str]
 |.recipe=>[.str,.str,.sl .lt,.sl .need,.sl .need,.sl .source,.sl .piece,.sl .str]
 |.hunk=>[.int .i64,.sl .str]
 |.tJ=>[.sl .bool]
inductive k7:bh->Prop where
 |int (k:IntKind) (n:Int):(Lit.int k n).wf=true->k7 (.int k n)
 |bool (b:Bool):k7 (.bool b)
 |str (s:B):s.length<=maxLen->k7 (.str s)
 |sl (t:bf) (xs:List (den t)):xs.length<=maxLen->(∀x,x∈xs->∀d,d∈enc t x->k7 d)->k7 (.sl t xs)
theorem anx:∀(t:bf) (y:k6 (KA t)),∃x,enc t x=fF (KA t) y:=by
 intro t y;cases t;case recipe=>obtain⟨a,b,c,d,e,f,g,h,_⟩:=y;exact⟨⟨a,b,c,d,e,f,g,h⟩,rfl⟩
 case entry=>obtain⟨a,b,c,d,_⟩:=y;exact⟨⟨a,b,c,d⟩,rfl⟩
 case pack=>obtain⟨a,b,c,d,_⟩:=y;exact⟨⟨a,b,c,d⟩,rfl⟩
 case need=>obtain⟨a,b,c,_⟩:=y;exact⟨⟨a,b,c⟩,rfl⟩
 case file=>obtain⟨a,b,_⟩:=y;exact⟨⟨a,b⟩,rfl⟩
 case lt=>obtain⟨a,b,_⟩:=y;exact⟨⟨a,b⟩,rfl⟩
 case source=>obtain⟨a,b,_⟩:=y;exact⟨⟨a,b⟩,rfl⟩
 case piece=>obtain⟨a,b,_⟩:=y;exact⟨⟨a,b⟩,rfl⟩
 case hunk=>obtain⟨a,b,_⟩:=y;exact⟨⟨a,b⟩,rfl⟩
 all_goals(obtain⟨a,_⟩:=y;exact⟨a,rfl⟩)
instance:DecidableEq dQ:=fun a b=>by
 cases a<;>cases b<;>first|exact isTrue rfl|(rename_i x y;exact if h:x=y then isTrue (by rw[h]) else isFalse (fun e=>h (by cases e;rfl)))|exact isFalse (fun e=>by cases e)
def vI(P:Program)(r:TypeId->Option (List dQ)):List Field->Nat->Option (List dQ)
 |[],_=>some []
 |f::bR,D=>match r f.type,vI P r bR (D+P.cellsOf f.type) with
  |some a,some b=>if f.offset=D/\P.cellsOf f.type=a.length then some (a++b) else none
  |_,_=>none
def qO(tt:TypeId->cg)(P:Program):Nat->TypeId->Option (List dQ)
 |0,_=>none
 |n+1,T=>match P.underlying T with
  |some (.int k)=>some [.int k]
  |some .bool=>some [.bool]
  |some .string=>some [.str]
  |some (.slice e)=>match tt T,qO tt P n e with
   |.slice _ t _,some bc=>if bc=KA t/\P.cellsOf e=bd t then some [.sl t] else none
   |_,_=>none
  |some (.struct bR)=>match vI P (qO tt P n) bR.toList 0 with
   |some bc=>if P.cellsOf T=bc.length then some bc else none
   |none=>none
  |_=>none
def wu(w:World)(av:Nat->Prop)(bc:List dQ)(cs:List Value):Prop:=∃y:k6 bc,c5 w av (fF bc y) cs/\∀d,d∈fF bc y->k7 d
theorem akR:∀(bc oA:List dQ) (y:k6 bc) (y':k6 oA),∃z:k6 (bc++oA),fF (bc++oA) z=fF bc y++fF oA y':=by
 intro bc;induction bc with
 |nil=>intro oA y y';exact⟨y',rfl⟩
 |cons s bc ih=>
  intro oA y y';obtain⟨a,b⟩:=y;obtain⟨z,hz⟩:=ih oA b y';exact⟨(a,z),by simp[fF,hz]⟩
theorem c5.b4{w:World}{av:Nat->Prop}{ds k5:List bh}{vs cv:List Value}(h:c5 w av ds vs)(aj:c5 w av k5 cv):c5 w av (ds++k5) (vs++cv):=by
 refine⟨by rw[List.length_append,List.length_append,h.1,aj.1],fun j g1 g2=>?_⟩
 rw[List.getElem_append,List.getElem_append];have:=h.1;simp only[List.length_append] at g1 g2;by_cases hj:j<ds.length
 ·rw[dif_pos hj,dif_pos (by omega)]
  exact h.2 j hj (by omega)
 ·rw[dif_neg hj,dif_neg (by omega)]
  have:=aj.2 (j-ds.length) (by omega) (by omega)
  simpa[h.1] using this
theorem wu.one{w:World}{av:Nat->Prop}{s:dQ}{d:bh}{v:Value}(y:s.J)(Z:s.mk y=d)(h:bK w av d v)(hw:k7 d):wu w av [s] [v]:=
 ⟨(y,()),⟨rfl,fun j h1 h2=>by
  simp only[fF,List.length_cons,List.length_nil] at h1;obtain rfl:j=0:=by omega
  simpa[fF,Z] using h⟩,fun adQ aj=>by simp only[fF,List.mem_singleton] at aj;rw[aj,Z];exact hw⟩
section
variable {H:Type}{ku:TypeId×Value->H}{P:Program}{w:World}{base:Nat}{spare:Nat->Bool}{held:Bool}{av:Nat->Prop}{tt:TypeId->cg}
theorem afc{r:TypeId->Option (List dQ)}{n:Nat}{cs:List Value}(ih:∀{T:TypeId} {bc:List dQ} {cs:List Value} {x:DataW H×List MemPlace},r T=some bc->DataW.trod ku P w base spare held n T cs=some x->wu w av bc cs):
  ∀(bR:List Field) (D:Nat) (bc:List dQ),vI P r bR D=some bc->D+bc.length<=cs.length->(∀(i:Nat) (f:Field),bR[i]? =some f->∃x,DataW.trod ku P w base spare held n f.type ((cs.drop f.offset).take (P.cellsOf f.type))=some x)->
   wu w av bc ((cs.drop D).take bc.length):=by
 intro bR;induction bR with
 |nil=>
  intro D bc h hl _;simp only[vI] at h;cases h;exact⟨(),⟨by simp[fF],fun j g=>by simp[fF] at g⟩,fun d Z=>by simp[fF] at Z⟩
 |cons f bR axk=>
  intro D bc h hl hx;simp only[vI] at h;split at h
  ·rename_i a b h1 h2;split at h
   ·rename_i hc;cases h;obtain⟨x,oE⟩:=hx 0 f rfl;have gz:D+a.length+b.length<=cs.length:=by simp only[List.length_append] at hl;omega
    rw[hc.1,hc.2] at oE;rw[hc.2] at h2;obtain⟨cH,aE,aF⟩:=ih h1 oE;obtain⟨dm,bJ,cL⟩:=axk (D+a.length) b h2 gz (fun i g hg=>hx (i+1) g (by simpa using hg))
    obtain⟨z,hz⟩:=akR a b cH dm;have fR:(cs.drop D).take (a++b).length=(cs.drop D).take a.length++(cs.drop (D+a.length)).take b.length:=by
     rw[List.length_append,List.take_add,List.drop_drop]
    refine⟨z,?_,?_⟩
    ·rw[hz,fR];exact aE.b4 bJ
    ·rw[hz];intro d Z;rcases List.mem_append.1 Z with Z|Z
     ·exact aF d Z
     ·exact cL d Z
   ·cases h
  ·cases h
theorem agV(cc:∀b,¬av b):∀(m:Nat) {T:TypeId} {bc:List dQ} {n:Nat} {cs:List Value} {x:DataW H×List MemPlace},qO tt P m T=some bc->DataW.trod ku P w base spare held n T cs=some x->wu w av bc cs:=by
 intro m;induction m with
 |zero=>intro T bc n cs x h;cases h
 |succ m ih=>
  intro T bc n cs x h hx;simp only[qO] at h;split at h
  ·rename_i k hu;cases h;obtain⟨z,rfl,_,hw⟩:=DataW.trod_int hu hx;exact .one (s:=.int k) z rfl (.int k z) (.int k z hw)
  ·rename_i hu;cases h;obtain⟨b,rfl,_⟩:=DataW.trod_bool hu hx;exact .one (s:=.bool) b rfl (.bool b) (.bool b)
  ·rename_i hu;cases h;obtain⟨s,rfl,_,hl⟩:=DataW.trod_string hu hx;exact .one (s:=.str) s.data.toList rfl (.str _ _ rfl) (.str _ (by rw[Array.length_toList];exact hl))
  ·rename_i e hu;split at h
   ·rename_i cI t bytes oA jz lV;split at h
    ·rename_i hc;cases h;rcases DataW.trod_slice hu hx with⟨rfl,_⟩|⟨a,len,cap,aBF,rest,hI,rfl,rfl,_,hb,ut,hcm,mJ,bC,_⟩
     ·exact .one (s:=.sl t) [] rfl (.nil t) (.sl t [] (Nat.zero_le _) (fun x h=>by cases h))
     ·have key:∀j,j<=len->∃xs:List (den t),∃cs:List Value,xs.length=j/\cs.length=j*bd t/\(∀i u,cs[i]? =some u->w.cell? (a.add i)=some u)/\c5 w av (flat t xs) cs/\∀x,x∈xs->∀d,d∈enc t x->k7 d:=by
       intro j;induction j with
       |zero=>intro _;exact⟨[],[],rfl,by simp,fun i u h=>by simp at h,⟨rfl,fun i h=>by simp[flat] at h⟩,fun x h=>by cases h⟩
       |succ j axj=>
        intro hj;obtain⟨xs,cs,h1,h2,h3,aA,bl⟩:=axj (by omega)
        have j8:=bC j (by omega)
        rw[List.getElem?_eq_getElem (by omega)] at j8
        obtain⟨oP,aE,aF⟩:=Option.bind_eq_some_iff.1 j8;obtain⟨bJ,cL,fV⟩:=World.cells?_some aE;obtain⟨y,iB,yd⟩:=ih lV aF;obtain⟨hc1,rO⟩:=hc;subst hc1;obtain⟨x6,hxe⟩:=anx t y;rw[<-hxe] at iB yd;have gz:oP.length=bd t:=by rw[cL,rO]
        refine⟨xs++[x6],cs++oP,by simp[h1],by rw[List.length_append,h2,gz,Nat.succ_mul],fun i u hi=>?_,?_,fun x hx=>?_⟩
        ·by_cases hlt:i<cs.length
         ·rw[List.getElem?_append_left hlt] at hi;exact h3 i u hi
         ·rw[List.getElem?_append_right (by omega)] at hi
          have pM:i-cs.length<bd t:=by rw[<-gz];exact(List.getElem?_eq_some_iff.1 hi).1
          have:=fV (i-cs.length) (by rw[rO];exact pM)
          rw[Deep.add_add,rO,hi,show j*bd t+(i-cs.length)=i by omega] at this
          exact this
        ·rw[ss,show flat t [x6]=enc t x6 by simp[flat]]
         exact aA.b4 iB
        ·rcases List.mem_append.1 hx with hx|hx
         ·exact bl x hx
         ·rw[List.mem_singleton.1 hx];exact yd
      obtain⟨xs,cs,h1,h2,h3,aA,bl⟩:=key len (Nat.le_refl _);exact .one (s:=.sl t) xs rfl (.sl t xs a cap cs len h1.symm ut (fun _=>cc _) (by rw[h2,e9,h1]) h3 aA.2) (.sl t xs (by omega) bl)
    ·cases h
   ·cases h
  ·rename_i bR hu;split at h
   ·rename_i oA ax1;split at h
    ·rename_i hc;cases h;obtain⟨xs,hI,_,_,hl,hlen,hf⟩:=DataW.trod_struct hu hx;have:=afc (cs:=cs) (fun h1 h2=>ih h1 h2) bR.toList 0 bc ax1 (by omega) (fun i f acd=>by
      have:=hf i f (by simpa using acd)
      have hi:i<xs.length:=by
       rw[hlen];have:=(List.getElem?_eq_some_iff.1 acd).1;simpa using this
      exact⟨xs[i],by rw[this,List.getElem?_eq_getElem hi]⟩)
     rw[List.drop_zero,List.take_of_length_le (by omega)] at this
     exact this
    ·cases h
   ·cases h
  ·cases h
theorem vF{w:World}{av:Nat->Prop}{d:bh}{ds:List bh}{vs:List Value}(h:c5 w av (d::ds) vs):∃v cv,vs=v::cv/\bK w av d v/\c5 w av ds cv:=by
 obtain⟨h1,h2⟩:=h;match vs,h1 with
 |v::vs,h1=>
  refine⟨v,vs,rfl,?_,by simpa using h1,fun j g1 g2=>?_⟩
  ·have:=h2 0 (by simp) (by simp)
   simpa using this
  ·have:=h2 (j+1) (by simp only[List.length_cons];omega) (by simp only[List.length_cons];omega)
   simpa using this
theorem aj6{w:World}{av:Nat->Prop}:∀{ds:List bh} {vs:List Value},c5 w av ds vs->lI w av (cF ds) vs []:=by
 intro ds;induction ds with
 |nil=>
  intro vs h;match vs,h.1 with
  |[],_=>rfl
 |cons d ds ih=>
  intro vs h;obtain⟨v,cv,rfl,h1,h2⟩:=vF h;exact⟨[],[],rfl,⟨rfl,h1⟩,ih h2⟩
def wW(P:Program)(T:TypeId):Bool:=match P.underlying T with
 |some (.struct _)=>true
 |_=>false
def wL(b:Bool)(ds:List bh):Arg:=match b,ds with
 |true,ds=>.av (.agg (cF ds))
 |false,[d]=>.av (.am (.d d))
 |false,_=>.av (.am .any)
theorem apu(cc:∀b,¬av b){m:Nat}{T:TypeId}{bc:List dQ}{v:Value}{d:DataW H}{p:List MemPlace}{r:Reach}{sg:Nat}(hp:qO tt P m T=some bc)(iX:Value.okWide P w r sg T v)
  (Z:DataW.Trod ku P w base spare held T v d p):∃y:k6 bc,T9 w av (wL (wW P T) (fF bc y)) v []/\dZ [wL (wW P T) (fF bc y)] [v]=[]/\∀d,d∈fF bc y->k7 d:=by
 obtain⟨n,hn⟩:=Z;obtain⟨y,h1,h2⟩:=agV cc m hp hn;refine⟨y,?_,?_,h2⟩
 ·cases m with
  |zero=>cases hp
  |succ m=>
   simp only[qO] at hp;unfold wW;split at hp
   ·rename_i k hu;cases hp;rw[hu];obtain⟨z,rfl⟩:=okWide_int hu iX;obtain⟨v',cv,e,h3,aA⟩:=vF h1;cases e;exact⟨rfl,h3⟩
   ·rename_i hu;cases hp;rw[hu];obtain⟨z,rfl⟩:=okWide_bool hu iX;obtain⟨v',cv,e,h3,aA⟩:=vF h1;cases e;exact⟨rfl,h3⟩
   ·rename_i hu;cases hp;rw[hu];obtain⟨z,rfl⟩:=okWide_string hu iX;obtain⟨v',cv,e,h3,aA⟩:=vF h1;cases e;exact⟨rfl,h3⟩
   ·rename_i e hu;split at hp
    ·split at hp
     ·cases hp;rw[hu];obtain⟨a,len,cap,rfl⟩:=okWide_slice hu iX;obtain⟨v',cv,e,h3,aA⟩:=vF h1;cases e;exact⟨rfl,h3⟩
     ·cases hp
    ·cases hp
   ·rename_i bR hu;rw[hu];obtain⟨cs,rfl,_⟩:=okWide_struct hu iX;exact⟨cs.toList,rfl,aj6 h1⟩
   ·cases hp
 ·unfold wL;split<;>cases v<;>rfl
def vH(tt:TypeId->cg)(P:Program)(m:Nat):List TypeId->Option (List (Bool×List dQ))
 |[]=>some []
 |T::cZ=>match qO tt P m T,vH tt P m cZ with
  |some bc,some r=>some ((wW P T,bc)::r)
  |_,_=>none
@[reducible] def xX:List (Bool×List dQ)->Type
 |[]=>Unit
 |p::r=>k6 p.2×xX r
def tn:(ps:List (Bool×List dQ))->xX ps->List Arg
 |[],_=>[]
 |p::r,(y,z)=>wL p.1 (fF p.2 y)::tn r z
def Lh:(ps:List (Bool×List dQ))->xX ps->Prop
 |[],_=>True
 |p::r,(y,z)=>(∀d,d∈fF p.2 y->k7 d)/\Lh r z
theorem anO(cc:∀b,¬av b){m:Nat}{r:Reach}{sg:Nat}:∀{cZ:List TypeId} {ps:List (Bool×List dQ)} {vs:List Value} {ds:List (DataW H)} {p:List MemPlace},vH tt P m cZ=some ps->
  (∀(j:Nat) (t:TypeId) (v:Value),cZ[j]? =some t->vs[j]? =some v->Value.okWide P w r sg t v)->DataW.TrodAll ku P w base spare held cZ vs ds p->
  ∃y:xX ps,jl w av (tn ps y) vs []/\dZ (tn ps y) vs=[]/\Lh ps y:=by
 intro cZ;induction cZ with
 |nil=>
  intro ps vs ds p hp _ Z;simp only[vH] at hp;cases hp;obtain⟨rfl,rfl,rfl⟩:=trodAll_nil Z;exact⟨(),rfl,rfl,trivial⟩
 |cons T cZ ih=>
  intro ps vs ds p hp iX Z;simp only[vH] at hp;split at hp
  ·rename_i bc eH h1 h2;cases hp;obtain⟨v,cv,d,k5,iA,je,rfl,rfl,rfl,hd1,hd2⟩:=trodAll_cons Z;obtain⟨y,aE,aF,bJ⟩:=apu cc h1 (iX 0 T v rfl rfl) hd1;obtain⟨z,cL,fV,iB⟩:=ih h2 (fun j t u g1 g2=>iX (j+1) t u (by simpa using g1) (by simpa using g2)) hd2
   refine⟨(y,z),⟨[],[],rfl,aE,cL⟩,?_,bJ,iB⟩;have:=OM (as:=[wL (wW P T) (fF bc y)]) (vs:=[v]) (oR:=tn eH z) (cv:=cv) rfl;rw[aF,fV] at this;exact this
  ·cases hp
theorem afi{P:Program}{w:World}:∀{laid:List (String×DataW Unit)} {ps:List MemPlace} {n:String} {d:DataW Unit},DataW.LaidVars P w laid ps->(n,d)∈laid->∃qs,DataW.LaidVars P w [(n,d)] qs:=by
 intro laid;induction laid with
 |nil=>intro ps n d _ hm;cases hm
 |cons x laid ih=>
  obtain⟨n0,d0⟩:=x;intro ps n d h hm;obtain⟨g,t,cs,mv,p,q,h1,h2,h3,aA,bl,ca⟩:=h;rcases List.mem_cons.1 hm with e|hm
  ·cases e;exact⟨_,g,t,cs,mv,p,[],h1,h2,h3,aA,rfl,rfl⟩
  ·exact ih bl hm
theorem R_{P:Program}{W:World}{laid:List (String×DataW Unit)}{name:String}{k:IntKind}{zs:List Int}{g:Nat}{t e:TypeId}{n i:Nat}(hg:P.globalNamed name=some g)(axz:(P.globals[g]?).map (·.type)=some t)(aq:P.underlying t=some (.array n e))
  (he:P.underlying e=some (.int k)) (uz:P.cellsOf e=1) (ax4:P.cellsOf t=n) (hm:laid[i]? =some (name,Lib.tabData k zs)) (h:laidMet P laid W):ov W g k zs:=by
 obtain⟨ps,h,_⟩:=h;obtain⟨qs,cB,bo,cs,mv,p,q,hg',nJ,ata,Z,_,_⟩:=afi h (List.mem_of_getElem? hm);obtain rfl:=Option.some.inj (hg.symm.trans hg');obtain rfl:=Option.some.inj (axz.symm.trans nJ);have hc:=Lib.cells_of_tab aq he uz ax4 Z;refine ajR hg ?_
 show W.var? P name=_;rw[ata,<-hc]
def LawOk(S:aD)(ps:List (Bool×List dQ)):Prop:=∀y:xX ps,Lh ps y->∃r,(S (tn ps y)).comp=some r/\(S (tn ps y)).fp r=[.am (.d (.bool true))]
theorem aez{W db:World}(hl:laidOutB P=true){sp':Nat->Bool}(j6:∀b,b<W.heap.size->sp' b=true)(hb:Below W.heap.size W db):∀{cZ:List TypeId} {vs:List Value} {ds:List (DataW H)} {p:List MemPlace},
  (∀t,t∈cZ->P.readableRec t=true/\t<P.types.size)->(∀x∈p,x.block<W.heap.size)->DataW.TrodAll ku P W 0 (fun _=>true) true cZ vs ds p->DataW.TrodAll ku P db 0 sp' true cZ vs ds p:=by
 intro cZ;induction cZ with
 |nil=>intro vs ds p _ _ Z;obtain⟨rfl,rfl,rfl⟩:=trodAll_nil Z;rfl
 |cons T cZ ih=>
  intro vs ds p hr hlt Z;obtain⟨v,cv,d,k5,iA,je,rfl,rfl,rfl,hd1,hd2⟩:=trodAll_cons Z;refine⟨iA,je,?_,ih (fun t aq=>hr t (List.mem_cons_of_mem _ aq)) (fun x hx=>hlt x (List.mem_append.2 (.inr hx))) hd2,rfl⟩
  exact WideElems.Trod_stays hl (hr T List.mem_cons_self).1 (hr T List.mem_cons_self).2 hd1 (fun x hx=>hb.same (hlt x (List.mem_append.2 (.inl hx)))) (fun x hx=>j6 _ (hlt x (List.mem_append.2 (.inl hx))))
theorem ae2{cZ:List TypeId}{vs:List Value}{ds:List (DataW H)}{p:List MemPlace}(h:DataW.TrodAll ku P w base spare held cZ vs ds p):ds.length=cZ.length:=by
 induction cZ generalizing vs ds p with
 |nil=>obtain⟨rfl,rfl,rfl⟩:=trodAll_nil h;rfl
 |cons T cZ ih=>
  obtain⟨v,cv,d,k5,iA,je,rfl,rfl,rfl,_,hd2⟩:=trodAll_cons h;simp[ih hd2]
def C7(P:Program):List String->Bool
 |[]=>true
 |n::ns=>(match P.globalNamed n with
  |some g=>match(P.globals[g]?).map (·.type) with
   |some t=>P.readableRec t&&decide (t<P.types.size)
   |none=>true
  |none=>true)&&C7 P ns
theorem aer{W db:World}(hl:laidOutB P=true){sp':Nat->Bool}(j6:∀b,b<W.heap.size->sp' b=true)(hb:Below W.heap.size W db):∀{ns:List String} {gs:List (DataW H)} {q:List MemPlace},
  C7 P ns=true->(∀x∈q,x.block<W.heap.size)->DataW.TrodVars ku P W (fun _=>true) ns gs q->DataW.TrodVars ku P db sp' ns gs q:=by
 intro ns;induction ns with
 |nil=>intro gs q _ _ h;obtain⟨rfl,rfl⟩:=trodVars_none h;rfl
 |cons n ns ih=>
  intro gs q hr hlt h;cases gs with
  |nil=>exact h.elim
  |cons d ds=>
   obtain⟨g,t,cs,mv,p,fB,h1,h2,h3,aA,hs,rfl⟩:=h;simp only[C7,h1,h2,Bool.and_eq_true,decide_eq_true_eq] at hr;have hg:g<W.heap.size:=by
    have MZ:=h3;simp only[World.var?,h1,Option.bind_some] at MZ;split at MZ
    ·rename_i hc;exact(Array.getElem?_eq_some_iff.1 hc).1
    ·cases MZ
   have Z:DataW.Trod ku P W 0 (fun _=>true) true t (.agg cs) d p:=⟨mv,aA⟩
   have hx:∀x∈p,x.block<W.heap.size:=fun x hx=>hlt x (List.mem_append.2 (.inl (List.mem_append.2 (.inr hx))))
   obtain⟨aq7,oN⟩:=WideElems.Trod_stays (sp':=sp') hl hr.1.1 hr.1.2 Z (fun x h=>hb.same (hx x h)) (fun x h=>j6 _ (hx x h))
   refine⟨g,t,cs,aq7,p,fB,h1,h2,?_,oN,ih hr.2 (fun x h=>hlt x (List.mem_append.2 (.inr h))) hs,rfl⟩
   simp only[World.var?,h1,Option.bind_some] at h3 ⊢;rw[hb.block g hg];exact h3
theorem ae1{lZ:Nat->Bool}:∀{ns:List String} {gs:List (DataW H)} {q:List MemPlace},DataW.TrodVars ku P w lZ ns gs q->gs.length=ns.length:=by
 intro ns;induction ns with
 |nil=>intro gs q h;obtain⟨rfl,rfl⟩:=trodVars_none h;rfl
 |cons n ns ih=>
  intro gs q h;cases gs with
  |nil=>exact h.elim
  |cons d ds=>
   obtain⟨g,t,cs,mv,p,fB,h1,h2,h3,aA,hs,rfl⟩:=h;simp[ih hs]
theorem afh{f:FuncId}{fn:Func}{S:aD}{s:ChangeSpec}{NJ:TypeId}{m:Nat}{ps:List (Bool×List dQ)}(eI:aB P f S)(he:∀vs w,(callFunc f vs).run P w=.ok (.enter f vs) w)(hl:laidOutB P=true)
  (aqW:∀t,t∈fn.params.toList->P.readableRec t=true/\t<P.types.size) (ks:fn.resultTypes=#[NJ]) (axB:P.underlying NJ=some .bool) (aqS:C7 P s.vars=true)
  (nL:∀ds gs:List (DataW H),ds.length=fn.params.toList.length->gs.length=s.vars.length->s.fn H (ds++gs)={results:=[.lit (.bool true)],args:=ds,vars:=gs}) (oI:vH tt P m fn.params.toList=some ps) (K5:LawOk S ps)
  (W:World) (hG:nM W) (sg:Nat) (args:Array Value) (ds gs:List (DataW H)) (before:List MemPlace) (iX:∀(j:Nat) t v,fn.params[j]? =some t->args[j]? =some v->Value.okWide P W .any sg t v)
  (hW:DataW.Whole ku P fn.params.toList s.vars false W args.toList ds gs before):
  Calls P f args W fun e db=>∃v,e=.returned v/\s.post ku P fn false true false false W args v db:=by
 have hlt:=hW.lt;have MW:=hW;obtain⟨p,q,dX,adJ,rfl,_,_⟩:=hW;obtain⟨y,h1,h2,h3⟩:=anO (av:=fun b=>False\/b∈([]:List Nat)) (fun b hb=>by simp at hb) oI (fun j t v g1 g2=>iX j t v (by simpa using g1) (by simpa using g2)) dX
 obtain⟨r,aA,bl⟩:=K5 y h3;have key:=eI _ r aA W (fun _=>False) args.toList [] h1 List.nodup_nil (fun b hb=>by simp at hb) (fun b hb=>hb.elim) ⟨hG,fun b _ h=>(by cases h),fun _ _ h=>h,ayA hG⟩
 rcases key with⟨_,hc⟩|⟨v,w',hv,_⟩
 ·have e:args.toList.toArray=args:=by simp
  rw[e] at hc;refine hc.mono fun EA db h=>?_
  cases EA with
  |returned v=>
   obtain⟨ev,eu,rv,eB,hB,hR,hv,_,_⟩:=h;refine⟨v,rfl,?_⟩;rw[bl] at hR;match rv,hR with
   |[v1],⟨c1,c2,e1,⟨_,hr⟩,_⟩=>
    have hr:bK db _ (.bool true) v1:=hr;have pW:v1=.bool true:=by cases hr;rfl
    subst pW;have hv:v=.bool true:=hv;subst hv;have K':Below W.heap.size W db:=⟨eB.os,eB.tape,eB.output,eB.size,fun k hk=>eB.block k hk (by simp)⟩
    have gN:=nL ds gs (ae2 dX) (ae1 adJ);refine⟨ds,gs,p++q,[],p,q,MW,?_,?_,?_,K'.frame _,fun h=>by cases h⟩
    ·rw[gN,ks];exact trodAll_mk1 (shut_bool axB _)
    ·rw[gN];exact aez hl (fun b hb=>by simpa using hb) K' aqW (fun x hx=>hlt x (List.mem_append.2 (.inl hx))) dX
    ·rw[gN];exact aer hl (fun b hb=>by simpa using hb) K' aqS (fun x hx=>hlt x (List.mem_append.2 (.inr hx))) adJ
  |panicked c=>exact h.elim
  |outgrown=>exact h.elim
 ·rw[he] at hv;cases hv
end
end Go.Jk
namespace Go.Jk
def bF(c:UInt8):B->List B
 |[]=>[[]]
 |b::r=>bif b==c then []::bF c r else match bF c r with
  |x::xs=>(b::x)::xs
  |[]=>[[b]]
def H8(st:al)(cB:FuncId):a7->Option ((B×UInt8)×List (Nat×Site))
 |.av (.am (.clo g [(gv,s1),(gu,s2),(hZ,hF)]))=>bif Nat.beq g cB&&fM [gv,gu,hZ] then
   match fP st gv s1,fP st gu s2,fP st hZ hF with
   |some [.d (.str [c])],some [.d (.str s)],some [.d (.int .i64 (.ofNat 0))]=>some ((s,c),[(gv,.dead s1),(gu,.dead s2),(hZ,.dead hF)])
   |_,_,_=>none
  else none
 |_=>none
def Gf(st:al):List Nat->List (Nat×a7)
 |[]=>[]
 |t::r=>(t,st.get t)::Gf st r
def al.back(st:al)(ch:List Nat):al:=⟨Gf st ch,st.sites,st.nt⟩
def Out.back(ch:List Nat):Out->Out
 |.norm st=>.norm (st.back ch)
 |.exit id st=>.exit id (st.back ch)
 |.ret st=>.ret (st.back ch)
def iH{J bq:Type}(aS:B->J->Option (Sum J bq))(fin:J->Option bq):List B->J->Option bq
 |[],y=>fin y
 |x::xs,y=>match aS x y with
  |none=>none
  |some (.inl y')=>iH aS fin xs y'
  |some (.inr b)=>some b
noncomputable def Jr(C:hY)(assign body:Code)(p eX:Nat)(bb:Shape)(os:List aP)(x:B)(y:bb.J):Option (Sum bb.J (aC os)):=
 exec C assign (2*p) ((bb.st y).set eX (one (.str x))) fun
  |.norm st=>exec C body (2*p+1) st fun
   |.norm st=>(bb.ex (st.back (keys bb.cO))).map .inl
   |D=>(hC os (D.back (keys bb.cO))).map .inr
  |_=>none
def kK:Nat:=4611686018427387904
noncomputable def sI(cB:FuncId)(t:Nat)(bb:Shape)(os:List aP)(aS:B->bb.J->Option (Sum bb.J (aC os)))(fin:bb.J->Option (aC os)):h9:=fun st=>
 ⟨aC os,(H8 st cB (st.get t)).bind fun q=>(bb.ex (st.io q.2)).bind fun y=>bif Nat.ble q.1.1.length kK then iH aS fin (bF q.1.2 q.1.1) y else none,lT os,CX os,Su os⟩
def wv(P:Program)(cB:FuncId):Prop:=
 (∀args w,(callFunc cB args).run P w=.ok (.enter cB args) w)/\
 ∀(l b1 b2 b3:Nat) (p s:ByteArray) (c:UInt8) (dh eC fW:TypeId) (W:World) (e8:List B->World->Prop) (ka:World->Prop),p.data.toList=[c]->s.data.toList.length<=kK->b1≠b2->b1≠b3->b2≠b3->
  W.heap[b1]? =some (.cells #[.string p] dh)->W.heap[b2]? =some (.cells #[.string s] eC)->W.heap[b3]? =some (.cells #[.int .i64 0] fW)->
  (∀r W db,e8 r W->Fr [b2] W db->e8 r db)->(∀W db,ka W->Fr [b2] W db->ka db)->(∀r W,e8 r W->iQ W [b2] fun _=>False)->(∀W,ka W->iQ W [b2] fun _=>False)->
  (∀x rest W iN,e8 (x::rest) W->b1<W.heap.size->b2<W.heap.size->b3<W.heap.size->iN.data.toList=x->YieldAt (eM none) 0 P l #[.string iN] W fun e db=>
   (e=.returned (.bool true)/\e8 rest db/\W.heap.size<=db.heap.size/\db.heap[b1]? =W.heap[b1]? /\db.heap[b2]? =W.heap[b2]? /\db.heap[b3]? =W.heap[b3]?)\/(e=.returned (.bool false)/\ka db))->
  e8 (bF c s.data.toList) W->
  CallsIn (eM none) 0 P cB (#[.func (.yield l) #[] #[]]++#[.pointer (some ⟨b1,0,none⟩),.pointer (some ⟨b2,0,none⟩),.pointer (some ⟨b3,0,none⟩)]) W fun e db=>(∃v,e=.returned v)/\(e8 [] db\/ka db)
section
variable {P:Program}{U:World}{Y:List Nat}{X:Nat->Prop}{F:Nat->Value}{st:al}{M:Array Value}{w:World}
theorem alz(st:al)(ch:List Nat)(t:Nat):(st.back ch).get t=st.get t/\t∈ch\/(st.back ch).get t=.av (.am .any):=by
 unfold al.back al.get;induction ch with
 |nil=>exact .inr rfl
 |cons u ch ih=>
  simp only[Gf,look];cases hb:u.beq t with
  |true=>
   have:=Nat.eq_of_beq_eq_true hb;subst this;left;simp only[cond_true,al.get];exact⟨trivial,List.mem_cons_self⟩
  |false=>
   simp only[cond_false];rcases ih with⟨h1,h2⟩|h
   ·exact .inl ⟨h1,List.mem_cons_of_mem _ h2⟩
   ·exact .inr h
theorem ar.back(S:ar U Y X F st M w){b0:Array Value}{ch:List Nat}(aq:∀t,t∈ch->M.getD t undef=b0.getD t undef)(hs:b0.size=M.size):ar U Y X F (st.back ch) b0 w:=by
 refine⟨hs.trans S.nt,fun t=>?_,S.sites,S.eg,S.ct,S.frame,S.old,S.fa⟩
 rcases alz st ch t with⟨h,hm⟩|h
 ·rw[h,<-aq t hm];exact S.cO t
 ·rw[h];trivial
theorem ar.other(S:ar U Y X F st M w){w':World}{L:List Nat}(aS:Fr L w w')(dK:∀b,b∈L->X b/\(b∈Y\/U.heap.size<=b)):ar U Y X F st M w':=by
 have D6:∀b,¬aI X F st.sites b->b∉L:=fun b hb h=>hb (.inl (dK b h).1)
 have G:ir F F st.sites st.sites w w' (aI X F st.sites) (aI X F st.sites):=
  ⟨fun o af h=>⟨af,h,Nat.le_refl _,fun _=>rfl⟩,fun b hb hlt=>aS.block b hlt (D6 b hb),fun _ h _=>h⟩
 have hlt:∀b,aI X F st.sites b->b<w'.heap.size:=fun b hb=>Nat.lt_of_lt_of_le (S.lt hb) aS.size
 refine⟨S.nt,fun t=>(S.cO t).goes G aS.size hlt,fun o af h=>?_,S.eg,S.ct,?_,fun b hb=>Nat.lt_of_lt_of_le (S.old b hb) aS.size,S.fa⟩
 ·exact(S.sites o af h).goes G aS.size hlt rfl fun hl b hb=>aS.block b (S.fL ⟨af,h,hl⟩ hb) fun hm=>(S.ct o b ⟨af,h,hl⟩ hb).1 (dK b hm).1
 ·refine⟨aS.os.trans S.frame.os,aS.tape.trans S.frame.tape,aS.output.trans S.frame.output,Nat.le_trans S.frame.size aS.size,fun b hb hn=>?_⟩
  have h1:b∉L:=fun h=>by
   rcases(dK b h).2 with h2|h2
   ·exact hn h2
   ·omega
  rw[aS.block b (Nat.lt_of_lt_of_le hb S.frame.size) h1];exact S.frame.block b hb hn
theorem Fr.putObj(w:World)(l:Nat)(D:Obj):Fr [l] w (w.putObj l D):=
 ⟨rfl,rfl,rfl,by simp,fun b _ hn=>World.putObj_heap_other fun e=>hn (by simp[e])⟩
theorem Fr.mono{Y mO:List Nat}{U w:World}(aS:Fr Y U w)(h:∀b,b∈Y->b∈mO):Fr mO U w:=⟨aS.os,aS.tape,aS.output,aS.size,fun b hb hn=>aS.block b hb fun aj=>hn (h b aj)⟩
theorem ar.BZ(S:ar U Y X F st M w){mO:List Nat}(h:∀o b,cq st.sites o->bQ (F o)=some b->b∈mO)(hg:∀b,b∈mO->b∈Y\/U.heap.size<=b):ar w mO X F st M w:=
 ⟨S.nt,S.cO,S.sites,S.eg,fun o b h1 h2=>⟨(S.ct o b h1 h2).1,.inl (h o b h1 h2)⟩,Fr.refl _ _,S.old,⟨S.ld.1,fun b hb hm=>(hg b hm).elim (S.fa.Y b hb) fun h=>by have:=S.fa.lt b hb;omega,S.fa.X,fun b hb=>(S.ld.2 b hb).2⟩⟩
theorem ar.base(S:ar U Y X F st M w){mO:List Nat}(h:∀b,b∈mO->b∈Y\/U.heap.size<=b):iu U Y X w mO X:=by
 refine⟨fun w' aS=>?_,fun b hb=>?_,fun b hb=>hb⟩
 ·refine⟨aS.os.trans S.frame.os,aS.tape.trans S.frame.tape,aS.output.trans S.frame.output,Nat.le_trans S.frame.size aS.size,fun b hb hn=>?_⟩
  have h1:b∉mO:=fun aj=>by
   rcases h b aj with h2|h2
   ·exact hn h2
   ·omega
  rw[aS.block b (Nat.lt_of_lt_of_le hb S.frame.size) h1];exact S.frame.block b hb hn
 ·rcases hb with hb|hb
  ·exact h b hb
  ·exact .inr (Nat.le_trans S.frame.size hb)
theorem ar.BE{aZ:World}{dO:List Nat}{c_:Nat->Prop}(bq:iu U Y X aZ dO c_)(G:iQ U Y X)(S:ar aZ dO c_ F st M w):ar U Y c_ F st M w:=
 ⟨S.nt,S.cO,S.sites,S.eg,fun o b h1 h2=>⟨(S.ct o b h1 h2).1,bq.ct b (S.ct o b h1 h2).2⟩,bq.cM _ S.frame,S.old,⟨G.ok,G.Y,S.fa.X,G.lt⟩⟩
def GN(sites:List (Nat×Site)):List Nat:=(keys sites).filter fun o=>match look sites o with|some s=>s.live|none=>false
theorem OI{sites:List (Nat×Site)}{o:Nat}:o∈GN sites <-> cq sites o:=by
 unfold GN cq;rw[List.mem_filter];constructor
 ·rintro⟨_,h⟩;split at h
  ·rename_i s hs;exact⟨s,hs,h⟩
  ·cases h
 ·rintro⟨s,hs,hl⟩;refine⟨?_,by simp only[hs];exact hl⟩
  have:=Tx hs;clear hl hs;induction sites with
  |nil=>cases this
  |cons p sites ih=>
   rcases List.mem_cons.1 this with h|h
   ·simp only[keys];rw[<-h];exact List.mem_cons_self
   ·simp only[keys];exact List.mem_cons_of_mem _ (ih h)
def iT(F:Nat->Value)(sites:List (Nat×Site)):List Nat:=dj F (GN sites)
theorem n4{sites:List (Nat×Site)}{b:Nat}:b∈iT F sites <-> ∃o,cq sites o/\bQ (F o)=some b:=by
 unfold iT;rw[nW];constructor
 ·rintro⟨o,h1,h2⟩;exact⟨o,OI.1 h1,h2⟩
 ·rintro⟨o,h1,h2⟩;exact⟨o,OI.2 h1,h2⟩
def mg(ed:al->Prop):Out->Exit->Prop
 |.norm st,.normal=>ed st
 |.exit id st,.exit jc=>id=jc/\ed st
 |.ret st,.ret=>ed st
 |_,_=>False
theorem mg.some{ed:al->Prop}{D:Out}{e:Exit}(h:mg ed D e):∃st,ed st:=by
 cases D<;>cases e<;>first|exact⟨_,h⟩|exact⟨_,h.2⟩|exact h.elim
theorem T3{ed:al->Prop}(Mj:∀(bb:Shape) st y,bb.ex st=some y->ed st->ed (bb.st y)):∀{os:List aP} {x:Out} {y:aC os} {e:Exit},hC os x=some y->mg ed x e->mg ed (lT os y) e:=by
 have one:∀{k:Kind} {x:Out} {st:al} {bb:Shape} {y:bb.J} {e:Exit},k.hK x=some st->bb.ex st=some y->mg ed x e->mg ed (k.mk (bb.st y)) e:=by
  intro k x st bb y e h hy hl;cases k<;>cases x<;>simp only[Kind.hK] at h<;>try(cases h;done)
  ·cases h;cases e<;>try exact hl.elim
   exact Mj bb _ y hy hl
  ·rename_i id jc ao;cases hb:Nat.beq id jc with
   |false=>simp[hb] at h
   |true=>
    simp only[hb,cond_true,Option.some.injEq] at h;subst h;cases e<;>try exact hl.elim
    exact⟨(Nat.eq_of_beq_eq_true hb).trans hl.1,Mj bb _ y hy hl.2⟩
  ·cases h;cases e<;>try exact hl.elim
   exact Mj bb _ y hy hl
 intro os;induction os with
 |nil=>intro x y;exact y.elim
 |cons D os ih=>
  intro x y e h hl;cases os with
  |nil=>
   simp only[hC] at h;split at h
   ·rename_i st hk;exact one hk h hl
   ·cases h
  |cons c7 r=>
   simp only[hC] at h;split at h
   ·rename_i st hk;obtain⟨cH,aE,aF⟩:=Option.map_eq_some_iff.1 h;subst aF;exact one hk aE hl
   ·obtain⟨cH,aE,aF⟩:=Option.map_eq_some_iff.1 h;subst aF;exact ih aE hl
theorem afK{cB:FuncId}{v:a7}{q:(B×UInt8)×List (Nat×Site)}(h:H8 st cB v=some q):∃gv s1 gu s2 hZ hF c s,v=.av (.am (.clo cB [(gv,s1),(gu,s2),(hZ,hF)]))/\(gv≠gu/\gv≠hZ/\gu≠hZ)/\
  fP st gv s1=some [.d (.str [c])]/\fP st gu s2=some [.d (.str s)]/\fP st hZ hF=some [.d (.int .i64 0)]/\q=((s,c),[(gv,.dead s1),(gu,.dead s2),(hZ,.dead hF)]):=by
 unfold H8 at h;split at h
 ·rename_i g gv s1 gu s2 hZ hF;cases hb:Nat.beq g cB&&fM [gv,gu,hZ] with
  |false=>simp[hb] at h
  |true=>
   simp only[hb,cond_true] at h;simp only[Bool.and_eq_true] at hb;have hg:=Nat.eq_of_beq_eq_true hb.1;subst hg;have hn:=(sv _).1 hb.2;simp only[List.nodup_cons,List.mem_cons,List.not_mem_nil,or_false,not_or,not_false_eq_true,List.nodup_nil,and_true] at hn;split at h
   ·rename_i c s h1 h2 h3;cases h;exact⟨gv,s1,gu,s2,hZ,hF,c,s,rfl,⟨hn.1.1,hn.1.2,hn.2⟩,h1,h2,h3,rfl⟩
   ·cases h
 ·cases h
theorem Fl{J bq:Type}{aS:B->J->Option (Sum J bq)}{fin:J->Option bq}{x:B}{xs:List B}{y:J}{b:bq}(h:iH aS fin (x::xs) y=some b):(∃y',aS x y=some (.inl y')/\iH aS fin xs y'=some b)\/aS x y=some (.inr b):=by
 simp only[iH] at h;split at h
 ·cases h
 ·rename_i y' hy;exact .inl ⟨y',hy,h⟩
 ·rename_i bH hy;cases h;exact .inr hy
end
theorem Kl{bb:Shape}{st:al}{y:bb.J}(h:bb.ex st=some y):st.nt=bb.nt:=by
 unfold Shape.ex at h;simp only at h;cases hb:(st.io (qH st bb.cO++qI st bb.sites)).nt.beq bb.nt with
 |false=>rw[hb] at h;cases h
 |true=>rw[<-SC (qH st bb.cO++qI st bb.sites) st];exact Nat.eq_of_beq_eq_true hb
def tK(n:Nat):List aP->Bool
 |[]=>true
 |D::r=>Nat.beq D.2.nt n&&tK n r
def Out.st:Out->al
 |.norm st|.exit _ st|.ret st=>st
theorem TK{k:Kind}{x:Out}{st:al}(h:k.hK x=some st):x.st=st:=by
 cases k<;>cases x<;>simp only[Kind.hK] at h<;>try(cases h;done)
 ·cases h;rfl
 ·rename_i id jc ao;cases hb:Nat.beq id jc with
  |false=>simp[hb] at h
  |true=>simp only[hb,cond_true,Option.some.injEq] at h;exact h
 ·cases h;rfl
theorem api{n:Nat}:∀{os:List aP} {x:Out} {y:aC os},hC os x=some y->tK n os=true->x.st.nt=n:=by
 intro os;induction os with
 |nil=>intro x y;exact y.elim
 |cons D os ih=>
  intro x y h hn;simp only[tK,Bool.and_eq_true] at hn;have hno:=Nat.eq_of_beq_eq_true hn.1;cases os with
  |nil=>
   simp only[hC] at h;split at h
   ·rename_i st hk;rw[TK hk,Kl h,hno]
   ·cases h
  |cons c7 r=>
   simp only[hC] at h;split at h
   ·rename_i st hk;obtain⟨cH,aE,_⟩:=Option.map_eq_some_iff.1 h;rw[TK hk,Kl aE,hno]
   ·obtain⟨cH,aE,_⟩:=Option.map_eq_some_iff.1 h;exact ih aE hn.2
section
variable {P:Program}{C:hY}
theorem agN(H:aR P C.toCtx){cB:FuncId}(uX:wv P cB){t eX p:Nat}{assign body:Code}{bb:Shape}{os:List aP}(ayg:gr P C assign (2*p))(ayf:gr P C body (2*p+1))
  {aS:B->bb.J->Option (Sum bb.J (aC os))} {fin:bb.J->Option (aC os)} (eB:∀x y,aS x y=Jr C assign body p eX bb os x y) (wZ:∀y,fin y=hC os (.norm (bb.st y)))
  (K9:e_ (keys bb.cO) (eX::(cx assign++cx body))=true) (K3:gU assign=true) (K2:gU body=true) (KZ:eX<bb.nt) (rG:tK bb.nt os=true):
  aT P (.rangeFunc (.tmp t) #[eX] assign body) (sI cB t bb os aS fin):=by
 intro rn hn U Y X st y hy F M w ds S;have axI:rn=none:=hn.elim id fun h=>by cases h
 subst axI;simp only[sI] at hy y ⊢;obtain⟨q,az,hy⟩:=Option.bind_eq_some_iff.1 hy;obtain⟨dE,Mk,pD⟩:=Option.bind_eq_some_iff.1 hy;obtain⟨gv,s1,gu,s2,hZ,hF,c,s,hv,⟨ja,Ma,i'⟩,hb1,hb2,hb3,rfl⟩:=afK az;obtain⟨hlen,pD⟩:s.length<=kK/\iH aS fin (bF c s) dE=some y:=by
  cases hb:Nat.ble s.length kK with
  |false=>rw[hb] at pD;cases pD
  |true=>rw[hb] at pD;exact⟨Nat.le_of_ble_eq_true hb,pD⟩
 have jq:=S.cO t;rw[hv] at jq;obtain⟨vs,iX,mE,rj⟩:=jq;match vs,mE with
 |[v1,v2,v3],_=>
 have r1:v1=F gv:=Ref.at (rj 0 (by simp) (by simp)) (gR hb1) rfl
 have r2:v2=F gu:=Ref.at (rj 1 (by simp) (by simp)) (gR hb2) rfl
 have dn:v3=F hZ:=Ref.at (rj 2 (by simp) (by simp)) (gR hb3) rfl
 have Km:∀{o k:Nat} {d:bh},fP st o k=some [.d d]->∃b T u,F o=.pointer (some ⟨b,0,none⟩)/\w.heap[b]? =some (.cells #[u] T)/\bK w (aI X F st.sites) d u:=by
  intro o k d h;obtain⟨b,T,cur,g1,g2,g3,g4,_,g5⟩:=S.sites o _ (gR h);match cur,g3 with
  |[u],_=>exact⟨b,T,u,g1,g2,g5 0 (by simp) (by simp)⟩
 obtain⟨b1,dh,u1,i1,h1,d1⟩:=Km hb1;obtain⟨b2,eC,u2,i2,h2,d2⟩:=Km hb2;obtain⟨b3,fW,uO,i3,h3,d3⟩:=Km hb3;obtain⟨hH,rfl,D5⟩:=gF d1;obtain⟨aN,rfl,fS⟩:=gF d2;have br:uO=.int .i64 0:=iE d3;subst br;have Md:cq st.sites gv:=⟨_,gR hb1,rfl⟩;have DT:cq st.sites gu:=⟨_,gR hb2,rfl⟩;have Mc:cq st.sites hZ:=⟨_,gR hb3,rfl⟩;have aE:bQ (F gv)=some b1:=by rw[i1];rfl
 have aF:bQ (F gu)=some b2:=by rw[i2];rfl
 have bJ:bQ (F hZ)=some b3:=by rw[i3];rfl
 have m12:b1≠b2:=fun e=>ja (S.eg gv gu b1 Md DT aE (e▸aF))
 have m13:b1≠b3:=fun e=>Ma (S.eg gv hZ b1 Md Mc aE (e▸bJ))
 have m23:b2≠b3:=fun e=>i' (S.eg gu hZ b2 DT Mc aF (e▸bJ))
 have xy:=S.fL Md aE;have abS:=S.fL DT aF;have xx:=S.fL Mc bJ;have aqJ:=(S.ct gu b2 DT aF).2;obtain⟨c_,aya,dA,Mg,abV,abU⟩:∃c_:Nat->Prop,(∀b,X b->c_ b)/\ar U Y c_ F (st.io [(gv,.dead s1),(gu,.dead s2),(hZ,.dead hF)]) M w/\c_ b1/\c_ b2/\c_ b3:=by
  have A:=S.kill (gR hb1) rfl;have fC:look (cw st.sites gv (.dead s1)) gu=some (.box s2 [.d (.str s)]):=by rw[c9,if_neg ja];exact gR hb2
  have bq:=A.kill (st:={st with sites:=cw st.sites gv (.dead s1)}) fC rfl
  have uP:look (cw (cw st.sites gv (.dead s1)) gu (.dead s2)) hZ=some (.box hF [.d (.int .i64 0)]):=by rw[c9,if_neg i',c9,if_neg Ma];exact gR hb3
  have bh:=bq.kill (st:={st with sites:=cw (cw st.sites gv (.dead s1)) gu (.dead s2)}) uP rfl
  exact⟨_,fun b hb=>.inl (.inl (.inl hb)),bh,.inl (.inl (.inr aE)),.inl (.inr aF),.inr bJ⟩
 obtain⟨iv,ie,_⟩:=Shape.gq dA Mk;have aCf:M.size=bb.nt:=ie.nt;refine gm.of (n:=0) (wpIn_rangeFunc ?_);intro fn _;obtain⟨rec,oy⟩:∃rec:LoopState->Option Code->Loop,rec=fun st aAG=>{state:=st,pending:=aAG,fn,tmps:=M,params:=#[eX],assign,body,defers:=w.heap.size}:=⟨_,rfl⟩
 obtain⟨W1,hW1⟩:∃W1,(w.alloc (.deferred (some []))).alloc (.loop (rec .ready none))=W1:=⟨_,rfl⟩;obtain⟨l,hl⟩:∃l,l=w.heap.size+1:=⟨_,rfl⟩;obtain⟨bh,e6⟩:∃bh,bh=w.heap.size:=⟨_,rfl⟩;have hsz:W1.heap.size=w.heap.size+2:=by rw[<-hW1];simp
 have ayj:W1.heap[l]? =some (.loop (rec .ready none)):=by
  rw[<-hW1,hl];have:=World.alloc_heap_new (w.alloc (.deferred (some []))) (.loop (rec .ready none));rwa[World.size_alloc] at this
 have acu:W1.heap[bh]? =some (.deferred (some [])):=by
  rw[<-hW1,e6];exact(RowKit.Below.heap_alloc _ _ _ (by simp only[World.size_alloc];omega)).trans (World.alloc_heap_new w _)
 have hold:∀b,b<w.heap.size->W1.heap[b]? =w.heap[b]? :=fun b hb=>by
  rw[<-hW1,RowKit.Below.heap_alloc _ _ _ (by simp only[World.size_alloc];omega),RowKit.Below.heap_alloc _ _ _ hb]
 have atv:Fr Y U W1:=⟨by rw[<-hW1];exact S.frame.os,by rw[<-hW1];exact S.frame.tape,by rw[<-hW1];exact S.frame.output,by have:=S.frame.size;omega,fun b hb hn=>by
  have:=S.frame.size;rw[hold b (by omega)];exact S.frame.block b hb hn⟩
 have pz:=S.frame.size;have jh:=ie.jump (w':=W1) (fun b _ hb=>hold b hb) (by omega) atv
 obtain⟨cC,mM⟩:∃cC:Nat->Prop,cC=fun b=>c_ b\/(w.heap.size<=b/\b<W1.heap.size):=⟨_,rfl⟩
 rw[<-mM] at jh;have NF:cC l:=by rw[mM];exact .inr ⟨by omega,by omega⟩
 have NG:cC bh:=by rw[mM];exact .inr ⟨by omega,by omega⟩
 have eh:cC b1:=by rw[mM];exact .inl Mg
 have fT:cC b2:=by rw[mM];exact .inl abV
 have jE:cC b3:=by rw[mM];exact .inl abU
 have MU:∀b,X b->cC b:=fun b hb=>by rw[mM];exact .inl (aya b hb)
 obtain⟨fs,w0⟩:∃fs,fs=l::b2::iT iv (bb.st dE).sites:=⟨_,rfl⟩;have UN:∀b,b∈iT iv (bb.st dE).sites->¬cC b/\(b∈Y\/U.heap.size<=b):=fun b hb=>by
  obtain⟨o,g1,g2⟩:=n4.1 hb;exact jh.ct o b g1 g2
 have aAK:l∈fs:=by rw[w0];exact List.mem_cons_self
 have acA:b2∈fs:=by rw[w0];exact List.mem_cons_of_mem _ List.mem_cons_self
 have aBl:bh∉fs:=by
  rw[w0];intro h;rcases List.mem_cons.1 h with h|h
  ·omega
  ·rcases List.mem_cons.1 h with h|h
   ·omega
   ·exact(UN bh h).1 NG
 have VI:∀b,b∈fs->b∈Y\/U.heap.size<=b:=fun b hb=>by
  rw[w0] at hb;rcases List.mem_cons.1 hb with h|h
  ·exact .inr (by omega)
  ·rcases List.mem_cons.1 h with h|h
   ·rw[h];exact aqJ
   ·exact(UN b h).2
 have l4:ar W1 fs cC iv (bb.st dE) M W1:=jh.BZ (fun o b g1 g2=>by rw[w0];exact List.mem_cons_of_mem _ (List.mem_cons_of_mem _ (n4.2 ⟨o,g1,g2⟩))) VI
 have aAo:iu U Y X W1 fs cC:=by
  have:=jh.base VI;exact⟨this.cM,this.ct,MU⟩
 obtain⟨e8,mS⟩:∃e8:List B->World->Prop,∀r W,e8 r W <-> ∃F z,ar W1 fs cC F (bb.st z) M W/\iH aS fin r z=some y/\W.heap[l]? =some (.loop (rec .ready none))/\W.heap[bh]? =some (.deferred (some [])):=⟨_,fun _ _=>Iff.rfl⟩
 obtain⟨ka,xT⟩:∃ka:World->Prop,∀W,ka W <-> ∃j e,((j=.ret/\e=.ret)\/∃id,j=.exit id/\e=.exit id)/\mg (fun st=>∃F,ar W1 fs cC F st M W) (lT os y) e/\
   W.heap[l]? =some (.loop (rec .done (some j)))/\W.heap[bh]? =some (.deferred (some [])):=⟨_,fun _=>Iff.rfl⟩
 have WO:∀{F:Nat->Value} {st:al} {W:World},ar W1 fs cC F st M W->iQ W [b2] fun _=>False:=fun S=>
  ⟨S.ld.1,fun b hb h=>S.fa.Y b hb (by rw[List.mem_singleton.1 h];exact acA),fun _ _ h=>h,fun b hb=>(S.ld.2 b hb).2⟩
 have aAJ:l<W1.heap.size:=by omega
 have aAL:bh<W1.heap.size:=by omega
 have Zd:l≠b2:=by omega
 have aaE:bh≠b2:=by omega
 have am4:∀{ed ads:al->Prop} {D:Out} {e:Exit},(∀st,ed st->ads st)->mg ed D e->mg ads D e:=fun h k=>by
  rename_i D e;cases D<;>cases e<;>first|exact h _ k|exact⟨k.1,h _ k.2⟩|exact k.elim
 have We:∀{F:Nat->Value} {st:al} {W db:World},ar W1 fs cC F st M W->Fr [b2] W db->ar W1 fs cC F st M db:=fun S aS=>S.other aS fun b hb=>by
  rw[List.mem_singleton.1 hb];exact⟨fT,.inl acA⟩
 have Ka:∀{F:Nat->Value} {st:al} {M:Array Value} {W:World} {X':Nat->Prop} (D:Obj),(∀b,cC b->X' b)->ar W1 fs X' F st M W->ar W1 fs X' F st M (W.putObj l D):=fun D hx S=>S.other (Fr.putObj _ l D) fun b hb=>by
  rw[List.mem_singleton.1 hb];exact⟨hx _ NF,.inl aAK⟩
 refine⟨l,[mark bh],W1,{target:=.fn (.func cB) #[.pointer (some ⟨b1,0,none⟩),.pointer (some ⟨b2,0,none⟩),.pointer (some ⟨b3,0,none⟩)],args:=#[.func (.yield l) #[] #[]]},W1,cB,
  #[.func (.yield l) #[] #[]]++#[.pointer (some ⟨b1,0,none⟩),.pointer (some ⟨b2,0,none⟩),.pointer (some ⟨b3,0,none⟩)],W1,?_,?_,fun _ _=>trivial,?_,fun h=>by simp[eM,Fence.wide] at h,?_⟩
 ·rw[<-hW1,oy,hl,e6];exact run_enterLoop_outer _ _ _ _ _
 ·have aqT:Act.eval ⟨M,ds⟩ (.tmp t)=.func (.func cB) #[] #[.pointer (some ⟨b1,0,none⟩),.pointer (some ⟨b2,0,none⟩),.pointer (some ⟨b3,0,none⟩)]:=by
   show M.getD t undef=_;rw[iX,r1,r2,dn,i1,i2,i3]
  simp only[rangeCall,resolve,aqT];simp[Deferred.ofValue,Act.eval]
 ·simp[invoke,uX.1]
 ·refine CallsIn.mono (uX.2 l b1 b2 b3 hH aN c dh eC fW W1 e8 ka D5 (by rw[fS];exact hlen) m12 m13 m23 ((hold b1 xy).trans h1) ((hold b2 abS).trans h2) ((hold b3 xx).trans h3) ?_ ?_ ?_ ?_ ?_ ?_) ?_
  ·-- anK two rounds uf aBo turns axi aBv box
   intro r W db hj aS;obtain⟨F,z,g1,g2,g3,g4⟩:=(mS _ _).1 hj;have rJ:=Nat.lt_of_lt_of_le aAJ g1.frame.size;have uD:=Nat.lt_of_lt_of_le aAL g1.frame.size;exact(mS _ _).2 ⟨F,z,We g1 aS,g2,(aS.block l rJ (by simpa using Zd)).trans g3,(aS.block bh uD (by simpa using aaE)).trans g4⟩
  ·intro W db hj aS;obtain⟨j,e,g1,g2,g3,g4⟩:=(xT _).1 hj;have rJ:l<W.heap.size:=(Array.getElem?_eq_some_iff.1 g3).1;have uD:bh<W.heap.size:=(Array.getElem?_eq_some_iff.1 g4).1;exact(xT _).2 ⟨j,e,g1,am4 (fun st ⟨F,h⟩=>⟨F,We h aS⟩) g2,(aS.block l rJ (by simpa using Zd)).trans g3,(aS.block bh uD (by simpa using aaE)).trans g4⟩
  ·intro r W hj;obtain⟨F,z,g1,_⟩:=(mS _ _).1 hj;exact WO g1
  ·intro W hj;obtain⟨j,e,_,g2,_⟩:=(xT _).1 hj;obtain⟨st,F,g1⟩:=g2.some;exact WO g1
  ·-- aCv aBG
   intro x rest W iN hj q1 q2 dF xC;obtain⟨F,z,j',hz,rJ,uD⟩:=(mS _ _).1 hj;have hlt:l<W.heap.size:=(Array.getElem?_eq_some_iff.1 rJ).1;have atl:bh<W.heap.size:=(Array.getElem?_eq_some_iff.1 uD).1;refine⟨fn,M.setIfInBounds eX (.string iN),assign,body,?_,?_⟩
   ·have:=run_yield (P:=P) (args:=#[.string iN]) rJ (by rw[oy];rfl)
    rw[oy] at this;simpa using this
   refine roundIn_of_wpIn (n:=0) trivial ?_
   show gm (some l) P assign _ _ _;obtain⟨s,hs⟩:∃s,aS x z=some s:=by
    rcases Fl hz with⟨e0,h,_⟩|h
    ·exact⟨_,h⟩
    ·exact⟨_,h⟩
   have D2:=hs;rw[eB] at hs;have uV:ar W1 fs cC F ((bb.st z).set eX (one (.str x))) (M.setIfInBounds eX (.string iN)) W:=j'.put (t:=eX) KZ (bK.str _ _ xC);have as2:∀o b,cq ((bb.st z).set eX (one (.str x))).sites o->bQ (F o)=some b->b∈iT F (bb.st z).sites:=fun o b g1 g2=>n4.2 ⟨o,g1,g2⟩
   have yo:=uV.BZ as2 fun b hb=>by
    obtain⟨o,g1,g2⟩:=n4.1 hb;exact(j'.ct o b g1 g2).2
   have Xn:∀b,b∈iT F (bb.st z).sites->¬cC b/\(b∈fs\/W1.heap.size<=b):=fun b hb=>by
    obtain⟨o,g1,g2⟩:=n4.1 hb;exact j'.ct o b g1 g2
   have Ok:iu W1 fs cC W (iT F (bb.st z).sites) cC:=uV.base fun b hb=>(Xn b hb).2
   refine jN (rn:=some l) H assign (2*p) (.inr K3) ayg W _ cC _ F _ W [] _ _ hs yo ?_
   intro o1 e1 a1 aZ rK hA;cases o1 with
   |exit id eK=>cases rK
   |ret eK=>cases rK
   |norm eK=>
   cases e1<;>try exact hA.elim
   obtain⟨Ev,NV,lh,kW,ad1,qn,_,_,acF,aqP⟩:=hA;have uY:Fr (iT F (bb.st z).sites) W aZ:=qn.cM _ acF.frame;have adF:∀b,cC b->b∉iT F (bb.st z).sites:=fun b hb h=>(Xn b h).1 hb
   have hA:aZ.heap[l]? =some (.loop (rec .ready none)):=(uY.block l hlt (adF l NF)).trans rJ;refine⟨aZ.putObj l (.loop {rec .ready none with state:=.busy}),run_beginRound hA (by rw[oy]),?_⟩
   obtain⟨w2,xD⟩:∃w2,w2=aZ.putObj l (.loop {rec .ready none with state:=.busy}):=⟨_,rfl⟩
   rw[<-xD];have ay8:ar W1 fs lh kW eK a1.tmps aZ:=ar.BE (Ok.trans qn) l4.fa acF;have o4:ar W1 fs lh kW eK a1.tmps w2:=by rw[xD];exact Ka _ qn.x ay8
   have KF:∀b,b∈iT kW eK.sites->¬lh b/\(b∈fs\/W1.heap.size<=b):=fun b hb=>by
    obtain⟨o,g1,g2⟩:=n4.1 hb;exact o4.ct o b g1 g2
   have EF:=o4.BZ (mO:=iT kW eK.sites) (fun o b g1 g2=>n4.2 ⟨o,g1,g2⟩) fun b hb=>(KF b hb).2
   have ci:iu W1 fs lh w2 (iT kW eK.sites) lh:=o4.base fun b hb=>(KF b hb).2
   have oK:w2.heap[l]? =some (.loop {rec .ready none with state:=.busy}):=by rw[xD];exact World.putObj_heap_same (Nat.lt_of_lt_of_le hlt uY.size)
   have awS:w2.heap.size=aZ.heap.size:=by rw[xD];simp
   show gm (some l) P body _ a1 _;have MT:a1=⟨a1.tmps,a1.defers⟩:=rfl;rw[MT];refine jN (rn:=some l) H body (2*p+1) (.inr K2) ayf w2 _ lh eK kW a1.tmps w2 a1.defers _ _ rK EF ?_
   intro D e a cd hk gh;have abQ:∀b,lh b->b∉iT kW eK.sites:=fun b hb h=>(KF b h).1 hb
   have Zf:∀{uN eZ yn},iu w2 (iT kW eK.sites) lh uN eZ yn->Fr eZ uN cd->∀b,cC b->b<W.heap.size->b≠l->cd.heap[b]? =W.heap[b]? :=fun bq aS b hb pM hne=>by
    have yr:=bq.cM _ aS;have hb1:b<aZ.heap.size:=Nat.lt_of_lt_of_le pM uY.size;rw[yr.block b (by omega) (abQ b (qn.x b hb)),xD,World.putObj_heap_other hne,uY.block b pM (adF b hb)]
   have fin:∀(gw:al),gw.nt=bb.nt->eD w2 (iT kW eK.sites) lh a1.defers a1.tmps (cx body) gw a cd->∀(jump:Option Code),
     (Instr.endRound l jump).run P cd=.ok (.bool jump.isNone) (cd.putObj l (.loop (rec (if jump.isNone then .ready else .done) jump)))/\
     (∃h4,ar W1 fs cC h4 (gw.back (keys bb.cO)) M (cd.putObj l (.loop (rec (if jump.isNone then .ready else .done) jump))))/\
     (cd.putObj l (.loop (rec (if jump.isNone then .ready else .done) jump))).heap[l]? =some (.loop (rec (if jump.isNone then .ready else .done) jump))/\
     (cd.putObj l (.loop (rec (if jump.isNone then .ready else .done) jump))).heap[bh]? =some (.deferred (some []))/\
     W.heap.size<=(cd.putObj l (.loop (rec (if jump.isNone then .ready else .done) jump))).heap.size/\
     (∀b,cC b->b<W.heap.size->b≠l->(cd.putObj l (.loop (rec (if jump.isNone then .ready else .done) jump))).heap[b]? =W.heap[b]?):=by
    rintro gw aBX ⟨uN,eZ,yn,h4,ad0,x4,_,_,jC,aqO⟩ jump;have yr:=x4.cM _ jC.frame;have hlt2:l<w2.heap.size:=by rw[awS];exact Nat.lt_of_lt_of_le hlt uY.size
    have D7:cd.heap[l]? =some (.loop {rec .ready none with state:=.busy}):=(yr.block l hlt2 (abQ l (qn.x l NF))).trans oK
    have atm:=Nat.lt_of_lt_of_le hlt2 yr.size;have Zw:=run_endRound (P:=P) jump D7;have atF:({({rec .ready none with state:=.busy}:Loop) with state:=if jump.isNone then .ready else .done,pending:=jump}:Loop)=rec (if jump.isNone then .ready else .done) jump:=by rw[oy]
    rw[atF] at Zw;have ay7:ar W1 fs yn h4 gw a.tmps cd:=ar.BE ((ci.trans x4)) o4.fa jC;have ay6:ar W1 fs cC h4 gw a.tmps cd:=ay7.shrink fun b hb=>x4.x b (qn.x b hb)
    have ay5:=Ka (.loop (rec (if jump.isNone then .ready else .done) jump)) (fun _ h=>h) ay6
    have jx:∀bo,bo∈keys bb.cO->bo≠eX/\bo∉cx assign/\bo∉cx body:=fun bo nJ=>by
     have hm:bo∉(eX::(cx assign++cx body)):=fun h=>by
      have:=sE nJ h;rw[K9] at this;cases this
     simp only[List.mem_cons,List.mem_append,not_or] at hm;exact⟨hm.1,hm.2.1,hm.2.2⟩
    refine⟨Zw,⟨h4,ay5.back (fun bo nJ=>?_) ?_⟩,World.putObj_heap_same atm,?_,?_,fun b hb pM hne=>?_⟩
    ·obtain⟨g1,g2,g3⟩:=jx bo nJ;rw[aqO bo g3,aqP bo g2];simp only[Array.getD_eq_getD_getElem?,Array.getElem?_setIfInBounds_ne (show eX≠bo from fun e=>g1 e.symm)]
    ·have e1:a.tmps.size=gw.nt:=jC.nt;omega
    ·rw[World.putObj_heap_other (by omega)]
     exact(Zf x4 jC.frame bh NG atl (by omega)).trans uD
    ·simp only[World.putObj_size];have:=uY.size;have:=yr.size;omega
    ·rw[World.putObj_heap_other hne];exact Zf x4 jC.frame b hb pM hne
   have CM:∀(gw:al) (jE:Out) (j:Code) (br:Exit),((j=.ret/\br=.ret)\/∃id,j=.exit id/\br=.exit id)->jE.st=gw->(∀ed:al->Prop,ed (gw.back (keys bb.cO))->mg ed (jE.back (keys bb.cO)) br)->
     (hC os (jE.back (keys bb.cO))).map Sum.inr=some s->eD w2 (iT kW eK.sites) lh a1.defers a1.tmps (cx body) gw a cd->
     ∃v w',(Instr.endRound l (some j)).run P cd=.ok v w'/\((Ending.returned v=.returned (.bool true)/\e8 rest w'/\W.heap.size<=w'.heap.size/\w'.heap[b1]? =W.heap[b1]? /\w'.heap[b2]? =W.heap[b2]? /\w'.heap[b3]? =W.heap[b3]?)\/(Ending.returned v=.returned (.bool false)/\ka w')):=by
    intro gw jE j br MI axt K0 hex mL;obtain⟨b,hb,ez⟩:=Option.map_eq_some_iff.1 hex;have axP:gw.nt=bb.nt:=by
     have:=api hb rG;have e:(jE.back (keys bb.cO)).st.nt=jE.st.nt:=by cases jE<;>rfl
     rw[e,axt] at this;exact this
    obtain⟨f1,⟨h4,f2⟩,f3,f4,f5,f6⟩:=fin gw axP mL (some j);refine⟨_,_,f1,.inr ⟨rfl,(xT _).2 ⟨j,br,MI,?_,f3,f4⟩⟩⟩;have j9:b=y:=by
     rcases Fl hz with⟨e0,h,_⟩|h
     ·rw[D2] at h;cases h;cases ez
     ·rw[D2] at h;cases h;cases ez;rfl
    subst j9;refine T3 (fun awV ao y' K8 ⟨aY,cm⟩=>?_) hb (K0 _ ⟨h4,f2⟩)
    obtain⟨Kt,Nt,_⟩:=Shape.gq cm K8;exact⟨Kt,Nt⟩
   cases D with
   |norm gw=>
    cases e<;>try exact gh.elim
    obtain⟨e0,nF,hzs⟩:=Option.map_eq_some_iff.1 hk;obtain⟨f1,⟨h4,f2⟩,f3,f4,f5,f6⟩:=fin gw (show(gw.back (keys bb.cO)).nt=bb.nt from Kl nF) gh none
    obtain⟨av5,f7,_⟩:=Shape.gq f2 nF;refine⟨_,_,f1,.inl ⟨rfl,(mS _ _).2 ⟨av5,e0,f7,?_,f3,f4⟩,f5,f6 b1 eh q1 (by omega),f6 b2 fT q2 (by omega),f6 b3 jE dF (by omega)⟩⟩
    rcases Fl hz with⟨z2,h,h2⟩|h
    ·rw[D2] at h;cases h;cases hzs;exact h2
    ·rw[D2] at h;cases h;cases hzs
   |exit id gw=>
    cases e<;>try exact gh.elim
    obtain⟨rfl,gh⟩:=gh;exact CM gw (.exit id gw) (.exit id) (.exit id) (.inr ⟨id,rfl,rfl⟩) rfl (fun ed h=>⟨rfl,h⟩) hk gh
   |ret gw=>
    cases e<;>try exact gh.elim
    exact CM gw (.ret gw) .ret .ret (.inl ⟨rfl,rfl⟩) rfl (fun ed h=>h) hk gh
  ·exact(mS _ _).2 ⟨iv,dE,l4,by rw[fS];exact pD,ayj,acu⟩
  ·-- aBz aCt aBp
   have land:∀{jH:World} {e:Exit} (c7:Obj),mg (fun st=>∃F,ar W1 fs cC F st M jH) (lT os y) e->jH.heap[l]? ≠none->jH.heap[bh]? =some (.deferred (some []))->
     fj U Y X ds M (cx (.rangeFunc (.tmp t) #[eX] assign body)) (lT os y) e ⟨M,[mark bh]++ds⟩ (jH.putObj l c7):=by
    intro jH e c7 h _ aCn;have mk:∀st,(∃F,ar W1 fs cC F st M jH)->eD U Y X ds M (cx (.rangeFunc (.tmp t) #[eX] assign body)) st ⟨M,[mark bh]++ds⟩ (jH.putObj l c7):=by
     rintro st ⟨F,S⟩;refine⟨W1,fs,cC,F,[bh],aAo,⟨by simp,fun Oh h=>by rw[List.mem_singleton.1 h];omega,fun Oh h=>by rw[List.mem_singleton.1 h];exact⟨acu,aBl,NG⟩⟩,⟨rfl,fun h=>absurd List.mem_cons_self h⟩,Ka _ (fun _ h=>h) S,fun _ _=>rfl⟩
    cases hm:lT os y<;>rw[hm] at h<;>cases e<;>first|exact mk _ h|exact⟨h.1,mk _ h.2⟩|exact h.elim
   rintro e jH ⟨⟨v,rfl⟩,hj|hj⟩
   ·obtain⟨F,z,g1,g2,g3,g4⟩:=(mS _ _).1 hj;refine⟨none,jH.putObj l (.loop {rec .ready none with state:=.exhausted}),?_,?_⟩
    ·have:=run_endLoop (P:=P) g3 (by rw[oy];simp)
     rw[oy] at this ⊢;exact this
    ·simp only[iH,wZ] at g2;refine land _ ?_ (by rw[g3];simp) g4
     refine T3 (fun awV ao y' K8 ⟨aY,cm⟩=>?_) g2 ⟨F,g1⟩
     obtain⟨Kt,Nt,_⟩:=Shape.gq cm K8;exact⟨Kt,Nt⟩
   ·obtain⟨j,e,MI,g1,g3,g4⟩:=(xT _).1 hj;refine⟨some j,jH.putObj l (.loop {rec .done (some j) with state:=.exhausted}),?_,?_⟩
    ·have:=run_endLoop (P:=P) g3 (by rw[oy];simp)
     rw[oy] at this ⊢;exact this
    ·have:=land (.loop {rec .done (some j) with state:=.exhausted}) g1 (by rw[g3];simp) g4
     rcases MI with⟨rfl,rfl⟩|⟨id,rfl,rfl⟩
     ·exact wpIn_ret this
     ·exact wpIn_exit this
end
def opsOf:Code->Array Oper
 |.region _ D _=>D
 |_=>#[]
section
variable {P:Program}
theorem Rd{D:Oper}{M:Array Value}{ds:List Deferred}{W:World}{a b:Nat}{ty:Array TypeId}{l:Nat}{iN:ByteArray}{K:Act->World->Prop}{Q:Exit->Act->World->Prop}{R:Ending->World->Prop}
  (aM:D.op=.call {callee:=.value (.tmp a),args:=#[.tmp b],argTypes:=ty}) (ha:M.getD a undef=.func (.yield l) #[] #[]) (hb:M.getD b undef=.string iN)
  (aAN:YieldAt (eM none) 0 P l #[.string iN] W R) (hR:∀e db,R e db->∃v,e=.returned v/\K ⟨cD M D.dst v,ds⟩ db):D.wpIn (eM none) 0 P ⟨M,ds⟩ W K Q:=by
 obtain⟨fn,tmps,assign,body,hy,aye⟩:=aAN;refine⟨fun f _=>C2 none f,?_⟩
 have dy:(D.semAt none (Act.eval ⟨M,ds⟩)).run P W=.ok (.round l fn tmps assign body) W:=by
  rw[Oper.semAt_none];have yg:Act.eval ⟨M,ds⟩ (.tmp a)=.func (.yield l) #[] #[]:=ha;have yf:Act.eval ⟨M,ds⟩ (.tmp b)=.string iN:=hb;unfold execOp;simp only[aM,resolve,yg,Deferred.ofValue,Sem.run_bind,Sem.run_pure,Result.andThen_ok,invoke,List.map_toArray,List.map_cons,List.map_nil,yf];simpa using hy
 show D.uponIn (eM none) 0 P _ K Q ((D.semAt none (Act.eval ⟨M,ds⟩)).run P W);rw[dy];refine⟨fun h=>by simp[eM,Fence.wide] at h,RoundIn.mono aye fun e db he=>?_⟩
 obtain⟨v,rfl,hk⟩:=hR e db he;rw[<-vt] at hk;exact hk
def fm(k:Nat)(more:List (Nat×fe)):Shape:=⟨[(1,.am (.eE [.str] 0)),(2,.am (.ptr 1001 0)),(3,.am (.eE [.int .i64] 0))]++more,[(1001,.box [.d .str],.same)],k⟩
structure jv(b1 b2 b3:Nat)(p:ByteArray)(dh fW:TypeId)(l k:Nat)(r:B)(M:Array Value)(W:World):Prop where
 size:M.size=k
 dE:M.getD 0 undef=.func (.yield l) #[] #[]
 cH:M.getD 1 undef=.pointer (some ⟨b1,0,none⟩)
 dm:M.getD 2 undef=.pointer (some ⟨b2,0,none⟩)
 dJ:M.getD 3 undef=.pointer (some ⟨b3,0,none⟩)
 h1:W.heap[b1]? =some (.cells #[.string p] dh)
 h2:∃s eC,W.heap[b2]? =some (.cells #[.string s] eC)/\s.data.toList=r
 h3:W.heap[b3]? =some (.cells #[.int .i64 0] fW)
 ld:iQ W [b2] fun _=>False
theorem jv.jw{b1 b2 b3:Nat}{p:ByteArray}{dh fW:TypeId}{l k:Nat}{r:B}{M:Array Value}{W:World}(I:jv b1 b2 b3 p dh fW l k r M W)(ja:b1≠b2)(i':b2≠b3){c:UInt8}(hp:p.data.toList=[c]):
  ar W [b2] (fun _=>False) (fun _=>.pointer (some ⟨b2,0,none⟩)) ((fm k []).st ((([c],()),((),(((0,()),())))),(((r,()),())))) M W:=by
 obtain⟨s,eC,h2,hs⟩:=I.h2;have xy:b1<W.heap.size:=(Array.getElem?_eq_some_iff.1 I.h1).1;have abS:b2<W.heap.size:=(Array.getElem?_eq_some_iff.1 h2).1;have xx:b3<W.heap.size:=(Array.getElem?_eq_some_iff.1 I.h3).1;have wc:((fm k []).st ((([c],()),((),(((0,()),())))),(((r,()),())))).sites=[(1001,.box 0 [.d (.str r)])]:=rfl;have cQ:∀o,cq [(1001,Site.box 0 [.d (.str r)])] o->o=1001:=fun o ⟨s,h,_⟩=>by
  simp only[look] at h;cases hb:Nat.beq 1001 o with
  |true=>exact(Nat.eq_of_beq_eq_true hb).symm
  |false=>simp[hb] at h
 have cc:∀b,aI (fun _=>False) (fun _=>Value.pointer (some ⟨b2,0,none⟩)) [(1001,Site.box 0 [.d (.str r)])] b->b=b2:=by
  rintro b (h|⟨o,_,h⟩)
  ·exact h.elim
  ·simp only[bQ,Option.some.injEq] at h;exact h.symm
 refine⟨I.size,fun t=>?_,fun o af h=>?_,fun o ab b h1 h2 _ _=>?_,fun o b h1 h2=>?_,Fr.refl _ _,fun b h=>h.elim,I.ld⟩
 ·rw[wc];show ck _ _ _ _ (match look [(1,b6 (.eE [.str [c]] 0)),(2,b6 (.ptr 1001 0 0)),(3,b6 (.eE [.int .i64 0] 0))] t with|some v=>v|none=>.av (.am .any)) _
  simp only[look];by_cases e1:t=1
  ·subst e1;refine⟨b1,0,I.cH,fun h=>ja (cc _ h),xy,[.string p],rfl,fun j u hu=>?_,fun j h aj=>?_⟩
   ·match j,hu with
    |0,hu=>cases hu;simp[World.cell?,I.h1]
   ·match j,h,aj with
    |0,_,_=>exact .str _ _ hp
  ·by_cases e2:t=2
   ·subst e2;exact⟨b2,I.dm,_,rfl,Nat.le_refl _,fun _=>rfl⟩
   ·by_cases br:t=3
    ·subst br;refine⟨b3,0,I.dJ,fun h=>i' (cc _ h).symm,xx,[.int .i64 0],rfl,fun j u hu=>?_,fun j h aj=>?_⟩
     ·match j,hu with
      |0,hu=>cases hu;simp[World.cell?,I.h3]
     ·match j,h,aj with
      |0,_,_=>exact .int _ _
    ·rw[j1 (fun e=>e1 e.symm),j1 (fun e=>e2 e.symm),j1 (fun e=>br e.symm)]
     trivial
 ·rw[wc] at h ⊢;simp only[look] at h;cases hb:Nat.beq 1001 o with
  |false=>simp[hb] at h
  |true=>
   simp only[hb,cond_true,Option.some.injEq] at h;subst h;refine⟨b2,eC,[.string s],rfl,h2,rfl,fun u hu=>?_,(fun h=>by cases h),fun j h aj=>?_⟩
   ·rw[List.mem_singleton.1 hu];rfl
   ·match j,h,aj with
    |0,_,_=>exact bK.str _ _ hs
 ·rw[cQ o h1,cQ ab h2]
 ·simp only[bQ,Option.some.injEq] at h2;exact⟨fun h=>h,.inl (by simp[h2])⟩
theorem jv.of{b1 b2 b3:Nat}{p:ByteArray}{dh fW:TypeId}{l k:Nat}{r eH:B}{M b0:Array Value}{W db:World}(I:jv b1 b2 b3 p dh fW l k r M W)(ja:b1≠b2)(i':b2≠b3){more:List (Nat×fe)}{y:(fm k more).J}{F:Nat->Value}
  {X:Nat->Prop} (S:ar W [b2] X F ((fm k more).st y) b0 db) (aq:∀t,t<4->b0.getD t undef=M.getD t undef) (hy:y.2=((eH,()),())):jv b1 b2 b3 p dh fW l k eH b0 db:=by
 have xy:b1<W.heap.size:=(Array.getElem?_eq_some_iff.1 I.h1).1;have xx:b3<W.heap.size:=(Array.getElem?_eq_some_iff.1 I.h3).1;refine⟨S.nt,(aq 0 (by omega)).trans I.dE,(aq 1 (by omega)).trans I.cH,(aq 2 (by omega)).trans I.dm,(aq 3 (by omega)).trans I.dJ,(S.frame.block b1 xy (by simp[ja])).trans I.h1,?_,(S.frame.block b3 xx (by simp[i'.symm])).trans I.h3,⟨S.ld.1,S.fa.Y,fun _ _ h=>h,fun b hb=>(S.ld.2 b hb).2⟩⟩
 have gJ:look ((fm k more).st y).sites 1001=some (.box 0 [.d (.str eH)]):=by
  show look (kG (fm k more).sites y.2) 1001=_;rw[hy];rfl
 have jq:=S.cO 2;have hg:((fm k more).st y).get 2=b6 (.ptr 1001 0 0):=rfl;rw[hg] at jq;obtain⟨b,hb,hr⟩:=jq;have cV:=Ref.at hr gJ rfl;rw[aq 2 (by omega),I.dm] at hb
 simp only[Value.pointer.injEq,Option.some.injEq,Addr.mk.injEq,and_true] at hb;obtain⟨bH,T,cur,g1,g2,g3,g4,_,g5⟩:=S.sites 1001 _ gJ;rw[cV] at g1;simp only[Value.pointer.injEq,Option.some.injEq,Addr.mk.injEq,and_true] at g1;match cur,g3 with
 |[u],_=>
  obtain⟨s,jA,rE⟩:=gF (g5 0 (by simp) (by simp))
  simp only[List.getElem_cons_zero] at jA;subst jA;exact⟨s,T,by rw[hb,g1];exact g2,rE⟩
end
theorem o9(c:UInt8)(s:B):bF c s≠[]:=by
 cases s with
 |nil=>simp[bF]
 |cons b r=>
  simp only[bF];cases b==c
  ·simp only[cond_false];split<;>simp
  ·simp
theorem afM{c:UInt8}{s:B}(h:Lib.indexByte s c<0):bF c s=[s]:=by
 induction s with
 |nil=>rfl
 |cons b r ih=>
  simp only[Lib.indexByte] at h;split at h
  ·omega
  ·rename_i hb;split at h
   ·rename_i h1;have h1:Lib.indexByte r c=-1:=by simpa using h1
    have:=ih (by omega)
    have hb:(b==c)=false:=by simpa using hb
    simp only[bF,hb,cond_false,this]
   ·rename_i h1;have:=Lib.indexByte_ge r c;have h1:¬Lib.indexByte r c=-1:=by simpa using h1
    omega
theorem afL{c:UInt8}{s:B}(h:0<=Lib.indexByte s c):bF c s=s.take (Lib.indexByte s c).toNat::bF c (s.drop ((Lib.indexByte s c).toNat+1))/\(Lib.indexByte s c).toNat<s.length:=by
 induction s with
 |nil=>simp[Lib.indexByte] at h
 |cons b r ih=>
  simp only[Lib.indexByte] at h ⊢;by_cases hb:(b==c)=true
  ·simp only[hb,if_true] at h ⊢;simp[bF,hb]
  ·have ec:(b==c)=false:=by simpa using hb
   simp only[ec,Bool.false_eq_true,if_false] at h ⊢;by_cases h1:(Lib.indexByte r c==-1)=true
   ·simp only[h1,if_true] at h;omega
   ·have h1':(Lib.indexByte r c==-1)=false:=by simpa using h1
    simp only[h1',Bool.false_eq_true,if_false] at h ⊢;have hge:=Lib.indexByte_ge r c;have h1:¬Lib.indexByte r c=-1:=by simpa using h1
    obtain⟨g1,g2⟩:=ih (by omega)
    have e:(Lib.indexByte r c+1).toNat=(Lib.indexByte r c).toNat+1:=by omega
    rw[e];refine⟨?_,by simp;omega⟩
    simp only[bF,ec,cond_false,g1,List.take_succ_cons,List.drop_succ_cons]
def lc(k:Nat)(c:UInt8)(r:B):(fm k []).J:=((([c],()),((),((0,()),()))),((r,()),()))
def nE(k:Nat)(c:UInt8)(r:B):al:=(fm k []).st (lc k c r)
def De(k:Nat):Out->Option (fm k []).J
 |.norm st=>(fm k []).ex st
 |_=>none
def KV(k t7 t8:Nat):Out->Option (Sum (fm k []).J ((Int×B)×(fm k []).J))
 |.norm st=>match st.get t7,st.get t8 with
  |.av (.am (.d (.int .i64 i))),.av (.am (.d (.str x)))=>((fm k []).ex st).map fun y=>.inr ((i,x),y)
  |_,_=>none
 |_=>none
noncomputable def xz(C:hY)(k t7 t8:Nat)(r7:Code)(p7:Nat):Out->Option (Sum (fm k []).J ((Int×B)×(fm k []).J))
 |.exit id st=>bif Nat.beq id 2 then((fm k []).ex st).map .inl else none
 |.norm st=>exec C r7 p7 st (KV k t7 t8)
 |_=>none
noncomputable def Dd(C:hY)(k t7 t8:Nat)(c6 r7:Code)(p6 p7:Nat):Out->Option (Sum (fm k []).J ((Int×B)×(fm k []).J))
 |.norm st=>exec C c6 p6 st (xz C k t7 t8 r7 p7)
 |_=>none
noncomputable def two(k:Nat)(C:Ctx)(st:al)(o0 o1:Oper)(a b:Nat):Option ((Value×B)×(fm k []).J):=
 kI C st o0 fun st=>kI C st o1 fun st=>match st.get a,st.get b with
  |.av (.am (.cW v)),.av (.am (.d (.str x)))=>((fm k []).ex st).map fun y=>((v,x),y)
  |_,_=>none
noncomputable def tO(k:Nat)(C:Ctx)(st:al)(o3:Oper)(t42:Nat):Option (Bool×(fm k []).J):=
 kI C st o3 fun st=>match st.get t42 with
  |.av (.am (.d (.bool b)))=>((fm k []).ex st).map fun y=>(b,y)
  |_=>none
section
variable {P:Program}{U:World}{Y:List Nat}{X:Nat->Prop}{F:Nat->Value}{st:al}{M:Array Value}{w:World}
theorem RJ(S:ar U Y X F st M w){t:Nat}{k:IntKind}{n:Int}(h:st.get t=.av (.am (.d (.int k n)))):M.getD t undef=.int k n:=by
 have:=S.cO t;rw[h] at this;exact iE this
theorem RI(S:ar U Y X F st M w){t:Nat}{x:B}(h:st.get t=.av (.am (.d (.str x)))):∃b,M.getD t undef=.string b/\b.data.toList=x:=by
 have:=S.cO t;rw[h] at this;exact gF this
theorem FK(S:ar U Y X F st M w){t:Nat}{x:Bool}(h:st.get t=.av (.am (.d (.bool x)))):M.getD t undef=.bool x:=by
 have:=S.cO t;rw[h] at this;exact jO this
theorem ajY(S:ar U Y X F st M w){t:Nat}{x:Value}(h:st.get t=.av (.am (.cW x))):M.getD t undef=x:=by
 have:=S.cO t;rw[h] at this;exact this
theorem Ui{C:Ctx}(H:aR P C){k:Nat}{o0 o1:Oper}{a b:Nat}{v:Value}{x:B}{y:(fm k []).J}(h:two k C st o0 o1 a b=some ((v,x),y))(S:ar U Y X F st M w){ds:List Deferred}{K:Act->World->Prop}{Q:Exit->Act->World->Prop}
  (bT:∀b0 w' iN aY,b0.getD a undef=v->b0.getD b undef=.string iN->iN.data.toList=x->(∀t,t∉o0.dst.toList++o1.dst.toList->b0.getD t undef=M.getD t undef)->
   ar U Y X aY ((fm k []).st y) b0 w'->K ⟨b0,ds⟩ w'):o0.wpIn (eM none) 0 P ⟨M,ds⟩ w (fun cS w'=>o1.wpIn (eM none) 0 P cS w' K Q) Q:=by
 refine n3 S H h fun eK gM h5 aZ e1 dA nI=>?_
 refine n3 dA H e1 fun xo iv pT w2 e2 ie lU=>?_
 split at e2
 ·rename_i v' iy ha hb;obtain⟨y',hy,he⟩:=Option.map_eq_some_iff.1 e2;cases he;obtain⟨iN,g1,g2⟩:=RI ie hb;obtain⟨h4,jh,_⟩:=Shape.gq ie hy;refine bT pT w2 iN h4 (ajY ie ha) g1 g2 (fun t aq=>?_) jh
  simp only[List.mem_append,not_or] at aq;rw[lU t aq.2,nI t aq.1]
 ·cases e2
theorem am5{C:Ctx}(H:aR P C){k:Nat}{o3:Oper}{t42:Nat}{b:Bool}{y:(fm k []).J}(h:tO k C st o3 t42=some (b,y))(S:ar U Y X F st M w){ds:List Deferred}{K:Act->World->Prop}{Q:Exit->Act->World->Prop}
  (bT:∀b0 w' aY,b0.getD t42 undef=.bool b->(∀t,t∉o3.dst.toList->b0.getD t undef=M.getD t undef)->ar U Y X aY ((fm k []).st y) b0 w'->K ⟨b0,ds⟩ w'):o3.wpIn (eM none) 0 P ⟨M,ds⟩ w K Q:=by
 refine n3 S H h fun eK gM h5 aZ e1 dA nI=>?_
 split at e1
 ·rename_i bH hb;obtain⟨y',hy,he⟩:=Option.map_eq_some_iff.1 e1;cases he;obtain⟨h4,jh,_⟩:=Shape.gq dA hy;exact bT h5 aZ h4 (FK dA hb) nI jh
 ·cases e1
structure alD(P:Program)(C:hY)(cB:FuncId)(fn:Func)(k:Nat)(A r5 c6 r7 r9:Code)(o0 o1 o2 o3 q0 q1 q2:Oper)(pA p5 p6 p7 p9 t7 t8 a1 a2 t41 t42 u1 u2:Nat)(ty DL:Array TypeId):Prop where
 Zh:P.funcs[cB]? =some fn
 nt:fn.ntmps=k
 cL:4<=k
 fp:fn.results=#[]
 acz:∀args w,(callFunc cB args).run P w=.ok (.enter cB args) w
 body:∃i8 i10,fn.body=some (.seq A (.seq (.block 2 (.loop (.block 3 (.seq r5 (.seq c6 (.seq r7 (.seq (.seq (.region i8 #[o0,o1,o2,o3] false) (.cond (.tmp t42) .ret .skip)) r9))))))) (.region i10 #[q0,q1,q2] false)))
 x9:(gU A&&(gU r5&&(gU c6&&(gU r7&&gU r9))))=true
 wr:e_ [0,1,2,3] (cx A++(cx r5++(cx c6++(cx r7++cx r9))))=true
 aV:o0.guard=none/\o1.guard=none/\o2.guard=none/\o3.guard=none/\q0.guard=none/\q1.guard=none/\q2.guard=none
 adv:e_ [0,1,2,3,t7] (o0.dst.toList++(o1.dst.toList++(o3.dst.toList++[t41])))=true
 adu:e_ [0,1,2,3] (q0.dst.toList++q1.dst.toList)=true
 d2:o2.dst=some t41
 KQ:t41<k
 c2:o2.op=.call {callee:=.value (.tmp a1),args:=#[.tmp a2],argTypes:=ty}
 d5:q2.op=.call {callee:=.value (.tmp u1),args:=#[.tmp u2],argTypes:=DL}
 kQ:gr P C A pA/\gr P C r5 p5/\gr P C c6 p6/\gr P C r7 p7/\gr P C r9 p9
 dX:∀c r,exec C A pA (nE k c r) (De k)=some (lc k c r)
 hB:∀c r,exec C r5 p5 (nE k c r) (Dd C k t7 t8 c6 r7 p6 p7)=bif decide (Lib.indexByte r c<0) then some (.inl (lc k c r)) else(bm r 0 (IntKind.i64.wrap (Lib.indexByte r c+0))).bind fun x=>some (.inr ((Lib.indexByte r c,x),lc k c r))
 bk:∀c r i x v,two k C.toCtx ((((nE k c r).set t7 (one (.int .i64 i))).set t8 (one (.str x))).set 0 (b6 (.cW v))) o0 o1 a1 a2=some ((v,x),lc k c r)
 h3:∀c r b,tO k C.toCtx ((nE k c r).set t41 (one (.bool b))) o3 t42=some (!b,lc k c r)
 acw:(kI C.toCtx ⟨[(t41,one (.bool false))],[],k⟩ o3 fun st=>match st.get t42 with|.av (.am (.d (.bool b)))=>some b|_=>none)=some true
 ye:∀c r i,exec C r9 p9 ((nE k c r).set t7 (one (.int .i64 i))) (De k)=(bm r (IntKind.i64.wrap (i+(([c]:B).length:Int))) r.length).bind fun x=>some (lc k c x)
 Ez:∀c r v,two k C.toCtx ((nE k c r).set 0 (b6 (.cW v))) q0 q1 u1 u2=some ((v,r),lc k c r)
end
end Go.Jk
