/- FnDiskNew: a stored root is recovered. (part 2 of 7: JkCall3, JkCall4, JkCall5, JkBld, JkCall6, JkDraw1, JkLogic, JkWalk0, JkDraw2, JkDraw3, JkWalk1, JkShape, JkShape2, JkWalk2, JkWalk3, JkWalk4, JkHand, JkHand2, JkLaw0, JkRange, JkRange2, JkIter, JkIte) Conditions: none beyond the statement. -/
import Derived.Test.YthhecoidfjkmeaaGreatDoorZFnDiskNew0
import Derived.RangeFuncRecord
import Derived.Below
import Derived.RangeFuncSeq
import Derived.Orders
import Derived.OrdersIn
import Derived.ControlIn
import Derived.LoopIn
import Derived.RangeFuncCalls
import Derived.RangeFuncLeaves
import Derived.Lib.Bytealg
import Derived.Laws.Externs
import Derived.Lib.LaidTab
import Derived.Lib.ItoaNum
import Derived.Deep.Draws
import Derived.Sort.Grow
import Derived.Deep.Slices
import Derived.ChangeSame
import Derived.Carry
import Derived.ProofKit
import Derived.OpenShut
set_option linter.unusedVariables false
set_option linter.unusedSimpArgs false
namespace Go.Jk
theorem tX(n:Nat)(l:List Nat):fD n l=true <-> n∈l:=by
 induction l with
 |nil=>simp[fD]
 |cons m l ih=>
  simp only[fD,Bool.or_eq_true,ih,List.mem_cons];constructor
  ·rintro(h|h)
   ·exact .inl (Nat.eq_of_beq_eq_true h)
   ·exact .inr h
  ·rintro(rfl|h)
   ·exact .inl (Nat.beq_refl n)
   ·exact .inr h
theorem rb(l:List Nat):fq l=true <-> l.Nodup:=by
 induction l with
 |nil=>simp[fq]
 |cons n l ih=>
  simp only[fq,Bool.and_eq_true,ih,List.nodup_cons,Bool.not_eq_true'];constructor
  ·rintro⟨h1,h2⟩;exact⟨fun h=>(by rw[(tX n l).2 h] at h1;cases h1),h2⟩
  ·rintro⟨h1,h2⟩;refine⟨?_,h2⟩;cases h:fD n l with
   |false=>rfl
   |true=>exact absurd ((tX n l).1 h) h1
theorem Pd(l m:List Nat):eT l m=true <-> ∀n,n∈l->n∉m:=by
 induction l with
 |nil=>simp[eT]
 |cons n l ih=>
  simp only[eT,Bool.and_eq_true,ih,Bool.not_eq_true',List.mem_cons];constructor
  ·rintro⟨h1,h2⟩ k (rfl|hk)
   ·intro h;rw[(tX k m).2 h] at h1;cases h1
   ·exact h2 k hk
  ·intro h;refine⟨?_,fun k hk=>h k (.inr hk)⟩
   cases aj:fD n m with
   |false=>rfl
   |true=>exact absurd ((tX n m).1 aj) (h n (.inl rfl))
theorem nb{sites us:List (Nat×Site)}{o:Nat}(h:o∉keys us):look (bp sites us) o=look sites o:=by
 induction us generalizing sites with
 |nil=>rfl
 |cons p us ih=>
  obtain⟨n,s⟩:=p;simp only[keys,List.mem_cons,not_or] at h;simp only[bp];rw[ih h.2,cR];have:¬n=o:=fun e=>h.1 e.symm
  simp[this]
theorem Fe{aI:Type}{us:List (Nat×aI)}{o:Nat}{s:aI}(h:(o,s)∈us):o∈keys us:=by
 induction us with
 |nil=>simp at h
 |cons p us ih=>
  rcases List.mem_cons.1 h with rfl|h
  ·exact List.mem_cons_self
  ·exact List.mem_cons_of_mem _ (ih h)
theorem yd{aI:Type}{us:List (Nat×aI)}{o:Nat}(h:o∈keys us):∃s,(o,s)∈us:=by
 induction us with
 |nil=>simp[keys] at h
 |cons p us ih=>
  obtain⟨n,s⟩:=p;rcases List.mem_cons.1 h with h|h
  ·exact⟨s,by rw[h];exact List.mem_cons_self⟩
  ·obtain⟨aM,aj⟩:=ih h;exact⟨aM,List.mem_cons_of_mem _ aj⟩
section
variable {U:World}{Y:List Nat}{X:Nat->Prop}{D:Nat->Value}{st:al}{M:Array Value}{w:World}
theorem aq.aoI:∀{us:List (Nat×Site)} {st:al} {X:Nat->Prop},aq U Y X D st M w->gF st.sites us->(keys us).Nodup->
  aq U Y (fun b=>X b\/b∈cY D (keys us)) D {st with sites:=bp st.sites us} M w:=by
 intro us;induction us with
 |nil=>intro st X S _ _;exact S.shrink fun b h=>by rcases h with h|h;exact h;simp[keys,cY] at h
 |cons p us ih=>
  obtain⟨o,aM⟩:=p;intro st X S hg hn;obtain⟨ae,h1,h2,rfl⟩:=hg o aM List.mem_cons_self;simp only[keys,List.nodup_cons] at hn;have di:=S.kill h1 h2;have hI:=ih di (fun ab s hm=>by
   obtain⟨t,aD,aF,bI⟩:=hg ab s (List.mem_cons_of_mem _ hm);have:¬o=ab:=fun e=>hn.1 (by rw[e];exact Fe hm)
   exact⟨t,by simp[cR,this,aD],aF,bI⟩) hn.2
  refine hI.shrink fun b h=>?_
  rcases h with h|h
  ·exact .inl (.inl h)
  ·simp only[keys,cY,List.filterMap_cons] at h;cases hb:bN (D o) with
   |none=>simp only[hb] at h;exact .inr h
   |some c=>
    simp only[hb,List.mem_cons] at h;rcases h with rfl|h
    ·exact .inl (.inr rfl)
    ·exact .inr h
structure jt(U:World)(Y:List Nat)(X X':Nat->Prop)(D aW:Nat->Value)(st:al)(M:Array Value)(w:World)(us:List (Nat×Site)):Prop where
 iU:aq U Y X' aW {st with sites:=bp st.sites us} M w
 le:∀c,aH X' aW (bp st.sites us) c->aH X D st.sites c
 go:∀{a v},b_ D st.sites w (aH X D st.sites) a v->b_ aW (bp st.sites us) w (aH X' aW (bp st.sites us)) a v
 same:∀o,o∉keys us->aW o=D o
theorem jt.nil{X':Nat->Prop}(S:aq U Y X D st M w)(h:∀b,X' b->X b):jt U Y X X' D D st M w []:=
 ⟨S.shrink h,fun c hc=>by
  rcases hc with hc|hc
  ·exact .inl (h c hc)
  ·exact .inr hc,fun k=>k.gK (fun c hc=>by
   rcases hc with hc|hc
   ·exact .inl (h c hc)
   ·exact .inr hc) (fun c hc=>(S.shrink h).lt hc),fun _ _=>rfl⟩
theorem jt.trans{cT cp:Nat->Prop}{gq hS:Nat->Value}{us vs:List (Nat×Site)}(A:jt U Y X cT D gq st M w us)(bn:jt U Y cT cp gq hS {st with sites:=bp st.sites us} M w vs):
  jt U Y X cp D hS st M w (us++vs):=by
 refine⟨?_,?_,?_,fun o h=>?_⟩
 ·rw[kK];exact bn.iU
 ·rw[kK];exact fun c hc=>A.le c (bn.le c hc)
 ·rw[kK];exact fun h=>bn.go (A.go h)
 ·rw[jF,List.mem_append,not_or] at h;rw[bn.same o h.2,A.same o h.1]
theorem jt.one{X':Nat->Prop}{n:Nat}{bV:Site}{nv:Value}(S:aq U Y X D st M w)(gd:∀b,X' b->X b)
  (dB:(∀ae,look st.sites n=some ae->ae.cl<bV.cl)\/(D n=nv/\∀ae,look st.sites n=some ae->ae.cl=bV.cl/\ae.live=false))
  (hb:∀b,bN nv=some b->X b/\¬X' b/\(b∈Y\/U.heap.size<=b))
  (fl:∀{bU:List (Nat×Site)} {aW:Nat->Value},bU=ci st.sites n bV->aW n=nv->(∀{a v},b_ D st.sites w (aH X D st.sites) a v->b_ aW bU w (aH X' aW bU) a v)->
   (∀b,aH X' aW bU b->aH X D st.sites b)->jM aW bU w (aH X' aW bU) n bV):
  jt U Y X X' D (fun ab=>if ab=n then nv else D ab) st M w [(n,bV)]:=by
 obtain⟨h1,h2,h3⟩:=S.u0 gd dB hb fl;exact⟨h1,h2,h3,fun o h=>by
  simp only[keys,List.mem_singleton] at h;simp[h]⟩
theorem DR{av b':Nat->Prop}{l:aP}{v:Value}{sites:List (Nat×Site)}(hf:∀t xs,l≠.fresh t xs)(h:dM lT [] w av l v)(hle:∀b,b' b->av b)(hlt:∀b,b' b->b<w.heap.size):dM D sites w b' l v:=by
 have gK:∀{d:be} {v:Value},bF w av d v->bF w b' d v:=fun h=>b_.gK (D:=D) (sites:=[]) (a:=one _) hle hlt h
 cases l with
 |d x=>exact gK h
 |nil t=>exact h
 |own o s=>obtain⟨_,_,h,_⟩:=h;cases h
 |ptr o s off=>obtain⟨_,_,_,h,_⟩:=h;cases h
 |er cells off=>
  obtain⟨b,B,h1,h2,h3,cs,aE,bi,ca⟩:=h;exact⟨b,B,h1,fun hx=>h2 (hle b hx),h3,cs,aE,bi,fun j g1 g2=>gK (ca j g1 g2)⟩
 |eP o s t k off=>obtain⟨_,_,_,h,_⟩:=h;cases h
 |clo g bA=>
  obtain⟨vs,h1,h2,h3⟩:=h;match bA,vs,h2 with
  |[],[],_=>exact⟨[],h1,rfl,fun i h=>by simp at h⟩
  |c::bA,v::vs,_=>obtain⟨_,h,_⟩:=h3 0 (by simp) (by simp);cases h
 |cH u=>exact h
 |fresh t xs=>exact absurd rfl (hf t xs)
 |dh=>trivial
 |any=>trivial
theorem cm.go{aW:Nat->Value}{sites bU:List (Nat×Site)}{w':World}{av b':Nat->Prop}(go:∀{a:aZ} {v:Value},b_ D sites w av a v->b_ aW bU w' b' a v){ai:List aP}{vs:List Value}
  (h:cm D sites w av ai vs):cm aW bU w' b' ai vs:=Ap go h
structure Left(U:World)(Y:List Nat)(X:Nat->Prop)(D:Nat->Value)(st:al)(av:Nat->Prop)(bs:List Nat):Prop where
 nodup:bs.Nodup
 cg:∀b,b∈bs->¬X b/\(b∈Y\/U.heap.size<=b)
 le:∀c,aH (fun b=>X b\/b∈bs) D st.sites c->av c
def k7(bx:al)(sites:List (Nat×Site))(fL:List Nat):Prop:=∀m,m∈fL->∀ae,look sites m=some ae->ae.cl<bq bx m
theorem k7.step{bx:al}{sites us:List (Nat×Site)}{fL:List Nat}(h:k7 bx sites fL)(Z:∀n,n∈keys us->n∉fL):k7 bx (bp sites us) fL:=by
 intro m hm ae hs;rw[nb (fun aj=>Z m aj hm)] at hs
 exact h m hm ae hs
theorem adV{u:Bool}{e:TypeId}{s:Nat}{v:Value}{n:Nat}{cs:List Value}(h:rowAt w u e s v n cs):v.oneCell'=true:=by
 rcases h.2 with⟨h,_⟩|⟨g,cap,cur,fz,h,_⟩<;>rw[h]<;>rfl
theorem QH{av:Nat->Prop}(bx:al):∀(ai:List aP) (n:Nat) {D:Nat->Value} {st:al} {vs:List Value} {bs rest:List Nat},aq U Y (fun b=>X b\/b∈bs++rest) D st M w->k8 w av ai vs bs->
  Left U Y X D st av (bs++rest)->k7 bx st.sites (keys (take bx n ai).2)->(keys (take bx n ai).2).Nodup->
  ∃aW,jt U Y (fun b=>X b\/b∈bs++rest) (fun b=>X b\/b∈rest) D aW st M w (take bx n ai).2/\cm aW (bp st.sites (take bx n ai).2) w (aH (fun b=>X b\/b∈rest) aW (bp st.sites (take bx n ai).2)) (take bx n ai).1 vs/\
   Left U Y X aW {st with sites:=bp st.sites (take bx n ai).2} av rest:=by
 intro ai;induction ai with
 |nil=>
  intro n D st vs bs rest S h L gf Z;match vs,h with
  |[],h=>
   have h:bs=[]:=h;subst h;exact⟨D,.nil S (fun b hb=>hb),.nil,L⟩
 |cons l ai ih=>
  intro n D st vs bs rest S h L gf Z;match vs,h with
  |v::vs,⟨b1,b2,ej,h1,h2⟩=>
   subst ej;by_cases hf:∃t xs,l=.fresh t xs
   ·obtain⟨t,xs,rfl⟩:=hf;obtain⟨hb1,e,cs,aL,hr⟩:=h1;simp only[take,keys,List.nodup_cons] at Z gf;have ks:=L.nodup;rw[List.append_assoc,hb1] at ks;have cX:jt U Y (fun b=>X b\/b∈b1++b2++rest) (fun b=>X b\/b∈b2++rest) D (fun ab=>if ab=n then v else D ab) st M w [(n,.row (bq bx n) t xs)]:=by
     refine .one S (fun b hb=>?_) (.inl fun ae hs=>gf n List.mem_cons_self ae hs) (fun b hb=>?_) (fun fu jT go le=>?_)
     ·rcases hb with hb|hb
      ·exact .inl hb
      ·exact .inr (by rw[List.append_assoc];exact List.mem_append.2 (.inr hb))
     ·have hm:b∈b1:=by rw[hb1,hb];simp
      have l8:b∈b1++b2++rest:=by rw[List.append_assoc];exact List.mem_append.2 (.inl hm)
      refine⟨.inr l8,?_,(L.cg b l8).2⟩;rintro(hx|hx)
      ·exact(L.cg b l8).1 hx
      ·rw[hb] at ks;simp only[Option.toList_some,List.singleton_append,List.nodup_cons] at ks;exact ks.1 hx
     ·refine⟨e,cs,by rw[jT];exact aL,fun j g1 g2=>?_⟩
      have k:=hr.2 j g1 g2;have hle:∀b,aH (fun b=>X b\/b∈b2++rest) _ _ b->av b:=fun b hb=>L.le b (le b hb)
      exact b_.gK (D:=D) (sites:=[]) (a:=one _) hle (fun b hb=>S.lt (le b hb)) k
    have q8:Left U Y X (fun ab=>if ab=n then v else D ab) {st with sites:=bp st.sites [(n,.row (bq bx n) t xs)]} av (b2++rest):=by
     refine⟨(List.nodup_append.1 (by rw[List.append_assoc] at L;exact L.nodup)).2.1,fun b hb=>L.cg b (by rw[List.append_assoc];exact List.mem_append.2 (.inr hb)),fun c hc=>L.le c (cX.le c hc)⟩
    obtain⟨aW,eo,h3,aE⟩:=ih (n+1) (st:={st with sites:=bp st.sites [(n,.row (bq bx n) t xs)]}) cX.iU h2 q8
     (k7.step (us:=[(n,.row (bq bx n) t xs)]) (fun m hm=>gf m (List.mem_cons_of_mem _ hm)) (fun m hm=>by simp only[keys,List.mem_singleton] at hm;subst hm;exact Z.1)) Z.2
    refine⟨aW,cX.trans eo,?_,aE⟩;refine cm.cons ?_ h3;have:dM (fun ab=>if ab=n then v else D ab) (bp st.sites [(n,.row (bq bx n) t xs)]) w (aH (fun b=>X b\/b∈b2++rest) (fun ab=>if ab=n then v else D ab) (bp st.sites [(n,.row (bq bx n) t xs)])) (.own n (bq bx n)) v:=
     ⟨adV aL,Ref.mk (ae:=.row (bq bx n) t xs) (by simp[bp,cR]) rfl (by simp)⟩
    exact eo.go (a:=bZ (.own n (bq bx n))) (v:=v) this
   ·have KP:∀t xs,l≠.fresh t xs:=fun t xs h=>hf ⟨t,xs,h⟩
    have ao6:take bx n (l::ai)=(l::(take bx (n+1) ai).1,(take bx (n+1) ai).2):=by
     cases l<;>first|rfl|exact absurd rfl (KP _ _)
    have h1':b1=[]/\dM lT [] w av l v:=by
     cases l<;>first|exact h1|exact absurd rfl (KP _ _)
    obtain⟨rfl,h1'⟩:=h1';rw[ao6] at Z gf ⊢;simp only[List.nil_append] at S L ⊢;obtain⟨aW,eo,h3,aE⟩:=ih (n+1) S h2 L gf Z;refine⟨aW,eo,?_,aE⟩;refine cm.cons ?_ h3;exact DR KP h1' (fun b hb=>L.le b (eo.le b hb)) (fun b hb=>eo.iU.lt hb)
end
section
variable {U:World}{Y:List Nat}{X:Nat->Prop}{D:Nat->Value}{st:al}{M:Array Value}{w:World}
def oQ(D:Nat->Value)(sites:List (Nat×Site))(w:World)(av:Nat->Prop)(as:List bP)(vs:List Value):Prop:=
 vs.length=as.length/\∀j (h:j<as.length) (aj:j<vs.length),gL D sites w av (as[j]) (vs[j])
theorem oQ.cons{sites:List (Nat×Site)}{av:Nat->Prop}{a:bP}{as:List bP}{v:Value}{vs:List Value}(h:gL D sites w av a v)(hs:oQ D sites w av as vs):oQ D sites w av (a::as) (v::vs):=
 ⟨by simp[hs.1],fun j h1 h2=>by
  cases j with
  |zero=>exact h
  |succ j=>exact hs.2 j (by simpa using h1) (by simpa using h2)⟩
theorem Left.rest{av:Nat->Prop}{a b:List Nat}(L:Left U Y X D st av (a++b)){aW:Nat->Value}{ao:al}(h:∀c,aH (fun c=>X c\/c∈b) aW ao.sites c->aH (fun c=>X c\/c∈a++b) D st.sites c):Left U Y X aW ao av b:=
 ⟨(List.nodup_append.1 L.nodup).2.1,fun c hc=>L.cg c (List.mem_append.2 (.inr hc)),fun c hc=>L.le c (h c hc)⟩
theorem afV{bx:al}{n:Nat}{ai:List aP}(h:(take bx n ai).1.head?=some .dh):ai.head?=some .dh:=by
 cases ai with
 |nil=>cases h
 |cons l ai=>cases l<;>first|exact h|cases h
theorem take_one(bx:al)(n:Nat)(l:aP):∃ga,(take bx n [l]).1=[ga]:=by cases l<;>exact⟨_,rfl⟩
theorem ahP{av:Nat->Prop}(bx:al):∀(as:List bP) (n:Nat) {D:Nat->Value} {st:al} {vs:List Value} {bs rest:List Nat},aq U Y (fun b=>X b\/b∈bs++rest) D st M w->kV w av as vs bs->
  Left U Y X D st av (bs++rest)->k7 bx st.sites (keys (dS bx n as).2)->(keys (dS bx n as).2).Nodup->
  ∃aW,jt U Y (fun b=>X b\/b∈bs++rest) (fun b=>X b\/b∈rest) D aW st M w (dS bx n as).2/\oQ aW (bp st.sites (dS bx n as).2) w (aH (fun b=>X b\/b∈rest) aW (bp st.sites (dS bx n as).2)) (dS bx n as).1 vs/\
   Left U Y X aW {st with sites:=bp st.sites (dS bx n as).2} av rest:=by
 intro as;induction as with
 |nil=>
  intro n D st vs bs rest S h L gf Z;match vs,h with
  |[],h=>
   have h:bs=[]:=h;subst h;exact⟨D,.nil S (fun b hb=>hb),⟨rfl,fun j h=>by simp[dS] at h⟩,L⟩
 |cons a as ih=>
  intro n D st vs bs rest S h L gf Z;match vs,h with
  |v::vs,⟨b1,b2,ej,h1,h2⟩=>
   subst ej;have go:∀(ai:List aP) (us:List Value),k8 w av ai us b1->(dS bx n (a::as)).2=(take bx n ai).2++(dS bx (n+100) as).2->
     ∃aW,jt U Y (fun b=>X b\/b∈b1++b2++rest) (fun b=>X b\/b∈rest) D aW st M w (dS bx n (a::as)).2/\cm aW (bp st.sites (dS bx n (a::as)).2) w (aH (fun b=>X b\/b∈rest) aW (bp st.sites (dS bx n (a::as)).2)) (take bx n ai).1 us/\
      oQ aW (bp st.sites (dS bx n (a::as)).2) w (aH (fun b=>X b\/b∈rest) aW (bp st.sites (dS bx n (a::as)).2)) (dS bx (n+100) as).1 vs/\Left U Y X aW {st with sites:=bp st.sites (dS bx n (a::as)).2} av rest:=by
    intro ai us bJ e;rw[e] at gf Z ⊢;rw[jF] at gf Z;obtain⟨d1,d2,d3⟩:=List.nodup_append.1 Z;rw[List.append_assoc] at S L ⊢;obtain⟨gq,cX,aD,q8⟩:=QH bx ai n S bJ L (fun m hm=>gf m (List.mem_append.2 (.inl hm))) d1
    obtain⟨hS,eo,aF,tD⟩:=ih (n+100) (st:={st with sites:=bp st.sites (take bx n ai).2}) cX.iU h2 q8
     (k7.step (fun m hm=>gf m (List.mem_append.2 (.inr hm))) (fun m hm l8=>d3 m hm m l8 rfl)) d2
    refine⟨hS,cX.trans eo,?_,?_,?_⟩
    ·rw[kK];exact aD.go eo.go
    ·rw[kK];exact aF
    ·rw[kK];exact tD
   cases a with
   |am l=>
    have h1:mC w av l v b1:=h1;obtain⟨aW,T,aD,aF,bI⟩:=go [l] [v] ⟨b1,[],by simp,h1,rfl⟩ rfl
    refine⟨aW,T,?_,bI⟩;obtain⟨ga,fY⟩:=take_one bx n l;have:(dS bx n (bP.am l::as)).1=bP.am ga::(dS bx (n+100) as).1:=by simp only[dS,fY]
    rw[this];refine oQ.cons ?_ aF;rw[fY] at aD;exact aD.2 0 (by simp) (by simp)
   |agg ai=>
    obtain⟨us,e,h1⟩:=h1;obtain⟨aW,T,aD,aF,bI⟩:=go ai us h1 rfl;refine⟨aW,T,?_,bI⟩;have:(dS bx n (bP.agg ai::as)).1=bP.agg (take bx n ai).1::(dS bx (n+100) as).1:=rfl;rw[this];exact oQ.cons ⟨us,e,aD.1,aD.2⟩ aF
def mX(D:Nat->Value):List (Nat×Nat)->List Nat->Prop
 |[],[]=>True
 |p::r,b::dl=>D p.1=.pointer (some ⟨b,0,none⟩)/\mX D r dl
 |_,_=>False
theorem mX.of:∀{boxes:List (Nat×Nat)},(∀o s,(o,s)∈boxes->∃b,D o=.pointer (some ⟨b,0,none⟩))->mX D boxes (cY D (keys boxes)):=by
 intro boxes;induction boxes with
 |nil=>intro _;trivial
 |cons q boxes ih=>
  obtain⟨ρ,r⟩:=q;intro h;obtain⟨c,hc⟩:=h ρ r List.mem_cons_self;have:=ih fun o s hm=>h o s (List.mem_cons_of_mem _ hm)
  have e:cY D (keys ((ρ,r)::boxes))=c::cY D (keys boxes):=by simp[cY,keys,hc,bN]
  rw[e];exact⟨hc,this⟩
theorem mX.congr{aW:Nat->Value}:∀{boxes:List (Nat×Nat)} {dl:List Nat},mX D boxes dl->(∀ab,ab∈keys boxes->aW ab=D ab)->mX aW boxes dl:=by
 intro boxes;induction boxes with
 |nil=>
  intro dl h _;match dl,h with
  |[],_=>trivial
 |cons q boxes ih=>
  intro dl h aj;match dl,h with
  |b::dl,⟨h1,h2⟩=>exact⟨by rw[aj q.1 List.mem_cons_self];exact h1,ih h2 fun ab bS=>aj ab (List.mem_cons_of_mem _ bS)⟩
theorem Nx{av:Nat->Prop}{bx:al}{ab:Nat}:∀{boxes:List (Nat×Nat)} {cC:List (List aP)} {dl bs:List Nat},mX D boxes dl->iN w av dl cC bs->ab∈keys boxes->ab∈keys (gD bx boxes cC):=by
 intro boxes;induction boxes with
 |nil=>intro cC dl bs _ _ h;simp[keys] at h
 |cons q boxes ih=>
  obtain⟨ρ,r⟩:=q;intro cC dl bs hl bJ hm;match dl,cC,hl,bJ with
  |c::dl,cs::cC,⟨_,hl⟩,⟨_,_,_,_,bJ⟩=>
   simp only[gD,jF,keys,List.mem_append,List.mem_cons];rcases List.mem_cons.1 hm with rfl|hm
   ·exact .inr (.inl rfl)
   ·exact .inr (.inr (ih hl bJ hm))
theorem Px{av:Nat->Prop}(bx:al):∀(boxes:List (Nat×Nat)) {cC:List (List aP)} {D:Nat->Value} {st:al} {dl bs rest:List Nat},aq U Y (fun b=>X b\/b∈bs++rest) D st M w->mX D boxes dl->iN w av dl cC bs->
  (∀o s,(o,s)∈boxes->look st.sites o=some (.dead s))->
  Left U Y X D st av (bs++rest)->k7 bx st.sites (keys (gD bx boxes cC))->(keys (gD bx boxes cC)).Nodup->
  ∃aW,jt U Y (fun b=>X b\/b∈bs++rest) (fun b=>X b\/b∈rest) D aW st M w (gD bx boxes cC)/\Left U Y X aW {st with sites:=bp st.sites (gD bx boxes cC)} av rest:=by
 intro boxes;induction boxes with
 |nil=>
  intro cC D st dl bs rest S eI h hB L gf Z;match dl,cC,eI,h with
  |[],[],_,h=>
   have h:bs=[]:=h;subst h;exact⟨D,.nil S (fun b hb=>hb),L⟩
 |cons p boxes ih=>
  obtain⟨o,s⟩:=p;intro cC D st dl bs rest S eI h hB L gf Z;have br:=hB o s List.mem_cons_self;match dl,cC,eI,h with
  |b::dl,cs::cC,⟨hb,eI⟩,⟨b1,b2,ej,⟨T,cur,pg,e1,e2,bv,dq⟩,h2⟩=>
   subst ej e1;have hb:D o=.pointer (some ⟨b,0,none⟩):=hb;have q3:gD bx ((o,s)::boxes) (cs::cC)=(take bx (1000000+o*100) cs).2++([(o,Site.box s (take bx (1000000+o*100) cs).1)]++gD bx boxes cC):=rfl;rw[q3] at gf Z ⊢;rw[jF,jF] at gf Z;obtain⟨d1,d2,d3⟩:=List.nodup_append.1 Z;obtain⟨d4,d5,d6⟩:=List.nodup_append.1 d2;have Be:∀c,c∈b::pg++b2++rest <-> c∈pg++(b::(b2++rest)):=by intro c;simp[or_assoc,or_left_comm]
   have axk:=L.nodup;have di:aq U Y (fun c=>X c\/c∈pg++(b::(b2++rest))) D st M w:=S.shrink fun c hc=>hc.imp id (Be c).2
   have q8:Left U Y X D st av (pg++(b::(b2++rest))):=by
    refine⟨?_,fun c hc=>L.cg c ((Be c).2 hc),fun c hc=>L.le c ?_⟩
    ·have:List.Perm (b::pg++b2++rest) (pg++(b::(b2++rest))):=by
      simp only[List.cons_append,List.append_assoc];exact List.perm_middle.symm
     exact this.nodup_iff.1 axk
    ·rcases hc with hc|hc
     ·exact .inl (hc.imp id (Be c).2)
     ·exact .inr hc
   obtain⟨gq,cX,aD,tD⟩:=QH bx cs (1000000+o*100) di dq.2 q8 (fun m hm=>gf m (List.mem_append.2 (.inl hm))) d1
   have Xt:o∉keys (take bx (1000000+o*100) cs).2:=fun h=>d3 o h o (by simp[keys]) rfl
   have Je:gq o=D o:=cX.same o Xt;have gO:look (bp st.sites (take bx (1000000+o*100) cs).2) o=some (.dead s):=by rw[nb Xt,br]
   have aat:=tD.nodup;simp only[List.nodup_cons] at aat;have eo:jt U Y (fun c=>X c\/c∈b::(b2++rest)) (fun c=>X c\/c∈b2++rest) gq (fun ab=>if ab=o then D o else gq ab) {st with sites:=bp st.sites (take bx (1000000+o*100) cs).2} M w [(o,Site.box s (take bx (1000000+o*100) cs).1)]:=by
    refine .one cX.iU (fun c hc=>hc.imp id (List.mem_cons_of_mem _)) (.inr ⟨Je,fun ae hs=>?_⟩) (fun c hc=>?_) (fun fu jT go le=>?_)
    ·have hs:look (bp st.sites (take bx (1000000+o*100) cs).2) o=some ae:=hs;rw[gO] at hs;cases hs;exact⟨rfl,rfl⟩
    ·rw[hb] at hc;cases hc;refine⟨.inr List.mem_cons_self,?_,(tD.cg b List.mem_cons_self).2⟩;rintro(hx|hx)
     ·exact(tD.cg b List.mem_cons_self).1 hx
     ·exact aat.1 hx
    ·have:=Ap go aD;exact⟨b,T,cur,by rw[jT,hb],e2,this.1,bv,fun bJ=>dq.1 (afV bJ),this.2⟩
   have Mh:Left U Y X (fun ab=>if ab=o then D o else gq ab) {st with sites:=bp (bp st.sites (take bx (1000000+o*100) cs).2) [(o,Site.box s (take bx (1000000+o*100) cs).1)]} av (b2++rest):=
    Left.rest (a:=[b]) (st:={st with sites:=bp st.sites (take bx (1000000+o*100) cs).2}) tD eo.le
   have hbk:∀ab,ab∈keys boxes->(fun ab=>if ab=o then D o else gq ab) ab=D ab:=by
    intro ab bS;have hk:=Nx (bx:=bx) eI h2 bS;by_cases e:ab=o
    ·subst e;simp
    ·simp only[e,if_false];exact cX.same ab fun hm=>d3 ab hm ab (List.mem_append.2 (.inr hk)) rfl
   obtain⟨aW,fx,Mg⟩:=ih (st:={st with sites:=bp (bp st.sites (take bx (1000000+o*100) cs).2) [(o,Site.box s (take bx (1000000+o*100) cs).1)]}) eo.iU (eI.congr hbk) h2
    (fun ab r hm=>by
     have hk:=Nx (bx:=bx) eI h2 (Fe hm);show look (bp (bp st.sites _) _) ab=_;rw[nb (fun h=>d6 ab h ab hk rfl),nb (fun h=>d3 ab h ab (List.mem_append.2 (.inr hk)) rfl)]
     exact hB ab r (List.mem_cons_of_mem _ hm))
    Mh
    (k7.step (k7.step (fun m hm=>gf m (List.mem_append.2 (.inr (List.mem_append.2 (.inr hm))))) (fun m hm l8=>d3 m hm m (List.mem_append.2 (.inr l8)) rfl)) (fun m hm l8=>d6 m hm m l8 rfl)) d5
   refine⟨aW,?_,?_⟩
   ·have axa:=cX.trans eo;have Md:jt U Y (fun c=>X c\/c∈b::pg++b2++rest) (fun c=>X c\/c∈pg++(b::(b2++rest))) D D st M w []:=.nil S fun c hc=>hc.imp id (Be c).2
    have arQ:=Md.trans (vs:=(take bx (1000000+o*100) cs).2++[(o,Site.box s (take bx (1000000+o*100) cs).1)]) axa;have:=arQ.trans (vs:=gD bx boxes cC) (by simpa only[List.nil_append,kK] using fx)
    simpa only[List.nil_append,List.append_assoc] using this
   ·simpa only[kK] using Mg
end
theorem Dk{us:List (Nat×Site)}:∀{sites:List (Nat×Site)} {o:Nat} {s:Site},(keys us).Nodup->(o,s)∈us->look (bp sites us) o=some s:=by
 induction us with
 |nil=>intro sites o s _ h;simp at h
 |cons p us ih=>
  obtain⟨n,aM⟩:=p;intro sites o s hn hm;simp only[keys,List.nodup_cons] at hn;simp only[bp];rcases List.mem_cons.1 hm with hm|hm
  ·cases hm;rw[nb hn.1,cR];simp
  ·exact ih hn.2 hm
section plain
variable {w:World}{av b':Nat->Prop}
theorem P8{d:be}{v:Value}(h:aP.oC (.d d)=false)(r:bF w av d v):bF w b' d v:=by
 cases r with
 |int k n=>exact .int k n
 |bool b=>exact .bool b
 |str l s hs=>exact .str l s hs
 |nil t=>cases h
 |sl=>cases h
 |fn=>cases h
 |u'=>cases h
 |map=>cases h
 |vm T=>exact .vm T
 |err T n=>exact .err T n
theorem ahc{t:bc}(h:t.oC=false)(x:den t):∀d,d∈enc t x->aP.oC (.d d)=false:=by
 cases t<;>first|(cases h;done)|(intro d Z;simp only[enc,List.mem_cons,List.not_mem_nil,or_false] at Z;(rcases Z with rfl|rfl|rfl|rfl|rfl);all_goals rfl)|skip
 all_goals(intro d Z;simp only[enc,List.mem_cons,List.not_mem_nil,or_false] at Z)
 all_goals first|(subst Z;rfl)|(rcases Z with rfl|rfl<;>rfl)|(rcases Z with rfl|rfl|rfl<;>rfl)|(rcases Z with rfl|rfl|rfl|rfl<;>rfl)
theorem agd{t:bc}{xs:List (den t)}{cs:List Value}(h:t.oC=false)(r:cO w av (flat t xs) cs):cO w b' (flat t xs) cs:=by
 refine⟨r.1,fun j g1 g2=>P8 ?_ (r.2 j g1 g2)⟩
 have hm:(flat t xs)[j]∈flat t xs:=List.getElem_mem g1;simp only[flat,List.mem_flatMap] at hm;obtain⟨x,_,hx⟩:=hm;exact ahc h x _ hx
theorem Ng{l:aP}{v:Value}{bs:List Nat}(h:l.oC=false)(k:mC w av l v bs):mC w b' l v bs:=by
 cases l with
 |d x=>exact⟨k.1,P8 h k.2⟩
 |fresh t xs=>
  obtain⟨h1,e,cs,h2,h3⟩:=k;exact⟨h1,e,cs,h2,agd h h3⟩
 |cH v=>exact k
 |dh=>exact k
 |_=>cases h
theorem Nd:∀{ai:List aP} {vs:List Value} {bs:List Nat},rq ai=false->k8 w av ai vs bs->k8 w b' ai vs bs:=by
 intro ai;induction ai with
 |nil=>
  intro vs bs _ k;match vs,k with
  |[],k=>exact k
 |cons l ai ih=>
  intro vs bs h k;simp only[rq,Bool.or_eq_false_iff] at h;match vs,k with
  |v::vs,⟨b1,b2,aD,aF,bI⟩=>exact⟨b1,b2,aD,Ng h.1 aF,ih h.2 bI⟩
theorem adn:∀{as:List bP} {vs:List Value} {bs:List Nat},rh as=false->kV w av as vs bs->kV w b' as vs bs:=by
 intro as;induction as with
 |nil=>
  intro vs bs _ k;match vs,k with
  |[],k=>exact k
 |cons a as ih=>
  intro vs bs h k;simp only[rh,Bool.or_eq_false_iff] at h;match vs,k with
  |v::vs,⟨b1,b2,aD,aF,bI⟩=>
   refine⟨b1,b2,aD,?_,ih h.2 bI⟩;cases a with
   |am l=>
    have h1:=h.1;simp only[bP.cells,rq,Bool.or_false] at h1;exact Ng h1 aF
   |agg ai=>
    obtain⟨us,e,aF⟩:=aF;exact⟨us,e,Nd h.1 aF⟩
theorem adm:∀{cC:List (List aP)} {dl bs:List Nat},rf cC=false->iN w av dl cC bs->iN w b' dl cC bs:=by
 intro cC;induction cC with
 |nil=>
  intro dl bs _ k;match dl,k with
  |[],k=>exact k
 |cons a as ih=>
  intro dl bs h k;simp only[rf,Bool.or_eq_false_iff] at h;match dl,k with
  |b::dl,⟨b1,b2,aD,⟨T,cur,nZ,e1,e2,bv,dq,fa⟩,bI⟩=>
   exact⟨b1,b2,aD,⟨T,cur,nZ,e1,e2,bv,dq,Nd h.1 fa⟩,ih h.2 bI⟩
theorem Ql{l:aP}{v:Value}{bs:List Nat}(k:mC w av l v bs):∀b,b∈bs->b<w.heap.size:=by
 cases l with
 |fresh t xs=>
  obtain⟨h1,e,cs,h2,h3⟩:=k;intro b hb;rw[h1] at hb;rcases h2.2 with⟨h,_⟩|⟨g,cap,cur,fz,h,_,hg,_⟩
  ·rw[h] at hb;simp[bN] at hb
  ·rw[h] at hb;simp[bN] at hb;subst hb;exact(Array.getElem?_eq_some_iff.1 hg).1
 |_=>intro b hb;rw[k.1] at hb;simp at hb
theorem Qk:∀{ai:List aP} {vs:List Value} {bs:List Nat},k8 w av ai vs bs->∀b,b∈bs->b<w.heap.size:=by
 intro ai;induction ai with
 |nil=>
  intro vs bs k;match vs,k with
  |[],k=>have k:bs=[]:=k;intro b hb;rw[k] at hb;simp at hb
 |cons l ai ih=>
  intro vs bs k;match vs,k with
  |v::vs,⟨b1,b2,aD,aF,bI⟩=>
   intro b hb;rw[aD] at hb;rcases List.mem_append.1 hb with hb|hb
   ·exact Ql aF b hb
   ·exact ih bI b hb
theorem ag3:∀{as:List bP} {vs:List Value} {bs:List Nat},kV w av as vs bs->∀b,b∈bs->b<w.heap.size:=by
 intro as;induction as with
 |nil=>
  intro vs bs k;match vs,k with
  |[],k=>have k:bs=[]:=k;intro b hb;rw[k] at hb;simp at hb
 |cons a as ih=>
  intro vs bs k;match vs,k with
  |v::vs,⟨b1,b2,aD,aF,bI⟩=>
   intro b hb;rw[aD] at hb;rcases List.mem_append.1 hb with hb|hb
   ·cases a with
    |am l=>exact Ql (show mC w av l v b1 from aF) b hb
    |agg ai=>obtain⟨us,e,aF⟩:=aF;exact Qk aF b hb
   ·exact ih bI b hb
theorem O6:∀{cC:List (List aP)} {dl bs:List Nat},iN w av dl cC bs->∀b,b∈bs->b<w.heap.size:=by
 intro cC;induction cC with
 |nil=>
  intro dl bs k;match dl,k with
  |[],k=>have k:bs=[]:=k;intro b hb;rw[k] at hb;simp at hb
 |cons a as ih=>
  intro dl bs k;match dl,k with
  |c::dl,⟨b1,b2,aD,⟨T,cur,nZ,e1,e2,bv,_,dq⟩,bI⟩=>
   intro b hb;rw[aD] at hb;rcases List.mem_append.1 hb with hb|hb
   ·rw[e1] at hb;rcases List.mem_cons.1 hb with rfl|hb
    ·exact(Array.getElem?_eq_some_iff.1 e2).1
    ·exact Qk dq b hb
   ·exact ih bI b hb
end plain
section
variable {P:Program}{U:World}{Y:List Nat}{X:Nat->Prop}{D:Nat->Value}{st:al}{M:Array Value}{w:World}{B:Oper}
theorem nc{fL:List Nat}{b:Nat}:b∈cY D fL <-> ∃o,o∈fL/\bN (D o)=some b:=by simp[cY]
theorem MS(S:aq U Y X D st M w):∀{fL:List Nat},fL.Nodup->(∀o,o∈fL->ce st.sites o)->(cY D fL).Nodup:=by
 intro fL;induction fL with
 |nil=>intro _ _;exact List.nodup_nil
 |cons o fL ih=>
  intro hn hl;rw[List.nodup_cons] at hn;have:=ih hn.2 fun ab bS=>hl ab (List.mem_cons_of_mem _ bS)
  simp only[cY,List.filterMap_cons] at this ⊢;cases hb:bN (D o) with
  |none=>simpa using this
  |some b=>
   simp only[List.nodup_cons];refine⟨fun hm=>?_,this⟩
   obtain⟨ab,h1,h2⟩:=nc.1 hm;have:=S.dW o ab b (hl o List.mem_cons_self) (hl ab (List.mem_cons_of_mem _ h1)) hb h2;subst this;exact hn.1 h1
structure arT(U:World)(Y:List Nat)(X:Nat->Prop)(D:Nat->Value)(st:al)(M:Array Value)(w:World)(a:jX)(vs:List Value):Prop where
 fz:dz st.sites a.eG
 lb:∀o,o∈a.fA->ce st.sites o
 m':gF st.sites a.gone
 arg:∀av,fg U Y X D st M w a.eG a.fA av->iJ w av a.as vs (cY D (keys a.gone))
 dl:dI a.as vs=cY D (keys a.boxes)
 e8:∀o s,(o,s)∈a.boxes->(o,.dead s)∈a.gone/\∃b,D o=.pointer (some ⟨b,0,none⟩)
theorem Nl{us:List (Nat×Site)}{sites:List (Nat×Site)}(aR:dz sites us){o:Nat}(h:ce (bp sites us) o):ce sites o:=by
 obtain⟨ae,h1,h2⟩:=h;rcases lB aR o with h|⟨s,t,xs,aE,bi⟩
 ·exact⟨ae,h▸h1,h2⟩
 ·rw[bi] at h1;cases h1;cases h2
theorem ajw(S:aq U Y X D st M w){g:FuncId}{ax:aB}(eD:ay P g ax){a:jX}{vs:List Value}(A:arT U Y X D st M w a vs){d:Nat}(Z:cf st B.dst=true)
  (df:(execOp (Act.eval ⟨M,[]⟩) B).run P w=(callFunc g vs.toArray).run P w):Holds (oP d st ax a) (cz P U Y X st M w B):=by
 intro y hy hc;simp only[oP] at y hy hc ⊢;simp only[Bool.and_eq_true] at hc;obtain⟨⟨⟨⟨c1,c2⟩,c3⟩,dk⟩,gv⟩:=hc;rw[rb] at c1 c3;rw[Pd] at c2 dk;have rj:∀o,o∈keys a.gone->ce st.sites o:=fun o br=>by
  obtain⟨s,hs⟩:=yd br;obtain⟨ae,h1,h2,_⟩:=A.m' o s hs;exact⟨ae,h1,h2⟩
 have O2:∀o,o∈keys a.gone->o∉keys a.eG:=fun o h1 h2=>c2 o (List.mem_append.2 (.inl h2)) h1
 have ay0:∃X':Nat->Prop,∀b,X' b <-> (aH X D (bp st.sites a.eG) b/\b∉cY D (keys a.gone)/\∀o,o∈a.fA->bN (D o)≠some b):=⟨_,fun b=>Iff.rfl⟩
 obtain⟨X',tl⟩:=ay0;have dG:fg U Y X D st M w a.eG a.fA (fun b=>X' b\/b∈cY D (keys a.gone)):=by
  refine⟨⟨S,A.fz⟩,fun b hb=>?_,fun o br b hb hx=>?_⟩
  ·rcases hb with hb|hb
   ·exact((tl b).1 hb).1
   ·obtain⟨o,h1,h2⟩:=nc.1 hb;obtain⟨ae,h3,aE⟩:=rj o h1;exact .inr ⟨o,⟨ae,by rw[nb (O2 o h1)];exact h3,aE⟩,h2⟩
  ·rcases hx with hx|hx
   ·exact((tl b).1 hx).2.2 o br hb
   ·obtain⟨ab,h1,h2⟩:=nc.1 hx;have:=S.dW o ab b (A.lb o br) (rj ab h1) hb h2;subst this;exact c2 o (List.mem_append.2 (.inr br)) h1
 have CI:(cY D (keys a.gone)).Nodup:=MS S c1 rj;have Fy:∀b,b∈cY D (keys a.gone)->¬X b/\(b∈Y\/U.heap.size<=b):=fun b hb=>by
  obtain⟨o,h1,h2⟩:=nc.1 hb;exact S.cg o b (rj o h1) h2
 have aaD:∀b,X b->X' b:=fun b hb=>(tl b).2 ⟨.inl hb,fun h=>(Fy b h).1 hb,fun o br h=>(S.cg o b (A.lb o br) h).1 hb⟩
 have hG:ij w (cY D (keys a.gone)) X':=by
  obtain⟨g1,g2⟩:=S.kC;refine⟨g1,fun b hb h=>?_,fun b hb h=>?_,fun b hb=>(g2 b hb).2⟩
  ·obtain⟨o,h1,h2⟩:=nc.1 h;exact(g2 b hb).1 (.inr ⟨o,rj o h1,h2⟩)
  ·rcases((tl b).1 h).1 with h|⟨o,h1,h2⟩
   ·exact(g2 b hb).1 (.inl h)
   ·exact(g2 b hb).1 (.inr ⟨o,Nl A.fz h1,h2⟩)
 have E:=eD a.as y hy w X' vs (cY D (keys a.gone)) (A.arg _ dG) CI (fun b hb hx=>((tl b).1 hx).2.1 hb) (fun b hb=>dG.lt (.inl hb)) hG
 intro K Q bR;have core:∀v w',(∃ee ed rv,Fr (cY D (keys a.gone)) w w'/\iN w' (fun b=>X' b\/b∈ee++ed) (dI a.as vs) ((ax a.as).e8 y) ee/\kV w' (fun b=>X' b\/b∈ee++ed) ((ax a.as).e5 y) rv ed/\
   v=nw rv/\(ee++ed).Nodup/\∀b,b∈ee++ed->¬X' b/\(b∈cY D (keys a.gone)\/w.heap.size<=b))->K ⟨cr M B.dst v,[]⟩ w':=by
  rintro v w' ⟨ee,ed,rv,aR,hB,dH,rfl,ks,hm⟩;obtain⟨sl,ib⟩:∃sl,(rh ((ax a.as).e5 y)||rf ((ax a.as).e8 y))=sl:=⟨_,rfl⟩;rw[ib] at gv bR;obtain⟨c7,CF⟩:∃c7,(bif sl then a.eG else [])=c7:=⟨_,rfl⟩
  rw[CF] at bR;have XN:dz st.sites c7:=by rw[<-CF];cases sl;exact .nil;exact A.fz
  have aoJ:∀o,o∈keys c7->o∈keys a.eG:=by rw[<-CF];cases sl;intro o h;simp[keys] at h;exact fun o h=>h
  have di:aq U Y X D {st with sites:=bp st.sites c7} M w:=S.zM XN
  have CK:gF (bp st.sites c7) a.gone:=fun o s hs=>by
   obtain⟨ae,h1,h2,h3⟩:=A.m' o s hs;exact⟨ae,by rw[nb (fun h=>O2 o (Fe hs) (aoJ o h))];exact h1,h2,h3⟩
  have hI:=di.aoI CK c1;have iF:=hI.jump (w':=w') (fun b hb hlt=>aR.block b hlt (fun h=>hb (.inr h))) aR.size
   ⟨aR.os.trans S.frame.os,aR.tape.trans S.frame.tape,aR.output.trans S.frame.output,Nat.le_trans S.frame.size aR.size,fun b hlt hb=>by
    rw[aR.block b (Nat.lt_of_lt_of_le hlt S.frame.size) (fun h=>by rcases(Fy b h).2 with aj|aj;exact hb aj;omega)]
    exact S.frame.block b hlt hb⟩
  have avg:∀b,b∈ee++ed->b<w'.heap.size:=fun b hb=>by
   rcases List.mem_append.1 hb with hb|hb
   ·exact O6 hB b hb
   ·exact ag3 dH b hb
  have lA:aq U Y (fun b=>X b\/b∈ee++(ed++[])) D {st with sites:=bp (bp st.sites c7) a.gone} M w':=iF.shrink fun b hb=>by
   rcases hb with hb|hb
   ·exact .inl (.inl hb)
   ·rw[List.append_nil] at hb;rcases(hm b hb).2 with h|h
    ·exact .inl (.inr h)
    ·exact .inr ⟨h,avg b hb⟩
  obtain⟨av,XL,arB,arA⟩:∃av:Nat->Prop,iN w' av (dI a.as vs) ((ax a.as).e8 y) ee/\kV w' av ((ax a.as).e5 y) rv ed/\
    ∀c,aH (fun b=>X b\/b∈ee++(ed++[])) D (bp (bp st.sites c7) a.gone) c->av c:=by
   cases sl with
   |false=>
    rw[Bool.or_eq_false_iff] at ib;exact⟨_,adm ib.2 hB,adn ib.1 dH,fun c hc=>hc⟩
   |true=>
    refine⟨_,hB,dH,fun c hc=>?_⟩
    rcases hc with(hc|hc)|⟨o,⟨ae,h1,h2⟩,h3⟩
    ·exact .inl (aaD c hc)
    ·rw[List.append_nil] at hc;exact .inr hc
    ·refine .inl ((tl c).2 ?_);have br:o∉keys a.gone:=fun h=>by
      obtain⟨s,hs⟩:=yd h;rw[Dk c1 hs] at h1;obtain⟨_,_,_,e⟩:=A.m' o s hs;cases h1;rw[e] at h2;cases h2
     rw[nb br] at h1;have arD:a.eG=c7:=CF;rw[<-arD] at h1;have live:ce st.sites o:=Nl A.fz ⟨ae,h1,h2⟩;refine⟨.inr ⟨o,⟨ae,h1,h2⟩,h3⟩,fun h=>?_,fun ab bS h=>?_⟩
     ·obtain⟨ab,aD,aF⟩:=nc.1 h;have:=S.dW o ab c live (rj ab aD) h3 aF;subst this;exact br aD
     ·simp only[Bool.not_true,Bool.false_or,List.isEmpty_iff] at gv;rw[gv] at bS;simp at bS
  have L:Left U Y X D {st with sites:=bp (bp st.sites c7) a.gone} av (ee++(ed++[])):=by
   refine⟨by simpa using ks,fun b hb=>?_,arA⟩
   rw[List.append_nil] at hb;obtain⟨h1,h2⟩:=hm b hb;refine⟨fun hx=>h1 (aaD b hx),?_⟩
   rcases h2 with h2|h2
   ·exact(Fy b h2).2
   ·exact .inr (Nat.le_trans S.frame.size h2)
  have UF:∀fL,k7 st (bp (bp st.sites c7) a.gone) fL:=fun fL m _ ae hs=>by
   have h1:∀ae,look (bp st.sites c7) m=some ae->ae.cl<bq st m:=fun ae hs=>by
    rcases lB XN m with h|⟨s,t,xs,aE,bi⟩
    ·rw[h] at hs;exact lC hs
    ·rw[bi] at hs;cases hs;rcases aE with aE|aE<;>(have q:=lC aE;exact q)
   by_cases hk:m∈keys a.gone
   ·obtain⟨s,fu⟩:=yd hk;rw[Dk c1 fu] at hs;obtain⟨bV,e1,_,bv⟩:=CK m s fu;rw[bv] at hs;cases hs;exact h1 bV e1
   ·rw[nb hk] at hs;exact h1 ae hs
  rw[jF] at c3;obtain⟨d1,d2,d3⟩:=List.nodup_append.1 c3;rw[A.dl] at XL;obtain⟨gq,cX,q8⟩:=Px st a.boxes (st:={st with sites:=bp (bp st.sites c7) a.gone}) lA (mX.of fun o s hs=>(A.e8 o s hs).2) XL
   (fun o s hs=>Dk c1 (A.e8 o s hs).1) L (UF _) d1
  obtain⟨hS,eo,jU,_⟩:=ahP st ((ax a.as).e5 y) (2000000+d*10000) (st:={st with sites:=bp (bp (bp st.sites c7) a.gone) (gD st a.boxes ((ax a.as).e8 y))}) cX.iU arB q8
   (k7.step (UF _) (fun n h1 h2=>d3 n h1 n h2 rfl)) d2
  have Mf:aq U Y X hS {st with sites:=bp st.sites (c7++a.gone++gD st a.boxes ((ax a.as).e8 y)++(dS st (2000000+d*10000) ((ax a.as).e5 y)).2)} M w':=by
   have:=eo.iU.shrink (X':=X) fun b hb=>.inl hb
   simpa only[kK] using this
  refine bR hS _ w' (aq.cW Mf Z (v:=Us (dS st (2000000+d*10000) ((ax a.as).e5 y)).1) ?_);have UT:oQ hS (bp st.sites (c7++a.gone++gD st a.boxes ((ax a.as).e8 y)++(dS st (2000000+d*10000) ((ax a.as).e5 y)).2)) w'
    (aH X hS (bp st.sites (c7++a.gone++gD st a.boxes ((ax a.as).e8 y)++(dS st (2000000+d*10000) ((ax a.as).e5 y)).2))) (dS st (2000000+d*10000) ((ax a.as).e5 y)).1 rv:=by
   have e:(fun b=>X b\/b∈([]:List Nat))=X:=by funext b;simp
   rw[e] at jU;simpa only[kK] using jU
  generalize(dS st (2000000+d*10000) ((ax a.as).e5 y)).1=avh at UT;match avh,rv,UT with
  |[],[],h=>exact⟨[],rfl,rfl,fun j h=>by simp at h⟩
  |[l],[v],h=>exact h.2 0 (by simp) (by simp)
  |l::fw::ai,v::v2::cS,h=>exact⟨v::v2::cS,rfl,h.1,h.2⟩
 rcases E with⟨h1,h2⟩|⟨v,w',h1,h2⟩
 ·unfold Oper.wp;rw[df,h1,Oper.upon_enter];refine h2.mono fun e w' he=>?_
  cases e with
  |returned v=>
   have:=core v w' he;cases dp:B.dst with
   |none=>rw[dp] at this;simpa[Act.put,cr] using this
   |some t=>rw[dp] at this;simpa[Act.put,cr] using this
  |panicked c=>exact he.elim
  |outgrown=>exact he.elim
 ·exact oy (df.trans h1) (core v w' h2)
end
def A4(P:Program)(g:FuncId):Prop:=
 ∀(b:Nat) (p v:Value) (w:World),w.heap[b]? =some (.cells #[p,v] qN (0,0))->(p=.pointer none\/p=.pointer (some ⟨b,0,none⟩))->
  Enters P g #[.pointer (some ⟨b,0,none⟩)] w fun r w'=>r=.tuple #[]/\w'=w.setRow b #[.pointer (some ⟨b,0,none⟩),v]
def Bo(P:Program)(g:FuncId):Prop:=
 ∀(b:Nat) (p v:Value) (T:TypeId) (xs:List Int) (w:World),w.heap[b]? =some (.cells #[p,v] T (0,0))->rowAt w true mb 1 v xs.length (xs.map (Value.int .u8))->
  Enters P g #[.pointer (some ⟨b,0,none⟩)] w fun r w'=>r=.string ⟨(strOf xs).toArray⟩/\w'.os=w.os/\w'.tape=w.tape/\w'.output=w.output/\w.heap.size<=w'.heap.size/\
   (∀c,c<w.heap.size->bN v≠some c->w'.heap[c]? =w.heap[c]?)/\∀c cur e fz,bN v=some c->w.heap[c]? =some (.cells cur e fz)->∃fz',w'.heap[c]? =some (.cells cur e fz')
section
variable {P:Program}{U:World}{Y:List Nat}{X:Nat->Prop}{D:Nat->Value}{st:al}{M:Array Value}{w:World}{B:Oper}
theorem aq.ajg(S:aq U Y X D st M w){o s:Nat}{t:bc}{xs:List (den t)}(hl:look st.sites o=some (.row s t xs)){w':World}(h1:w'.os=w.os)(h2:w'.tape=w.tape)(h3:w'.output=w.output)(aE:w.heap.size<=w'.heap.size)
  (bi:∀c,c<w.heap.size->bN (D o)≠some c->w'.heap[c]? =w.heap[c]?) (ca:∀c cur e fz,bN (D o)=some c->w.heap[c]? =some (.cells cur e fz)->∃fz',w'.heap[c]? =some (.cells cur e fz')):
  aq U Y X D {st with sites:=ci st.sites o (.c8 s t xs)} M w':=by
 have cB:ce st.sites o:=⟨_,hl,rfl⟩;have d_:∀ab,ce (ci st.sites o (.c8 s t xs)) ab->ce st.sites ab/\ab≠o:=by
  rintro ab ⟨ae,h1,h2⟩;rw[cR] at h1;by_cases e:o=ab
  ·subst e;simp at h1;subst h1;cases h2
  ·simp only[e,if_false] at h1;exact⟨⟨ae,h1,h2⟩,fun h=>e h.symm⟩
 have b6:∀bG,aH X D (ci st.sites o (.c8 s t xs)) bG->aH X D st.sites bG:=by
  rintro bG (h|⟨ab,h1,h2⟩)
  ·exact .inl h
  ·exact .inr ⟨ab,(d_ ab h1).1,h2⟩
 have aR:=S.frame;refine S.qc (fun ab ae bS=>?_) (fun bG h hb=>bi bG hb (fun aj=>h (.inr ⟨o,cB,aj⟩))) (fun bG h _ aj=>h (b6 bG aj)) (fun go ab ae bS=>?_) (fun ab ρ bG h1 h2=>S.dW ab ρ bG (d_ ab h1).1 (d_ ρ h2).1)
  (fun ab bG h=>S.cg ab bG (d_ ab h).1) (fun ab bG h hb=>Nat.lt_of_lt_of_le (S.fp (d_ ab h).1 hb) aE)
  ⟨h1.trans aR.os,h2.trans aR.tape,h3.trans aR.output,Nat.le_trans aR.size aE,fun b hb hn=>by
   have hs:=aR.size;rw[bi b (by omega) (fun aj=>by
    rcases(S.cg o b cB aj).2 with aj|aj
    ·exact hn aj
    ·omega)]
   exact aR.block b hb hn⟩ aE
 ·rw[cR];by_cases e:o=ab
  ·subst e;rw[hl] at bS;cases bS;exact⟨.c8 s t xs,by simp,Nat.le_refl _,fun _=>rfl⟩
  ·exact⟨ae,by simp[e,bS],Nat.le_refl _,fun _=>rfl⟩
 ·rw[cR] at bS;by_cases e:o=ab
  ·subst e;simp only[if_true,Option.some.injEq] at bS;subst bS;refine .inr ?_
   show bF _ _ (.sl t xs) (D o)/\BZ (D o);obtain⟨cy,cs,aD,aF⟩:=S.sites o _ hl;rcases aD.2 with⟨hn,h0⟩|⟨g,cap,cur,fz,hv,_,hg,hnc,_,_,htk⟩
   ·have:xs=[]:=List.eq_nil_of_length_eq_zero h0;subst this;rw[hn];exact⟨.nil t,.inl rfl⟩
   ·obtain⟨fz',hg'⟩:=ca g cur cy fz (by rw[hv];rfl) hg
    rw[hv];refine⟨?_,.inr ⟨_,_,_,rfl⟩⟩;have hlen:cs.length=(flat t xs).length:=by rw[eS];exact aD.1
    refine .sl t xs _ cap cs xs.length rfl hnc (fun _=>?_) hlen (fun j u hu=>?_) (fun j g1 g2=>oK go (aF j g1 g2))
    ·rintro(hx|⟨ab,g1,g2⟩)
     ·exact(S.cg o g cB (by rw[hv];rfl)).1 hx
     ·obtain⟨g3,g4⟩:=d_ ab g1;exact g4 (S.dW ab o g g3 cB g2 (by rw[hv];rfl))
    ·rw[gC,Nat.zero_add,cell_of_row w' g j cur cy fz' hg'];rw[<-htk,List.getElem?_take] at hu;split at hu
     ·simpa using hu
     ·cases hu
  ·simp only[e,if_false] at bS;refine .inl ⟨bS,rfl,fun sK b hb=>bi b (S.fp ⟨_,bS,sK⟩ hb) fun h=>e (S.dW o ab b cB ⟨_,bS,sK⟩ h hb)⟩
theorem EF{g:FuncId}{vs:List Value}{post:Value->World->Prop}(df:(execOp (Act.eval ⟨M,[]⟩) B).run P w=(callFunc g vs.toArray).run P w)(eD:Enters P g vs.toArray w post){K:Act->World->Prop}{Q:Exit->Act->World->Prop}
  (core:∀v w',post v w'->K ⟨cr M B.dst v,[]⟩ w'):B.wp P ⟨M,[]⟩ w K Q:=by
 rcases eD with⟨h1,h2⟩|⟨v,w',h1,h2⟩
 ·unfold Oper.wp;rw[df,h1,Oper.upon_enter];refine h2.mono fun e w' he=>?_
  cases e with
  |returned v=>
   have:=core v w' he;cases dp:B.dst with
   |none=>rw[dp] at this;simpa[Act.put,cr] using this
   |some t=>rw[dp] at this;simpa[Act.put,cr] using this
  |panicked c=>exact he.elim
  |outgrown=>exact he.elim
 ·exact oy (df.trans h1) (core v w' h2)
theorem ajt(S:aq U Y X D st M w){g:FuncId}(eD:A4 P g){cu:List aZ}{vs:List Value}(hl:cu.length=vs.length)
  (hv:∀i (h:i<cu.length) (aj:i<vs.length),b_ D st.sites w (aH X D st.sites) (cu[i]) (vs[i])) (Z:cf st B.dst=true) (df:(execOp (Act.eval ⟨M,[]⟩) B).run P w=(callFunc g vs.toArray).run P w):
  Holds (copyV st cu) (cz P U Y X st M w B):=by
 unfold copyV;split
 ·rename_i o s;split
  ·rename_i aM l gl;have gl:look st.sites o=some (.box aM [.dh,l]):=gl;cases lp:aM.beq s with
   |false=>exact .fail
   |true=>
    have:=Nat.eq_of_beq_eq_true lp;subst this;refine Holds.fk ?_
    intro K Q bR;match vs,hl,hv,df with
    |[qT],_,hv,df=>
    obtain⟨q4,hb0,lq⟩:dM D st.sites w (aH X D st.sites) (.ptr o aM 0) qT:=hv 0 (by simp) (by simp)
    have lq:=Ref.at lq gl rfl;obtain⟨b,T,cur,e1,e2,bv,dq,fa,tz⟩:=S.sites o _ gl;rw[e1] at lq;have lq:b=q4:=by cases lq;rfl
    subst lq;subst hb0;match cur,e2,bv,dq,fa,tz with
    |[p,v],e2,_,dq,fa,tz=>
     obtain⟨rfl,hp⟩:=fa rfl;have hp:p=.pointer none\/p=.pointer (some ⟨b,0,none⟩):=by simpa using hp
     refine EF df (eD b p v w e2 hp) ?_
     rintro r w' ⟨rfl,rfl⟩;have cc:aq U Y X D {st with sites:=ci st.sites o (.box aM [.dh,l])} M (w.setRow b #[.pointer (some ⟨b,0,none⟩),v]):=by
      refine S.write gl rfl rfl rfl (by rw[e1];rfl) e2 (fun hs hw hg' go=>⟨b,qN,[.pointer (some ⟨b,0,none⟩),v],e1,hg',rfl,fun u hu=>?_,fun _=>⟨rfl,.inr rfl⟩,fun j h aj=>?_⟩)
      ·rcases List.mem_cons.1 hu with rfl|hu
       ·rfl
       ·exact dq u (List.mem_cons_of_mem _ hu)
      ·match j,h,aj with
       |0,_,_=>trivial
       |1,_,_=>exact go (a:=bZ l) (tz 1 (by simp) (by simp))
     exact bR _ _ _ (aq.cW (us:=[(o,.box aM [.dh,l])]) cc Z (v:=.ju []) ⟨[],rfl,rfl,fun j h=>by simp at h⟩)
  ·exact .fail
 ·exact .fail
theorem ahO{av:Nat->Prop}{xs:List Int}{cs:List Value}(h0:cs.length=xs.length)(h:∀j (h:j<(flat .u8 (xs:List (den .u8))).length) (aj:j<cs.length),bF w av ((flat .u8 (xs:List (den .u8)))[j]) (cs[j])):cs=xs.map (Value.int .u8):=by
 refine List.ext_getElem (by rw[List.length_map];exact h0) fun j g1 g2=>?_
 have aaz:j<xs.length:=by simpa using g2
 have:=h j (by rw[eS];simpa[bb] using aaz) g1
 rw[List.getElem_map];generalize Z:(flat .u8 (xs:List (den .u8)))[j]'(by rw[eS];simpa[bb] using aaz)=d at this
 have hd2:d=.int .u8 xs[j]:=by
  rw[<-Z];simp only[rM,List.getElem_map]
 subst hd2;generalize cs[j]=v at this;cases this;rfl
theorem aeC(S:aq U Y X D st M w){g:FuncId}(eD:Bo P g){cu:List aZ}{vs:List Value}(hl:cu.length=vs.length)
  (hv:∀i (h:i<cu.length) (aj:i<vs.length),b_ D st.sites w (aH X D st.sites) (cu[i]) (vs[i])) (Z:cf st B.dst=true) (df:(execOp (Act.eval ⟨M,[]⟩) B).run P w=(callFunc g vs.toArray).run P w):
  Holds (rE st cu) (cz P U Y X st M w B):=by
 unfold rE;split
 ·rename_i o s;match vs,hl,hv,df with
  |[qT],_,hv,df=>
  have mP:dM D st.sites w (aH X D st.sites) (.ptr o s 0) qT:=hv 0 (by simp) (by simp)
  split
  ·rename_i abJ lW;have gl:=gx lW;obtain⟨b,T,cur,cG,rfl,hg,_,hc⟩:=S.box gl mP;refine Holds.ok ?_
   intro K Q bR;obtain⟨p,r1,rfl,_,hc⟩:=hc.inv;obtain⟨v,r2,rfl,vR,hc⟩:=hc.inv;have:r2=[]:=List.eq_nil_of_length_eq_zero hc.1;subst this;have vR:v=.slice none 0 0:=vR;subst vR;refine EF df (eD b p _ T [] w hg (Ed w true mb 1)) ?_
   rintro r w' ⟨rfl,aD,aF,bI,cJ,fM,iD⟩;have di:=S.jump (w':=w') (fun c _ hc=>fM c hc (by simp[bN])) cJ ⟨aD.trans S.frame.os,aF.trans S.frame.tape,bI.trans S.frame.output,Nat.le_trans S.frame.size cJ,fun c hc hn=>by
    rw[fM c (Nat.lt_of_lt_of_le hc S.frame.size) (by simp[bN])]
    exact S.frame.block c hc hn⟩
   have hI:aq U Y X D {st with sites:=bp st.sites []} M w':=di.shrink fun b hb=>.inl hb
   exact bR _ _ _ (aq.cW (us:=[]) hI Z (v:=one (.str [])) (bF.str _ _ rfl))
  ·rename_i abJ ab u lW;have gl:=gx lW;obtain⟨b,T,cur,cG,rfl,hg,_,hc⟩:=S.box gl mP;split
   ·rename_i bT xs hrow;have hrow:look st.sites ab=some (.row bT .u8 xs):=hrow;cases avF:bT.beq u with
    |false=>exact .fail
    |true=>
     have:=Nat.eq_of_beq_eq_true avF;subst this;refine Holds.fk ?_
     intro K Q bR;obtain⟨p,r1,rfl,_,hc⟩:=hc.inv;obtain⟨v,r2,rfl,vR,hc⟩:=hc.inv;have:r2=[]:=List.eq_nil_of_length_eq_zero hc.1;subst this;have Xw:v=D ab:=Ref.at vR.2 hrow rfl;obtain⟨e,cs,h1,h2⟩:=S.sites ab _ hrow;have hlen:cs.length=xs.length:=by have:=h1.1;simpa[bb] using this
     have hcs:cs=List.map (Value.int .u8) xs:=ahO hlen h2;have lf:rowAt w true mb 1 v xs.length (List.map (Value.int .u8) xs):=by
      rw[<-hcs,Xw];refine⟨h1.1,?_⟩;rcases h1.2 with h|⟨cn,cap,cur',fz,q1,q2,eC⟩
      ·exact .inl h
      ·have:=q2.1 rfl;subst this;exact .inr ⟨cn,cap,cur',fz,q1,q2,eC⟩
     refine EF df (eD b p v T xs w hg lf) ?_
     rintro r w' ⟨rfl,aD,aF,bI,cJ,fM,iD⟩;rw[Xw] at fM iD;have hI:=S.ajg hrow aD aF bI cJ fM iD;exact bR _ _ _ (aq.cW (us:=[(ab,.c8 bT .u8 xs)]) hI Z (v:=one (.str (strOf xs))) (bF.str _ _ (by simp)))
   ·exact .fail
  ·exact .fail
 ·exact .fail
end
def zS(P:Program)(g cn:FuncId):Prop:=
 ∀(a b:ByteArray) (w:World),Enters P g #[.string a,.string b] w fun v w'=>∃cX eo,v=.func (.func cn) #[] #[.pointer (some ⟨w.heap.size+1,0,none⟩),.pointer (some ⟨w.heap.size,0,none⟩),.pointer (some ⟨w.heap.size+2,0,none⟩)]/\
  w'=((w.alloc (.cells #[.string a] cX)).alloc (.cells #[.string b] cX)).alloc (.cells #[.int .i64 0] eo)
def A2(P:Program)(g:FuncId):Prop:=
 ∀(xs:List Int) (v:Value) (w:World) (av:Nat->Prop),bF w av (.sl .u8 xs) v->Enters P g #[v] w fun v' w'=>∃u T,bF w av (.sl .u8 (xs.take 2000)) u/\v'=.pointer (some ⟨w.heap.size,0,none⟩)/\w'=w.alloc (.cells #[u,.int .i64 0] T)
structure aQ(P:Program)(C:Ctx):Prop extends CtxOk P C where
 bO:∀g S,C.bO g=some S->ay P g S
 LU:P.follows .mixedOrders=true
 lw:∀g cn,C.lw g=some cn->zS P g cn
 op:∀g,C.op g=true->A2 P g
 j6:∀g,C.j6 g=true->A4 P g
 bs:∀g,C.bs g=true->Bo P g
section
variable {P:Program}{U:World}{Y:List Nat}{X:Nat->Prop}{D:Nat->Value}{st:al}{M:Array Value}{w:World}{B:Oper}
theorem Pg:∀{bA:List (Nat×Nat)} {cs:List (List be)} {us:List (Nat×Site)} {bs:List Nat},kU st bA=some (cs,us,bs)->dz st.sites us/\∀o,o∈bs->ce st.sites o:=by
 intro bA;induction bA with
 |nil=>intro cs us bs h;simp only[kU] at h;cases h;exact⟨.nil,fun o h=>by simp at h⟩
 |cons c bA ih=>
  obtain⟨o,s⟩:=c;intro cs us bs h;simp only[kU] at h;split at h
  ·rename_i cells lW;split at h
   ·rename_i ds u1 rest u2 b2 gr oM;cases h;obtain⟨aD,aF⟩:=ih oM;refine⟨(Hs gr).append aD,fun ab bS=>?_⟩
    rcases List.mem_cons.1 bS with rfl|bS
    ·exact⟨_,gx lW,rfl⟩
    ·exact aF ab bS
   ·cases h
  ·cases h
theorem GG{l ga:aP}{us:List (Nat×Site)}{bs:List Nat}(h:mF st l=some (ga,us,bs)):dz st.sites us/\∀o,o∈bs->ce st.sites o:=by
 unfold mF at h;split at h
 ·cases h;exact⟨.nil,fun o h=>by simp at h⟩
 ·split at h
  ·rename_i hc;cases h;exact Pg hc
  ·cases h
 ·split at h
  ·rename_i Z;cases h;exact⟨TV Z,fun o h=>by simp at h⟩
  ·cases h
theorem aiY:∀{ai fX:List aP} {us:List (Nat×Site)} {bs:List Nat},lM st ai=some (fX,us,bs)->dz st.sites us/\∀o,o∈bs->ce st.sites o:=by
 intro ai;induction ai with
 |nil=>intro fX us bs h;simp only[lM] at h;cases h;exact⟨.nil,fun o h=>by simp at h⟩
 |cons l ai ih=>
  intro fX us bs h;simp only[lM] at h;split at h
  ·rename_i a u1 b1 as u2 b2 h1 h2;cases h;obtain⟨aD,aF⟩:=GG h1;obtain⟨bI,cJ⟩:=ih h2;refine⟨aD.append bI,fun o br=>?_⟩
   rcases List.mem_append.1 br with h|h
   ·exact aF o h
   ·exact cJ o h
  ·cases h
theorem agM:∀{cu:List aZ} {a:jX},iM st cu=some a->dz st.sites a.eG/\∀o,o∈a.fA->ce st.sites o:=by
 intro cu;induction cu with
 |nil=>intro a h;simp only[iM] at h;cases h;exact⟨.nil,fun o h=>by simp at h⟩
 |cons qW cu ih=>
  intro a h;unfold iM at h;split at h
  ·cases ‹qW::cu=[]›
  ·rename_i b0;cases b0;split at h
   ·rename_i hr;split at h
    ·cases h;have q:=ih hr;exact q
    ·cases h
   ·cases h
  ·rename_i b0;cases b0;split at h
   ·rename_i h1 hr;cases h;obtain⟨aD,aF⟩:=GG h1;obtain⟨bI,cJ⟩:=ih hr;refine⟨aD.append bI,fun o br=>?_⟩
    rcases List.mem_append.1 br with h|h
    ·exact aF o h
    ·exact cJ o h
   ·cases h
  ·rename_i b0;cases b0;split at h
   ·rename_i h1 hr;cases h;obtain⟨aD,aF⟩:=aiY h1;obtain⟨bI,cJ⟩:=ih hr;refine⟨aD.append bI,fun o br=>?_⟩
    rcases List.mem_append.1 br with h|h
    ·exact aF o h
    ·exact cJ o h
   ·cases h
  ·cases h
theorem ag5{l ga:aP}{gs us:List (Nat×Site)}{bs:List Nat}(h:oF st l=some (ga,gs,us,bs)):dz st.sites us/\∀o,o∈bs->ce st.sites o:=by
 unfold oF at h;split at h
 ·split at h
  ·cases h;exact⟨.nil,fun o h=>by simp at h⟩
  ·cases h
 ·cases h;exact⟨.nil,fun o h=>by simp at h⟩
 ·split at h
  ·rename_i hl;cases h;exact GG hl
  ·cases h
theorem ae3:∀{cu:List aZ} {a:jX},lG st cu=some a->dz st.sites a.eG/\∀o,o∈a.fA->ce st.sites o:=by
 intro cu;induction cu with
 |nil=>intro a h;simp only[lG] at h;cases h;exact⟨.nil,fun o h=>by simp at h⟩
 |cons qW cu ih=>
  intro a h;unfold lG at h;split at h
  ·cases ‹qW::cu=[]›
  ·rename_i b0;cases b0;split at h
   ·rename_i h1 hr;cases h;obtain⟨aD,aF⟩:=ag5 h1;obtain⟨bI,cJ⟩:=ih hr;refine⟨aD.append bI,fun o br=>?_⟩
    rcases List.mem_append.1 br with h|h
    ·exact aF o h
    ·exact cJ o h
   ·cases h
  ·cases h
theorem ae1{b:Bool}{cu:List aZ}{a:jX}(h:rF b st cu=some a):dz st.sites a.eG/\∀o,o∈a.fA->ce st.sites o:=by
 cases b
 ·exact agM h
 ·exact ae3 h
theorem anb(S:aq U Y X D st M w)(C:Ctx):∀(xs:List Operand) (cL:List TypeId),(fZ C st xs cL).length=(xs.map (Act.eval ⟨M,[]⟩)).length/\
  ∀i (h:i<(fZ C st xs cL).length) (aj:i<(xs.map (Act.eval ⟨M,[]⟩)).length),b_ D st.sites w (aH X D st.sites) ((fZ C st xs cL)[i]) ((xs.map (Act.eval ⟨M,[]⟩))[i]):=by
 intro xs;induction xs with
 |nil=>intro cL;cases cL<;>exact⟨rfl,fun i h=>by simp[fZ] at h⟩
 |cons x xs ih=>
  intro cL;have key:∀(T:TypeId) (Lo:List TypeId),fZ C st (x::xs) cL=bd C st T x::fZ C st xs Lo->(fZ C st (x::xs) cL).length=((x::xs).map (Act.eval ⟨M,[]⟩)).length/\
    ∀i (h:i<(fZ C st (x::xs) cL).length) (aj:i<((x::xs).map (Act.eval ⟨M,[]⟩)).length),b_ D st.sites w (aH X D st.sites) ((fZ C st (x::xs) cL)[i]) (((x::xs).map (Act.eval ⟨M,[]⟩))[i]):=by
   intro T Lo e;obtain⟨aD,aF⟩:=ih Lo;refine⟨by rw[e];simp[aD],fun i h aj=>?_⟩
   simp only[e];cases i with
   |zero=>exact dn S C T x
   |succ i=>
    simp only[List.getElem_cons_succ,List.map_cons];exact aF i (by simpa[e] using h) (by simpa using aj)
  cases cL with
  |nil=>exact key 0 [] rfl
  |cons T cL=>exact key T cL rfl
theorem afY(S:aq U Y X D st M w){g cn:FuncId}(eD:zS P g cn){n:Nat}{cu:List aZ}{vs:List Value}(hl:cu.length=vs.length)
  (hv:∀i (h:i<cu.length) (aj:i<vs.length),b_ D st.sites w (aH X D st.sites) (cu[i]) (vs[i])) (Z:cf st B.dst=true) (df:(execOp (Act.eval ⟨M,[]⟩) B).run P w=(callFunc g vs.toArray).run P w):
  Holds (rT cn n st cu) (cz P U Y X st M w B):=by
 unfold rT;split
 ·rename_i s p;refine Holds.fk ?_
  intro K Q bR;match vs,hl,hv,df with
  |[qT,vb],_,hv,df=>
  obtain⟨a,ha,iY⟩:=gh (hv 0 (by simp) (by simp))
  obtain⟨b,hb,dP⟩:=gh (hv 1 (by simp) (by simp))
  simp only[List.getElem_cons_zero,List.getElem_cons_succ] at ha hb;subst ha hb;have core:∀v w',(∃cX eo,v=.func (.func cn) #[] #[.pointer (some ⟨w.heap.size+1,0,none⟩),.pointer (some ⟨w.heap.size,0,none⟩),.pointer (some ⟨w.heap.size+2,0,none⟩)]/\
    w'=((w.alloc (.cells #[.string a] cX)).alloc (.cells #[.string b] cX)).alloc (.cells #[.int .i64 0] eo))->K ⟨cr M B.dst v,[]⟩ w':=by
   rintro v w' ⟨cX,eo,rfl,hw⟩;have hsz:w'.heap.size=w.heap.size+3:=by rw[hw];simp
   have hold:∀b,b<w.heap.size->w'.heap[b]? =w.heap[b]? :=fun b hb=>by
    rw[hw];rw[RowKit.Below.heap_alloc _ _ _ (by simp;omega),RowKit.Below.heap_alloc _ _ _ (by simp;omega),RowKit.Below.heap_alloc _ _ _ hb]
   have h0:w'.heap[w.heap.size]? =some (.cells #[.string a] cX):=by
    rw[hw,RowKit.Below.heap_alloc _ _ _ (by simp only[World.size_alloc];omega),RowKit.Below.heap_alloc _ _ _ (by simp only[World.size_alloc];omega)];exact World.alloc_heap_new w _
   have h1:w'.heap[w.heap.size+1]? =some (.cells #[.string b] cX):=by
    rw[hw,RowKit.Below.heap_alloc _ _ _ (by simp only[World.size_alloc];omega)]
    have:=World.alloc_heap_new (w.alloc (.cells #[.string a] cX)) (.cells #[.string b] cX);rwa[World.size_alloc] at this
   have h2:w'.heap[w.heap.size+2]? =some (.cells #[.int .i64 0] eo):=by
    rw[hw];have:=World.alloc_heap_new ((w.alloc (.cells #[.string a] cX)).alloc (.cells #[.string b] cX)) (.cells #[.int .i64 0] eo);rwa[World.size_alloc,World.size_alloc] at this
   have K2:Fr Y U w':=⟨by rw[hw];exact S.frame.os,by rw[hw];exact S.frame.tape,by rw[hw];exact S.frame.output,by have:=S.frame.size;omega,fun b hb hn=>by
    have:=S.frame.size;rw[hold b (by omega)];exact S.frame.block b hb hn⟩
   have oL:=S.frame.size;have di:=S.jump (w':=w') (fun b _ hb=>hold b hb) (by omega) K2
   have mk:∀{D:Nat->Value} {sites:List (Nat×Site)} {av:Nat->Prop} {m k:Nat} {T:TypeId} {x:Value} {d:be},D m=.pointer (some ⟨k,0,none⟩)->w'.heap[k]? =some (.cells #[x] T)->bF w' av d x->
     jM D sites w' av m (.box (bq st m) [.d d]):=by
    intro D sites av m k T x d e1 e2 bv;refine⟨k,T,[x],e1,e2,rfl,fun u hu=>?_,(fun h=>by cases h),fun j h aj=>?_⟩
    ·rw[List.mem_singleton.1 hu];exact bv.je
    ·match j,h,aj with
     |0,_,_=>exact bv
   obtain⟨Mt,_,_⟩:=di.u0 (X':=fun b=>(X b\/(w.heap.size<=b/\b<w'.heap.size))/\b≠w.heap.size+1) (n:=n) (bV:=.box (bq st n) [.d (.str p)]) (nv:=.pointer (some ⟨w.heap.size+1,0,none⟩)) (fun b h=>h.1)
    (.inl fun ae h=>lC h) (fun b h=>by simp only[bN,Option.some.injEq] at h;subst h;exact⟨.inr ⟨by omega,by omega⟩,fun h=>h.2 rfl,.inr (by omega)⟩) (fun _ e _ _=>mk e h1 (.str _ _ dP))
   obtain⟨Ms,_,_⟩:=Mt.u0 (X':=fun b=>((X b\/(w.heap.size<=b/\b<w'.heap.size))/\b≠w.heap.size+1)/\b≠w.heap.size) (n:=n+1) (bV:=.box (bq st (n+1)) [.d (.str s)]) (nv:=.pointer (some ⟨w.heap.size,0,none⟩)) (fun b h=>h.1)
    (.inl fun ae h=>by
     have h:look (ci st.sites n _) (n+1)=some ae:=h;rw[cR,if_neg (by omega)] at h
     exact lC h) (fun b h=>by simp only[bN,Option.some.injEq] at h;subst h;exact⟨⟨.inr ⟨by omega,by omega⟩,by omega⟩,fun h=>h.2 rfl,.inr (by omega)⟩) (fun _ e _ _=>mk e h0 (.str _ _ iY))
   obtain⟨Mr,_,_⟩:=Ms.u0 (X':=X) (n:=n+2) (bV:=.box (bq st (n+2)) [.d (.int .i64 0)]) (nv:=.pointer (some ⟨w.heap.size+2,0,none⟩)) (fun b h=>by have:=S.old b h;exact⟨⟨.inl h,by omega⟩,by omega⟩)
    (.inl fun ae h=>by
     have h:look (ci (ci st.sites n _) (n+1) _) (n+2)=some ae:=h;rw[cR,if_neg (by omega),cR,if_neg (by omega)] at h
     exact lC h) (fun b h=>by simp only[bN,Option.some.injEq] at h;subst h;exact⟨⟨⟨.inr ⟨by omega,by omega⟩,by omega⟩,by omega⟩,fun h=>by have:=S.old _ h;omega,.inr (by omega)⟩) (fun _ e _ _=>mk e h2 (.int _ _))
   refine bR _ _ w' (aq.cW (us:=[(n,.box (bq st n) [.d (.str p)]),(n+1,.box (bq st (n+1)) [.d (.str s)]),(n+2,.box (bq st (n+2)) [.d (.int .i64 0)])]) Mr Z (v:=bZ (.clo cn _)) ?_);refine⟨[.pointer (some ⟨w.heap.size+1,0,none⟩),.pointer (some ⟨w.heap.size,0,none⟩),.pointer (some ⟨w.heap.size+2,0,none⟩)],rfl,rfl,fun i hi iX=>?_⟩
   match i,hi,iX with
   |0,_,_=>exact⟨.box (bq st n) [.d (.str p)],by simp[bp,cR],Nat.le_refl _,fun _=>by simp⟩
   |1,_,_=>exact⟨.box (bq st (n+1)) [.d (.str s)],by simp[bp,cR],Nat.le_refl _,fun _=>by simp⟩
   |2,_,_=>exact⟨.box (bq st (n+2)) [.d (.int .i64 0)],by simp[bp,cR],Nat.le_refl _,fun _=>by simp⟩
  rcases eD a b w with⟨h1,h2⟩|⟨v,w',h1,h2⟩
  ·unfold Oper.wp;rw[df,h1,Oper.upon_enter];refine h2.mono fun e w' he=>?_
   cases e with
   |returned v=>
    have:=core v w' he;cases dp:B.dst with
    |none=>rw[dp] at this;simpa[Act.put,cr] using this
    |some t=>rw[dp] at this;simpa[Act.put,cr] using this
   |panicked c=>exact he.elim
   |outgrown=>exact he.elim
  ·exact oy (df.trans h1) (core v w' h2)
 ·exact .fail
theorem aiN(S:aq U Y X D st M w){g:FuncId}(eD:A2 P g){n:Nat}{cu:List aZ}{vs:List Value}(hl:cu.length=vs.length)
  (hv:∀i (h:i<cu.length) (aj:i<vs.length),b_ D st.sites w (aH X D st.sites) (cu[i]) (vs[i])) (Z:cf st B.dst=true) (df:(execOp (Act.eval ⟨M,[]⟩) B).run P w=(callFunc g vs.toArray).run P w):
  Holds (so n st cu) (cz P U Y X st M w B):=by
 unfold so;split
 ·rename_i xs;refine Holds.fk ?_
  intro K Q bR;match vs,hl,hv,df with
  |[qT],_,hv,df=>
  have dO:bF w (aH X D st.sites) (.sl .u8 xs) qT:=hv 0 (by simp) (by simp)
  have core:∀v w',(∃u T,bF w (aH X D st.sites) (.sl .u8 (xs.take 2000)) u/\v=.pointer (some ⟨w.heap.size,0,none⟩)/\w'=w.alloc (.cells #[u,.int .i64 0] T))->K ⟨cr M B.dst v,[]⟩ w':=by
   rintro v w' ⟨u,T,hu,rfl,hw⟩;have hsz:w'.heap.size=w.heap.size+1:=by rw[hw];simp
   have hold:∀b,b<w.heap.size->w'.heap[b]? =w.heap[b]? :=fun b hb=>by
    rw[hw,RowKit.Below.heap_alloc _ _ _ hb]
   have h0:w'.heap[w.heap.size]? =some (.cells #[u,.int .i64 0] T):=by rw[hw];exact World.alloc_heap_new w _
   have K2:Fr Y U w':=⟨by rw[hw];exact S.frame.os,by rw[hw];exact S.frame.tape,by rw[hw];exact S.frame.output,by have:=S.frame.size;omega,fun b hb hn=>by
    have:=S.frame.size;rw[hold b (by omega)];exact S.frame.block b hb hn⟩
   have oL:=S.frame.size;have di:=S.jump (w':=w') (fun b _ hb=>hold b hb) (by omega) K2
   have gd:∀b,X b->b<w.heap.size:=S.old;have arm:∀b,aH (fun b=>X b\/(w.heap.size<=b/\b<w'.heap.size)) D st.sites b->b<w'.heap.size:=fun b hb=>di.lt hb
   have KF:b_ D st.sites w' (aH (fun b=>X b\/(w.heap.size<=b/\b<w'.heap.size)) D st.sites) (one (.sl .u8 (xs.take 2000))) u:=by
    have G:hP D D st.sites st.sites w w' (aH X D st.sites) (aH (fun b=>X b\/(w.heap.size<=b/\b<w'.heap.size)) D st.sites):=
     ⟨fun ab s h=>⟨s,h,Nat.le_refl _,fun _=>rfl⟩,fun b _ dP=>hold b dP,fun b hb dP aj=>by
      rcases aj with(aj|aj)|aj
      ·exact hb (.inl aj)
      ·omega
      ·exact hb (.inr aj)⟩
    exact b_.goes (a:=one (.sl .u8 (xs.take 2000))) G (by omega) arm hu
   obtain⟨Mt,aAk,aAx⟩:=di.u0 (X':=X) (n:=n) (bV:=.box (bq st n) [.d (.sl .u8 (xs.take 2000)),.d (.int .i64 0)]) (nv:=.pointer (some ⟨w.heap.size,0,none⟩)) (fun b h=>.inl h)
    (.inl fun ae h=>lC h) (fun b h=>by simp only[bN,Option.some.injEq] at h;subst h;exact⟨.inr ⟨by omega,by omega⟩,fun h=>by have:=gd _ h;omega,.inr (by omega)⟩) (fun hs e go _=>by
     have KE:=go KF;refine⟨w.heap.size,T,[u,.int .i64 0],e,h0,rfl,fun x hx=>?_,(fun h=>by cases h),fun j h aj=>?_⟩
     ·rcases List.mem_cons.1 hx with rfl|hx
      ·exact bF.je hu
      ·rw[List.mem_singleton.1 hx];rfl
     ·match j,h,aj with
      |0,_,_=>exact KE
      |1,_,_=>exact bF.int .i64 0)
   refine bR _ _ w' (aq.cW (us:=[(n,.box (bq st n) [.d (.sl .u8 (xs.take 2000)),.d (.int .i64 0)])]) Mt Z (v:=bZ (.ptr n (bq st n) 0)) ?_);exact⟨w.heap.size,rfl,.box (bq st n) [.d (.sl .u8 (xs.take 2000)),.d (.int .i64 0)],by simp[bp,cR],Nat.le_refl _,fun _=>by simp⟩
  rcases eD xs qT w _ dO with⟨h1,h2⟩|⟨v,w',h1,h2⟩
  ·unfold Oper.wp;rw[df,h1,Oper.upon_enter];refine h2.mono fun e w' he=>?_
   cases e with
   |returned v=>
    have:=core v w' he;cases dp:B.dst with
    |none=>rw[dp] at this;simpa[Act.put,cr] using this
    |some t=>rw[dp] at this;simpa[Act.put,cr] using this
   |panicked c=>exact he.elim
   |outgrown=>exact he.elim
  ·exact oy (df.trans h1) (core v w' h2)
 ·exact .fail
theorem Nq(S:aq U Y X D st M w){C:Ctx}(H:aQ P C){c:Go.Call}{f:Operand}(aL:B.op=.call c)(hf:c.callee=.value f)(Z:cf st B.dst=true)(d:Nat)(T:TypeId):
  Holds (lF C d st (bd C st T f) (fZ C st c.args.toList c.argTypes.toList)) (cz P U Y X st M w B):=by
 have bw:=dn S C T f;obtain⟨e1,e2⟩:=anb S C c.args.toList c.argTypes.toList;have run:∀{g:FuncId} {eV:List Value},Act.eval ⟨M,[]⟩ f=.func (.func g) #[] eV.toArray->
   (execOp (Act.eval ⟨M,[]⟩) B).run P w=(callFunc g (c.args.toList.map (Act.eval ⟨M,[]⟩)++eV).toArray).run P w:=by
  intro g eV hv;have wK:(#[]++c.args.map (Act.eval ⟨M,[]⟩))++eV.toArray=(c.args.toList.map (Act.eval ⟨M,[]⟩)++eV).toArray:=by apply Array.ext';simp
  unfold execOp;simp only[aL,resolve,hf,hv,Deferred.ofValue,Sem.run_bind,Sem.run_pure,Result.andThen_ok,invoke,wK]
 have go:∀{g:FuncId} {ax:aB} {a:jX} {cs:List (List be)} {us:List (Nat×Site)} {bs:List Nat} {eV:List Value} {gb:Bool},C.bO g=some ax->rF gb st (fZ C st c.args.toList c.argTypes.toList)=some a->
   Act.eval ⟨M,[]⟩ f=.func (.func g) #[] eV.toArray->(dz st.sites us/\∀o,o∈bs->ce st.sites o)->
   (∀{c7 eQ av},fg U Y X D st M w c7 eQ av->(∀p,p∈us->p∈c7)->(∀o,o∈bs->o∈eQ)->kd w av cs eV)->
   Holds (oP d st ax {a with as:=a.as++nu cs,eG:=a.eG++us,fA:=a.fA++bs}) (cz P U Y X st M w B):=by
  intro g ax a cs us bs eV gb hg ha hv hz hcap;obtain⟨eX,z2⟩:=ae1 ha;have hfz:dz st.sites (a.eG++us):=eX.append hz.1;have CG:fg U Y X D st M w (a.eG++us) (a.fA++bs) (fun _=>False):=⟨⟨S,hfz⟩,fun b h=>h.elim,fun _ _ _ _ h=>h⟩
  obtain⟨m1,m2,m3,m4⟩:=NI CG ha e1 e2 (fun p hp=>List.mem_append.2 (.inl hp)) (fun p hp=>List.mem_append.2 (.inl hp))
  refine ajw (a:={a with as:=a.as++nu cs,eG:=a.eG++us,fA:=a.fA++bs}) S (H.bO g ax hg) (vs:=c.args.toList.map (Act.eval ⟨M,[]⟩)++eV) ⟨hfz,fun o br=>?_,m2,fun av dG=>?_,?_,m4⟩ Z (run hv)
  ·rcases List.mem_append.1 br with h|h
   ·exact z2 o h
   ·exact hz.2 o h
  ·obtain⟨n1,_,_,_⟩:=NI dG ha e1 e2 (fun p hp=>List.mem_append.2 (.inl hp)) (fun p hp=>List.mem_append.2 (.inl hp))
   have n2:=afk (hcap dG (fun p hp=>List.mem_append.2 (.inr hp)) (fun p hp=>List.mem_append.2 (.inr hp)))
   have:=n1.append n2;rwa[List.append_nil] at this
  ·show dI (a.as++nu cs) _=_;rw[MR m1.length,m3,afm,List.append_nil]
 unfold lF;split
 ·rename_i g bA K3;rw[K3] at bw;obtain⟨eV,h1,h2,h3⟩:=bw;split
  ·rename_i cn kq;split
   ·have hcv:eV=[]:=List.eq_nil_of_length_eq_zero (by simpa using h2)
    subst hcv;have r:=run h1;rw[List.append_nil] at r;exact afY S (H.lw g cn kq) e1 e2 Z r
   ·exact .fail
  ·cases KN:C.op g with
   |true=>
    simp only[cond_true];split
    ·have hcv:eV=[]:=List.eq_nil_of_length_eq_zero (by simpa using h2)
     subst hcv;have r:=run h1;rw[List.append_nil] at r;exact aiN S (H.op g KN) e1 e2 Z r
    ·exact .fail
   |false=>
    simp only[cond_false];have UD:bA=[]->(execOp (Act.eval ⟨M,[]⟩) B).run P w=(callFunc g (c.args.toList.map (Act.eval ⟨M,[]⟩)).toArray).run P w:=by
     rintro rfl;have hcv:eV=[]:=List.eq_nil_of_length_eq_zero (by simpa using h2)
     subst hcv;have r:=run h1;rwa[List.append_nil] at r
    cases aao:C.j6 g with
    |true=>
     simp only[cond_true];split
     ·exact ajt S (H.j6 g aao) e1 e2 Z (UD rfl)
     ·exact .fail
    |false=>
     simp only[cond_false];cases ej:C.bs g with
     |true=>
      simp only[cond_true];split
      ·exact aeC S (H.bs g ej) e1 e2 Z (UD rfl)
      ·exact .fail
     |false=>
      simp only[cond_false];split
      ·rename_i ax a cs us bs hg ha hc;exact go hg ha h1 (Pg hc) (fun dG hu hb=>Pf dG hc hu hb h2 h3)
      ·exact .fail
 ·rename_i g bA K3;rw[K3] at bw;obtain⟨eV,h1,_⟩:=kd.Uv bw;split
  ·rename_i ax a hg ha;have:=go (us:=[]) (bs:=[]) (cs:=bA) (gb:=false) hg ha h1 ⟨.nil,fun o h=>by simp at h⟩ (fun {c7 eQ av} dG _ _=>by
    obtain⟨az7,aD,aF⟩:=kd.Uv (dG.vF (bw:bF w (aH X D st.sites) (.fn g bA) _));rw[h1] at aD;simp only[Value.func.injEq,Fn.func.injEq,true_and] at aD;have e:=congrArg Array.toList aD;simp only at e;rw[e];exact aF)
   simpa only[List.append_nil] using this
  ·exact .fail
 ·exact .fail
theorem ajY(S:aq U Y X D st M w){C:Ctx}(H:aQ P C)(Z:cf st B.dst=true):Holds (step C st B) (cz P U Y X st M w B):=by
 unfold step;split
 ·rename_i x aL;exact Holds.ok (Rt S (.inl aL) Z _)
 ·rename_i x aL;exact Holds.ok (Rt S (.inr aL) Z _)
 ·rename_i c a b aL;split
  ·rename_i hc;exact Holds.ok (Rl S aL Z hc)
  ·rename_i hc;exact Holds.ok (Rl S aL Z hc)
  ·exact .fail
 ·rename_i elem aL;split
  ·rename_i o e t n dp bh;exact ahn S H.toCtxOk bh aL Z
  ·rename_i o dp _;split
   ·rename_i z hz;exact Holds.fk (ajE S H.toCtxOk aL dp hz Z)
   ·exact .fail
  ·exact .fail
 ·rename_i elem x aL;split
  ·rename_i o e t n dp bh;exact alF S H.toCtxOk bh aL Z
  ·rename_i o dp _;split
   ·rename_i a ha;cases dB:gU a.cells with
    |false=>exact .fail
    |true=>
     have bw:=dn S C elem x;rw[px ha] at bw;exact Holds.fk (anl S aL dp bw dB Z)
   ·exact .fail
  ·exact .fail
 ·rename_i t parts aL;split
  ·rename_i bO n z eq bh;exact ajx S H.toCtxOk bh aL Z
  ·rename_i e ty n bh;split
   ·rename_i z hz;exact ahk S H.toCtxOk bh hz aL Z
   ·exact .fail
  ·exact .fail
 ·rename_i t len parts aL;split
  ·rename_i o e ty bytes dp bh;cases hb:(parts.toList.length.beq len&&rH 0 parts.toList&&Nat.ble (len*bb ty) 1000) with
   |false=>exact .fail
   |true=>
    simp only[Bool.and_eq_true] at hb;obtain⟨⟨b1,b2⟩,b3⟩:=hb;simp only[cond_true];split
    ·rename_i as has;split
     ·rename_i xs us jV;exact Holds.fk (acK S H.toCtxOk bh aL dp Z (Nat.eq_of_beq_eq_true b1) b2 (Nat.le_of_ble_eq_true b3) has jV)
     ·exact .fail
    ·exact .fail
  ·exact .fail
 ·rename_i t a aL;split
  ·rename_i e ty n bh;exact aiU S H.toCtxOk bh aL Z
  ·cases hk:(C.tt t).known with
   |false=>exact .fail
   |true=>exact alc S H.toCtxOk aL Z hk
 ·rename_i t a x aL;split
  ·rename_i v hv;split
   ·rename_i e ty n bh;exact afW S H.toCtxOk bh aL Z hv
   ·cases hk:(C.tt t).known with
    |false=>exact .fail
    |true=>exact ahT S H.toCtxOk aL Z hk hv
  ·exact .fail
 ·rename_i x aL;split
  ·rename_i hx;exact Holds.ok (Dw S aL Z hx fun vv h=>by obtain⟨b,h,_⟩:=h;exact⟨_,h⟩)
  ·rename_i hx;exact Holds.ok (Dw S aL Z hx fun vv h=>by obtain⟨b,B,h,_⟩:=h;exact⟨_,h⟩)
  ·rename_i hx;exact Holds.ok (Dw S aL Z hx fun vv h=>by obtain⟨b,h,_⟩:=h;exact⟨_,h⟩)
  ·exact .fail
 ·rename_i op t x y mY aL;cases hn:Au y with
  |true=>exact ag9 S H.toCtxOk aL Z hn
  |false=>exact alI S H.toCtxOk aL Z
 ·rename_i op t x aL;split
  ·rename_i b hx;exact Holds.ok (adD S aL Z hx)
  ·rename_i k n hx;exact Holds.ok (adE S aL Z hx)
  ·rename_i k n hx;exact Holds.ok (adC (T:=B.type) S aL Z hx)
  ·exact .fail
 ·rename_i src dst x aL;split
  ·rename_i o dp;exact aju S H.toCtxOk aL dp Z
  ·exact .fail
 ·rename_i fn first captured aL
  split
  ·rename_i g;cases hf:first.toList.isEmpty with
   |false=>exact .fail
   |true=>
    simp only[cond_true];split
    ·rename_i bA hc;exact Holds.ok (ad1 S aL Z hf hc)
    ·exact .fail
  ·exact .fail
 ·rename_i t l c aL;split
  ·rename_i o e ty bytes wE n wF m dp bh hl hc;split
   ·rename_i z hz;split
    ·rename_i ds us gr;split
     ·rename_i eK mO;exact Holds.g_ fun r hr=>adb S H.toCtxOk bh aL dp Z hl hc hz gr mO r hr
     ·exact .fail
    ·exact .fail
   ·exact .fail
  ·exact .fail
 ·rename_i t x cI hi C2 aL;split
  ·split
   ·rename_i e ty n bh;exact af0 S H.toCtxOk bh aL Z
   ·exact ahZ S H.toCtxOk aL Z
  ·exact .fail
 ·rename_i s x f aL;split
  ·rename_i bO n z eq bh;split
   ·rename_i off LQ hf;exact adp S H.toCtxOk bh aL Z hf
   ·exact .fail
  ·exact .fail
 ·rename_i t x i aL;split
  ·rename_i e ty bytes k n bh hi;exact adl S H.toCtxOk bh hi aL Z
  ·rename_i e ty m k n bh hi;exact acG S H.toCtxOk bh hi aL Z
  ·exact .fail
 ·rename_i t x i aL;split
  ·rename_i s k n bh hx hi;exact ai4 S H.toCtxOk aL Z bh hx hi
  ·rename_i e ty m k n bh hi;exact ag1 S H.toCtxOk bh hi aL Z
  ·exact .fail
 ·rename_i t i aL;split
  ·rename_i as hx;split
   ·rename_i a ha;exact Holds.ok (afa S aL Z hx ha)
   ·exact .fail
  ·exact .fail
 ·rename_i c aL;split
  ·rename_i f hf;split
   ·exact Nq S H aL hf Z _ _
   ·exact Nq S H aL hf Z _ _
  ·rename_i b hb;obtain⟨callee,args,argTypes⟩:=c;simp only at hb aL ⊢;subst hb;split
   ·rename_i x t nA Jf;have e1:args=#[x]:=Array.ext' nA;have e2:argTypes=#[t]:=Array.ext' Jf;subst e1 e2;exact amX S H.toCtxOk aL Z
   ·rename_i o s x t u dp nA Jf;have e1:args=#[s,x]:=Array.ext' nA;have e2:argTypes=#[t,u]:=Array.ext' Jf;subst e1 e2;split
    ·rename_i bh gu;exact ahm S H.toCtxOk bh gu aL dp Z
    ·rename_i bh gu;exact afq S H.toCtxOk bh gu aL dp Z
    ·exact .fail
   ·rename_i x y nA;have e1:args=#[x,y]:=Array.ext' nA;subst e1;split
    ·rename_i hx hy;exact Holds.ok (OY (sv:=true) S aL Z hx hy)
    ·exact .fail
   ·rename_i x y z u v nA;have e1:args=#[x,y,z,u,v]:=Array.ext' nA;subst e1;split
    ·rename_i hx hy hz hu hv;exact Holds.ok (ala S aL Z hx hy hz hu hv)
    ·exact .fail
   ·rename_i x y nA;have e1:args=#[x,y]:=Array.ext' nA;subst e1;split
    ·rename_i hx hy;exact Holds.ok (OY (sv:=false) S aL Z hx hy)
    ·exact .fail
   ·exact .fail
  ·exact .fail
 ·exact ae4 S H.toCtxOk Z
end
section
variable {st ao:al}
theorem mj{o:Nat}(h:st.ae o=ao.ae o)(s:Nat):rowOf st o s=rowOf ao o s:=by unfold rowOf;rw[h]
theorem tL{o:Nat}(h:st.ae o=ao.ae o)(s:Nat):fs st o s=fs ao o s:=by unfold fs;rw[h]
theorem mi{o:Nat}(h:st.ae o=ao.ae o):bq st o=bq ao o:=by unfold bq;rw[h]
abbrev cw(st ao:al)(N:List Nat):Prop:=∀o,o∈N->st.ae o=ao.ae o
theorem cw.left{N jc:List Nat}(h:cw st ao (N++jc)):cw st ao N:=fun o br=>h o (List.mem_append.2 (.inl br))
theorem cw.right{N jc:List Nat}(h:cw st ao (N++jc)):cw st ao jc:=fun o br=>h o (List.mem_append.2 (.inr br))
theorem cw.head{n:Nat}{jc:List Nat}(h:cw st ao (n::jc)):st.ae n=ao.ae n:=h n List.mem_cons_self
theorem cw.tail{n:Nat}{jc:List Nat}(h:cw st ao (n::jc)):cw st ao jc:=fun o br=>h o (List.mem_cons_of_mem _ br)
theorem rp{N:List Nat}(h:cw st ao (eO st N)):cw st ao N:=by
 induction N with
 |nil=>intro o br;cases br
 |cons n N ih=>
  intro o br;rcases List.mem_cons.1 br with rfl|br
  ·exact h.head
  ·exact ih h.tail.right o br
theorem Qw{N:List Nat}(h:cw st ao (eO st N)){o:Nat}(br:o∈N):cw st ao (xn st o):=by
 induction N with
 |nil=>cases br
 |cons n N ih=>
  rcases List.mem_cons.1 br with rfl|br
  ·exact h.tail.left
  ·exact ih h.tail.right br
theorem EG{N jc:List Nat}:eO st (N++jc)=eO st N++eO st jc:=by
 induction N with
 |nil=>rfl
 |cons n N ih=>simp[eO,ih]
theorem Pe{l:aP}(h:cw st ao l.names):jA st l=jA ao l:=by
 cases l<;>try rfl
 case own o s=>simp only[jA,lY];rw[mj (h.head) s,h.head]
 case clo g bA=>cases bA<;>rfl
theorem xe{ai:List aP}(h:cw st ao (dr ai)):fE st ai=fE ao ai:=by
 induction ai with
 |nil=>rfl
 |cons l ai ih=>
  simp only[dr] at h;simp only[fE,Pe h.left,ih h.right]
theorem DA{o s:Nat}{cells:List aP}(h:fs st o s=some cells):xn st o=dr cells:=by
 unfold fs at h;cases hs:st.ae o with
 |none=>rw[hs] at h;cases h
 |some x=>
  rw[hs] at h;cases x with
  |box aM cs=>
   have h:(bif aM.beq s then some cs else none)=some cells:=h
   unfold xn;rw[hs];cases hb:aM.beq s with
   |true=>simp only[hb,cond_true,Option.some.injEq] at h;subst h;rfl
   |false=>simp[hb] at h
  |row _ _ _=>cases h
  |c8 _ _ _=>cases h
  |map _ _ _=>cases h
  |dead _=>cases h
theorem ad2{agg:Bool}{n:Nat}{a:aZ}(h:cw st ao a.names):sr agg n st a=sr agg n ao a:=by
 unfold sr;split
 ·rename_i o s off;rw[tL (show st.ae o=ao.ae o from h o (by simp[aZ.names,bP.cells,dr,aP.names]))]
 ·rfl
 ·rename_i o s u k off;rw[mj (show st.ae o=ao.ae o from h o (by simp[aZ.names,bP.cells,dr,aP.names]))]
 ·rfl
theorem acZ{n:Nat}{a:aZ}{v:bP}(h:cw st ao a.names)(hv:cw st ao (dr v.cells)):rR n st a v=rR n ao a v:=by
 unfold rR;congr 1
 split
 ·rename_i o s off;rw[tL (show st.ae o=ao.ae o from h o (by simp[aZ.names,bP.cells,dr,aP.names]))]
 ·rename_i o s u k off;rw[show st.ae o=ao.ae o from h o (by simp[aZ.names,bP.cells,dr,aP.names]),xe hv]
 ·rfl
theorem acd{u:bc}{x:aZ}{i:Int}(h:cw st ao x.names):rc u st x i=rc u ao x i:=by
 unfold rc;split
 ·rfl
 ·rename_i o s;rw[mj (show st.ae o=ao.ae o from h o (by simp[aZ.names,bP.cells,dr,aP.names]))]
 ·rfl
theorem ac3{ti:b7}{x:aZ}{cI hi:Option aZ}(h:cw st ao x.names):rU ti st x cI hi=rU ti ao x cI hi:=by
 unfold rU;split
 ·rfl
 ·rfl
 ·rfl
 ·rename_i o s;simp only[lY];rw[mj (show st.ae o=ao.ae o from h o (by simp[aZ.names,bP.cells,dr,aP.names])),show st.ae o=ao.ae o from h o (by simp[aZ.names,bP.cells,dr,aP.names])]
 ·rfl
theorem Na{l:aP}(h:cw st ao l.names):mapOf st l=mapOf ao l:=by
 cases l<;>try rfl
 case own o s=>simp only[mapOf];rw[h.head]
 case d v=>cases v<;>rfl
theorem ae6{ti:b7}{x:aZ}(h:cw st ao x.names):sH ti st x=sH ti ao x:=by
 unfold sH;split<;>try rfl
 rotate_left
 ·rename_i l;rw[Na (l:=l) (fun o br=>h o (by simp[aZ.names,bP.cells,dr,br]))]
 rename_i o s;rw[mj (show st.ae o=ao.ae o from h o (by simp[aZ.names,bP.cells,dr,aP.names]))]
theorem adI{x:aZ}(h:cw st ao x.names):sj st x=sj ao x:=by
 unfold sj;split<;>try rfl
 rename_i o s;rw[mj (show st.ae o=ao.ae o from h o (by simp[aZ.names,bP.cells,dr,aP.names]))]
theorem ab7{o dst s:Nat}(Z:st.ae dst=ao.ae dst):bq (st.hY o (.dead s)) dst=bq (ao.hY o (.dead s)) dst:=by
 apply mi;rw[al.wV,al.wV,Z]
theorem MD{bytes:Nat}{t:bc}{dst:Nat}{s:aZ}{bg:List (den t)}(h:cw st ao s.names)(Z:st.ae dst=ao.ae dst):pS bytes t dst st s bg=pS bytes t dst ao s bg:=by
 unfold pS;split
 ·simp only[mi Z]
 ·rename_i o s;simp only[show st.ae o=ao.ae o from h o (by simp[aZ.names,bP.cells,dr,aP.names]),ab7 Z]
 ·rfl
theorem acL{bytes:Nat}{t:bc}{dst:Nat}{s x:aZ}(h:cw st ao s.names)(hx:cw st ao x.names)(Z:st.ae dst=ao.ae dst):rO bytes t dst st s x=rO bytes t dst ao s x:=by
 unfold rO;rw[adI hx];split
 ·rfl
 ·split
  ·split
   ·exact MD h Z
   ·rfl
  ·rfl
theorem acM{bytes:Nat}{t:bc}{dst:Nat}{s x:aZ}(h:cw st ao s.names)(Z:st.ae dst=ao.ae dst):rP bytes t dst st s x=rP bytes t dst ao s x:=by
 unfold rP;split
 ·split
  ·exact MD h Z
  ·rfl
 ·rfl
theorem NH{o:Nat}{t:bc}{n:Nat}{xs:List (den t)}(Z:st.ae o=ao.ae o):qg o st t n xs=qg o ao t n xs:=by
 unfold qg;rw[mi Z]
theorem ads{o:Nat}{t:bc}{n:Nat}(Z:st.ae o=ao.ae o):sf o st t n=sf o ao t n:=by
 unfold sf;split<;>first|exact NH Z|rfl
theorem afn{o:Nat}{t:bc}{n:Nat}{v:aZ}(Z:st.ae o=ao.ae o):sR o st t n v=sR o ao t n v:=by
 unfold sR;split
 ·split<;>first|exact NH Z|rfl
 ·rfl
theorem ad3{t:bc}{n:Nat}{a:aZ}(h:cw st ao a.names):ss st t n a=ss ao t n a:=by
 unfold ss;split
 ·rename_i o s u;rw[mj (show st.ae o=ao.ae o from h o (by simp[aZ.names,bP.cells,dr,aP.names]))]
 ·rfl
theorem ac0{t:bc}{n:Nat}{a:aZ}{v:bP}(h:cw st ao a.names):rS st t n a v=rS ao t n a v:=by
 unfold rS;split
 ·rename_i o s u ai;rw[show st.ae o=ao.ae o from h o (by simp[aZ.names,bP.cells,dr,aP.names])]
 ·rfl
theorem ace{C:Ctx}{t:bc}{n:Nat}{x:aZ}{i:Int}(h:cw st ao x.names):re C st t n x i=re C ao t n x i:=by
 unfold re;split
 ·rename_i o s u;rw[mj (show st.ae o=ao.ae o from h o (by simp[aZ.names,bP.cells,dr,aP.names]))]
 ·rfl
 ·rfl
theorem ac4{t:bc}{n:Nat}{x:aZ}{cI hi:Option aZ}(h:cw st ao x.names):rV st t n x cI hi=rV ao t n x cI hi:=by
 unfold rV;split
 ·rename_i o s u;simp only[lY];rw[mj (show st.ae o=ao.ae o from h o (by simp[aZ.names,bP.cells,dr,aP.names])),show st.ae o=ao.ae o from h o (by simp[aZ.names,bP.cells,dr,aP.names])]
 ·rfl
theorem afi{t:bc}{as:List bP}(h:cw st ao (rB as)):lk t st as=lk t ao as:=by
 induction as with
 |nil=>rfl
 |cons a as ih=>
  simp only[rB] at h;simp only[lk,xe h.left,ih h.right]
theorem aeg{C:Ctx}{src dst:TypeId}{o:Nat}{x:aZ}(h:cw st ao x.names)(Z:st.ae o=ao.ae o):sz C src dst o st x=sz C src dst o ao x:=by
 unfold sz;split<;>try rfl
 ·rename_i ab s _ _;rw[mj (show st.ae ab=ao.ae ab from h ab (by simp[aZ.names,bP.cells,dr,aP.names]))]
 ·rw[mi Z]
theorem MQ{bA:List (Nat×Nat)}(h:cw st ao (eO st (keys bA))):kU st bA=kU ao bA:=by
 induction bA with
 |nil=>rfl
 |cons p bA ih=>
  obtain⟨o,s⟩:=p;simp only[keys,eO] at h;simp only[kU];rw[<-tL h.head,<-ih h.tail.right];cases hb:fs st o s with
  |none=>rfl
  |some cells=>
   have:=h.tail.left;rw[DA hb] at this;simp only[xe this]
theorem DN{l:aP}(h:cw st ao (eO st l.names)):mF st l=mF ao l:=by
 have Z:=Pe (rp h);unfold mF;split
 ·rfl
 ·rename_i g c cs;simp only[aP.names] at h;rw[MQ h]
 ·rw[Z]
theorem ad4{ai:List aP}(h:cw st ao (eO st (dr ai))):lM st ai=lM ao ai:=by
 induction ai with
 |nil=>rfl
 |cons l ai ih=>
  simp only[dr,EG] at h;simp only[lM,DN h.left,ih h.right]
theorem Nh{l:aP}(h:cw st ao l.names):nB st l=nB ao l:=by
 unfold nB;split<;>try rfl
 rename_i o s;rw[show st.ae o=ao.ae o from h.head]
theorem ae9{ai:List aP}(h:cw st ao (dr ai)):kl st ai=kl ao ai:=by
 induction ai with
 |nil=>rfl
 |cons l ai ih=>
  simp only[dr] at h;simp only[kl,Nh h.left,ih h.right]
def gy:List aZ->List Nat
 |[]=>[]
 |v::vs=>v.names++gy vs
theorem ML{vs:List aZ}(h:cw st ao (eO st (gy vs))):iM st vs=iM ao vs:=by
 induction vs with
 |nil=>rfl
 |cons v vs ih=>
  simp only[gy,EG] at h;have ih:=ih h.right;have h:=h.left;cases v with
  |ju as=>rfl
  |av a=>
   cases a with
   |agg ai=>
    simp only[iM];rw[ad4 (by simpa[aZ.names,bP.cells] using h),ih]
   |am l=>
    have hl:cw st ao (eO st l.names):=by simpa[aZ.names,bP.cells,dr] using h
    unfold iM;split
    ·rfl
    ·rename_i o s auN b0;cases b0;have hl:cw st ao (eO st [o]):=by simpa[aZ.names,bP.cells,dr,aP.names] using h
     simp only[eO] at hl;rw[<-tL hl.head,<-ih];cases hb:fs st o s with
     |none=>rfl
     |some cells=>
      have:=hl.tail.left;rw[DA hb] at this;cases iM st vs with
      |none=>rfl
      |some r=>simp only[ae9 this]
    ·rename_i ga auN _ b0;cases b0;rw[DN hl,ih]
    ·rename_i b0;cases b0
    ·rfl
theorem ado{l:aP}(h:cw st ao (eO st l.names)):oF st l=oF ao l:=by
 unfold oF;split
 ·rw[Nh (rp h)]
 ·rfl
 ·rw[DN h]
theorem acD{vs:List aZ}(h:cw st ao (eO st (gy vs))):lG st vs=lG ao vs:=by
 induction vs with
 |nil=>rfl
 |cons v vs ih=>
  simp only[gy,EG] at h;have ih:=ih h.right;have h:=h.left;cases v with
  |ju as=>rfl
  |av a=>
   cases a with
   |agg ai=>rfl
   |am l=>
    have hl:cw st ao (eO st l.names):=by simpa[aZ.names,bP.cells,dr] using h
    simp only[lG,ado hl,ih]
theorem acC{b:Bool}{vs:List aZ}(h:cw st ao (eO st (gy vs))):rF b st vs=rF b ao vs:=by
 cases b
 ·exact ML h
 ·exact acD h
theorem tK(hb:∀o,1000000<=o->st.ae o=ao.ae o){o:Nat}(h:1000000<=o):bq st o=bq ao o:=mi (hb o h)
theorem DD(hb:∀o,1000000<=o->st.ae o=ao.ae o):∀{ai:List aP} {n:Nat},1000000<=n->take st n ai=take ao n ai:=by
 intro ai;induction ai with
 |nil=>intro n _;rfl
 |cons l ai ih=>
  intro n hn;cases l<;>simp only[take,ih (show 1000000<=n+1 by omega),tK hb hn]
theorem adG(hb:∀o,1000000<=o->st.ae o=ao.ae o):∀{as:List bP} {n:Nat},1000000<=n->dS st n as=dS ao n as:=by
 intro as;induction as with
 |nil=>intro n _;rfl
 |cons a as ih=>
  intro n hn;cases a with
  |am l=>simp only[dS];rw[DD hb hn,ih (show 1000000<=n+100 by omega)]
  |agg ai=>simp only[dS];rw[DD hb hn,ih (show 1000000<=n+100 by omega)]
theorem adF(hb:∀o,1000000<=o->st.ae o=ao.ae o):∀{bs:List (Nat×Nat)} {cC:List (List aP)},gD st bs cC=gD ao bs cC:=by
 intro bs;induction bs with
 |nil=>intro cC;cases cC<;>rfl
 |cons p bs ih=>
  obtain⟨o,s⟩:=p;intro cC;cases cC with
  |nil=>rfl
  |cons cs cC=>simp only[gD];rw[DD hb (by omega),ih]
theorem Np(hb:∀o,1000000<=o->st.ae o=ao.ae o){dst:Nat}{S:aB}{a:jX}:oP dst st S a=oP dst ao S a:=by
 unfold oP;simp only[adF hb,adG hb (show 1000000<=2000000+dst*10000 by omega)]
theorem ac1{g:FuncId}{n:Nat}{vs:List aZ}(hb:∀o,1000000<=o->st.ae o=ao.ae o)(hn:1000000<=n):rT g n st vs=rT g n ao vs:=by
 unfold rT;rw[tK hb hn,tK hb (show 1000000<=n+1 by omega),tK hb (show 1000000<=n+2 by omega)]
theorem adW{n:Nat}{vs:List aZ}(hb:∀o,1000000<=o->st.ae o=ao.ae o)(hn:1000000<=n):so n st vs=so n ao vs:=by
 unfold so;rw[tK hb hn]
theorem aef{vs:List aZ}(h:cw st ao (eO st (gy vs))):copyV st vs=copyV ao vs:=by
 unfold copyV;split
 ·rename_i o s;rw[show st.ae o=ao.ae o from rp h o (by simp[gy,aZ.names,bP.cells,dr,aP.names])]
 ·rfl
theorem acz{vs:List aZ}(h:cw st ao (eO st (gy vs))):rE st vs=rE ao vs:=by
 unfold rE;split
 ·rename_i o s;have h0:o∈gy [aZ.av (.am (.ptr o s 0))]:=by simp[gy,aZ.names,bP.cells,dr,aP.names]
  rw[<-tL (rp h o h0)];split
  ·rfl
  ·rename_i abJ ab u hb;have:=Qw h h0;rw[DA hb] at this;rw[show st.ae ab=ao.ae ab from this ab (by simp[dr,aP.names])]
  ·rfl
 ·rfl
theorem MA{C:Ctx}(hb:∀o,1000000<=o->st.ae o=ao.ae o){dst:Nat}{f:aZ}{vs:List aZ}(hf:cw st ao (eO st f.names))(h:cw st ao (eO st (gy vs))):lF C dst st f vs=lF C dst ao f vs:=by
 unfold lF;split
 ·rename_i g bA;have:cw st ao (eO st (keys bA)):=by simpa[aZ.names,bP.cells,dr,aP.names] using hf
  simp only[acC h,MQ this,Np hb,ac1 hb (show 1000000<=3000000+dst*10 by omega),adW hb (show 1000000<=4000000+dst by omega),aef h,acz h]
 ·simp only[ML h,Np hb]
 ·rfl
theorem ajj{C:Ctx}{x:Operand}{T:TypeId}(h:∀t,x=.tmp t->st.get t=ao.get t):bd C st T x=bd C ao T x:=by
 cases x with
 |tmp t=>exact h t rfl
 |_=>rfl
theorem acJ{ti:b7}{v:Value}:(ur ti v).names=[]:=by
 unfold ur;split<;>try rfl
 all_goals(split<;>rfl)
theorem yr{C:Ctx}{x:Operand}{T:TypeId}:∀{xs:List Operand},x∈xs->∀o,o∈(bd C st T x).names->o∈nm st xs:=by
 intro xs;induction xs with
 |nil=>intro h;cases h
 |cons y xs ih=>
  intro h o br;rcases List.mem_cons.1 h with rfl|h
  ·cases x with
   |tmp t=>simp only[nm];exact List.mem_append.2 (.inl br)
   |const v=>simp only[bd,acJ] at br;cases br
   |global g=>simp[bd,aZ.names,bP.cells,dr,aP.names,bZ] at br
   |func g=>simp[bd,aZ.names,bP.cells,dr,aP.names,bZ,keys] at br
  ·have:=ih h o br;cases y<;>simp only[nm]<;>first|exact List.mem_append.2 (.inr this)|exact this
theorem adX{t:Nat}:∀{xs:List Operand},.tmp t∈xs->t∈ot xs:=by
 intro xs;induction xs with
 |nil=>intro h;cases h
 |cons y xs ih=>
  intro h;rcases List.mem_cons.1 h with h|h
  ·subst h;simp only[ot];exact List.mem_cons_self
  ·have:=ih h;cases y<;>simp only[ot]<;>first|exact List.mem_cons_of_mem _ this|exact this
theorem NX{v:aZ}{a:bP}(h:l0 v=some a):dr a.cells=v.names:=by
 cases v with
 |av b=>simp only[l0,Option.some.injEq] at h;subst h;rfl
 |ju _=>cases h
theorem aej{vs:List aZ}:∀{as:List bP},nD vs=some as->∀o,o∈rB as->o∈gy vs:=by
 induction vs with
 |nil=>intro as h;simp only[nD,Option.some.injEq] at h;subst h;intro o br;cases br
 |cons v vs ih=>
  intro as h o br;simp only[nD] at h;split at h
  ·rename_i a n3 h1 h2;simp only[Option.some.injEq] at h;subst h;simp only[rB,List.mem_append] at br;simp only[gy,List.mem_append];rcases br with br|br
   ·exact .inl (by rw[NX h1] at br;exact br)
   ·exact .inr (ih h2 o br)
  ·cases h
end
theorem aeD{C:Ctx}{st ao:al}{B:Oper}(hs:∀t,t∈ot (kY B.op)->st.get t=ao.get t)(hn:cw st ao (IH C st B))(hb:Av B.op=true->∀o,1000000<=o->st.ae o=ao.ae o):
  step C st B=step C ao B:=by
 have he:∀x,x∈kY B.op->∀T,bd C st T x=bd C ao T x:=fun x hx T=>ajj fun t aw=>hs t (adX (aw▸hx))
 have XJ:looks B.op=true->cw st ao (eO st (nm st (kY B.op))):=fun h=>by have:=hn.left.left;rw[h] at this;exact this
 have XA:looks B.op=true->∀x,x∈kY B.op->∀T,cw st ao (bd C st T x).names:=fun hl x hx T o br=>rp (XJ hl) o (yr hx o br)
 have TM:looks B.op=true->∀N:List Nat,(∀o,o∈N->o∈nm st (kY B.op))->cw st ao (eO st N):=by
  intro hl N;have aam:=XJ hl;induction N with
  |nil=>intro _ o br;cases br
  |cons n N ih=>
   intro h o br;simp only[eO,List.mem_cons,List.mem_append] at br;rcases br with rfl|br|br
   ·exact rp aam o (h o List.mem_cons_self)
   ·exact Qw aam (h n List.mem_cons_self) o br
   ·exact ih (fun ab bS=>h ab (List.mem_cons_of_mem _ bS)) o br
 have Z:∀d,B.dst=some d->st.ae d=ao.ae d:=fun d h=>hn.left.right d (by simp[h])
 have hz:cw st ao (Iu C B.op):=hn.right;obtain⟨dst,op,type,pos,after,guard⟩:=B;simp only at he XA TM Z hb hz;cases op<;>(try have gN:=XA rfl)<;>(try have IF:=TM rfl)<;>(try simp only[kY,List.mem_cons,List.not_mem_nil,or_false,forall_eq_or_imp,forall_eq] at he)<;>
  (try simp only[kY,List.mem_cons,List.not_mem_nil,or_false,forall_eq_or_imp,forall_eq] at gN)<;>simp only[step]<;>try rfl
 case move x=>rw[he]
 case assign x=>rw[he]
 case makeMap t r=>
  simp only[kS];cases dst with
  |none=>rfl
  |some o=>
   have e:=mi (Z o rfl);cases C.tt t<;>try rfl
   cases r with
   |none=>simp only[e]
   |some x=>simp only[he x (by simp[kY]),e]
 case lookup t m k c=>
  simp only[kS];rw[he.1,he.2];have h1:=gN.1 t;rw[he.1] at h1;generalize bd C ao t m=abB at h1 ⊢;split
  ·rename_i l n _ _;rw[Na (l:=l) (fun o br=>h1 o (by simp[aZ.names,bP.cells,dr,br]))]
  ·rfl
 case mapUpdate t m k x=>
  simp only[kS,kS.rZ];rw[he.1,he.2.1,he.2.2];have h1:=gN.1 t;rw[he.1] at h1;generalize bd C ao t m=abB at h1 ⊢;split
  ·rename_i o s n d _ _ _;rw[show st.ae o=ao.ae o from h1 o (by simp[aZ.names,bP.cells,dr,aP.names])]
  ·rfl
 case insert t m k x=>
  simp only[kS,kS.rZ];rw[he.1,he.2.1,he.2.2];have h1:=gN.1 t;rw[he.1] at h1;generalize bd C ao t m=abB at h1 ⊢;split
  ·rename_i o s n d _ _ _;rw[show st.ae o=ao.ae o from h1 o (by simp[aZ.names,bP.cells,dr,aP.names])]
  ·rfl
 case pick c a b=>rw[he.1,he.2.1,he.2.2]
 case alloc elem=>
  cases dst with
  |none=>rfl
  |some o=>
   have e:=mi (Z o rfl);cases bh:C.tt elem with
   |arr _ t n=>exact ads (Z o rfl)
   |_=>simp only[e]
 case box elem x=>
  rw[he];cases dst with
  |none=>rfl
  |some o=>
   have e:=mi (Z o rfl);cases bh:C.tt elem with
   |arr _ t n=>exact afn (Z o rfl)
   |_=>simp only[e]
 case build t ps=>
  have go:∀(bO:List (Nat×Nat)) (r:List (Nat×Operand)) (z:List aP),(∀x,x∈r.map (·.2)->∀T,bd C st T x=bd C ao T x)->step.mv C st bO z r=step.mv C ao bO z r:=by
    intro bO r;induction r with
    |nil=>intro z _;rfl
    |cons p r ih=>
     obtain⟨i,x⟩:=p;intro z h;simp only[step.mv];rw[h x (by simp)]
     split
     ·rw[ih _ fun x hx=>h x (by simp only[List.map_cons,List.mem_cons];exact .inr hx)]
     ·rfl
  split
  ·exact go _ _ _ he
  ·split
   ·exact go _ _ _ he
   ·rfl
  ·rfl
 case buildSlice t len ps=>
  cases dst with
  |none=>rfl
  |some o=>
   cases h2:C.tt t<;>try rfl
   rename_i e ty bytes;simp only;have h1:some o=some o:=rfl;have em:(ps.toList.map fun p=>bd C st e p.2)=ps.toList.map fun p=>bd C ao e p.2:=by
    apply List.map_congr_left;intro p hp;exact he _ (List.mem_map.2 ⟨p,hp,rfl⟩) e
   have kr:cw st ao (gy (ps.toList.map fun p=>bd C st e p.2)):=by
    have:∀l:List (Nat×Operand),(∀p,p∈l->p∈ps.toList)->cw st ao (gy (l.map fun p=>bd C st e p.2)):=by
     intro l;induction l with
     |nil=>intro _ o br;cases br
     |cons p l ih=>
      intro h o br;simp only[List.map_cons,gy,List.mem_append] at br;rcases br with br|br
      ·exact gN _ (List.mem_map.2 ⟨p,h p List.mem_cons_self,rfl⟩) e o br
      ·exact ih (fun q aC=>h q (List.mem_cons_of_mem _ aC)) o br
    exact this _ fun _ h=>h
   rw[<-em,mi (Z o h1)];congr 1
   split
   ·rename_i as has;rw[afi fun ab bS=>kr ab (aej has ab bS)]
   ·rfl
 case load t a=>
  rw[<-he];split
  ·exact ad3 (gN _)
  ·rw[ad2 (gN _)]
 case store t a x=>
  rw[<-he.1,<-he.2];split
  ·rename_i v hv;split
   ·exact ac0 (gN.1 _)
   ·rw[acZ (gN.1 _) (by rw[NX hv];exact gN.2 _)]
  ·rfl
 case nilCheck x=>rw[he]
 case makeInterface t x=>simp only[kS];rw[he]
 case binOp op t x y ty=>rw[he.1,he.2]
 case unOp op t x=>rw[he]
 case convert src aAR x=>
  cases dst with
  |none=>rfl
  |some o=>simp only;rw[<-he,aeg (gN _) (Z o rfl)]
 case makeFunc fn first captured=>
  split
  ·rename_i g;have go:∀(r:List Operand),(∀x,x∈r->∀T,bd C st T x=bd C ao T x)->step.nC C st r=step.nC C ao r:=by
    intro r;induction r with
    |nil=>intro _;rfl
    |cons x r ih=>
     intro h;simp only[step.nC];rw[h x (by simp),ih fun x hx=>h x (List.mem_cons_of_mem _ hx)]
   rw[go _ he]
  ·rfl
 case makeSlice t l c=>
  rw[<-he.1,<-he.2];cases dst with
  |none=>rfl
  |some o=>
   cases h2:C.tt t<;>try rfl
   rename_i e ty bytes;simp only[Iu,h2] at hz;have e1:=mi (Z o rfl);have e2:∀z,(C.tt e).zero=some z->fE st z=fE ao z:=fun z hzz=>by
    simp only[hzz] at hz;exact xe hz
   generalize bd C st 0 l=fH;generalize bd C st 0 c=fv;have dq:∀n m aD aF,fH=.av (.am (.d (.int aD n)))->fv=.av (.am (.d (.int aF m)))->
     (match(C.tt e).zero with
      |some z=>match fE st z with
       |some (ds,_)=>match dec ty ds with
        |some eK=>cZ.g_ (jv bytes n m eK) (fun _=>bZ (.own o (bq st o))) fun r=>[(o,.row (bq st o) ty r)]
        |none=>.fail
       |none=>.fail
      |none=>.fail)=(match(C.tt e).zero with
      |some z=>match fE ao z with
       |some (ds,_)=>match dec ty ds with
        |some eK=>cZ.g_ (jv bytes n m eK) (fun _=>bZ (.own o (bq ao o))) fun r=>[(o,.row (bq ao o) ty r)]
        |none=>.fail
       |none=>.fail
      |none=>.fail):=by
    intro n m aD aF _ _;cases hzz:(C.tt e).zero with
    |none=>rfl
    |some z=>simp only[e2 z hzz,e1]
   rcases fH with(dF|_)|_<;>try rfl
   cases dF<;>try rfl
   rename_i d1;cases d1<;>try rfl
   rcases fv with(fw|_)|_<;>try rfl
   cases fw<;>try rfl
   rename_i d2;cases d2<;>try rfl
   exact dq _ _ _ _ rfl rfl
 case slice t x cI hi C2=>
  cases C2 with
  |some _=>rfl
  |none=>
   simp only;have e1:cI.map (bd C st 0)=cI.map (bd C ao 0):=by
    cases cI with
    |none=>rfl
    |some y=>simp only[Option.map_some];rw[he.2 y (by simp)]
   have e2:hi.map (bd C st 0)=hi.map (bd C ao 0):=by
    cases hi with
    |none=>rfl
    |some y=>simp only[Option.map_some];rw[he.2 y (by simp)]
   rw[<-he.1,e1,e2];split
   ·exact ac4 (gN.1 _)
   ·exact ac3 (gN.1 _)
 case fieldAddr s x f=>rw[he]
 case indexAddr t x i=>
  rw[<-he.1,<-he.2];split
  ·rw[acd (gN.1 _)]
  ·rw[ace (gN.1 _)]
  ·rfl
 case index t x i=>rw[he.1,he.2]
 case extract t i=>rw[he]
 case call c=>
  obtain⟨awY,args,Kj⟩:=c;simp only;cases awY with
  |invoke r m=>rfl
  |value f=>
   simp only[kY,List.mem_append,List.mem_cons,List.not_mem_nil,or_false] at IF;simp only[Av,forall_const] at hb;simp only[List.mem_append,List.mem_cons,List.not_mem_nil,or_false] at he;have em:∀(xs:List Operand) (cL:List TypeId),(∀x,x∈xs->∀T,bd C st T x=bd C ao T x)->fZ C st xs cL=fZ C ao xs cL:=by
    intro xs;induction xs with
    |nil=>intro cL _;cases cL<;>rfl
    |cons x xs ih=>
     intro cL h;cases cL with
     |nil=>simp only[fZ];rw[h x (by simp),ih [] fun y hy=>h y (List.mem_cons_of_mem _ hy)]
     |cons T cL=>simp only[fZ];rw[h x (by simp),ih cL fun y hy=>h y (List.mem_cons_of_mem _ hy)]
   have C5:∀(xs bg:List Operand) (cL:List TypeId),(∀x,x∈xs->x∈bg)->∀o,o∈gy (fZ C st xs cL)->o∈nm st bg:=by
    intro xs bg;induction xs with
    |nil=>intro cL _ o br;cases cL<;>cases br
    |cons x xs ih=>
     intro cL h o br;cases cL with
     |nil=>
      simp only[fZ,gy,List.mem_append] at br;rcases br with br|br
      ·exact yr (h x List.mem_cons_self) o br
      ·exact ih [] (fun y hy=>h y (List.mem_cons_of_mem _ hy)) o br
     |cons T cL=>
      simp only[fZ,gy,List.mem_append] at br;rcases br with br|br
      ·exact yr (h x List.mem_cons_self) o br
      ·exact ih cL (fun y hy=>h y (List.mem_cons_of_mem _ hy)) o br
   have h1:cw st ao (eO st (bd C st 0 f).names):=IF _ fun o br=>yr (List.mem_append.2 (.inl (by simp))) o br
   have h2:cw st ao (eO st (gy (fZ C st args.toList Kj.toList))):=IF _ fun o br=>C5 _ _ _ (fun x hx=>List.mem_append.2 (.inr hx)) o br
   have h3:=he f (.inl rfl) 0;have aE:=em args.toList Kj.toList fun x hx=>he x (.inr hx)
   cases dst with
   |none=>show lF C 0 st _ _=lF C 0 ao _ _;rw[<-h3,<-aE];exact MA hb h1 h2
   |some d=>show lF C d st _ _=lF C d ao _ _;rw[<-h3,<-aE];exact MA hb h1 h2
  |builtin b=>
   simp only[List.nil_append] at he gN;generalize args.toList=xs at he gN;generalize Kj.toList=cU;cases b<;>try rfl
   case append=>
    rcases dst with _|o
    ·rfl
    rcases xs with _|⟨s,_|⟨x,_|_⟩⟩<;>try rfl
    rcases cU with _|⟨t,_|⟨u,_|_⟩⟩<;>try rfl
    have e1:=he s (by simp) t
    have e2:=he x (by simp) u
    dsimp only;cases C.tt t<;>try rfl
    cases C.tt u<;>try rfl
    all_goals dsimp only
    all_goals rw[<-e1,<-e2]
    all_goals first|exact acL (gN s (by simp) _) (gN x (by simp) _) (Z o rfl)|exact acM (gN s (by simp) _) (Z o rfl)
   case len=>
    rcases xs with _|⟨s,_|⟨x,_|_⟩⟩<;>try rfl
    rcases cU with _|⟨t,_|⟨u,_|_⟩⟩<;>try rfl
    have e1:=he s (by simp) t
    dsimp only;rw[<-e1];exact ae6 (gN s (by simp) _)
   case max=>
    rcases xs with _|⟨s,_|⟨x,_|⟨z,_|⟨u,_|⟨v,_|_⟩⟩⟩⟩⟩<;>try rfl
    ·have e1:=he s (by simp) type
     have e2:=he x (by simp) type
     dsimp only;rw[<-e1,<-e2]
    ·have e1:=he s (by simp) type
     have e2:=he x (by simp) type
     have bv:=he z (by simp) type
     have dq:=he u (by simp) type
     have fa:=he v (by simp) type
     dsimp only;rw[<-e1,<-e2,<-bv,<-dq,<-fa]
   case min=>
    rcases xs with _|⟨s,_|⟨x,_|_⟩⟩<;>try rfl
    have e1:=he s (by simp) type
    have e2:=he x (by simp) type
    dsimp only;rw[<-e1,<-e2]
def ey(r:Option Nat):Fence:={Fence.wide with round:=r}
abbrev fN(r:Option Nat)(P:Program)(c:Code)(Q:Exit->Act->World->Prop)(a:Act)(w:World):Prop:=c.wpIn (ey r) 0 P Q a w
theorem Br(r:Option Nat)(f:FuncId):(ey r).fn f:=trivial
theorem Se(r:Option Nat)(n:Nat):(ey r).room n:=fun _ h=>by simp[ey,Fence.wide] at h
theorem fN.any{r:Option Nat}{P:Program}{c:Code}{Q:Exit->Act->World->Prop}{a:Act}{w:World}(h:fN r P c Q a w)(n:Nat):c.wpIn (ey r) n P Q a w:=
 fun b k cs KJ hb _=>h b k cs KJ hb (Se r _)
theorem fN.of{r:Option Nat}{P:Program}{c:Code}{Q:Exit->Act->World->Prop}{a:Act}{w:World}{n:Nat}(h:c.wpIn (ey r) n P Q a w):fN r P c Q a w:=
 fun b k cs KJ hb _=>h b k cs KJ hb (Se r _)
theorem fN.wp{P:Program}{c:Code}{Q:Exit->Act->World->Prop}{a:Act}{w:World}(h:fN none P c Q a w):c.wp P Q a w:=(wpIn_wide (n:=0)).1 h
theorem afl{r:Option Nat}{n:Nat}{P:Program}{f:FuncId}{args:Array Value}{w:World}{R:Ending->World->Prop}(h:Calls P f args w R):CallsIn (ey r) n P f args w R:=by
 cases r with
 |none=>exact callsIn_wide.2 h
 |some l=>exact CallsIn.inRound l (callsIn_wide.2 h)
theorem af7{r:Option Nat}{n:Nat}{P:Program}{row:String}{args:Array Value}{w:World}{R:Value->World->Prop}(h:Rows P row args w R):RowsIn (ey r) n P row args w R:=by
 intro c cs _;obtain⟨v,w',hr,hs⟩:=h c cs;exact⟨v,w',hr,stepsIn_wide.2 hs⟩
theorem tW(M:Array Value)(ds:List Deferred)(dst:Option Nat)(v:Value):(⟨M,ds⟩:Act).put dst v=⟨cr M dst v,ds⟩:=by cases dst<;>rfl
theorem IB{P:Program}{B:Oper}{M:Array Value}{w:World}{K:Act->World->Prop}(bR:∀a w,K a w->a.defers=[])(h:B.wp P ⟨M,[]⟩ w K (fun _ _ _=>False))(r:Option Nat)(ds:List Deferred){Q:Exit->Act->World->Prop}:
  B.wpIn (ey r) 0 P ⟨M,ds⟩ w (fun dv w'=>∃v,dv=⟨cr M B.dst v,ds⟩/\K ⟨cr M B.dst v,[]⟩ w') Q:=by
 refine⟨fun f _=>Br r f,?_⟩
 have bw:(⟨M,ds⟩:Act).eval=(⟨M,[]⟩:Act).eval:=by funext x;cases x<;>rfl
 rw[bw];unfold Oper.wp at h;have Z:∀c,B.op≠.defer c:=by
  intro c aL;have:(execOp (Act.eval ⟨M,[]⟩) B)=(do let d <-resolve (Act.eval ⟨M,[]⟩) c B.type;pure (.defer d)):=by
   unfold execOp;simp only[aL]
  rw[this] at h;simp only[Sem.run_bind] at h;cases hr:(resolve (Act.eval ⟨M,[]⟩) c B.type).run P w with
  |ok d w'=>
   rw[hr] at h;simp only[Result.andThen_ok,Sem.run_pure,Oper.upon] at h;have:=bR _ _ h;cases dp:B.dst<;>rw[dp] at this<;>simp[Act.put] at this
  |halt x w'=>
   rw[hr] at h;cases x<;>simp[Result.andThen,Oper.upon] at h
 rw[Oper.semAt_eq _ _ _ Z];generalize(execOp (Act.eval ⟨M,[]⟩) B).run P w=e5 at h;have hp:∀v,(⟨M,ds⟩:Act).put B.dst v=⟨cr M B.dst v,ds⟩:=tW M ds B.dst;have qB:∀v,(⟨M,[]⟩:Act).put B.dst v=⟨cr M B.dst v,[]⟩:=tW M [] B.dst;cases e5 with
 |ok x w'=>
  cases x with
  |value v=>simp only[Oper.upon,Oper.uponIn,qB] at h ⊢;exact⟨v,hp v,h⟩
  |skip=>simp only[Oper.upon,Oper.uponIn,qB] at h ⊢;exact⟨undef,hp _,h⟩
  |defer d=>
   simp only[Oper.upon] at h;have:=bR _ _ h;cases dp:B.dst<;>rw[dp] at this<;>simp[Act.put] at this
  |enter f args=>
   simp only[Oper.upon,Oper.uponIn] at h ⊢;refine⟨fun h=>by simp[ey,Fence.wide] at h,(afl h).mono fun e Cd he=>?_⟩
   cases e with
   |returned v=>simp only[qB] at he;exact⟨v,hp v,he⟩
   |panicked c=>exact he.elim
   |outgrown=>obtain⟨a0,U,aC⟩:=he;exact aC.elim
  |row row args=>
   simp only[Oper.upon,Oper.uponIn] at h ⊢;refine⟨fun h=>by simp[ey,Fence.wide] at h,(af7 h).mono fun v Cd he=>?_⟩
   simp only[qB] at he;exact⟨v,hp v,he⟩
  |_=>simp only[Oper.upon] at h
 |halt x w'=>
  cases x<;>simp only[Oper.upon] at h
def h9:List Oper->List Nat
 |[]=>[]
 |B::r=>B.dst.toList++h9 r
def gV:Nat:=1000000000
def ck:Code->List Nat
 |.region _ ops _=>h9 ops.toList
 |.seq a b|.cond _ a b=>ck a++ck b
 |.block _ a|.loop a=>ck a
 |.rangeFunc _ ps a b=>gV::(ps.toList++(ck a++ck b))
 |_=>[]
def gA:Code->Bool
 |.seq a b|.cond _ a b=>gA a&&gA b
 |.block _ a|.loop a=>gA a
 |.rangeFunc _ _ _ _=>false
 |_=>true
def mark(be:Nat):Deferred:={target:=.collected be,args:=#[]}
structure hQ(U:World)(Y:List Nat)(X:Nat->Prop)(bB:World)(du:List Nat)(cT:Nat->Prop):Prop where
 cx:∀w,Fr du bB w->Fr Y U w
 cg:∀b,(b∈du\/bB.heap.size<=b)->(b∈Y\/U.heap.size<=b)
 x:∀b,X b->cT b
structure Marks(U:World)(dx:List Nat)(bB:World)(du:List Nat)(cT:Nat->Prop):Prop where
 nodup:dx.Nodup
 new:∀be,be∈dx->U.heap.size<=be
 gS:∀be,be∈dx->bB.heap[be]? =some (.deferred (some []))/\be∉du/\cT be
def ep(U:World)(Y:List Nat)(X:Nat->Prop)(ds:List Deferred)(ez:Array Value)(W:List Nat)(st:al)(a:Act)(w:World):Prop:=
 ∃bB du cT D dx,hQ U Y X bB du cT/\Marks U dx bB du cT/\(a.defers=dx.map mark++ds/\(gV∉W->dx=[]))/\aq bB du cT D st a.tmps w/\∀t,t∉W->a.tmps.getD t undef=ez.getD t undef
def eY(U:World)(Y:List Nat)(X:Nat->Prop)(ds:List Deferred)(ez:Array Value)(W:List Nat):Out->Exit->Act->World->Prop
 |.norm st,.normal,a,w=>ep U Y X ds ez W st a w
 |.exit id st,.exit iz,a,w=>id=iz/\ep U Y X ds ez W st a w
 |.ret st,.ret,a,w=>ep U Y X ds ez W st a w
 |_,_,_,_=>False
theorem hQ.refl(U:World)(Y:List Nat)(X:Nat->Prop):hQ U Y X U Y X:=⟨fun _ h=>h,fun _ h=>h,fun _ h=>h⟩
theorem hQ.trans{U bB w2:World}{Y du eJ:List Nat}{X cT cp:Nat->Prop}(h:hQ U Y X bB du cT)(k:hQ bB du cT w2 eJ cp):hQ U Y X w2 eJ cp:=
 ⟨fun w hw=>h.cx w (k.cx w hw),fun b hb=>h.cg b (k.cg b hb),fun b hb=>k.x b (h.x b hb)⟩
theorem Marks.nil(U bB:World)(Y:List Nat)(X:Nat->Prop):Marks U [] bB Y X:=⟨List.nodup_nil,fun _ h=>by simp at h,fun _ h=>by simp at h⟩
theorem Marks.lt{U bB:World}{Y:List Nat}{X:Nat->Prop}{dx:List Nat}(h:Marks U dx bB Y X){be:Nat}(e':be∈dx):be<bB.heap.size:=by
 have:=(h.gS be e').1;exact(Array.getElem?_eq_some_iff.1 this).1
theorem Marks.trans{U bB w2:World}{Y du eJ:List Nat}{X cT cp:Nat->Prop}{dx CW:List Nat}(hb:hQ U Y X bB du cT)(h:Marks U dx bB du cT)(k:hQ bB du cT w2 eJ cp)(m:Marks bB CW w2 eJ cp):
  Marks U (CW++dx) w2 eJ cp:=by
 have hf:Fr du bB w2:=k.cx w2 (Fr.refl _ _);refine⟨List.nodup_append.2 ⟨m.nodup,h.nodup,fun a ha b hb e=>?_⟩,fun be e'=>?_,fun be e'=>?_⟩
 ·subst e;have h1:=m.new a ha;have h2:=h.lt hb;omega
 ·rcases List.mem_append.1 e' with e'|e'
  ·have h1:=m.new be e';have h2:Fr Y U bB:=hb.cx bB (Fr.refl _ _);have:=h2.size;omega
  ·exact h.new be e'
 ·rcases List.mem_append.1 e' with e'|e'
  ·exact m.gS be e'
  ·obtain⟨h1,h2,h3⟩:=h.gS be e';have hlt:=h.lt e';refine⟨(hf.block be hlt h2).trans h1,fun aE=>?_,k.x be h3⟩
   rcases k.cg be (.inl aE) with bi|bi
   ·exact h2 bi
   ·omega
section
variable {U:World}{Y:List Nat}{X:Nat->Prop}{ds:List Deferred}{ez:Array Value}{W:List Nat}
theorem ep.of{D:Nat->Value}{st:al}{M:Array Value}{w:World}(S:aq U Y X D st M w)(aw:∀t,t∉W->M.getD t undef=ez.getD t undef):ep U Y X ds ez W st ⟨M,ds⟩ w:=
 ⟨U,Y,X,D,[],hQ.refl _ _ _,Marks.nil _ _ _ _,⟨rfl,fun _=>rfl⟩,S,aw⟩
theorem ep.mono{cV:List Nat}(h:∀t,t∈W->t∈cV){st:al}{a:Act}{w:World}(k:ep U Y X ds ez W st a w):ep U Y X ds ez cV st a w:=by
 obtain⟨bB,du,cT,D,dx,h1,h2,h3,aE,bi⟩:=k;exact⟨bB,du,cT,D,dx,h1,h2,⟨h3.1,fun hn=>h3.2 fun aj=>hn (h _ aj)⟩,aE,fun t aw=>bi t fun aj=>aw (h t aj)⟩
theorem eY.mono{cV:List Nat}(h:∀t,t∈W->t∈cV):∀{B:Out} {e:Exit} {a:Act} {w:World},eY U Y X ds ez W B e a w->eY U Y X ds ez cV B e a w:=by
 intro B e a w k;cases B<;>cases e<;>first|exact ep.mono h k|exact⟨k.1,ep.mono h k.2⟩|exact k.elim
theorem ep.trans{bB:World}{du:List Nat}{cT:Nat->Prop}{dx:List Nat}{W1 jb:List Nat}{ho:Array Value}(hb:hQ U Y X bB du cT)(hm:Marks U dx bB du cT)(hr:gV∉W1->dx=[])(aw:∀t,t∉W1->ho.getD t undef=ez.getD t undef)
  {st:al} {a:Act} {w:World} (k:ep bB du cT (dx.map mark++ds) ho jb st a w):ep U Y X ds ez (W1++jb) st a w:=by
 obtain⟨w2,eJ,cp,D,CW,h1,h2,h3,aE,bi⟩:=k;refine⟨w2,eJ,cp,D,CW++dx,hb.trans h1,hm.trans hb h1 h2,⟨by rw[h3.1,List.map_append,List.append_assoc],fun hn=>by
  simp only[List.mem_append,not_or] at hn;rw[h3.2 hn.2,hr hn.1];rfl⟩,aE,fun t KG=>?_⟩
 simp only[List.mem_append,not_or] at KG;rw[bi t KG.2,aw t KG.1]
theorem eY.trans{bB:World}{du:List Nat}{cT:Nat->Prop}{dx:List Nat}{W1 jb:List Nat}{ho:Array Value}(hb:hQ U Y X bB du cT)(hm:Marks U dx bB du cT)(hr:gV∉W1->dx=[])(aw:∀t,t∉W1->ho.getD t undef=ez.getD t undef)
  {B:Out} {e:Exit} {a:Act} {w:World} (k:eY bB du cT (dx.map mark++ds) ho jb B e a w):eY U Y X ds ez (W1++jb) B e a w:=by
 cases B<;>cases e<;>first|exact ep.trans hb hm hr aw k|exact⟨k.1,ep.trans hb hm hr aw k.2⟩|exact k.elim
end
def aT(P:Program)(c:Code)(f:ht):Prop:=
 ∀r,r=none\/gA c=true->∀U Y X st y,(f st).comp=some y->∀D M w ds,aq U Y X D st M w->fN r P c (eY U Y X ds M (ck c) ((f st).out y)) ⟨M,ds⟩ w
def fS(P:Program)(C:g'):Code->Nat->Prop
 |.seq a b,p=>(∀f,C.nL p=some f->aT P (.seq a b) f)/\fS P C a (2*p)/\fS P C b (2*p+1)
 |.cond c a b,p=>(∀f,C.nL p=some f->aT P (.cond c a b) f)/\fS P C a (2*p)/\fS P C b (2*p+1)
 |.block id a,p=>(∀f,C.nL p=some f->aT P (.block id a) f)/\fS P C a (2*p)
 |c,p=>∀f,C.nL p=some f->aT P c f
def fC:Code->Nat->List (Nat×Code)
 |.seq a b,p=>(p,.seq a b)::(fC a (2*p)++fC b (2*p+1))
 |.cond c a b,p=>(p,.cond c a b)::(fC a (2*p)++fC b (2*p+1))
 |.block id a,p=>(p,.block id a)::fC a (2*p)
 |c,p=>[(p,c)]
theorem Rp{P:Program}{C:g'}:∀(c:Code) (p:Nat),(∀q fb,(q,fb)∈fC c p->∀f,C.nL q=some f->aT P fb f)->fS P C c p:=by
 intro c;induction c with
 |seq a b l4 qv=>
  intro p h;simp only[fC] at h;exact⟨h p _ List.mem_cons_self,l4 _ fun q fb hm=>h q fb (List.mem_cons_of_mem _ (List.mem_append.2 (.inl hm))),qv _ fun q fb hm=>h q fb (List.mem_cons_of_mem _ (List.mem_append.2 (.inr hm)))⟩
 |cond B a b l4 qv=>
  intro p h;simp only[fC] at h;exact⟨h p _ List.mem_cons_self,l4 _ fun q fb hm=>h q fb (List.mem_cons_of_mem _ (List.mem_append.2 (.inl hm))),qv _ fun q fb hm=>h q fb (List.mem_cons_of_mem _ (List.mem_append.2 (.inr hm)))⟩
 |block id a l4=>
  intro p h;simp only[fC] at h;exact⟨h p _ List.mem_cons_self,l4 _ fun q fb hm=>h q fb (List.mem_cons_of_mem _ hm)⟩
 |_=>intro p h;exact h p _ (by simp[fC])
section
variable {P:Program}{U:World}{Y:List Nat}{X:Nat->Prop}{D:Nat->Value}{st:al}{M:Array Value}{w:World}
theorem aq.ms(S:aq U Y X D st M w){t:Nat}{v:aZ}(hv:b_ D st.sites w (aH X D st.sites) v (M.getD t undef)):aq U Y X D (st.set t v) M w:=by
 refine⟨S.nt,fun u=>?_,S.sites,S.dW,S.cg,S.frame,S.old,S.eU⟩
 rw[al.Hc];by_cases h:t=u
 ·subst h;simp only[if_true];exact hv
 ·simp only[h,if_false];exact S.cA u
variable {R:Type}{C:Ctx}{ops:Array Oper}
theorem OR(S:aq U Y X D st M w)(H:aQ P C){B:Oper}{K:al->Option R}{r:R}(h:ka C st B K=some r){N:Act->World->Prop}{Q:Exit->Act->World->Prop}
  (bR:∀ao aW bW w',K ao=some r->aq U Y X aW ao bW w'->N ⟨bW,[]⟩ w'):B.wp P ⟨M,[]⟩ w N Q:=by
 unfold ka at h;cases Z:cf st B.dst with
 |false=>simp[Z] at h
 |true=>
  simp only[Z,cond_true] at h;have hs:=ajY S H Z;cases hc:(step C st B).comp with
  |none=>simp[hc] at h
  |some y=>
   simp only[hc,Option.bind_some] at h;cases hk:(step C st B).qO y with
   |false=>simp[hk] at h
   |true=>
    simp only[hk,cond_true] at h;exact hs y hc hk N Q fun aW bW w' cc=>bR _ aW bW w' h cc
theorem aeH{T e:TypeId}(h:P.underlying T=some (.slice e))(a:Option Addr)(n c:Nat)(neg:Bool):
  (binOp (if neg then .neq else .eql) T (.slice a n c) (.slice none 0 0)).run P w=.ok (.bool (if neg then !a.isNone else a.isNone)) w:=by
 have e:(Op.equal T (.slice a n c) (.slice none 0 0)).run P w=.ok a.isNone w:=by
  have key:∀d:Nat,(Op.equalIn (d+1) T (.slice a n c) (.slice none 0 0)).run P w=.ok a.isNone w:=fun d=>by cases a<;>simp[Op.equalIn,run_underlying h]
  exact key 9999
 cases neg
 ·show((do pure (.bool (<-Op.equal T (.slice a n c) (.slice none 0 0)))):Sem Value).run P w=_
  simp only[Sem.run_bind,e,Result.andThen_ok,Sem.run_pure];rfl
 ·show((do pure (.bool (!(<-Op.equal T (.slice a n c) (.slice none 0 0))))):Sem Value).run P w=_
  simp only[Sem.run_bind,e,Result.andThen_ok,Sem.run_pure];rfl
theorem ab9{op:BinOp}{T:TypeId}{x y:Operand}{a b:Option Addr}{n c gR fb:Nat}:(eqGuard op T x y (.slice a n c) (.slice b gR fb)).run P w=.ok () w:=by
 unfold eqGuard;cases op<;>rfl
theorem aeX{B:Oper}{t:bc}{xs:List (den t)}{neg:Bool}(h:HY C st B=some (⟨t,xs⟩,neg)):∃T x mY e ty bytes,B.op=.binOp (if neg then .neq else .eql) T x (.const (.slice none 0 0)) mY/\C.tt T=.slice e ty bytes/\bd C st T x=.av (.am (.d (.sl t xs))):=by
 unfold HY at h;split at h
 ·rename_i op T x mY aL;split at h
  ·rename_i e ty bytes bh;split at h
   ·split at h
    ·rename_i bz iv hx;cases h;exact⟨T,x,mY,e,ty,bytes,aL,bh,hx⟩
    ·cases h
   ·split at h
    ·rename_i bz iv hx;cases h;exact⟨T,x,mY,e,ty,bytes,aL,bh,hx⟩
    ·cases h
   ·cases h
  ·cases h
 ·cases h
theorem acx{t:bc}{xs:List (den t)}{a b:Option R}{r:R}(h:py xs a b=some r):b=some r/\(xs=[]->a=some r):=by
 unfold py at h;split at h
 ·rename_i aar;exact⟨h,fun he=>(aar he).trans h⟩
 ·cases h
theorem ah4(S:aq U Y X D st M w)(H:aQ P C){B:Oper}{K:al->Option R}{r:R}(h:uQ C st B K=some r){N:Act->World->Prop}{Q:Exit->Act->World->Prop}
  (bR:∀ao aW bW w',K ao=some r->aq U Y X aW ao bW w'->N ⟨bW,[]⟩ w'):B.wp P ⟨M,[]⟩ w N Q:=by
 unfold uQ at h;split at h
 ·rename_i t xs neg hn;cases Z:cf st B.dst with
  |false=>simp[Z] at h
  |true=>
   simp only[Z,cond_true] at h;obtain⟨h2,h1⟩:=acx h;obtain⟨T,x,mY,e,ty,bytes,aL,bh,hx⟩:=aeX hn;have hs:=dn S C T x;rw[hx] at hs;have bL:=H.tt T;rw[bh] at bL;have run:∀{a:Option Addr} {n c:Nat},Act.eval ⟨M,[]⟩ x=.slice a n c->(execOp (Act.eval ⟨M,[]⟩) B).run P w=.ok (.value (.bool (if neg then !a.isNone else a.isNone))) w:=by
    intro a n c hv;unfold execOp;have hc:Act.eval ⟨M,[]⟩ (.const (.slice none 0 0))=.slice none 0 0:=rfl;simp only[aL,hv,hc,Sem.run_bind,ab9,aeH bL.1.1,Result.andThen_ok,Sem.run_pure]
   have fin:∀b:Bool,(execOp (Act.eval ⟨M,[]⟩) B).run P w=.ok (.value (.bool b)) w->K (st.cW B.dst (one (.bool b)) [])=some r->B.wp P ⟨M,[]⟩ w N Q:=by
    intro b hr hk;refine oy hr (bR _ _ _ _ hk (aq.cW (us:=[]) S Z ?_));exact bF.bool b
   have hs:bF w (aH X D st.sites) (.sl t xs) (Act.eval ⟨M,[]⟩ x):=hs;generalize ir:Act.eval ⟨M,[]⟩ x=v at hs;cases hs with
   |nil=>
    have:=run ir;cases neg
    ·exact fin true this (h1 rfl)
    ·exact fin false this (h1 rfl)
   |sl t xs a cap cs n ic hcap hb hl hc hr=>
    have:=run ir;cases neg
    ·exact fin false this h2
    ·exact fin true this h2
 ·exact OR S H h bR
theorem af1(S:aq U Y X D st M w){B:Oper}{K:al->Option R}{r:R}(h:rW st B K=some r){N:Act->World->Prop}
  (bR:∀ao aW bW w',K ao=some r->aq U Y X aW ao bW w'->N ⟨bW,[]⟩ w'):N ((⟨M,[]⟩:Act).put B.dst undef) w:=by
 unfold rW at h;cases Z:cf st B.dst with
 |false=>simp[Z] at h
 |true=>
  simp only[Z,cond_true] at h;have:(⟨M,[]⟩:Act).put B.dst undef=⟨cr M B.dst undef,[]⟩:=by cases B.dst<;>rfl
  rw[this];exact bR _ _ _ _ h (aq.cW (us:=[]) S Z rfl)
theorem iK{M:Array Value}{dst:Option Nat}{v:Value}{t:Nat}(h:t∉dst.toList):(cr M dst v).getD t undef=M.getD t undef:=by
 cases dst with
 |none=>rfl
 |some d=>
  have:d≠t:=fun e=>h (by simp[e])
  simp[cr,Array.getD_eq_getD_getElem?,Array.getElem?_setIfInBounds_ne this]
variable {rn:Option Nat}{ds:List Deferred}
theorem E'(S:aq U Y X D st M w)(H:aQ P C){B:Oper}{K:al->Option R}{r:R}(h:uQ C st B K=some r){N:Act->World->Prop}{Q:Exit->Act->World->Prop}
  (bR:∀ao aW bW w',K ao=some r->aq U Y X aW ao bW w'->(∀t,t∉B.dst.toList->bW.getD t undef=M.getD t undef)->N ⟨bW,ds⟩ w'):B.wpIn (ey rn) 0 P ⟨M,ds⟩ w N Q:=by
 refine Oper.wpIn_mono ?_ (IB (K:=fun a w=>a.defers=[]/\∃ao aW,K ao=some r/\aq U Y X aW ao a.tmps w) (fun _ _ h=>h.1) (ah4 S H h fun ao aW bW w' hk cc=>⟨rfl,ao,aW,hk,cc⟩) rn ds)
 rintro a w' ⟨v,rfl,_,ao,aW,hk,cc⟩;exact bR ao aW _ w' hk cc fun t aw=>iK aw
theorem ng(S:aq U Y X D st M w)(H:aQ P C){B:Oper}{K:al->Option R}{r:R}(h:ka C st B K=some r){N:Act->World->Prop}{Q:Exit->Act->World->Prop}
  (bR:∀ao aW bW w',K ao=some r->aq U Y X aW ao bW w'->(∀t,t∉B.dst.toList->bW.getD t undef=M.getD t undef)->N ⟨bW,ds⟩ w'):B.wpIn (ey rn) 0 P ⟨M,ds⟩ w N Q:=by
 refine Oper.wpIn_mono ?_ (IB (K:=fun a w=>a.defers=[]/\∃ao aW,K ao=some r/\aq U Y X aW ao a.tmps w) (fun _ _ h=>h.1) (OR S H h fun ao aW bW w' hk cc=>⟨rfl,ao,aW,hk,cc⟩) rn ds)
 rintro a w' ⟨v,rfl,_,ao,aW,hk,cc⟩;exact bR ao aW _ w' hk cc fun t aw=>iK aw
theorem xm(S:aq U Y X D st M w){B:Oper}{K:al->Option R}{r:R}(h:rW st B K=some r){N:Act->World->Prop}
  (bR:∀ao aW bW w',K ao=some r->aq U Y X aW ao bW w'->(∀t,t∉B.dst.toList->bW.getD t undef=M.getD t undef)->N ⟨bW,ds⟩ w'):N ((⟨M,ds⟩:Act).put B.dst undef) w:=by
 rw[tW];refine af1 (N:=fun a w=>∀t0,a.tmps=t0->t0=cr M B.dst undef->N ⟨t0,ds⟩ w) S h (fun ao aW bW w' hk cc t0 e1 e2=>?_) (cr M B.dst undef) (by rw[tW]) rfl
 subst e1;exact bR ao aW _ w' hk cc fun t aw=>by have e2:bW=cr M B.dst undef:=e2;rw[e2];exact iK aw
theorem af6(H:aQ P C){r:R}{W:List Nat}:∀(n k:Nat),ops.size=k+n->(∀B,B∈ops.toList.drop k->∀t,t∈B.dst.toList->t∈W)->∀(st:al) (D:Nat->Value) (M:Array Value) (w:World) (K:al->Option R) (Q:Exit->Act->World->Prop),aq U Y X D st M w->
  ux C ops (ops.toList.drop k) st K=some r->(∀ao aW bW w',K ao=some r->aq U Y X aW ao bW w'->(∀t,t∉W->bW.getD t undef=M.getD t undef)->Q .normal ⟨bW,ds⟩ w')->wpOpsIn (ey rn) 0 P ops Q (List.range' k n) ⟨M,ds⟩ w:=by
 intro n;induction n with
 |zero=>
  intro k hk _ st D M w K Q S h bR;rw[List.drop_eq_nil_of_le (by simp;omega)] at h
  exact bR st D M w h S fun _ _=>rfl
 |succ n ih=>
  intro k hk hW st D M w K Q S h bR;have hlt:k<ops.size:=by omega
  have aL:ops[k]? =some ops[k]:=Array.getElem?_eq_getElem hlt;have IE:ops.toList.drop k=ops[k]::ops.toList.drop (k+1):=by
   rw[List.drop_eq_getElem_cons (by simpa using hlt)];simp
  rw[IE] at h hW;simp only[ux] at h;rw[show List.range' k (n+1)=k::List.range' (k+1) n from rfl]
  simp only[wpOpsIn,aL];have awk:=hW _ List.mem_cons_self;have K':=fun B aL=>hW B (List.mem_cons_of_mem _ aL)
  have next:∀ao aW bW w',ux C ops (ops.toList.drop (k+1)) ao K=some r->aq U Y X aW ao bW w'->(∀t,t∉(ops[k]).dst.toList->bW.getD t undef=M.getD t undef)->wpOpsIn (ey rn) 0 P ops Q (List.range' (k+1) n) ⟨bW,ds⟩ w':=
   fun ao aW bW w' aj cc aw=>ih (k+1) (by omega) K' ao aW bW w' K Q cc aj fun vE hS o4 w2 hk2 hI lo=>bR vE hS o4 w2 hk2 hI fun t _8=>(lo t _8).trans (aw t fun aj=>_8 (awk t aj))
  generalize ops[k]=B at h next ⊢
  have n':∀f,B.about P w (Act.eval ⟨M,ds⟩)=some f->(ey rn).fn f:=fun f _=>Br rn f
  unfold RT at h;cases hg:B.guard with
  |none=>
   simp only[hg] at h;rw[if_pos (by simp[Region.wanted,hg])]
   exact E' S H h next
  |some LY=>
   obtain⟨j,want⟩:=LY;simp only[hg] at h;have hw:Region.wanted B (yielded ops M)=(yielded ops M j==some want):=by simp[Region.wanted,hg]
   cases hj:(ops[j]?).bind (·.dst) with
   |none=>simp[hj] at h
   |some t=>
    simp only[hj] at h;have iP:=S.cA t;split at h
    ·rename_i b hb;rw[hb] at iP;have hv:=jg iP;have hy:yielded ops M j=some b:=by
      have aw:t<M.size:=by
       rcases Nat.lt_or_ge t M.size with aj|aj
       ·exact aj
       ·simp[Array.getD,Nat.not_lt.2 aj,undef] at hv
      have:M[t]? =some (.bool b):=by
       rw[Array.getElem?_eq_getElem aw];simpa[Array.getD,aw] using hv
      simp[yielded,hj,this]
     rw[hy] at hw;have go:∀bG,b=bG->aq U Y X D (st.set t (one (.bool bG))) M w:=fun bG e=>S.ms (by rw[hv,e];exact .bool _)
     cases b<;>cases want<;>simp only[cond_true,cond_false,Bool.not_true,Bool.not_false] at h
     ·rw[if_pos (by rw[hw];rfl)];exact E' (go false rfl) H h next
     ·rw[if_neg (by rw[hw];decide)];exact⟨n',xm (go false rfl) h next⟩
     ·rw[if_neg (by rw[hw];decide)];exact⟨n',xm (go true rfl) h next⟩
     ·rw[if_pos (by rw[hw];rfl)];exact E' (go true rfl) H h next
    ·rename_i x hb;rw[hb] at iP;have hv:M.getD t undef=.tuple x:=iP;have hy:yielded ops M j=none:=by
      simp only[yielded,hj,Option.bind_some];cases aw:M[t]? with
      |none=>rfl
      |some v=>
       have:M.getD t undef=v:=by simp[Array.getD_eq_getD_getElem?,aw]
       rw[this] at hv;rw[hv]
     rw[hy] at hw;rw[if_neg (by rw[hw];simp)]
     exact⟨n',xm S h next⟩
    ·cases h
end
abbrev oc:=Nat⊕Nat
def eb(st:al):oc->aZ⊕Option Site
 |.inl t=>.inl (st.get t)
 |.inr o=>.inr (st.ae o)
def ni{aI:Type}:List (Nat×aI)->Nat->Option aI
 |[],_=>none
 |(k,v)::r,n=>match ni r n with
  |some x=>some x
  |none=>bif k.beq n then some v else none
def Rec.wr(x:Rec):oc->Option (aZ⊕Option Site)
 |.inl t=>match x.B.dst with
  |some d=>bif d.beq t then some (.inl x.v) else none
  |none=>none
 |.inr o=>(ni x.us o).map fun s=>.inr (some s)
theorem afR:∀(us:List (Nat×Site)) (st:al) (o:Nat),(st.hN us).ae o=match ni us o with|some s=>some s|none=>st.ae o:=by
 intro us;induction us with
 |nil=>intro st o;rfl
 |cons p us ih=>
  obtain⟨k,s⟩:=p;intro st o;simp only[al.hN,ih,ni];cases ni us o with
  |some x=>rfl
  |none=>
   simp only[al.wV];by_cases h:k=o
   ·subst h;simp
   ·simp[h,js h]
theorem Pv:∀(us:List (Nat×Site)) (st:al) (t:Nat),(st.hN us).get t=st.get t:=by
 intro us;induction us with
 |nil=>intro st t;rfl
 |cons p us ih=>intro st t;simp only[al.hN,ih,al.ad8]
theorem QF:∀(us:List (Nat×Site)) (st:al),(st.hN us).nt=st.nt:=by
 intro us;induction us with
 |nil=>intro st;rfl
 |cons p us ih=>intro st;simp only[al.hN,ih,al.aeW]
theorem Io(st:al)(d:Option Nat)(v:aZ)(us:List (Nat×Site)):(st.cW d v us).nt=st.nt:=by
 cases d<;>simp only[al.cW,al.amW,QF]
theorem xO(st:al)(x:Rec)(l:oc):eb (st.cW x.B.dst x.v x.us) l=match x.wr l with|some u=>u|none=>eb st l:=by
 cases l with
 |inl t=>
  simp only[eb,Rec.wr];cases x.B.dst with
  |none=>simp only[al.cW,Pv]
  |some d=>
   simp only[al.cW,al.Hc,Pv];by_cases h:d=t
   ·subst h;simp
   ·simp[h,js h]
 |inr o=>
  simp only[eb,Rec.wr];have:(st.cW x.B.dst x.v x.us).ae o=(st.hN x.us).ae o:=by cases x.B.dst<;>simp only[al.cW,al.ah0]
  rw[this,afR];cases ni x.us o<;>rfl
def eh(L:Nat->Bool):Nat->List Rec->al->al
 |_,[],st=>st
 |k,x::r,st=>eh L (k+1) r (bif L k then st.cW x.B.dst x.v x.us else st)
theorem FL{L:Nat->Bool}:∀{xs:List Rec} {k:Nat} {st:al},(eh L k xs st).nt=st.nt:=by
 intro xs;induction xs with
 |nil=>intro k st;rfl
 |cons x xs ih=>intro k st;simp only[eh,ih];cases L k<;>simp[Io]
theorem DU{L L':Nat->Bool}:∀{xs:List Rec} {k:Nat} {st ao:al} {l:oc},eb st l=eb ao l->(∀j x,xs[j]? =some x->x.wr l≠none->L (k+j)=L' (k+j))->eb (eh L k xs st) l=eb (eh L' k xs ao) l:=by
 intro xs;induction xs with
 |nil=>intro k st ao l h _;exact h
 |cons x xs ih=>
  intro k st ao l h dG;simp only[eh];refine ih ?_ fun j y hy hw=>?_
  ·cases hw:x.wr l with
   |none=>
    have e1:∀s:al,eb (s.cW x.B.dst x.v x.us) l=eb s l:=fun s=>by rw[xO,hw]
    cases L k<;>cases L' k<;>simp only[cond_true,cond_false,e1,h]
   |some u=>
    have:=dG 0 x rfl (by rw[hw];intro h;cases h)
    simp only[Nat.add_zero] at this;rw[this];cases L' k with
    |true=>simp only[cond_true,xO,hw]
    |false=>simp only[cond_false,h]
  ·have:=dG (j+1) y (by simpa using hy) hw
   rw[show k+(j+1)=k+1+j from by omega] at this
   exact this
theorem DV{xs:List Rec}:∀{k:Nat} {st:al} {L:Nat->Bool},(∀j,k<=j->L j=false)->eh L k xs st=st:=by
 induction xs with
 |nil=>intro k st L _;rfl
 |cons x xs ih=>
  intro k st L h;simp only[eh,h k (Nat.le_refl _),cond_false];exact ih fun j hj=>h j (by omega)
theorem Nr{L L':Nat->Bool}:∀{xs:List Rec} {k k':Nat} {st:al},(∀j,j<xs.length->L (k+j)=L' (k'+j))->eh L k xs st=eh L' k' xs st:=by
 intro xs;induction xs with
 |nil=>intro k k' st _;rfl
 |cons x xs ih=>
  intro k k' st h;simp only[eh];have h0:=h 0 (by simp)
  simp only[Nat.add_zero] at h0;rw[h0];exact ih fun j hj=>by have:=h (j+1) (by simpa using hj);rw[show k+(j+1)=k+1+j from by omega,show k'+(j+1)=k'+1+j from by omega] at this;exact this
theorem afp{L:Nat->Bool}:∀{xs:List Rec} {k i:Nat} {st:al} {l:oc} {x:Rec} {u:aZ⊕Option Site},xs[i]? =some x->L (k+i)=true->x.wr l=some u->
  (∀j y,i<j->xs[j]? =some y->y.wr l≠none->L (k+j)=false)->eb (eh L k xs st) l=u:=by
 intro xs;induction xs with
 |nil=>intro k i st l x u h;cases h
 |cons y xs ih=>
  intro k i st l x u h dG hw hj;simp only[eh];cases i with
  |zero=>
   simp only[List.getElem?_cons_zero,Option.some.injEq] at h;subst h;simp only[Nat.add_zero] at dG;rw[dG];simp only[cond_true];have e:eb (st.cW y.B.dst y.v y.us) l=u:=by rw[xO,hw]
   rw[<-e];have e2:st.cW y.B.dst y.v y.us=eh (fun _=>false) (k+1) xs (st.cW y.B.dst y.v y.us):=(DV fun _ _=>rfl).symm
   conv=>rhs;rw[e2]
   refine DU rfl fun j z hz KC=>?_
   have:=hj (j+1) z (by omega) (by simpa using hz) KC
   rw[show k+(j+1)=k+1+j from by omega] at this
   exact this
  |succ i=>
   refine ih (by simpa using h) (by rw[show k+1+i=k+(i+1) from by omega];exact dG) hw fun j z pa hz KC=>?_
   have:=hj (j+1) z (by omega) (by simpa using hz) KC
   rw[show k+(j+1)=k+1+j from by omega] at this
   exact this
section
variable {P:Program}{ops:Array Oper}
def B6(ops:Array Oper)(L:Nat->Bool)(i:Nat):Prop:=∀B,ops[i]? =some B->∀e,e∈B.after.toList->Region.binds .any e=true->L e.on=true
def A5(ops:Array Oper)(L:Nat->Bool):Prop:=∀j,L j=true->B6 ops L j
def tw(ops:Array Oper)(k i:Nat):Prop:=∀L,A5 ops L->B6 ops L i->L k=true
theorem Rx{aI:Type}{l:List (Nat×aI)}{n:Nat}{v:aI}(h:look l n=some v):(n,v)∈l:=by
 induction l with
 |nil=>cases h
 |cons p l ih=>
  obtain⟨m,u⟩:=p;simp only[look] at h;cases hb:m.beq n with
  |true=>
   simp only[hb,cond_true,Option.some.injEq] at h;rw[<-Nat.eq_of_beq_eq_true hb,h];exact List.mem_cons_self
  |false=>simp only[hb,cond_false] at h;exact List.mem_cons_of_mem _ (ih h)
theorem ajA{acc:List (Nat×Rec×List Nat)}(ha:∀k x b,(k,x,b)∈acc->∀m,m∈b->tw ops m k){i:Nat}:∀{es:List Edge} {m:Nat},m∈lR acc es->∀L,A5 ops L->
  (∀e,e∈es->Region.binds .any e=true->L e.on=true)->L m=true:=by
 intro es;induction es with
 |nil=>intro m h;cases h
 |cons e es ih=>
  intro m h L hc hf;simp only[lR] at h;cases hb:Region.binds .any e with
  |false=>
   simp only[hb,cond_false] at h;exact ih h L hc fun cy l_=>hf cy (List.mem_cons_of_mem _ l_)
  |true=>
   simp only[hb,cond_true] at h;have h0:=hf e List.mem_cons_self hb;split at h
   ·rename_i x hx;rcases List.mem_cons.1 h with rfl|h
    ·exact h0
    ·rcases List.mem_append.1 h with h|h
     ·have hm:(e.on,x)∈acc:=Rx hx;obtain⟨fH,fv⟩:=x;exact ha _ _ _ hm m h L hc (hc _ h0)
     ·exact ih h L hc fun cy l_=>hf cy (List.mem_cons_of_mem _ l_)
   ·exact ih h L hc fun cy l_=>hf cy (List.mem_cons_of_mem _ l_)
structure sD(C:Ctx)(ops:Array Oper)(st:al)(B:Oper)(x:Rec):Prop where
 gS:x.B=B
 guard:∀j want,B.guard=some (j,want)->∃t,(ops[j]?).bind (·.dst)=some t/\t∈x.kz/\((∃b,st.get t=one (.bool b)/\(x.go=(b==want)))\/((∃u,st.get t=bZ (.cH (.tuple u)))/\x.go=false))
 free:B.guard=none->x.go=true
 skip:x.go=false->x.v=zW/\x.us=[]
 run:x.go=true->∃y,(step C st B).comp=some y/\(step C st B).qO y=true/\x.v=(step C st B).val y/\x.us=(step C st B).us y/\(∀t,t∈ot (kY B.op)->t∈x.kz)/\(∀o,o∈IH C st B->o∈x.rn)/\(Av B.op=true->x.CL=true)
inductive kH(C:Ctx)(ops:Array Oper):List Oper->Nat->List (Nat×Rec×List Nat)->al->List Rec->al->Prop where
 |nil {i acc st}:kH C ops [] i acc st [] st
 |cons {B r i acc st x xs ao} (Z:cf st B.dst=true) (he:rN i B.after.toList=true) (hx:sD C ops st B x) (hk:rY (lR acc B.after.toList) x acc=true)
   (h:kH C ops r (i+1) ((i,x,lR acc B.after.toList)::acc) (st.cW B.dst x.v x.us) xs ao):kH C ops (B::r) i acc st (x::xs) ao
theorem agT{R:Type}{g:Bool}{v:aZ}{K:aZ->Option R}{r:R}(h:I' g v K=some r):K v=some r:=by
 unfold I' at h;cases g with
 |false=>exact h
 |true=>
  simp only[cond_true] at h;split at h
  ·rename_i b;cases b<;>exact h
  ·exact h
theorem aec{R:Type}{C:Ctx}{g:Bool}{st:al}{B:Oper}{K:Rec->Option R}{r:R}(h:Im C ops g st B K=some r):∃x,sD C ops st B x/\K x=some r:=by
 have run:∀gs,zP C g st B gs K=some r->(∀j want,B.guard=some (j,want)->∃t,(ops[j]?).bind (·.dst)=some t/\t∈gs/\∃b,st.get t=one (.bool b)/\(b==want)=true)->∃x,sD C ops st B x/\K x=some r:=by
  intro gs h hg;unfold zP at h;obtain⟨y,hy,h⟩:=Option.bind_eq_some_iff.1 h;cases hc:(step C st B).qO y with
  |false=>simp[hc] at h
  |true=>
   simp only[hc,cond_true] at h;refine⟨_,⟨rfl,fun j want hj=>?_,fun _=>rfl,fun h=>(by cases h),fun _=>⟨y,hy,hc,rfl,rfl,fun t aw=>List.mem_append.2 (.inr aw),fun _ h=>h,fun h=>h⟩⟩,agT h⟩
   obtain⟨t,h1,h2,b,h3,aE⟩:=hg j want hj;exact⟨t,h1,List.mem_append.2 (.inl h2),.inl ⟨b,h3,aE.symm⟩⟩
 have skip:∀gs,FJ B gs K=some r->(∃j want,B.guard=some (j,want)/\∃t,(ops[j]?).bind (·.dst)=some t/\t∈gs/\((∃b,st.get t=one (.bool b)/\(b==want)=false)\/∃u,st.get t=bZ (.cH (.tuple u))))->∃x,sD C ops st B x/\K x=some r:=by
  intro gs h hg;obtain⟨j,want,hj,t,h1,h2,h3⟩:=hg;refine⟨_,⟨rfl,fun abK azJ jy=>?_,fun h=>(by rw[hj] at h;cases h),fun _=>⟨rfl,rfl⟩,fun h=>(by cases h)⟩,h⟩
  rw[hj] at jy;cases jy;refine⟨t,h1,h2,?_⟩;rcases h3 with⟨b,h3,aE⟩|h3
  ·exact .inl ⟨b,h3,aE.symm⟩
  ·exact .inr ⟨h3,rfl⟩
 unfold Im at h;split at h
 ·rename_i hg;exact run [] h fun j want hj=>by rw[hg] at hj;cases hj
 ·rename_i j want hg;split at h
  ·rename_i t aw;split at h
   ·rename_i b hb;cases b<;>cases want<;>simp only[cond_true,cond_false,Bool.not_true,Bool.not_false] at h
    ·exact run [t] h fun abK w' jy=>by rw[hg] at jy;cases jy;exact⟨t,aw,List.mem_singleton.2 rfl,false,hb,rfl⟩
    ·exact skip [t] h ⟨j,true,hg,t,aw,List.mem_singleton.2 rfl,.inl ⟨false,hb,rfl⟩⟩
    ·exact skip [t] h ⟨j,false,hg,t,aw,List.mem_singleton.2 rfl,.inl ⟨true,hb,rfl⟩⟩
    ·exact run [t] h fun abK w' jy=>by rw[hg] at jy;cases jy;exact⟨t,aw,List.mem_singleton.2 rfl,true,hb,rfl⟩
   ·rename_i u hu;exact skip [t] h ⟨j,want,hg,t,aw,List.mem_singleton.2 rfl,.inr ⟨u,hu⟩⟩
   ·cases h
  ·cases h
theorem ahf{R:Type}{C:Ctx}{K:al->Option R}{r:R}:∀{os:List Oper} {i:Nat} {acc:List (Nat×Rec×List Nat)} {st:al},AX C ops os i acc st K=some r->∃xs ao,kH C ops os i acc st xs ao/\K ao=some r:=by
 intro os;induction os with
 |nil=>intro i acc st h;exact⟨[],st,.nil,h⟩
 |cons B os ih=>
  intro i acc st h;simp only[AX] at h;cases Z:cf st B.dst&&rN i B.after.toList with
  |false=>simp[Z] at h
  |true=>
   simp only[Z,cond_true] at h;obtain⟨x,hx,h⟩:=aec h;cases hk:rY (lR acc B.after.toList) x acc with
   |false=>simp[hk] at h
   |true=>
    simp only[hk,cond_true] at h;obtain⟨xs,ao,h1,h2⟩:=ih h;simp only[Bool.and_eq_true] at Z;exact⟨x::xs,ao,.cons Z.1 Z.2 hx hk h1,h2⟩
theorem kH.length{C:Ctx}{os:List Oper}{i:Nat}{acc:List (Nat×Rec×List Nat)}{st ao:al}{xs:List Rec}(h:kH C ops os i acc st xs ao):xs.length=os.length:=by
 induction h with
 |nil=>rfl
 |cons _ _ _ _ _ ih=>simp[ih]
theorem kH.arH{C:Ctx}{os:List Oper}{i:Nat}{acc:List (Nat×Rec×List Nat)}{st ao:al}{xs:List Rec}(h:kH C ops os i acc st xs ao):∀k,eh (fun _=>true) k xs st=ao:=by
 induction h with
 |nil=>intro k;rfl
 |cons _ _ hx _ _ ih=>intro k;simp only[eh,cond_true,hx.gS];exact ih _
theorem kH.at_{C:Ctx}{os:List Oper}{i:Nat}{acc:List (Nat×Rec×List Nat)}{st ao:al}{xs:List Rec}(h:kH C ops os i acc st xs ao):∀j x,xs[j]? =some x->
  ∃B,os[j]? =some B/\cf st B.dst=true/\rN (i+j) B.after.toList=true/\sD C ops (eh (fun k=>decide (k<j)) 0 xs st) B x:=by
 induction h with
 |nil=>intro j x h;cases h
 |@cons B r i acc st x xs ao Z he hx hk h ih=>
  intro j y hy;cases j with
  |zero=>
   simp only[List.getElem?_cons_zero,Option.some.injEq] at hy;subst hy;refine⟨B,rfl,Z,he,?_⟩;rw[DV fun j _=>by simp[Nat.blt]]
   exact hx
  |succ j=>
   obtain⟨cP,h1,h2,h3,aE⟩:=ih j y (by simpa using hy)
   refine⟨cP,by simpa using h1,?_,by rw[show i+(j+1)=i+1+j from by omega];exact h3,?_⟩
   ·revert h2;cases cP.dst<;>simp[cf,Io]
   ·simp only[eh];have gT:decide (0<j+1)=true:=by simp
    rw[gT,cond_true,hx.gS];rw[Nr (L':=fun k=>decide (k<j)) (k':=0) fun m _=>by simp only[decide_eq_decide];omega]
    exact aE
theorem OX{n:Nat}{l:List Nat}:fD n l=true <-> n∈l:=by
 induction l with
 |nil=>simp[fD]
 |cons m l ih=>
  simp only[fD,Bool.or_eq_true,ih,List.mem_cons];constructor
  ·rintro(h|h)
   ·exact .inl (Nat.eq_of_beq_eq_true h)
   ·exact .inr h
  ·rintro(h|h)
   ·exact .inl (by rw[h];exact Nat.beq_refl m)
   ·exact .inr h
theorem aeV{wh:List Nat}{x:Rec}:∀{acc:List (Nat×Rec×List Nat)},rY wh x acc=true->∀k y b,(k,y,b)∈acc->k∈wh\/lU y x=false:=by
 intro acc;induction acc with
 |nil=>intro _ k y b h;cases h
 |cons p acc ih=>
  obtain⟨j,z,aAS⟩:=p;intro h k y b hm;simp only[rY,Bool.and_eq_true,Bool.or_eq_true] at h;rcases List.mem_cons.1 hm with hm|hm
  ·cases hm;rcases h.1 with h1|h1
   ·exact .inl (OX.1 h1)
   ·exact .inr (by simpa using h1)
  ·exact ih h.2 k y b hm
theorem kH.au5{C:Ctx}{os:List Oper}{i:Nat}{acc:List (Nat×Rec×List Nat)}{st ao:al}{xs:List Rec}(h:kH C ops os i acc st xs ao):∀(pre:List Rec),pre.length=i->(∀j,ops[i+j]? =os[j]?)->
  (∀k y,pre[k]? =some y->∃b,(k,y,b)∈acc)->(∀k x b,(k,x,b)∈acc->∀m,m∈b->tw ops m k)->∀j x,xs[j]? =some x->∀k y,k<i+j->(pre++xs)[k]? =some y->tw ops k (i+j)\/lU y x=false:=by
 induction h with
 |nil=>intro pre _ _ _ _ j x h;cases h
 |@cons B r i acc st x xs ao Z he hx hk h ih=>
  intro pre hlen Xz Xy ia j y hy k z av0 hz;have XK:∀m,m∈lR acc B.after.toList->tw ops m i:=fun m hm L hc hf=>by
   refine ajA ia (i:=i) hm L hc fun e he hb=>hf B ?_ e he hb
   have:=Xz 0;simpa using this
  cases j with
  |zero=>
   simp only[List.getElem?_cons_zero,Option.some.injEq] at hy;subst hy;simp only[Nat.add_zero] at av0 ⊢;rw[List.getElem?_append_left (by omega)] at hz
   obtain⟨b,hb⟩:=Xy k z hz;rcases aeV hk k z b hb with h1|h1
   ·exact .inl (XK k h1)
   ·exact .inr h1
  |succ j=>
   have:=ih (pre++[x]) (by simp[hlen]) (fun j=>by have:=Xz (j+1);rw[show i+1+j=i+(j+1) from by omega];simpa using this)
    (fun k y hy=>?_) (fun k hU b hm m aaa=>?_) j y (by simpa using hy) k z (by omega) (by simpa using hz)
   ·rw[show i+(j+1)=i+1+j from by omega];exact this
   ·rcases Nat.lt_or_ge k pre.length with aj|aj
    ·rw[List.getElem?_append_left aj] at hy;obtain⟨b,hb⟩:=Xy k y hy;exact⟨b,List.mem_cons_of_mem _ hb⟩
    ·rw[List.getElem?_append_right aj] at hy;have h0:k-pre.length=0:=by
      rcases Nat.eq_zero_or_pos (k-pre.length) with h0|h0
      ·exact h0
      ·rw[List.getElem?_eq_none (by simp;omega)] at hy;cases hy
     rw[h0] at hy;simp only[List.getElem?_cons_zero,Option.some.injEq] at hy;subst hy;have:k=i:=by omega
     subst this;exact⟨_,List.mem_cons_self⟩
   ·rcases List.mem_cons.1 hm with hm|hm
    ·cases hm;exact XK m aaa
    ·exact ia k hU b hm m aaa
end
section
variable {P:Program}{U:World}{Y:List Nat}{X:Nat->Prop}{D:Nat->Value}{st ao:al}{M:Array Value}{w:World}
theorem aq.same(S:aq U Y X D st M w)(hv:∀l,eb st l=eb ao l)(hn:st.nt=ao.nt):aq U Y X D ao M w:=by
 have hs:∀o,look st.sites o=look ao.sites o:=fun o=>by have:=hv (.inr o);simpa[eb,al.ae] using this
 have hg:∀t,st.get t=ao.get t:=fun t=>by have:=hv (.inl t);simpa[eb] using this
 have hl:∀o,ce st.sites o <-> ce ao.sites o:=fun o=>by unfold ce;rw[hs]
 have ha:aH X D ao.sites=aH X D st.sites:=by
  funext b
  unfold aH;simp only[hl]
 have G:hP D D st.sites ao.sites w w (aH X D st.sites) (aH X D ao.sites):=by
  rw[ha];exact⟨fun o ae h=>⟨ae,by rw[<-hs];exact h,Nat.le_refl _,fun _=>rfl⟩,fun _ _ _=>rfl,fun _ h _=>h⟩
 have hlt:∀b,aH X D ao.sites b->b<w.heap.size:=fun b hb=>S.lt (by rw[<-ha];exact hb)
 refine⟨S.nt.trans hn,fun t=>?_,fun o ae h=>?_,fun o ab b h1 h2=>S.dW o ab b ((hl o).2 h1) ((hl ab).2 h2),fun o b h=>S.cg o b ((hl o).2 h),S.frame,S.old,S.eU⟩
 ·rw[<-hg];exact(S.cA t).goes G (Nat.le_refl _) hlt
 ·exact(S.sites o ae (by rw[hs];exact h)).goes G (Nat.le_refl _) hlt rfl (fun _ _ _=>rfl)
theorem aq.drawn(S:aq U Y X D st M w)(n:Nat):aq U Y X D st M {w with drawn:=n}:=by
 have G:hP D D st.sites st.sites w {w with drawn:=n} (aH X D st.sites) (aH X D st.sites):=
  ⟨fun o ae h=>⟨ae,h,Nat.le_refl _,fun _=>rfl⟩,fun _ _ _=>rfl,fun _ h _=>h⟩
 refine⟨S.nt,fun t=>(S.cA t).goes G (Nat.le_refl _) fun b hb=>S.lt hb,fun o ae h=>(S.sites o ae h).goes G (Nat.le_refl _) (fun b hb=>S.lt hb) rfl (fun _ _ _=>rfl),S.dW,S.cg,⟨S.frame.os,S.frame.tape,S.frame.output,S.frame.size,S.frame.block⟩,S.old,S.eU⟩
theorem acE{aI:Type}:∀{us:List (Nat×aI)} {o:Nat} {s:aI},ni us o=some s->o∈keys us:=by
 intro us;induction us with
 |nil=>intro o s h;cases h
 |cons p us ih=>
  obtain⟨k,v⟩:=p;intro o s h;simp only[ni] at h;split at h
  ·rename_i x hx;exact List.mem_cons_of_mem _ (ih hx)
  ·cases hb:k.beq o with
   |true=>rw[<-Nat.eq_of_beq_eq_true hb];exact List.mem_cons_self
   |false=>simp[hb] at h
theorem Eh{n:Nat}{l:List Nat}:fD n l=true <-> n∈l:=OX
theorem rm{l m:List Nat}{n:Nat}(h1:n∈l)(h2:n∈m):eT l m=false:=by
 induction l with
 |nil=>cases h1
 |cons k l ih=>
  simp only[eT];rcases List.mem_cons.1 h1 with rfl|h1
  ·rw[Eh.2 h2];rfl
  ·rw[ih h1,Bool.and_false]
theorem N0{l:List Nat}{n:Nat}(h1:n∈l)(h2:1000000<=n):uK l=true:=by
 induction l with
 |nil=>cases h1
 |cons k l ih=>
  simp only[uK,Bool.or_eq_true];rcases List.mem_cons.1 h1 with rfl|h1
  ·exact .inl (Nat.ble_eq_true_of_le h2)
  ·exact .inr (ih h1)
def Rec.at_(x:Rec):oc->Prop
 |.inl t=>t∈x.kz
 |.inr o=>o∈x.rn\/(x.CL=true/\1000000<=o)
theorem zV{x:Rec}{t:Nat}(h:x.wr (.inl t)≠none):x.B.dst=some t:=by
 simp only[Rec.wr] at h;split at h
 ·rename_i d Z;cases hb:d.beq t with
  |true=>rw[Z,Nat.eq_of_beq_eq_true hb]
  |false=>simp[hb] at h
 ·exact absurd rfl h
theorem zU{x:Rec}{o:Nat}(h:x.wr (.inr o)≠none):o∈keys x.us:=by
 simp only[Rec.wr] at h;cases hl:ni x.us o with
 |none=>simp[hl] at h
 |some s=>exact acE hl
theorem alj{a b:Rec}{l:oc}(h1:a.wr l≠none)(h2:b.at_ l):lU a b=true:=by
 unfold lU;cases l with
 |inl t=>
  have:=zV h1;have h2:t∈b.kz:=h2;simp[this,sG,Eh.2 h2]
 |inr o=>
  have:=zU h1;rcases h2 with h2|⟨h2,h3⟩
  ·have:eT (keys a.us) (b.rn++keys b.us)=false:=rm this (List.mem_append.2 (.inl h2));simp[this]
  ·have:=N0 this h3;simp[this,h2]
theorem alk{a b:Rec}{l:oc}(h1:a.at_ l)(h2:b.wr l≠none):lU a b=true:=by
 unfold lU;cases l with
 |inl t=>
  have:=zV h2;have h1:t∈a.kz:=h1;simp[this,sG,Eh.2 h1]
 |inr o=>
  have:=zU h2;rcases h1 with h2|⟨h2,h3⟩
  ·have:eT (keys b.us) a.rn=false:=rm this h2;simp[this]
  ·have:=N0 this h3;simp[this,h2]
theorem ali{a b:Rec}{l:oc}(h1:a.wr l≠none)(h2:b.wr l≠none):lU a b=true:=by
 unfold lU;cases l with
 |inl t=>
  have e1:=zV h1;have e2:=zV h2;simp[e1,e2,sG,fD]
 |inr o=>
  have e1:=zU h1;have e2:=zU h2;have:eT (keys a.us) (b.rn++keys b.us)=false:=rm e1 (List.mem_append.2 (.inr e2));simp[this]
variable {C:Ctx}{ops:Array Oper}{rn:Option Nat}{ds:List Deferred}
def nJ(L:Nat->Bool)(i:Nat):Nat->Bool:=fun j=>L j||decide (j=i)
theorem ahe(H:aQ P C){xs:List Rec}{bx:al}{i:Nat}{B:Oper}{x:Rec}(hx:xs[i]? =some x)(Z:cf bx B.dst=true)(hr:sD C ops (eh (fun k=>decide (k<i)) 0 xs bx) B x)
  (qk:∀j y,xs[j]? =some y->∀k z,k<j->xs[k]? =some z->tw ops k j\/lU z y=false) {L:Nat->Bool} (hc:A5 ops L) (hi:L i=false) (hf:B6 ops L i) (avU:ops[i]? =some B)
  (S:aq U Y X D (eh L 0 xs bx) M w) {Q:Exit->Act->World->Prop} {K:Act->World->Prop} (bR:∀aW bW w',aq U Y X aW (eh (nJ L i) 0 xs bx) bW w'->(∀t,t∉B.dst.toList->bW.getD t undef=M.getD t undef)->K ⟨bW,ds⟩ w'):wpOpIn (ey rn) 0 P ops Q i K ⟨M,ds⟩ w:=by
 have Kp:∀l,x.at_ l->eb (eh (fun k=>decide (k<i)) 0 xs bx) l=eb (eh L 0 xs bx) l:=fun l hl=>by
  refine(DU rfl fun j y hy hw=>?_).symm
  simp only[Nat.zero_add];rcases Nat.lt_trichotomy j i with h|h|h
  ·rcases qk i x hx j y h hy with h1|h1
   ·rw[h1 L hc hf];simp[h]
   ·rw[alj hw hl] at h1;cases h1
  ·subst h;rw[hi];simp
  ·have:L j=false:=by
    cases qL:L j with
    |false=>rfl
    |true=>
     rcases qk j y hy i x h hx with h1|h1
     ·have:=h1 L hc (hc j qL);rw[hi] at this;cases this
     ·rw[alk hl hw] at h1;cases h1
   rw[this];simp;omega
 have Vs:∀t,t∈x.kz->(eh (fun k=>decide (k<i)) 0 xs bx).get t=(eh L 0 xs bx).get t:=fun t aw=>by
  have:=Kp (.inl t) aw;simpa[eb] using this
 have Bb:∀l,eb ((eh L 0 xs bx).cW x.B.dst x.v x.us) l=eb (eh (nJ L i) 0 xs bx) l:=fun l=>by
  rw[xO];cases hw:x.wr l with
  |none=>
   simp only;refine DU rfl fun j y hy KD=>?_
   simp only[Nat.zero_add,nJ];by_cases h:j=i
   ·subst h;rw[hx] at hy;cases hy;exact absurd hw KD
   ·simp[h]
  |some u=>
   simp only;refine(afp hx (by simp[nJ]) hw fun j y pa hy KD=>?_).symm
   simp only[Nat.zero_add,nJ];have:L j=false:=by
    cases qL:L j with
    |false=>rfl
    |true=>
     rcases qk j y hy i x pa hx with h1|h1
     ·have:=h1 L hc (hc j qL);rw[hi] at this;cases this
     ·rw[ali (by rw[hw];intro h;cases h) KD] at h1;cases h1
   rw[this];simp;omega
 have aan:cf (eh L 0 xs bx) B.dst=true:=by revert Z;cases B.dst<;>simp[cf,FL]
 have fin:∀aW bW w',aq U Y X aW ((eh L 0 xs bx).cW x.B.dst x.v x.us) bW w'->(∀t,t∉B.dst.toList->bW.getD t undef=M.getD t undef)->K ⟨bW,ds⟩ w':=fun aW bW w' cc=>bR aW bW w' (cc.same Bb (by rw[Io,FL,FL]))
 unfold wpOpIn;rw[avU];simp only;have Bd:Region.wanted B (yielded ops M)=x.go:=by
  cases hg:B.guard with
  |none=>rw[hr.free hg];simp[Region.wanted,hg]
  |some LY=>
   obtain⟨j,want⟩:=LY;obtain⟨t,h1,h2,h3⟩:=hr.guard j want hg;rw[show Region.wanted B (yielded ops M)=(yielded ops M j==some want) by simp[Region.wanted,hg]]
   have iP:=S.cA t;rw[<-Vs t h2] at iP;rcases h3 with⟨b,h3,aE⟩|⟨⟨u,h3⟩,aE⟩
   ·rw[h3] at iP;have hv:=jg iP;have hy:yielded ops M j=some b:=by
     have aw:t<M.size:=by
      rcases Nat.lt_or_ge t M.size with aj|aj
      ·exact aj
      ·simp[Array.getD,Nat.not_lt.2 aj,undef] at hv
     have:M[t]? =some (.bool b):=by
      rw[Array.getElem?_eq_getElem aw];simpa[Array.getD,aw] using hv
     simp[yielded,h1,this]
    rw[hy,aE];cases b<;>cases want<;>rfl
   ·rw[h3] at iP;have hv:M.getD t undef=.tuple u:=iP;have hy:yielded ops M j=none:=by
     simp only[yielded,h1,Option.bind_some];cases aw:M[t]? with
     |none=>rfl
     |some v=>
      have:M.getD t undef=v:=by simp[Array.getD_eq_getD_getElem?,aw]
      rw[this] at hv;rw[hv]
    rw[hy,aE];rfl
 cases tg:x.go with
 |false=>
  rw[tg] at Bd;rw[if_neg (by rw[Bd];decide)]
  obtain⟨e1,e2⟩:=hr.skip tg;refine⟨fun f _=>Br rn f,xm (R:=al) (r:=(eh L 0 xs bx).cW B.dst zW []) S (K:=some) (by simp[rW,aan]) fun ew gq ho bB h1 di=>?_⟩
  cases h1;refine fin gq ho bB ?_
  rw[hr.gS,e1,e2];exact di
 |true=>
  rw[tg] at Bd;rw[if_pos Bd];obtain⟨y,g1,g2,g3,g4,g5,g6,g7⟩:=hr.run tg;have dB:step C (eh (fun k=>decide (k<i)) 0 xs bx) B=step C (eh L 0 xs bx) B:=by
   refine aeD (fun t aw=>Vs t (g5 t aw)) (fun o br=>?_) fun ao1 o br=>?_
   ·have:=Kp (.inr o) (.inl (g6 o br));simpa[eb] using this
   ·have:=Kp (.inr o) (.inr ⟨g7 ao1,br⟩);simpa[eb] using this
  revert y
  rw[dB];intro y g1 g2 g3 g4;refine ng (R:=al) (r:=(eh L 0 xs bx).cW B.dst x.v x.us) S H (K:=some) ?_ fun ew gq ho bB h1 di=>?_
  ·unfold ka;rw[aan,cond_true,g1];simp only[Option.bind_some,g2,cond_true,g3,g4]
  ·cases h1;refine fin gq ho bB ?_
   rw[hr.gS];exact di
def vD(listed:Array Bool):Nat:=listed.toList.count false
def gi(listed:Array Bool):Nat->Bool:=fun j=>listed.getD j false
theorem ajU{listed:Array Bool}{i:Nat}(h:listed.getD i true=false):vD (listed.setIfInBounds i true)+1=vD listed:=by
 unfold vD;have hlt:i<listed.size:=by
  rcases Nat.lt_or_ge i listed.size with aj|aj
  ·exact aj
  ·simp[Array.getD,Nat.not_lt.2 aj] at h
 have hv:listed.toList[i]'(by simpa using hlt)=false:=by simpa[Array.getD,hlt] using h
 rw[Array.toList_setIfInBounds,List.count_set (by simpa using hlt)]
 rw[hv];have:0<listed.toList.count false:=List.count_pos_iff.2 (by rw[<-hv];exact List.getElem_mem _)
 have e1:(if(false==false)=true then 1 else 0)=1:=rfl
 have e2:(if(true==false)=true then 1 else 0)=0:=rfl
 rw[e1,e2];omega
theorem Pb{B:Oper}{t:Nat}:∀{l:List Oper},B∈l->t∈B.dst.toList->t∈h9 l:=by
 intro l;induction l with
 |nil=>intro h;cases h
 |cons p l ih=>
  intro h aw;simp only[h9,List.mem_append];rcases List.mem_cons.1 h with rfl|h
  ·exact .inl aw
  ·exact .inr (ih h aw)
theorem ajo(H:aQ P C){bx Ci:al}{xs:List Rec}(bh:kH C ops ops.toList 0 [] bx xs Ci){Q:Exit->Act->World->Prop}{ez:Array Value}(C4:∀D M w,aq U Y X D Ci M w->(∀t,t∉h9 ops.toList->M.getD t undef=ez.getD t undef)->Q .normal ⟨M,ds⟩ w):
  ∀(lX:Nat) (listed:Array Bool) (D:Nat->Value) (M:Array Value) (w:World),listed.size=ops.size->vD listed<=lX->A5 ops (gi listed)->aq U Y X D (eh (gi listed) 0 xs bx) M w->
   (∀t,t∉h9 ops.toList->M.getD t undef=ez.getD t undef)->wpAnyIn (ey rn) 0 P .any ops Q lX listed ⟨M,ds⟩ w:=by
 have hlen:xs.length=ops.size:=by rw[bh.length];simp
 have qk:∀j y,xs[j]? =some y->∀k z,k<j->xs[k]? =some z->tw ops k j\/lU z y=false:=fun j y hy k z hk hz=>by
  have:=bh.au5 [] rfl (fun j=>by simp) (fun k y h=>by simp at h) (fun k x b h=>by simp at h) j y hy k z (by omega) (by simpa using hz)
  simpa using this
 have all:∀listed:Array Bool,listed.size=ops.size->(∀j,j<ops.size->gi listed j=true)->∀D M w,aq U Y X D (eh (gi listed) 0 xs bx) M w->(∀t,t∉h9 ops.toList->M.getD t undef=ez.getD t undef)->Q .normal ⟨M,ds⟩ w:=fun listed hs hl D M w S aw=>by
  refine C4 D M w ?_ aw;rw[<-bh.arH 0];rw[Nr (L':=gi listed) (k':=0) fun j hj=>by simp only[Nat.zero_add];rw[hl j (by omega)]]
  exact S
 have done:∀listed:Array Bool,listed.size=ops.size->Region.ready .any ops listed=[]->∀j,j<ops.size->gi listed j=true:=fun listed hs hr j=>by
  induction j using Nat.strongRecOn with
  |_ j ih=>
   intro hj;cases qL:gi listed j with
   |true=>rfl
   |false=>
    exfalso
    have hx:xs[j]? =some (xs[j]'(by omega)):=List.getElem?_eq_getElem _
    obtain⟨B,h1,_,h3,_⟩:=bh.at_ j _ hx;have h1:ops[j]? =some B:=by simpa using h1
    have hm:j∈Region.ready .any ops listed:=by
     rw[mem_ready];refine⟨?_,B,h1,fun e he hb=>?_⟩
     ·have hlt:j<listed.size:=by omega
      simpa[gi,Array.getD,hlt] using qL
     ·have:e.on<j:=by
       have l_:e∈B.after.toList:=by simpa using he
       clear he hr;revert h3
       simp only[Nat.zero_add];generalize B.after.toList=es at l_;induction es with
       |nil=>cases l_
       |cons cy es avs=>
        intro h3;simp only[rN,Bool.and_eq_true] at h3;rcases List.mem_cons.1 l_ with rfl|l_
        ·rw[hb] at h3;simpa using h3.1
        ·exact avs l_ h3.2
      have:=ih e.on this (by omega)
      simpa[gi] using this
    rw[hr] at hm;cases hm
 intro lX;induction lX with
 |zero=>
  intro listed D M w hs hu hc S aw;have mH:∀j,j<ops.size->gi listed j=true:=fun j hj=>by
   have h0:listed.toList.count false=0:=Nat.le_zero.1 hu;rw[List.count_eq_zero] at h0;cases qL:gi listed j with
   |true=>rfl
   |false=>
    exfalso
    have hlt:j<listed.size:=by omega
    apply h0;have:listed.toList[j]'(by simpa using hlt)=false:=by simpa[gi,Array.getD,hlt] using qL
    rw[<-this];exact List.getElem_mem _
  refine⟨?_,all listed hs mH D M w S aw⟩;rw[List.eq_nil_iff_forall_not_mem];intro j hj;rw[mem_ready] at hj;obtain⟨h1,B,h2,_⟩:=hj;have hj:j<ops.size:=(Array.getElem?_eq_some_iff.1 h2).1;have:=mH j hj;have hlt:j<listed.size:=by omega
  simp[gi,Array.getD,hlt] at this h1;rw[h1] at this;cases this
 |succ lX ih=>
  intro listed D M w hs hu hc S aw;refine⟨fun hr=>all listed hs (done listed hs hr) D M w S aw,fun i hi=>?_⟩
  have iX:=mem_ready.1 hi;obtain⟨h1,B,h2,h3⟩:=iX;have tf:i<ops.size:=(Array.getElem?_eq_some_iff.1 h2).1;have hx:xs[i]? =some (xs[i]'(by omega)):=List.getElem?_eq_getElem _
  obtain⟨cP,g1,g2,g3,g4⟩:=bh.at_ i _ hx;have g1:ops[i]? =some cP:=by simpa using g1
  rw[h2] at g1;cases g1;have hlt:i<listed.size:=by omega
  have awq:gi listed i=false:=by simpa[gi,Array.getD,hlt] using h1
  have hf:B6 ops (gi listed) i:=fun o2 vW e he hb=>by
   rw[h2] at vW;cases vW;have:=h3 e (by simpa using he) hb
   simpa[gi] using this
  have vf:gi (listed.setIfInBounds i true)=nJ (gi listed) i:=by
   funext j
   simp only[gi,nJ];by_cases h:j=i
   ·subst h;simp[hlt]
   ·simp[h,Array.getElem?_setIfInBounds_ne (show i≠j from fun e=>h e.symm)]
  refine ahe H hx g2 g4 qk hc awq hf h2 S fun aW bW w' cc mS=>ih _ aW bW w' (by simpa using hs) (by have:=ajU h1;omega) ?_ (by rw[vf];exact cc) fun t htn=>(mS t fun aj=>htn (Pb (l:=ops.toList) (by simpa using Array.mem_of_getElem? h2) aj)).trans (aw t htn)
  rw[vf];intro j hj o2 vW e he hb;simp only[nJ,Bool.or_eq_true,decide_eq_true_eq] at hj;simp only[nJ,Bool.or_eq_true,decide_eq_true_eq];rcases hj with hj|hj
  ·exact .inl (hc j hj o2 vW e he hb)
  ·subst hj;exact .inl (hf o2 vW e he hb)
theorem ag6:∀l:List Nat,dz st.sites (AL st l):=by
 intro l;induction l with
 |nil=>exact .nil
 |cons t l ih=>
  refine dz.append ?_ ih;unfold UZ;split
  ·rename_i o s _;split
   ·rename_i aM t xs hs;cases hb:aM.beq s with
    |false=>exact .nil
    |true=>
     intro ab ae hm;simp only[cond_true,List.mem_singleton,Prod.mk.injEq] at hm;obtain⟨rfl,rfl⟩:=hm;exact⟨aM,t,xs,rfl,.inl hs⟩
   ·exact .nil
  ·exact .nil
theorem afg(H:aQ P C)(hm:P.follows .mixedOrders=true){R:Type}{r:R}{K:al->Option R}{id:Nat}{Q:Exit->Act->World->Prop}(S:aq U Y X D st M w)(h:R9 C ops st K=some r)
  (bR:∀ao aW bW w',K ao=some r->aq U Y X aW ao bW w'->(∀t,t∉h9 ops.toList->bW.getD t undef=M.getD t undef)->Q .normal ⟨bW,ds⟩ w'):fN rn P (Code.region id ops true) Q ⟨M,ds⟩ w:=by
 obtain⟨xs,Ci,bh,hk⟩:=ahf h;have S:aq U Y X D (st.hN (AL st (E8 ops.toList ops.toList))) M w:=by rw[al.ua];exact S.zM (ag6 _)
 refine wpIn_region_any hm (ajo H bh (fun D M w S=>bR Ci D M w hk S) _ _ D M _ (by simp) ?_ ?_ ?_ (fun _ _=>rfl))
 ·unfold vD;simp
 ·intro j hj;simp only[gi] at hj;exfalso
  rw[Array.getD_eq_getD_getElem?,Array.getElem?_replicate] at hj;split at hj<;>cases hj
 ·rw[DV fun j _=>by
   simp only[gi];rw[Array.getD_eq_getD_getElem?,Array.getElem?_replicate];split<;>rfl]
  exact S.drawn _
end
def sE(r:Option Nat)(c:Code):Prop:=r=none\/gA c=true
theorem sE.left{r:Option Nat}{a b:Bool}(h:r=none\/(a&&b)=true):r=none\/a=true:=by
 rcases h with h|h
 ·exact .inl h
 ·simp only[Bool.and_eq_true] at h;exact .inr h.1
theorem sE.right{r:Option Nat}{a b:Bool}(h:r=none\/(a&&b)=true):r=none\/b=true:=by
 rcases h with h|h
 ·exact .inl h
 ·simp only[Bool.and_eq_true] at h;exact .inr h.2
theorem jf{P:Program}{C:g'}(H:aQ P C.toCtx){R:Type}{r:R}{rn:Option Nat}:∀(c:Code) (p:Nat),(rn=none\/gA c=true)->fS P C c p->∀(U:World) (Y:List Nat) (X:Nat->Prop) (st:al) (D:Nat->Value) (M:Array Value) (w:World)
  (ds:List Deferred) (K:Out->Option R)
  (Q:Exit->Act->World->Prop),exec C c p st K=some r->aq U Y X D st M w->(∀B e a w',K B=some r->eY U Y X ds M (ck c) B e a w'->Q e a w')->fN rn P c Q ⟨M,ds⟩ w:=by
 have piece:∀(c:Code) (p:Nat),(rn=none\/gA c=true)->(∀f,C.nL p=some f->aT P c f)->∀(U:World) (Y:List Nat) (X:Nat->Prop) (st:al) (D:Nat->Value) (M:Array Value) (w:World) (ds:List Deferred) (K:Out->Option R) (Q:Exit->Act->World->Prop) (x:Option R),
   wrap C p st K x=some r->aq U Y X D st M w->(∀B e a w',K B=some r->eY U Y X ds M (ck c) B e a w'->Q e a w')->(x=some r->fN rn P c Q ⟨M,ds⟩ w)->fN rn P c Q ⟨M,ds⟩ w:=by
  intro c p hn hf U Y X st D M w ds K Q x h S bR hx;unfold wrap at h;cases aL:C.nL p with
  |none=>simp only[aL] at h;exact hx h
  |some f=>
   simp only[aL] at h;cases hc:(f st).comp with
   |none=>simp[hc] at h
   |some y=>
    simp only[hc,Option.bind_some,(f st).run_eq] at h;exact wpIn_mono (hf f aL rn hn U Y X st y hc D M w ds S) fun e a w' hl=>bR _ e a w' h hl
 intro c;induction c with
 |skip=>
  intro p _ _ U Y X st D M w ds K Q h S bR;exact wpIn_skip (bR (.norm st) .normal _ _ h (ep.of S fun _ _=>rfl))
 |region id ops draw=>
  intro p hn ea U Y X st D M w ds K Q h S bR;cases draw with
  |false=>
   simp only[exec] at h;refine piece _ p hn ea U Y X st D M w ds K Q _ h S bR fun aj=>?_
   refine wpIn_region ?_
   rw[List.range_eq_range'];refine af6 H (W:=h9 ops.toList) ops.size 0 (by omega) (fun B aL t aw=>Pb (by simpa using aL) aw) st D M w _ Q S aj ?_
   intro ao aW bW w' hk cc aw;exact bR (.norm ao) .normal _ _ hk (ep.of cc aw)
  |true=>
   simp only[exec] at h;refine piece _ p hn ea U Y X st D M w ds K Q _ h S bR fun aj=>?_
   exact afg H H.LU S aj fun ao aW bW w' hk cc aw=>bR (.norm ao) .normal _ _ hk (ep.of cc aw)
 |seq a b l4 qv=>
  intro p hn ea U Y X st D M w ds K Q h S bR;simp only[exec] at h;refine piece _ p hn ea.1 U Y X st D M w ds K Q _ h S bR fun aj=>?_
  refine wpIn_seq (l4 _ (sE.left hn) ea.2.1 U Y X st D M w ds _ _ aj S ?_);intro B e dv w' hk hl;have up:∀{B e dv w'},eY U Y X ds M (ck a) B e dv w'->eY U Y X ds M (ck (.seq a b)) B e dv w':=fun hl=>hl.mono fun t aw=>List.mem_append.2 (.inl aw)
  cases B with
  |norm ao=>
   cases e<;>try exact hl.elim
   obtain⟨bB,du,cT,aW,dx,h1,h2,h3,cc,bi⟩:=hl;obtain⟨bW,L4⟩:=dv;obtain⟨h3,awB⟩:=h3;have h3:L4=dx.map mark++ds:=h3;subst h3;exact qv _ (sE.right hn) ea.2.2 bB du cT ao aW bW w' _ K Q hk cc fun B e a2 w2 hk2 nT=>bR B e a2 w2 hk2 (eY.trans h1 h2 awB bi nT)
  |exit id ao=>
   cases e<;>try exact hl.elim
   exact bR _ _ _ _ hk (up hl)
  |ret ao=>
   cases e<;>try exact hl.elim
   exact bR _ _ _ _ hk (up hl)
 |cond B a b l4 qv=>
  intro p hn ea U Y X st D M w ds K Q h S bR;simp only[exec] at h;refine piece _ p hn ea.1 U Y X st D M w ds K Q _ h S bR fun aj=>?_
  split at aj
  ·rename_i t aw;have hv:=Hq S aw;have hv:Act.eval ⟨M,ds⟩ B=.bool t:=by cases B<;>exact hv
   cases t with
   |true=>exact wpIn_cond hv (l4 _ (sE.left hn) ea.2.1 U Y X st D M w ds K Q aj S fun B e a2 w2 hk2 nT=>bR B e a2 w2 hk2 (nT.mono fun t aw=>List.mem_append.2 (.inl aw)))
   |false=>exact wpIn_cond hv (qv _ (sE.right hn) ea.2.2 U Y X st D M w ds K Q aj S fun B e a2 w2 hk2 nT=>bR B e a2 w2 hk2 (nT.mono fun t aw=>List.mem_append.2 (.inr aw)))
  ·cases aj
 |block id a l4=>
  intro p hn ea U Y X st D M w ds K Q h S bR;simp only[exec] at h;refine piece _ p hn ea.1 U Y X st D M w ds K Q _ h S bR fun aj=>?_
  refine wpIn_block (l4 _ hn ea.2 U Y X st D M w ds _ _ aj S ?_);intro B e dv w' hk hl;cases B with
  |norm ao=>
   cases e<;>try exact hl.elim
   exact bR _ _ _ _ hk hl
  |exit iz ao=>
   cases e<;>try exact hl.elim
   rename_i aAl;obtain⟨rfl,hl⟩:=hl;simp only[Exit.inBlock];cases hb:iz.beq id with
   |true=>
    simp only[hb,cond_true] at hk;have:=Nat.eq_of_beq_eq_true hb;subst this;simp only[if_true];exact bR _ _ _ _ hk hl
   |false=>
    simp only[hb,cond_false] at hk;have:iz≠id:=by rintro rfl;rw[Nat.beq_refl] at hb;cases hb
    simp only[this,if_false];exact bR _ _ _ _ hk ⟨rfl,hl⟩
  |ret ao=>
   cases e<;>try exact hl.elim
   exact bR _ _ _ _ hk hl
 |loop a _=>
  intro p hn ea U Y X st D M w ds K Q h S bR;simp only[exec] at h;exact piece _ p hn ea U Y X st D M w ds K Q _ h S bR fun aj=>by cases aj
 |rangeFunc=>
  intro p hn ea U Y X st D M w ds K Q h S bR;simp only[exec] at h;exact piece _ p hn ea U Y X st D M w ds K Q _ h S bR fun aj=>by cases aj
 |exit id=>
  intro p _ _ U Y X st D M w ds K Q h S bR;exact wpIn_exit (bR (.exit id st) (.exit id) _ _ h ⟨rfl,ep.of S fun _ _=>rfl⟩)
 |ret=>
  intro p _ _ U Y X st D M w ds K Q h S bR;exact wpIn_ret (bR (.ret st) .ret _ _ h (ep.of S fun _ _=>rfl))
 |_=>
  intro p _ _ U Y X st D M w ds K Q h S bR;simp only[exec] at h;cases h
inductive dw:Type where
 |int (k:IntKind)
 |bool
 |str
 |sl (t:bc)
 |map (t:bc)
 |err (T:Nat)
@[reducible] def dw.F:dw->Type
 |.int _=>Int
 |.bool=>Bool
 |.str=>J
 |.sl t=>List (den t)
 |.map t=>List (J×den t)
 |.err _=>Option Int
def dw.mk:(s:dw)->s.F->be
 |.int k,n=>.int k n
 |.bool,b=>.bool b
 |.str,s=>.str s
 |.sl t,xs=>.sl t xs
 |.map t,es=>.map t es
 |.err T,B=>.err T B
def dw.ex:(s:dw)->be->Option s.F
 |.int k,.int k' n=>if k=k' then some n else none
 |.bool,.bool b=>some b
 |.str,.str s=>some s
 |.sl t,.sl bz xs=>if h:bz=t then some (h▸xs) else none
 |.map t,.map bz es=>if h:bz=t then some (h▸es) else none
 |.err T,.err gg B=>if gg=T then some B else none
 |_,_=>none
theorem dw.UG{s:dw}{d:be}{y:s.F}(h:s.ex d=some y):s.mk y=d:=by
 unfold dw.ex at h;split at h
 ·split at h
  ·rename_i e;cases h;subst e;rfl
  ·cases h
 ·cases h;rfl
 ·cases h;rfl
 ·split at h
  ·rename_i e;cases h;subst e;rfl
  ·cases h
 ·split at h
  ·rename_i e;cases h;subst e;rfl
  ·cases h
 ·split at h
  ·rename_i e;cases h;subst e;rfl
  ·cases h
 ·cases h
@[reducible] def kw:List dw->Type
 |[]=>Unit
 |s::r=>s.F×kw r
def fh:(ba:List dw)->kw ba->List be
 |[],_=>[]
 |s::r,(y,z)=>s.mk y::fh r z
def vl:(ba:List dw)->List be->Option (kw ba)
 |[],[]=>some ()
 |s::r,d::ds=>match s.ex d,vl r ds with
  |some y,some z=>some (y,z)
  |_,_=>none
 |_,_=>none
theorem Ru:∀{ba:List dw} {ds:List be} {y:kw ba},vl ba ds=some y->fh ba y=ds:=by
 intro ba;induction ba with
 |nil=>intro ds y h;cases ds with
  |nil=>rfl
  |cons=>cases h
 |cons s ba ih=>
  intro ds y h;cases ds with
  |nil=>cases h
  |cons d ds=>
   simp only[vl] at h;split at h
   ·rename_i a b h1 h2;cases h;simp only[fh,dw.UG h1,ih h2]
   ·cases h
@[reducible] def vp:List (List dw)->Type
 |[]=>Unit
 |s::r=>kw s×vp r
def uS:(ba:List (List dw))->vp ba->List (List be)
 |[],_=>[]
 |s::r,(y,z)=>fh s y::uS r z
def Bk:(ba:List (List dw))->List (List be)->Option (vp ba)
 |[],[]=>some ()
 |s::r,d::ds=>match vl s d,Bk r ds with
  |some y,some z=>some (y,z)
  |_,_=>none
 |_,_=>none
theorem aiP:∀{ba:List (List dw)} {ds:List (List be)} {y:vp ba},Bk ba ds=some y->uS ba y=ds:=by
 intro ba;induction ba with
 |nil=>intro ds y h;cases ds with
  |nil=>rfl
  |cons=>cases h
 |cons s ba ih=>
  intro ds y h;cases ds with
  |nil=>cases h
  |cons d ds=>
   simp only[Bk] at h;split at h
   ·rename_i a b h1 h2;cases h;simp only[uS,Ru h1,ih h2]
   ·cases h
inductive da:Type where
 |any
 |d (s:dw)
 |fn (g:FuncId) (cC:List (List dw))
 |er (ba:List dw) (off:Nat)
 |own (n:Nat)
 |ptr (n off:Nat)
 |clo (g:FuncId) (ns:List Nat)
 |dh
 |BE -- sX nil interface
 |eP (n:Nat) (t:bc)
@[reducible] def da.F:da->Type
 |.d s=>s.F
 |.fn _ cC=>vp cC
 |.er ba _=>kw ba
 |_=>Unit
def da.mk:(s:da)->s.F->aP
 |.any,_=>.any
 |.d s,y=>.d (s.mk y)
 |.fn g cC,y=>.d (.fn g (uS cC y))
 |.er ba off,y=>.er (fh ba y) off
 |.own n,_=>.own n 0
 |.ptr n off,_=>.ptr n 0 off
 |.clo g ns,_=>.clo g (ns.map fun n=>(n,0))
 |.dh,_=>.dh
 |.BE,_=>.cH .nilIface
 |.eP n t,_=>.eP n 0 t 0 0
abbrev Ren:=List (Nat×Option (Nat×Nat))
def mx(ρ:Ren)(n o s:Nat):Bool:=match look ρ n with
 |some (some (ZQ,aM))=>ZQ.beq o&&aM.beq s
 |_=>false
def ue(ρ:Ren):List Nat->List (Nat×Nat)->Bool
 |[],[]=>true
 |n::ns,(o,s)::cs=>mx ρ n o s&&ue ρ ns cs
 |_,_=>false
def mo(ρ:Ren):List Nat
 :=match ρ with
 |[]=>[]
 |(_,some (o,_))::r=>o::mo r
 |(_,none)::r=>mo r
def da.ex(st:al)(ρ:Ren):(s:da)->aP->Option s.F
 |.any,_=>some ()
 |.d s,.d v=>s.ex v
 |.d (.sl t),.nil _=>some ([]:List (den t))
 |.d (.err _),.cH .nilIface=>some (none:Option Int)
 |.d (.sl t),.own o s=>match st.ae o with
  |some (.c8 aM bz xs)=>bif aM.beq s then(if h:bz=t then some (h▸xs:List (den t)) else none) else none
  |_=>none
 |.d (.map t),.own o s=>match st.ae o with
  |some (.map aM bz es)=>bif aM.beq s&&!fD o (mo ρ) then(if h:bz=t then some (h▸es:List (J×den t)) else none) else none
  |_=>none
 |.fn g cC,.d (.fn cn cs)=>bif Nat.beq g cn then Bk cC cs else none
 |.fn g [],.clo cn []=>bif Nat.beq g cn then some () else none
 |.er ba off,.er ds oT=>bif Nat.beq off oT then vl ba ds else none
 |.own n,.own o s=>bif mx ρ n o s then some () else none
 |.own n,.nil _=>match look ρ n with|some none=>some ()|_=>none
 |.ptr n off,.ptr o s oT=>bif mx ρ n o s&&Nat.beq off oT then some () else none
 |.clo g ns,.clo cn cs=>bif Nat.beq g cn&&ue ρ ns cs then some () else none
 |.dh,.dh=>some ()
 |.BE,.cH .nilIface=>some ()
 |.eP n t,.eP o s bz 0 0=>bif mx ρ n o s then(if bz=t then some () else none) else none
 |_,_=>none
@[reducible] def qp:List da->Type
 |[]=>Unit
 |s::r=>s.F×qp r
def sp:(ba:List da)->qp ba->List aP
 |[],_=>[]
 |s::r,(y,z)=>s.mk y::sp r z
def qa(st:al)(ρ:Ren):(ba:List da)->List aP->Option (qp ba)
 |[],[]=>some ()
 |s::r,l::ai=>match s.ex st ρ l,qa st ρ r ai with
  |some y,some z=>some (y,z)
  |_,_=>none
 |_,_=>none
inductive eW:Type where
 |am (s:da)
 |agg (ba:List da)
@[reducible] def eW.F:eW->Type
 |.am s=>s.F
 |.agg ba=>qp ba
def eW.mk:(s:eW)->s.F->aZ
 |.am s,y=>bZ (s.mk y)
 |.agg ba,y=>.av (.agg (sp ba y))
def eW.ex(st:al)(ρ:Ren):(s:eW)->aZ->Option s.F
 |.am s,.av (.am l)=>s.ex st ρ l
 |.agg ba,.av (.agg ai)=>qa st ρ ba ai
 |_,_=>none
@[reducible] def uL:List (Nat×eW)->Type
 |[]=>Unit
 |s::r=>s.2.F×uL r
def ui:(ba:List (Nat×eW))->uL ba->List (Nat×aZ)
 |[],_=>[]
 |s::r,(y,z)=>(s.1,s.2.mk y)::ui r z
def zN(st:al)(ρ:Ren):(ba:List (Nat×eW))->Option (uL ba)
 |[]=>some ()
 |s::r=>match s.2.ex st ρ (st.get s.1),zN st ρ r with
  |some y,some z=>some (y,z)
  |_,_=>none
inductive ek:Type where
 |row (t:bc)
 |qd (t:bc) (n:Nat) -- aAU azz row,azI length gS told
 |box (ba:List da)
 |map (t:bc)
@[reducible] def ek.F:ek->Type
 |.row t=>List (den t)
 |.qd t _=>List (den t)
 |.box ba=>qp ba
 |.map t=>List (J×den t)
def BC{aI:Type}(z:aI):Nat->List aI->List aI
 |0,_=>[]
 |n+1,xs=>xs.headD z::BC z n xs.tail
theorem Rn{aI:Type}(z:aI):∀(xs:List aI),BC z xs.length xs=xs
 |[]=>rfl
 |x::xs=>by simp only[List.length_cons,BC,List.headD_cons,List.tail_cons,Rn z xs]
def pad{t:bc}(n:Nat)(xs:List (den t)):List (den t):=match wy t with
 |some z=>BC z n xs
 |none=>xs
theorem amU{t:bc}{n:Nat}{xs:List (den t)}(h:xs.length=n):pad n xs=xs:=by
 subst h;unfold pad;split
 ·exact Rn _ _
 ·rfl
def ek.mk:(s:ek)->s.F->Site
 |.row t,xs=>.row 0 t xs
 |.qd t n,xs=>.row 0 t (pad n xs)
 |.box ba,y=>.box 0 (sp ba y)
 |.map t,es=>.map 0 t es
def ek.ex(st:al)(ρ:Ren):(s:ek)->Option (Nat×Nat)->Option s.F
 |.row t,none=>some ([]:List (den t))
 |.row t,some (o,s)=>match st.ae o with
  |some (.row aM bz xs)=>bif aM.beq s then(if h:bz=t then some (h▸xs:List (den t)) else none) else none
  |_=>none
 |.qd _ _,none=>none
 |.qd t n,some (o,s)=>match st.ae o with
  |some (.row aM bz xs)=>bif aM.beq s then(if h:bz=t then(if xs.length=n then some (h▸xs:List (den t)) else none) else none) else none
  |_=>none
 |.box ba,some (o,s)=>match fs st o s with
  |some cells=>qa st ρ ba cells
  |none=>none
 |.box _,none=>none
 |.map t,some (o,s)=>match st.ae o with
  |some (.map aM bz es)=>bif aM.beq s then(if h:bz=t then some (h▸es:List (J×den t)) else none) else none
  |_=>none
 |.map _,none=>none
inductive Loc:Type where
 |same
 |slot (t j:Nat)
 |cell (o j:Nat)
def aoG(st:al):Loc->Option aP
 |.same=>none
 |.slot t j=>match st.get t with
  |.av (.am l)=>bif Nat.beq j 0 then some l else none
  |.av (.agg ai)=>ai[j]?
  |_=>none
 |.cell o j=>match st.ae o with
  |some (.box _ cells)=>cells[j]?
  |_=>none
def IC(st:al)(n:Nat)(l:Loc):Option (Option (Nat×Nat)):=
 match l with
 |.same=>match st.ae n with|some s=>some (some (n,s.cl))|none=>none
 |l=>match aoG st l with
  |some (.own o s)=>some (some (o,s))
  |some (.ptr o s _)=>some (some (o,s))
  |some (.eP o s _ _ _)=>some (some (o,s))
  |some (.nil _)=>some none
  |_=>none
@[reducible] def sg:List (Nat×ek×Loc)->Type
 |[]=>Unit
 |s::r=>s.2.1.F×sg r
def j_:(ba:List (Nat×ek×Loc))->sg ba->List (Nat×Site)
 |[],_=>[]
 |s::r,(y,z)=>(s.1,s.2.1.mk y)::j_ r z
def zO(st:al)(ρ:Ren):(ba:List (Nat×ek×Loc))->Option (sg ba)
 |[]=>some ()
 |s::r=>match(look ρ s.1).bind fun B=>s.2.1.ex st ρ B,zO st ρ r with
  |some y,some z=>some (y,z)
  |_,_=>none
def pZ(st:al):List (Nat×ek×Loc)->Option Ren
 |[]=>some []
 |s::r=>match IC st s.1 s.2.2,pZ st r with
  |some B,some ρ=>some ((s.1,B)::ρ)
  |_,_=>none
structure Shape where
 cA:List (Nat×eW)
 sites:List (Nat×ek×Loc)
 nt:Nat
@[reducible] def Shape.F(a':Shape):Type:=uL a'.cA×sg a'.sites
def Shape.st(a':Shape)(y:a'.F):al:=⟨ui a'.cA y.1,j_ a'.sites y.2,a'.nt⟩
def BN(st:al):da->aP->List (Nat×Site)
 |.d (.sl _),.own o s=>match st.ae o with
  |some (.row aM t xs)=>bif aM.beq s then [(o,.c8 s t xs)] else []
  |_=>[]
 |_,_=>[]
def BM(st:al):List da->List aP->List (Nat×Site)
 |s::ba,l::ai=>BN st s l++BM st ba ai
 |_,_=>[]
def XQ(st:al):eW->aZ->List (Nat×Site)
 |.am s,.av (.am l)=>BN st s l
 |.agg ba,.av (.agg ai)=>BM st ba ai
 |_,_=>[]
def pI(st:al):List (Nat×eW)->List (Nat×Site)
 |[]=>[]
 |s::r=>XQ st s.2 (st.get s.1)++pI st r
def XP(st:al):ek->Option (Option (Nat×Nat))->List (Nat×Site)
 |.box ba,some (some (o,s))=>match fs st o s with
  |some cells=>BM st ba cells
  |none=>[]
 |_,_=>[]
def pJ(st:al):List (Nat×ek×Loc)->List (Nat×Site)
 |[]=>[]
 |s::r=>XP st s.2.1 (IC st s.1 s.2.2)++pJ st r
def Shape.ex(a':Shape)(bx:al):Option a'.F:=
 let st:=bx.hN (pI bx a'.cA++pJ bx a'.sites)
 bif st.nt.beq a'.nt then
  match pZ st a'.sites with
  |some ρ=>bif fq (keys ρ)&&fq (mo ρ) then
    match zN st ρ a'.cA,zO st ρ a'.sites with
    |some y,some z=>some (y,z)
    |_,_=>none
   else none
  |none=>none
 else none
theorem R7{st:al}{s:da}{l:aP}:dz st.sites (BN st s l):=by
 unfold BN;split
 ·rename_i o s;split
  ·rename_i aM t xs hl;cases hb:aM.beq s with
   |false=>exact .nil
   |true=>
    have:=Nat.eq_of_beq_eq_true hb;subst this;intro ab ae hm;simp only[cond_true,List.mem_singleton,Prod.mk.injEq] at hm;obtain⟨rfl,rfl⟩:=hm;exact⟨_,_,_,rfl,.inl hl⟩
  ·exact .nil
 ·exact .nil
theorem R6{st:al}:∀{ba:List da} {ai:List aP},dz st.sites (BM st ba ai):=by
 intro ba;induction ba with
 |nil=>intro ai;cases ai<;>exact .nil
 |cons s ba ih=>
  intro ai;cases ai with
  |nil=>exact .nil
  |cons l ai=>exact R7.append ih
theorem ad9{st:al}:∀{ba:List (Nat×eW)},dz st.sites (pI st ba):=by
 intro ba;induction ba with
 |nil=>exact .nil
 |cons s ba ih=>
  refine dz.append ?_ ih;unfold XQ;split
  ·exact R7
  ·exact R6
  ·exact .nil
theorem aea{st:al}:∀{ba:List (Nat×ek×Loc)},dz st.sites (pJ st ba):=by
 intro ba;induction ba with
 |nil=>exact .nil
 |cons s ba ih=>
  refine dz.append ?_ ih;unfold XP;split
  ·split
   ·exact R6
   ·exact .nil
  ·exact .nil
def sC(st:al)(ρ:Ren)(bU:List (Nat×Site)):Prop:=
 ∀n B,look ρ n=some B->(∃aM,look bU n=some aM/\aM.cl=0)/\∀o s,B=some (o,s)->∃ae,look st.sites o=some ae/\ae.cl=s/\ae.live=true
def fr(D:Nat->Value)(ρ:Ren)(n:Nat):Value:=
 match look ρ n with
 |some (some (o,_))=>D o
 |some none=>.slice none 0 0
 |none=>undef
theorem aeJ{ρ:Ren}{n o s:Nat}(h:mx ρ n o s=true):look ρ n=some (some (o,s)):=by
 unfold mx at h;split at h
 ·rename_i ZQ aM hl;simp only[Bool.and_eq_true] at h;rw[hl,Nat.eq_of_beq_eq_true h.1,Nat.eq_of_beq_eq_true h.2]
 ·cases h
section
variable {U:World}{Y:List Nat}{X:Nat->Prop}{D:Nat->Value}{st:al}{M:Array Value}{w:World}{ρ:Ren}{bU:List (Nat×Site)}{b':Nat->Prop}
theorem ze(S:aq U Y X D st M w)(hR:sC st ρ bU){n o s:Nat}(h:mx ρ n o s=true){p j5:Prop}(hr:Ref st.sites o s p)(hp:fr D ρ n=D o->p->j5):Ref bU n 0 j5:=by
 have hl:=aeJ h;obtain⟨⟨aM,h1,h2⟩,h3⟩:=hR n _ hl;obtain⟨ae,aE,bi,_⟩:=h3 o s rfl;exact Ref.mk h1 h2 (hp (by simp[fr,hl]) (Ref.at hr aE bi))
theorem aeK(S:aq U Y X D st M w)(hR:sC st ρ bU):∀{ns:List Nat} {cs:List (Nat×Nat)} {vs:List Value},ue ρ ns cs=true->vs.length=cs.length->
  (∀i (h:i<cs.length) (aj:i<vs.length),Ref st.sites (cs[i]).1 (cs[i]).2 (vs[i]=D (cs[i]).1))->
  vs.length=(ns.map fun n=>(n,0)).length/\∀i (h:i<(ns.map fun n=>((n,0):Nat×Nat)).length) (aj:i<vs.length),Ref bU ((ns.map fun n=>((n,0):Nat×Nat))[i]).1 ((ns.map fun n=>((n,0):Nat×Nat))[i]).2 (vs[i]=fr D ρ ((ns.map fun n=>((n,0):Nat×Nat))[i]).1):=by
 intro ns;induction ns with
 |nil=>
  intro cs vs h hl _;match cs,h with
  |[],_=>exact⟨by simpa using hl,fun i h=>by simp at h⟩
 |cons n ns ih=>
  intro cs vs h hl hr;match cs,h with
  |(o,s)::cs,h=>
   simp only[ue,Bool.and_eq_true] at h;match vs,hl with
   |v::vs,hl=>
    obtain⟨aD,aF⟩:=ih (vs:=vs) h.2 (by simpa using hl) (fun i g1 g2=>hr (i+1) (by simpa using g1) (by simpa using g2))
    refine⟨by simpa using aD,fun i g1 g2=>?_⟩
    cases i with
    |zero=>exact ze S hR h.1 (hr 0 (by simp) (by simp)) (fun e p=>p.trans e.symm)
    |succ i=>exact aF i (by simpa using g1) (by simpa using g2)
def Bs(D:Nat->Value)(st:al)(ρ:Ren)(b':Nat->Prop):Prop:=∀o,ce st.sites o->fD o (mo ρ)=false->∀b,bN (D o)=some b->¬b' b
theorem da.fR(S:aq U Y X D st M w)(hR:sC st ρ bU)(b6:∀b,b' b->aH X D st.sites b)(ea:Bs D st ρ b'){s:da}{l:aP}{y:s.F}{v:Value}(h:s.ex st ρ l=some y)(hv:dM D st.sites w (aH X D st.sites) l v):
  dM (fr D ρ) bU w b' (s.mk y) v:=by
 have gK:∀{d:be} {v:Value},bF w (aH X D st.sites) d v->bF w b' d v:=fun h=>b_.gK (D:=D) (sites:=[]) (a:=one _) b6 (fun b hb=>S.lt (b6 b hb)) h
 unfold da.ex at h;split at h
 ·trivial
 ·rename_i s v';have:s.mk y=v':=dw.UG h;show bF w b' (s.mk y) v;rw[this];exact gK hv
 ·rename_i t u;cases h;have hv:v=.slice none 0 0:=hv;rw[hv];exact bF.nil t
 ·rename_i T;cases h;have hv:v=.nilIface:=hv;rw[hv];exact bF.vm T
 ·rename_i t o s;split at h
  ·rename_i aM bz xs hl;cases hb:aM.beq s with
   |false=>simp[hb] at h
   |true=>
    simp only[hb,cond_true] at h;split at h
    ·rename_i e;subst e;cases h;have hs:=Nat.eq_of_beq_eq_true hb;subst hs;have hl:look st.sites o=some (.c8 aM bz xs):=hl;have mQ:v=D o:=Ref.at hv.2 hl rfl;rw[mQ];exact gK (S.sites o _ hl).1
    ·cases h
  ·cases h
 ·rename_i t o s;split at h
  ·rename_i aM bz es hl;cases hb:(aM.beq s&&!fD o (mo ρ)) with
   |false=>simp[hb] at h
   |true=>
    simp only[hb,cond_true] at h;simp only[Bool.and_eq_true,Bool.not_eq_true'] at hb;split at h
    ·rename_i e;subst e;cases h;have hs:=Nat.eq_of_beq_eq_true hb.1;subst hs;have hl:look st.sites o=some (.map aM bz es):=hl;have mQ:v=D o:=Ref.at hv.2 hl rfl;obtain⟨b,h1,h2⟩:=S.sites o _ hl;rw[mQ,h1];exact bF.map bz es b (ea o ⟨_,hl,rfl⟩ hb.2 b (by rw[h1];rfl)) h2
    ·cases h
  ·cases h
 ·rename_i g cC cn cs;cases hb:Nat.beq g cn with
  |false=>simp[hb] at h
  |true=>
   simp only[hb,cond_true] at h;have:=Nat.eq_of_beq_eq_true hb;subst this;show bF w b' (.fn g (uS cC y)) v;rw[aiP h];exact gK hv
 ·rename_i g cn;cases hb:Nat.beq g cn with
  |false=>simp[hb] at h
  |true=>
   have:=Nat.eq_of_beq_eq_true hb;subst this;obtain⟨vs,h1,h2,_⟩:=hv;rw[List.eq_nil_of_length_eq_zero h2] at h1;rw[h1];exact kd.fn (bA:=[]) (vs:=[]) trivial
 ·rename_i ba off ds oT;cases hb:Nat.beq off oT with
  |false=>simp[hb] at h
  |true=>
   simp only[hb,cond_true] at h;have:=Nat.eq_of_beq_eq_true hb;subst this;have e:=Ru h;obtain⟨b,B,h1,h2,h3,cs,aE,bi,ca⟩:=hv;show dM (fr D ρ) bU w b' (.er (fh ba y) off) v;rw[e];exact⟨b,B,h1,fun hx=>h2 (b6 b hx),h3,cs,aE,bi,fun j g1 g2=>gK (ca j g1 g2)⟩
 ·rename_i n o s;cases hb:mx ρ n o s with
  |false=>simp[hb] at h
  |true=>exact⟨hv.1,ze S hR hb hv.2 (fun e p=>p.trans e.symm)⟩
 ·rename_i n t;split at h
  ·rename_i hl;have hv:v=.slice none 0 0:=hv;obtain⟨⟨aM,h1,h2⟩,_⟩:=hR n _ hl;exact⟨by rw[hv];rfl,Ref.mk h1 h2 (by simp[fr,hl,hv])⟩
  ·cases h
 ·rename_i n off o s oT;cases hb:(mx ρ n o s&&Nat.beq off oT) with
  |false=>simp[hb] at h
  |true=>
   simp only[Bool.and_eq_true] at hb;have:=Nat.eq_of_beq_eq_true hb.2;subst this;obtain⟨b,h1,h2⟩:=hv;exact⟨b,h1,ze S hR hb.1 h2 (fun e p=>e.trans p)⟩
 ·rename_i g ns cn cs;cases hb:(Nat.beq g cn&&ue ρ ns cs) with
  |false=>simp[hb] at h
  |true=>
   simp only[Bool.and_eq_true] at hb;have:=Nat.eq_of_beq_eq_true hb.1;subst this;obtain⟨vs,h1,h2,h3⟩:=hv;obtain⟨aD,aF⟩:=aeK S hR hb.2 h2 h3;exact⟨vs,h1,aD,aF⟩
 ·trivial
 ·exact hv
 ·rename_i n t o s bz;cases hb:mx ρ n o s with
  |false=>simp[hb] at h
  |true=>
   simp only[hb,cond_true] at h;split at h
   ·rename_i e;subst e;obtain⟨b,h1,h2⟩:=hv;exact⟨b,h1,ze S hR hb h2 (fun e p=>by rw[e];exact p)⟩
   ·cases h
 ·cases h
theorem afd{ba:List da}{ai:List aP}{y:qp ba}(h:qa st ρ ba ai=some y)(bJ:(sp ba y).head?=some .dh):ai.head?=some .dh:=by
 cases ba with
 |nil=>cases bJ
 |cons s ba=>
  cases ai with
  |nil=>cases h
  |cons l ai=>
   simp only[qa] at h;split at h
   ·rename_i a b h1 h2;cases h;simp only[sp,List.head?_cons,Option.some.injEq] at bJ ⊢;cases s with
    |dh=>cases l<;>first|rfl|cases h1
    |_=>cases bJ
   ·cases h
theorem Qv(S:aq U Y X D st M w)(hR:sC st ρ bU)(b6:∀b,b' b->aH X D st.sites b)(ea:Bs D st ρ b'):∀{ba:List da} {ai:List aP} {y:qp ba} {vs:List Value},qa st ρ ba ai=some y->
  cm D st.sites w (aH X D st.sites) ai vs->cm (fr D ρ) bU w b' (sp ba y) vs:=by
 intro ba;induction ba with
 |nil=>
  intro ai y vs h hv;match ai,h with
  |[],_=>rw[hv.nq];exact .nil
 |cons s ba ih=>
  intro ai y vs h hv;match ai,h with
  |l::ai,h=>
   simp only[qa] at h;split at h
   ·rename_i a b h1 h2;cases h;obtain⟨v,cS,rfl,aD,aF⟩:=hv.inv;exact .cons (da.fR S hR b6 ea h1 aD) (ih h2 aF)
   ·cases h
theorem eW.fR(S:aq U Y X D st M w)(hR:sC st ρ bU)(b6:∀b,b' b->aH X D st.sites b)(ea:Bs D st ρ b'){s:eW}{a:aZ}{y:s.F}{v:Value}(h:s.ex st ρ a=some y)(hv:b_ D st.sites w (aH X D st.sites) a v):
  b_ (fr D ρ) bU w b' (s.mk y) v:=by
 unfold eW.ex at h;split at h
 ·exact da.fR S hR b6 ea h hv
 ·obtain⟨vs,h1,h2,h3⟩:=hv;have:=Qv S hR b6 ea h ⟨h2,h3⟩;exact⟨vs,h1,this.1,this.2⟩
 ·cases h
theorem afb:∀{ba:List (Nat×eW)} {y:uL ba},zN st ρ ba=some y->∀t v,look (ui ba y) t=some v->∃s:eW,∃y':s.F,s.ex st ρ (st.get t)=some y'/\v=s.mk y':=by
 intro ba;induction ba with
 |nil=>intro y h t v hl;cases hl
 |cons s ba ih=>
  intro y h t v hl;simp only[zN] at h;split at h
  ·rename_i a b h1 h2;cases h;simp only[ui,look] at hl;cases hb:s.1.beq t with
   |true=>
    simp only[hb,cond_true,Option.some.injEq] at hl;have:=Nat.eq_of_beq_eq_true hb;subst this;exact⟨s.2,a,h1,hl.symm⟩
   |false=>
    simp only[hb,cond_false] at hl;exact ih h2 t v hl
  ·cases h
theorem afc:∀{ba:List (Nat×ek×Loc)} {y:sg ba},zO st ρ ba=some y->∀n bV,look (j_ ba y) n=some bV->∃z:ek,∃y':z.F,∃B,look ρ n=some B/\z.ex st ρ B=some y'/\bV=z.mk y':=by
 intro ba;induction ba with
 |nil=>intro y h n bV hl;cases hl
 |cons s ba ih=>
  intro y h n bV hl;simp only[zO] at h;split at h
  ·rename_i a b h1 h2;cases h;simp only[j_,look] at hl;cases hb:s.1.beq n with
   |true=>
    simp only[hb,cond_true,Option.some.injEq] at hl;have:=Nat.eq_of_beq_eq_true hb;subst this;obtain⟨B,aD,aF⟩:=Option.bind_eq_some_iff.1 h1;exact⟨s.2.1,a,B,aD,aF,hl.symm⟩
   |false=>
    simp only[hb,cond_false] at hl;exact ih h2 n bV hl
  ·cases h
theorem ek.cl(z:ek)(y:z.F):(z.mk y).cl=0:=by cases z<;>rfl
theorem ae0{ew:al}:∀{ba:List (Nat×ek×Loc)} {ρ:Ren} {y:sg ba},pZ ew ba=some ρ->∀n B,look ρ n=some B->(∃aM,look (j_ ba y) n=some aM/\aM.cl=0):=by
 intro ba;induction ba with
 |nil=>intro ρ y h n B hl;simp only[pZ] at h;cases h;cases hl
 |cons s ba ih=>
  intro ρ y h n B hl;simp only[pZ] at h;split at h
  ·rename_i a b h1 h2;cases h;obtain⟨db,dD⟩:=y;simp only[j_,look] at hl ⊢;cases hb:s.1.beq n with
   |true=>simp only[cond_true];exact⟨_,rfl,ek.cl _ _⟩
   |false=>
    simp only[hb,cond_false] at hl ⊢;exact ih h2 n B hl
  ·cases h
theorem aeZ{ew:al}:∀{ba:List (Nat×ek×Loc)} {ρ:Ren},pZ ew ba=some ρ->(keys ρ).Nodup->∀n z,(n,z,Loc.same)∈ba->∃s,look ρ n=some (some (n,s)):=by
 intro ba;induction ba with
 |nil=>intro ρ h _ n z hm;simp at hm
 |cons s ba ih=>
  intro ρ h hn n z hm;simp only[pZ] at h;split at h
  ·rename_i a b h1 h2;cases h;simp only[keys,List.nodup_cons] at hn;rcases List.mem_cons.1 hm with hm|hm
   ·subst hm;simp only[IC] at h1;split at h1
    ·cases h1;exact⟨_,by simp[look];rfl⟩
    ·cases h1
   ·obtain⟨aM,fu⟩:=ih h2 hn.2 n z hm;refine⟨aM,?_⟩;simp only[look];have:¬s.1=n:=by
     rintro rfl;have key:∀{ρ:Ren} {n:Nat} {B},look ρ n=some B->n∈keys ρ:=by
      intro ρ;induction ρ with
      |nil=>intro n B h;cases h
      |cons p ρ avu=>
       obtain⟨m,q⟩:=p;intro n B h;simp only[look] at h;cases hb:m.beq n with
       |true=>have:=Nat.eq_of_beq_eq_true hb;subst this;exact List.mem_cons_self
       |false=>simp only[hb,cond_false] at h;exact List.mem_cons_of_mem _ (avu h)
     exact hn.1 (key fu)
    rw[js this];exact fu
  ·cases h
theorem Dv:∀{ρ:Ren} {n o s:Nat},look ρ n=some (some (o,s))->o∈mo ρ:=by
 intro ρ;induction ρ with
 |nil=>intro n o s h;cases h
 |cons p ρ ih=>
  obtain⟨m,B⟩:=p;intro n o s h;simp only[look] at h;cases hb:m.beq n with
  |true=>
   simp only[hb,cond_true,Option.some.injEq] at h;subst h;exact List.mem_cons_self
  |false=>
   simp only[hb,cond_false] at h;have:=ih h;cases B with
   |none=>exact this
   |some q=>exact List.mem_cons_of_mem _ this
theorem adO:∀{ρ:Ren} {n m o s aM:Nat},(mo ρ).Nodup->look ρ n=some (some (o,s))->look ρ m=some (some (o,aM))->n=m:=by
 intro ρ;induction ρ with
 |nil=>intro n m o s aM _ h;cases h
 |cons p ρ ih=>
  obtain⟨k,B⟩:=p;intro n m o s aM Z h aj;simp only[look] at h aj;have qJ:(mo ρ).Nodup:=by
   cases B with
   |none=>exact Z
   |some q=>exact(List.nodup_cons.1 Z).2
  cases hb:k.beq n with
  |true=>
   simp only[hb,cond_true,Option.some.injEq] at h;subst h;cases dP:k.beq m with
   |true=>rw[<-Nat.eq_of_beq_eq_true hb,<-Nat.eq_of_beq_eq_true dP]
   |false=>
    simp only[dP,cond_false] at aj;exact absurd (Dv aj) (List.nodup_cons.1 Z).1
  |false=>
   simp only[hb,cond_false] at h;cases dP:k.beq m with
   |true=>
    simp only[dP,cond_true,Option.some.injEq] at aj;subst aj;exact absurd (Dv h) (List.nodup_cons.1 Z).1
   |false=>
    simp only[dP,cond_false] at aj;exact ih qJ h aj
theorem Shape.fR(S:aq U Y X D st M w){a':Shape}{y:a'.F}(h:a'.ex st=some y):∃aW,aq U Y X aW (a'.st y) M w/\∀n z,(n,z,Loc.same)∈a'.sites->aW n=D n:=by
 unfold Shape.ex at h;have en:dz st.sites (pI st a'.cA++pJ st a'.sites):=ad9.append aea;have di:=S.zM en;rw[<-al.ua] at di;generalize st.hN (pI st a'.cA++pJ st a'.sites)=ew at h di;cases qC:ew.nt.beq a'.nt with
 |false=>simp[qC] at h
 |true=>
  simp only[qC,cond_true] at h;split at h
  ·rename_i ρ _2;cases hc:(fq (keys ρ)&&fq (mo ρ)) with
   |false=>simp[hc] at h
   |true=>
    simp only[hc,cond_true] at h;simp only[Bool.and_eq_true,rb] at hc;split at h
    ·rename_i db dD h1 h2;cases h;have facts:=afc h2;have Uj:∀{z:ek} {y':z.F} {o s:Nat},z.ex ew ρ (some (o,s))=some y'->∃ae,look ew.sites o=some ae/\ae.cl=s/\ae.live=true:=by
      intro z y' o s hz;cases z with
      |row t=>
       simp only[ek.ex] at hz;split at hz
       ·rename_i aM bz xs hl;cases hb:aM.beq s with
        |false=>simp[hb] at hz
        |true=>exact⟨_,hl,Nat.eq_of_beq_eq_true hb,rfl⟩
       ·cases hz
      |qd t n=>
       simp only[ek.ex] at hz;split at hz
       ·rename_i aM bz xs hl;cases hb:aM.beq s with
        |false=>simp[hb] at hz
        |true=>exact⟨_,hl,Nat.eq_of_beq_eq_true hb,rfl⟩
       ·cases hz
      |box ba=>
       simp only[ek.ex] at hz;split at hz
       ·rename_i hl;exact⟨_,gx hl,rfl,rfl⟩
       ·cases hz
      |map t=>
       simp only[ek.ex] at hz;split at hz
       ·rename_i aM bz xs hl;cases hb:aM.beq s with
        |false=>simp[hb] at hz
        |true=>exact⟨_,hl,Nat.eq_of_beq_eq_true hb,rfl⟩
       ·cases hz
     have hR:sC ew ρ (j_ a'.sites dD):=by
      intro n B hn;obtain⟨aM,o8,qz⟩:=ae0 (y:=dD) _2 n B hn;refine⟨⟨aM,o8,qz⟩,fun o s e=>?_⟩
      obtain⟨z,y',cP,aD,aF,_⟩:=facts n aM o8;rw[hn] at aD;cases aD;subst e;exact Uj aF
     have live:∀n,ce (j_ a'.sites dD) n->∀b,bN (fr D ρ n)=some b->∃o s,look ρ n=some (some (o,s))/\ce ew.sites o/\fr D ρ n=D o:=by
      rintro n ⟨bV,hn,_⟩ b hb;obtain⟨z,y',B,aD,aF,_⟩:=facts n bV hn;cases B with
      |none=>simp[fr,aD,bN] at hb
      |some q=>
       obtain⟨o,s⟩:=q;obtain⟨ae,q1,_,eC⟩:=Uj aF;exact⟨o,s,aD,⟨ae,q1,eC⟩,by simp[fr,aD]⟩
     have b6:∀b,aH X (fr D ρ) (j_ a'.sites dD) b->aH X D ew.sites b:=by
      rintro b (hb|⟨n,hn,hb⟩)
      ·exact .inl hb
      ·obtain⟨o,s,_,q2,eC⟩:=live n hn b hb;exact .inr ⟨o,q2,by rw[<-eC];exact hb⟩
     have gK:∀{d:be} {v:Value},bF w (aH X D ew.sites) d v->bF w (aH X (fr D ρ) (j_ a'.sites dD)) d v:=
      fun h=>b_.gK (D:=D) (sites:=[]) (a:=one _) b6 (fun b hb=>di.lt (b6 b hb)) h
     have ea:Bs D ew ρ (aH X (fr D ρ) (j_ a'.sites dD)):=by
      rintro o cB hm b hb (hx|⟨n,hn,vX⟩)
      ·exact(di.cg o b cB hb).1 hx
      ·obtain⟨ab,s,q1,q2,eC⟩:=live n hn b vX;rw[eC] at vX;have e:=di.dW o ab b cB q2 hb vX;subst e;have hin:=Dv q1;rw[<-tX] at hin;rw[hm] at hin;cases hin
     refine⟨fr D ρ,⟨?_,fun t=>?_,fun n bV hn=>?_,fun n m b dF fw g1 g2=>?_,fun n b dF g1=>?_,di.frame,di.old,di.eU⟩,fun n z hm=>?_⟩
     ·rw[di.nt];exact Nat.eq_of_beq_eq_true qC
     ·show b_ _ _ _ _ (al.get _ t) _;unfold al.get;cases hl:look (ui a'.cA db) t with
      |none=>simp only[Shape.st,hl];trivial
      |some v=>
       simp only[Shape.st,hl];obtain⟨s,y',aD,aF⟩:=afb h1 t v hl;rw[aF];exact eW.fR di hR b6 ea aD (di.cA t)
     ·have hn:look (j_ a'.sites dD) n=some bV:=hn;obtain⟨z,y',B,aD,aF,bI⟩:=facts n bV hn;rw[bI];cases z with
      |row t=>
       cases B with
       |none=>
        simp only[ek.ex] at aF;cases aF;exact⟨0,[],⟨by simp,.inl ⟨by simp[fr,aD],rfl⟩⟩,fun j h=>by simp[flat] at h⟩
       |some q=>
        obtain⟨o,s⟩:=q;simp only[ek.ex] at aF;split at aF
        ·rename_i aM bz xs hl;cases hb:aM.beq s with
         |false=>simp[hb] at aF
         |true=>
          simp only[hb,cond_true] at aF;split at aF
          ·rename_i e;subst e;cases aF;obtain⟨e,cs,q1,q2⟩:=di.sites o _ hl;refine⟨e,cs,?_,fun j g1 g2=>gK (q2 j g1 g2)⟩
           have:fr D ρ n=D o:=by simp[fr,aD]
           rw[this];exact q1
          ·cases aF
        ·cases aF
      |qd t m=>
       cases B with
       |none=>cases aF
       |some q=>
        obtain⟨o,s⟩:=q;simp only[ek.ex] at aF;split at aF
        ·rename_i aM bz xs hl;cases hb:aM.beq s with
         |false=>simp[hb] at aF
         |true=>
          simp only[hb,cond_true] at aF;split at aF
          ·rename_i e;subst e;split at aF
           ·rename_i hlen;cases aF;obtain⟨e,cs,q1,q2⟩:=di.sites o _ hl;simp only[ek.mk,amU hlen];refine⟨e,cs,?_,fun j g1 g2=>gK (q2 j g1 g2)⟩
            have:fr D ρ n=D o:=by simp[fr,aD]
            rw[this];exact q1
           ·cases aF
          ·cases aF
        ·cases aF
      |box ba=>
       cases B with
       |none=>cases aF
       |some q=>
        obtain⟨o,s⟩:=q;simp only[ek.ex] at aF;split at aF
        ·rename_i cells hl;obtain⟨b,T,cur,q1,q2,eC,pk,au2,ayM⟩:=di.sites o _ (gx hl);have:=Qv di hR b6 ea aF ⟨eC,ayM⟩;exact⟨b,T,cur,by simp[fr,aD,q1],q2,this.1,pk,fun bJ=>au2 (afd aF bJ),this.2⟩
        ·cases aF
      |map t=>
       cases B with
       |none=>cases aF
       |some q=>
        obtain⟨o,s⟩:=q;simp only[ek.ex] at aF;split at aF
        ·rename_i aM bz es hl;cases hb:aM.beq s with
         |false=>simp[hb] at aF
         |true=>
          simp only[hb,cond_true] at aF;split at aF
          ·rename_i e;subst e;cases aF;obtain⟨b,q1,q2⟩:=di.sites o _ hl;have:fr D ρ n=D o:=by simp[fr,aD]
           exact⟨b,this.trans q1,q2⟩
          ·cases aF
        ·cases aF
     ·obtain⟨o,s,a1,a2,a3⟩:=live n dF b g1;obtain⟨ab,aM,b1,b2,b3⟩:=live m fw b g2;rw[a3] at g1;rw[b3] at g2;have:=di.dW o ab b a2 b2 g1 g2;subst this;exact adO hc.2 a1 b1
     ·obtain⟨o,s,a1,a2,a3⟩:=live n dF b g1;rw[a3] at g1;exact di.cg o b a2 g1
     ·obtain⟨s,hs⟩:=aeZ _2 hc.1 n z hm;simp[fr,hs]
    ·cases h
  ·cases h
end
inductive Kind:Type where
 |norm
 |exit (id:Nat)
 |ret
abbrev aO:=Kind×Shape
@[reducible] def aA:List aO->Type
 |[]=>Empty
 |[B]=>B.2.F
 |B::cP::r=>Sum B.2.F (aA (cP::r))
def Kind.mk:Kind->al->Out
 |.norm,st=>.norm st
 |.exit id,st=>.exit id st
 |.ret,st=>.ret st
def lm:(os:List aO)->aA os->Out
 |[B],y=>B.1.mk (B.2.st y)
 |B::cP::r,y=>match y with
  |.inl y=>B.1.mk (B.2.st y)
  |.inr y=>lm (cP::r) y
def Kind.gS:Kind->Out->Option al
 |.norm,.norm st=>some st
 |.exit id,.exit iz st=>bif Nat.beq id iz then some st else none
 |.ret,.ret st=>some st
 |_,_=>none
def gP:(os:List aO)->Out->Option (aA os)
 |[],_=>none
 |[B],x=>match B.1.gS x with
  |some st=>B.2.ex st
  |none=>none
 |B::cP::r,x=>match B.1.gS x with
  |some st=>(B.2.ex st).map Sum.inl
  |none=>(gP (cP::r) x).map Sum.inr
section
variable {U:World}{Y:List Nat}{X:Nat->Prop}{ds:List Deferred}{ez:Array Value}{W:List Nat}
theorem ep.ex{st:al}{a':Shape}{y:a'.F}{a:Act}{w:World}(hy:a'.ex st=some y)(h:ep U Y X ds ez W st a w):ep U Y X ds ez W (a'.st y) a w:=by
 obtain⟨bB,du,cT,D,dx,h1,h2,h3,S,bi⟩:=h;obtain⟨aW,cc,_⟩:=Shape.fR S hy;exact⟨bB,du,cT,aW,dx,h1,h2,h3,cc,bi⟩
theorem Kind.Fx{k:Kind}{x:Out}{st:al}{a':Shape}{y:a'.F}{e:Exit}{a:Act}{w:World}(h:k.gS x=some st)(hy:a'.ex st=some y)(hl:eY U Y X ds ez W x e a w):eY U Y X ds ez W (k.mk (a'.st y)) e a w:=by
 cases k<;>cases x<;>simp only[Kind.gS] at h<;>try(cases h;done)
 ·cases h;cases e<;>try exact hl.elim
  exact ep.ex hy hl
 ·rename_i id iz ao;cases hb:Nat.beq id iz with
  |false=>simp[hb] at h
  |true=>
   simp only[hb,cond_true,Option.some.injEq] at h;subst h;cases e<;>try exact hl.elim
   exact⟨(Nat.eq_of_beq_eq_true hb).trans hl.1,ep.ex hy hl.2⟩
 ·cases h;cases e<;>try exact hl.elim
  exact ep.ex hy hl
theorem tV:∀{os:List aO} {x:Out} {y:aA os} {e:Exit} {a:Act} {w:World},gP os x=some y->eY U Y X ds ez W x e a w->eY U Y X ds ez W (lm os y) e a w:=by
 intro os;induction os with
 |nil=>intro x y;exact y.elim
 |cons B os ih=>
  intro x y e a w h hl;cases os with
  |nil=>
   simp only[gP] at h;split at h
   ·rename_i st hk;exact Kind.Fx hk h hl
   ·cases h
  |cons cP r=>
   simp only[gP] at h;split at h
   ·rename_i st hk;obtain⟨db,aD,aF⟩:=Option.map_eq_some_iff.1 h;subst aF;exact Kind.Fx hk aD hl
   ·obtain⟨db,aD,aF⟩:=Option.map_eq_some_iff.1 h;subst aF;exact ih aD hl
end
section
variable {F bn:Type}
def iter(f:F->Option (Sum F bn)):Nat->F->Option bn
 |0,_=>none
 |n+1,y=>match f y with
  |none=>none
  |some (.inl y')=>iter f n y'
  |some (.inr b)=>some b
theorem O4{f:F->Option (Sum F bn)}:∀{n m:Nat} {y:F} {b:bn},n<=m->iter f n y=some b->iter f m y=some b:=by
 intro n;induction n with
 |zero=>intro m y b _ h;cases h
 |succ n ih=>
  intro m y b hle h;obtain⟨m,rfl⟩:∃k,m=k+1:=⟨m-1,by omega⟩
  simp only[iter] at h ⊢;split at h
  ·cases h
  ·exact ih (by omega) h
  ·exact h
open Classical in
noncomputable def bo(f:F->Option (Sum F bn))(y:F):Option bn:=
 if h:∃n b,iter f n y=some b then some (Classical.choose (Classical.choose_spec h)) else none
theorem Ej{f:F->Option (Sum F bn)}{y:F}{b:bn}:bo f y=some b <-> ∃n,iter f n y=some b:=by
 unfold bo;constructor
 ·intro h;split at h
  ·rename_i aj;cases h;exact⟨_,Classical.choose_spec (Classical.choose_spec aj)⟩
  ·cases h
 ·rintro⟨n,hn⟩;have h:∃n b,iter f n y=some b:=⟨n,b,hn⟩;rw[dif_pos h];have h1:=Classical.choose_spec (Classical.choose_spec h);have h2:=O4 (Nat.le_max_left (Classical.choose h) n) h1;have h3:=O4 (Nat.le_max_right (Classical.choose h) n) hn;rw[h2] at h3;exact h3
theorem yc(f:F->Option (Sum F bn))(y:F):bo f y=match f y with
  |none=>none
  |some (.inl y')=>bo f y'
  |some (.inr b)=>some b:=by
 apply Option.ext;intro b;rw[Ej];cases hf:f y with
 |none=>
  simp only;constructor
  ·rintro⟨n,hn⟩;cases n with
   |zero=>cases hn
   |succ n=>simp only[iter,hf] at hn;cases hn
  ·intro h;cases h
 |some s=>
  cases s with
  |inl y'=>
   simp only;rw[Ej];constructor
   ·rintro⟨n,hn⟩;cases n with
    |zero=>cases hn
    |succ n=>simp only[iter,hf] at hn;exact⟨n,hn⟩
   ·rintro⟨n,hn⟩;exact⟨n+1,by simp only[iter,hf];exact hn⟩
  |inr bG=>
   simp only;constructor
   ·rintro⟨n,hn⟩;cases n with
    |zero=>cases hn
    |succ n=>simp only[iter,hf] at hn;exact hn
   ·intro h;exact⟨1,by simp only[iter,hf];exact h⟩
theorem least{p:Nat->Prop}(h:∃n,p n):∃n,p n/\∀m,p m->n<=m:=by
 obtain⟨n,hn⟩:=h;induction n using Nat.strongRecOn with
 |_ n ih=>
  by_cases aj:∃m,m<n/\p m
  ·obtain⟨m,h1,h2⟩:=aj;exact ih m h1 h2
  ·exact⟨n,hn,fun m hm=>Nat.le_of_not_lt fun hlt=>aj ⟨m,hlt,hm⟩⟩
end
noncomputable def rX(C:g')(c:Code)(p:Nat)(a':Shape)(os:List aO)(y:a'.F):Option (Sum a'.F (aA os)):=
 exec C c (2*p) (a'.st y) fun
  |.norm st=>(a'.ex st).map .inl
  |x=>(gP os x).map .inr
def Bn:(os:List aO)->(R:Type)->aA os->(Out->Option R)->Option R
 |[B],R,y,K=>K (B.1.mk (B.2.st y))
 |B::cP::r,R,y,K=>match y with
  |.inl y=>K (B.1.mk (B.2.st y))
  |.inr y=>Bn (cP::r) R y K
theorem Qz:∀(os:List aO) (R:Type) (y:aA os) (K:Out->Option R),Bn os R y K=K (lm os y):=by
 intro os;induction os with
 |nil=>intro R y;exact y.elim
 |cons B os ih=>
  intro R y K;cases os with
  |nil=>rfl
  |cons cP r=>
   cases y with
   |inl y=>rfl
   |inr y=>exact ih R y K
def aU(a':Shape)(os:List aO)(g:a'.F->Option (aA os)):ht:=fun st=>⟨aA os,(a'.ex st).bind g,lm os,Bn os,Qz os⟩
section
variable {P:Program}{C:g'}
theorem agR(H:aQ P C.toCtx){c:Code}{p:Nat}{a':Shape}{os:List aO}(ea:fS P C c (2*p)){g:a'.F->Option (aA os)}(hg:∀y,g y=bo (rX C c p a' os) y):
  aT P (.loop c) (aU a' os g):=by
 intro rn hn U Y X st y hy D M w ds S;simp only[aU] at hy y ⊢;obtain⟨f_,h1,h2⟩:=Option.bind_eq_some_iff.1 hy;obtain⟨l1,ob,_⟩:=Shape.fR S h1;rw[hg] at h2;obtain⟨n0,qD⟩:=Ej.1 h2;have ay1:∃eR:Nat->Act->World->Prop,∀n a w,eR n a w <-> ∃z,iter (rX C c p a' os) n z=some y/\ep U Y X ds M (ck c) (a'.st z) a w:=⟨_,fun _ _ _=>Iff.rfl⟩
 obtain⟨eR,mg⟩:=ay1;classical
 refine wpIn_loop (I:=fun a w=>∃n,eR n a w) (μ:=fun a w=>if h:∃n,eR n a w then Classical.choose (least h) else 0) ⟨n0,(mg _ _ _).2 ⟨f_,qD,ep.of ob fun _ _=>rfl⟩⟩ ?_
 intro a w' c';have arh:=(Classical.choose_spec (least c')).1;obtain⟨z,hz,bB,du,cT,gq,dx,b1,b2,b3,di,wM⟩:=(mg _ _ _).1 arh;obtain⟨ho,L4⟩:=a;obtain⟨b3,awZ⟩:=b3;have b3:L4=dx.map mark++ds:=b3;subst b3;have join:∀{B:Out} {e:Exit} {a2:Act} {w2:World},eY bB du cT (dx.map mark++ds) ho (ck c) B e a2 w2->eY U Y X ds M (ck c) B e a2 w2:=fun hl=>
  (eY.trans b1 b2 awZ wM hl).mono fun t aw=>(List.mem_append.1 aw).elim id id
 cases ic:Classical.choose (least c') with
 |zero=>rw[ic] at hz;cases hz
 |succ n=>
  rw[ic] at hz;simp only[iter] at hz;have go:∀s,rX C c p a' os z=some s->fN rn P c (fun e a w=>match s with
    |.inl eK=>eY U Y X ds M (ck c) (.norm (a'.st eK)) e a w
    |.inr b=>eY U Y X ds M (ck c) (lm os b) e a w/\e≠.normal) ⟨ho,dx.map mark++ds⟩ w':=by
   intro s hs;refine jf H c (2*p) hn ea bB du cT (a'.st z) gq ho w' _ _ _ hs di ?_
   intro B e a w2 hk hl;have hl:=join hl;cases B with
   |norm vE=>
    obtain⟨eK,q1,q2⟩:=Option.map_eq_some_iff.1 hk;subst q2;exact Kind.Fx (k:=.norm) rfl q1 hl
   |exit id vE=>
    obtain⟨eK,q1,q2⟩:=Option.map_eq_some_iff.1 hk;subst q2;exact⟨tV q1 hl,by rintro rfl;exact hl⟩
   |ret vE=>
    obtain⟨eK,q1,q2⟩:=Option.map_eq_some_iff.1 hk;subst q2;exact⟨tV q1 hl,by rintro rfl;exact hl⟩
  cases hr:rX C c p a' os z with
  |none=>rw[hr] at hz;cases hz
  |some s=>
   cases s with
   |inl eK=>
    rw[hr] at hz;refine wpIn_mono (go _ hr) fun e a2 w2 hl=>?_
    cases e<;>try exact hl.elim
    have La:eR n a2 w2:=(mg _ _ _).2 ⟨eK,hz,hl⟩;refine⟨⟨n,La⟩,?_⟩;have hex:∃n,eR n a2 w2:=⟨n,La⟩;simp only[dif_pos hex,dif_pos c',ic];have:Classical.choose (least hex)<=n:=(Classical.choose_spec (least hex)).2 n La;omega
   |inr b=>
    rw[hr] at hz;simp only[Option.some.injEq] at hz;subst hz;refine wpIn_mono (go _ hr) fun e a2 w2 hl=>?_
    cases e<;>first|exact absurd rfl hl.2|exact hl.1
noncomputable def SR(C:g')(c:Code)(p:Nat)(a':Shape)(os:List aO)(y:a'.F):Option (aA os):=exec C c p (a'.st y) (gP os)
theorem aeU(H:aQ P C.toCtx){c:Code}{p:Nat}{a':Shape}{os:List aO}(ea:fS P C c p){g:a'.F->Option (aA os)}(hg:∀y,g y=SR C c p a' os y):aT P c (aU a' os g):=by
 intro rn hn U Y X st y hy D M w ds S;simp only[aU] at hy y ⊢;obtain⟨f_,h1,h2⟩:=Option.bind_eq_some_iff.1 hy;obtain⟨l1,ob,_⟩:=Shape.fR S h1;rw[hg] at h2;exact jf H c p hn ea U Y X (a'.st f_) l1 M w _ _ _ h2 ob fun B e a w' hk hl=>tV hk hl
end
def aP.Rr:aP->Bool
 |.fresh _ _=>false
 |_=>true
def lD:List aP->Bool
 |[]=>true
 |l::ai=>l.Rr&&lD ai
def pK(i:Nat):List Arg->Option (List (Nat×aZ))
 |[]=>some []
 |.av a::r=>bif lD a.cells then(pK (i+1) r).map fun l=>(i,.av a)::l else none
 |.e8 _::r=>(pK (i+1) r).map fun l=>(i,bZ (.ptr (500000+i) 0 0))::l
def jI(i:Nat):List Arg->List (Nat×Nat)
 |[]=>[]
 |.av _::r=>jI (i+1) r
 |.e8 _::r=>(500000+i,0)::jI (i+1) r
def AZ:List Arg->List (List aP)
 |[]=>[]
 |.av _::r=>AZ r
 |.e8 cs::r=>cs::AZ r
def nk(i:Nat):List Arg->List Nat
 |[]=>[]
 |.av _::r=>nk (i+1) r
 |.e8 _::r=>i::nk (i+1) r
def k5:List (Nat×Nat)->List (Nat×Site)
 |[]=>[]
 |(o,s)::r=>(o,.dead s)::k5 r
def AW(nt:Nat)(as:List Arg)(l:List (Nat×aZ)):al:=⟨l,k5 (jI 0 as),nt⟩
def Il(nt:Nat)(as:List Arg)(l:List (Nat×aZ)):List (Nat×Site):=gD (AW nt as l) (jI 0 as) (AZ as)
def entry(nt:Nat)(as:List Arg):Option al:=bif Nat.ble as.length nt then(match pK 0 as with
 |some l=>bif fq (keys (Il nt as l)) then some ⟨l,bp (k5 (jI 0 as)) (Il nt as l),nt⟩ else none
 |none=>none) else none
def nj(st:al):List Nat->Option (List (List aP)×List (Nat×Site))
 |[]=>some ([],[])
 |t::cU=>match st.get t with
  |.av (.am (.ptr o s 0))=>match fs st o s,nj st cU with
   |some cells,some (cC,us)=>match kl st cells with
    |some (cs,gone)=>some (cs::cC,(o,.dead s)::(gone++us))
    |none=>none
   |_,_=>none
  |_=>none
def to:List Nat->List Nat->Bool
 |[],[]=>true
 |n::r,m::s=>n.beq m&&to r s
 |_,_=>false
def ao3(st:al):bP->Option (bP×List (Nat×Site))
 |.am l=>(nB st l).map fun p=>(.am p.1,p.2)
 |.agg ai=>(kl st ai).map fun p=>(.agg p.1,p.2)
def Iz(tt:TypeId->b7)(st:al):ResultVar->Option bP
 |.tmp t=>l0 (st.get t)
 |.cell a T=>match tt T with
  |.arr _ t n=>match st.get a with
   |.av (.am (.eP o s u 0 0))=>match rowOf st o s with
    |some ⟨bz,xs⟩=>if bz=t/\bz=u then(long n xs).map fun xs=>.agg (BR bz xs n) else none
    |none=>none
   |_=>none
  |ti=>match st.get a with
   |.av (.am (.ptr o s off))=>bif ti.known then(match fs st o s with
    |some cells=>(cut ti.agg off ti.size cells).bind l0
    |none=>none) else none
   |_=>none
def nr(tt:TypeId->b7)(st:al):List ResultVar->Option (List bP×List (Nat×Site))
 |[]=>some ([],[])
 |t::cU=>match Iz tt st t with
  |some a=>match ao3 st a,nr tt st cU with
   |some (dv,us),some (as,vs)=>some (dv::as,us++vs)
   |_,_=>none
  |none=>none
def aq3(a':Shape):Out->Option a'.F
 |.ret st=>a'.ex st
 |.norm st=>a'.ex st
 |.exit _ _=>none
noncomputable def IK(C:g')(c:Code)(kg fe:Shape)(a:kg.F):Option fe.F:=exec C c 1 (kg.st a) (aq3 fe)
noncomputable def ow(tt:TypeId->b7)(nt:Nat)(kg fe:Shape)(outs:List ResultVar)(e7:List Nat)(f:kg.F->Option fe.F):aB:=fun as=>
 match entry nt as with
 |some st=>bif to (nk 0 as) e7 then⟨fe.F,(kg.ex st).bind f,fun y=>(match nj (fe.st y) e7 with|some r=>r.1|none=>[]),fun y=>match nr tt (fe.st y) outs with|some r=>r.1|none=>[]⟩ else vq.fail
 |none=>vq.fail
section
variable {w:World}{av:Nat->Prop}
theorem acH:∀{ai:List aP} {vs:List Value} {bs:List Nat},lD ai=true->k8 w av ai vs bs->bs=[]/\cm lT [] w av ai vs:=by
 intro ai;induction ai with
 |nil=>
  intro vs bs _ h;match vs,h with
  |[],h=>exact⟨h,.nil⟩
 |cons l ai ih=>
  intro vs bs hn h;simp only[lD,Bool.and_eq_true] at hn;match vs,h with
  |v::vs,⟨b1,b2,h1,h2,h3⟩=>
   obtain⟨aD,aF⟩:=ih hn.2 h3;have:b1=[]/\dM lT [] w av l v:=by
    cases l<;>first|exact h2|cases hn.1
   exact⟨by rw[h1,this.1,aD];rfl,.cons this.2 aF⟩
theorem acI{a:bP}{v:Value}{bs:List Nat}(hn:lD a.cells=true)(h:Bq w av a v bs):bs=[]/\gL lT [] w av a v:=by
 cases a with
 |am l=>
  simp only[bP.cells,lD,Bool.and_true] at hn;cases l<;>first|exact h|cases hn
 |agg ai=>
  obtain⟨vs,h1,h2⟩:=h;obtain⟨aD,aF⟩:=acH hn h2;exact⟨aD,vs,h1,aF.1,aF.2⟩
def nF:Value->Nat
 |.pointer (some a)=>a.block
 |_=>0
theorem ada{ai:List aP}(h:lD ai=true){l:aP}(hl:l∈ai):l.Rr=true:=by
 induction ai with
 |nil=>cases hl
 |cons a ai ih=>
  simp only[lD,Bool.and_eq_true] at h;rcases List.mem_cons.1 hl with rfl|hl
  ·exact h.1
  ·exact ih h.2 hl
theorem ajC{D:Nat->Value}{b':Nat->Prop}{a:bP}{v:Value}{sites:List (Nat×Site)}(hn:lD a.cells=true)(h:gL lT [] w av a v)(hle:∀b,b' b->av b)(hlt:∀b,b' b->b<w.heap.size):gL D sites w b' a v:=by
 cases a with
 |am l=>exact DR (fun t xs e=>by subst e;cases hn) h hle hlt
 |agg ai=>
  obtain⟨vs,h1,h2,h3⟩:=h;exact⟨vs,h1,h2,fun j g1 g2=>DR (fun t xs e=>by have:=ada hn (List.getElem_mem g1);rw[e] at this;cases this) (h3 j g1 g2) hle hlt⟩
theorem Dq:∀{as:List Arg} {i o s:Nat},(o,s)∈jI i as->s=0:=by
 intro as;induction as with
 |nil=>intro i o s h;cases h
 |cons a as ih=>
  intro i o s h;cases a with
  |av a=>exact ih h
  |e8 c=>
   rcases List.mem_cons.1 h with h|h
   ·cases h;rfl
   ·exact ih h
theorem NK{L:List (Nat×Nat)}(h:∀o s,(o,s)∈L->s=0){o s:Nat}(hm:(o,s)∈L):look (k5 L) o=some (.dead 0):=by
 induction L with
 |nil=>cases hm
 |cons p L ih=>
  obtain⟨k,r⟩:=p;simp only[k5,look];cases hb:k.beq o with
  |true=>simp only[cond_true];rw[h k r List.mem_cons_self]
  |false=>
   simp only[cond_false];refine ih (fun o s hm=>h o s (List.mem_cons_of_mem _ hm)) ?_
   rcases List.mem_cons.1 hm with e|e
   ·cases e;rw[Nat.beq_refl] at hb;cases hb
   ·exact e
theorem NW{L:List (Nat×Nat)}{o:Nat}{ae:Site}(h:look (k5 L) o=some ae):∃s,ae=.dead s:=by
 induction L with
 |nil=>cases h
 |cons p L ih=>
  obtain⟨k,r⟩:=p;simp only[k5,look] at h;cases hb:k.beq o with
  |true=>simp only[hb,cond_true,Option.some.injEq] at h;exact⟨r,h.symm⟩
  |false=>simp only[hb,cond_false] at h;exact ih h
theorem aek{D:Nat->Value}:∀{as:List Arg} {i:Nat} {l:List (Nat×aZ)} {vs:List Value} {bs:List Nat},pK i as=some l->iJ w av as vs bs->(∀j,D (500000+i+j)=vs.getD j undef)->
  iN w av (dI as vs) (AZ as) bs/\mX D (jI i as) (dI as vs)/\dI as vs=(nk i as).map (fun t=>nF (vs.getD (t-i) undef))/\(∀t,t∈nk i as->i<=t)/\
  ∀t v,look l t=some v->i<=t/\((∃a,v=.av a/\lD a.cells=true/\gL lT [] w av a (vs.getD (t-i) undef))\/(v=bZ (.ptr (500000+t) 0 0)/\(500000+t,0)∈jI i as/\∃b,vs.getD (t-i) undef=.pointer (some ⟨b,0,none⟩))):=by
 intro as;induction as with
 |nil=>
  intro i l vs bs h bJ cG;simp only[pK] at h;cases h;match vs,bJ with
  |[],bJ=>exact⟨bJ,trivial,rfl,fun t h=>(by cases h),fun t v h=>(by cases h)⟩
 |cons a as ih=>
  intro i l vs bs h bJ cG;match vs,bJ with
  |v::vs,⟨b1,b2,e,h2,h3⟩=>
  have jT:∀j,D (500000+(i+1)+j)=vs.getD j undef:=fun j=>by
   have:=cG (j+1);rw[List.getD_cons_succ] at this;rw[<-this];congr 1;omega
  have shift:∀t,i+1<=t->(v::vs).getD (t-i) undef=vs.getD (t-(i+1)) undef:=fun t aw=>by
   obtain⟨m,hm⟩:∃m,t-i=m+1:=⟨t-i-1,by omega⟩
   have l8:t-(i+1)=m:=by omega
   rw[hm,List.getD_cons_succ,l8]
  have Xn:∀{L:List Nat},(∀t,t∈L->i+1<=t)->L.map (fun t=>nF (vs.getD (t-(i+1)) undef))=L.map (fun t=>nF ((v::vs).getD (t-i) undef)):=fun dG=>List.map_congr_left fun t aw=>by rw[shift t (dG t aw)]
  cases a with
  |e8 c=>
   simp only[pK] at h;obtain⟨ga,h1,aE⟩:=Option.map_eq_some_iff.1 h;subst aE;obtain⟨b,hv,pc⟩:=h2;obtain⟨aD,aF,bI,cJ,fM⟩:=ih h1 h3 jT;have eI:dI (.e8 c::as) (v::vs)=b::dI as vs:=by subst hv;rfl
   refine⟨by rw[eI];exact⟨b1,b2,e,pc,aD⟩,by rw[eI];exact⟨by have:=cG 0;rw[Nat.add_zero] at this;rw[this];exact hv,aF⟩,?_,fun t aw=>?_,fun t u hl=>?_⟩
   ·rw[eI,bI,Xn cJ];simp only[nk,List.map_cons,Nat.sub_self,List.getD_cons_zero,hv,nF]
   ·rcases List.mem_cons.1 aw with rfl|aw
    ·exact Nat.le_refl _
    ·exact Nat.le_trans (Nat.le_succ _) (cJ t aw)
   ·simp only[look] at hl;cases hb:i.beq t with
    |true=>
     have:=Nat.eq_of_beq_eq_true hb;subst this;simp only[hb,cond_true,Option.some.injEq] at hl;subst hl;exact⟨Nat.le_refl _,.inr ⟨rfl,List.mem_cons_self,b,by simp only[Nat.sub_self,List.getD_cons_zero];exact hv⟩⟩
    |false=>
     simp only[hb,cond_false] at hl;obtain⟨q1,q2⟩:=fM t u hl;refine⟨by omega,?_⟩
     rw[shift t q1];rcases q2 with q2|⟨r1,r2,c_⟩
     ·exact .inl q2
     ·exact .inr ⟨r1,List.mem_cons_of_mem _ r2,c_⟩
  |av a=>
   simp only[pK] at h;cases hn:lD a.cells with
   |false=>simp[hn] at h
   |true=>
    simp only[hn,cond_true] at h;obtain⟨ga,h1,aE⟩:=Option.map_eq_some_iff.1 h;subst aE;obtain⟨g1,g2⟩:=acI hn h2;obtain⟨aD,aF,bI,cJ,fM⟩:=ih h1 h3 jT;have eI:dI (.av a::as) (v::vs)=dI as vs:=by cases v<;>rfl
    refine⟨by rw[eI,e,g1];exact aD,by rw[eI];exact aF,by rw[eI,bI,Xn cJ];rfl,fun t aw=>Nat.le_trans (Nat.le_succ _) (cJ t aw),fun t u hl=>?_⟩
    simp only[look] at hl;cases hb:i.beq t with
    |true=>
     have:=Nat.eq_of_beq_eq_true hb;subst this;simp only[hb,cond_true,Option.some.injEq] at hl;subst hl;exact⟨Nat.le_refl _,.inl ⟨a,rfl,hn,by simp only[Nat.sub_self,List.getD_cons_zero];exact g2⟩⟩
    |false=>
     simp only[hb,cond_false] at hl;obtain⟨q1,q2⟩:=fM t u hl;refine⟨by omega,?_⟩
     rw[shift t q1];exact q2
theorem ane:∀{l m:List Nat},to l m=true->l=m:=by
 intro l;induction l with
 |nil=>intro m h;cases m<;>first|rfl|cases h
 |cons n l ih=>
  intro m h;cases m with
  |nil=>cases h
  |cons k m=>
   simp only[to,Bool.and_eq_true] at h;rw[Nat.eq_of_beq_eq_true h.1,ih h.2]
end
section
variable {P:Program}{U:World}{Y:List Nat}{X:Nat->Prop}{D:Nat->Value}{st:al}{M:Array Value}{w:World}{c7:List (Nat×Site)}{eQ:List Nat}{av:Nat->Prop}
def pV(M:Array Value)(r:ResultVar):Sem Value:=
 match r with
 |.tmp t=>pure (M.getD t undef)
 |.cell a t=>do loadVar t (<-asAddr (M.getD a undef))
theorem aiL(S:aq U Y X D st M w){C:Ctx}(H:CtxOk P C){r:ResultVar}{a:bP}(h:Iz C.tt st r=some a):∃v,(pV M r).run P w=.ok v w/\gL D st.sites w (aH X D st.sites) a v:=by
 cases r with
 |tmp t=>
  have hs:=S.cA t;rw[px h] at hs;exact⟨_,by simp only[pV,Sem.run_pure],hs⟩
 |cell x T=>
  simp only[Iz] at h;split at h
  ·rename_i e t n bh;split at h
   ·rename_i o s u hx;have hs:=S.cA x;rw[hx] at hs;split at h
    ·rename_i bz xs hrow;split at h
     ·rename_i iW;obtain⟨rfl,rfl⟩:=iW;obtain⟨bg,hy,avy⟩:=Option.map_eq_some_iff.1 h;obtain⟨rfl,hlen⟩:=tQ hy;subst avy;have bL:=H.tt T;rw[bh] at bL;obtain⟨he,_,_,eK,_,mO,_⟩:=nd bL.2.2;obtain⟨b,c,cs,hv,_,hc,hr⟩:=S.arr hrow hs;have hcl:cs.length=n:=by rw[hr.1,eS,he,hlen,Nat.mul_one]
      have df:=tG (P:=P) (w:=w) bL (by rintro h;cases h) ⟨b,0,none⟩ cs hcl (fun j u hu=>by rw[gC];exact hc j u hu)
      refine⟨.agg cs.toArray,?_,?_⟩
      ·simp only[pV,hv,asAddr,Sem.run_bind,Sem.run_pure,Result.andThen_ok,df];rfl
      ·subst hlen;have:=gX (D:=D) (sites:=st.sites) hr.1 hr.2;rw[<-Sc mO] at this;exact⟨cs,rfl,this.1,this.2⟩
     ·cases h
    ·cases h
   ·cases h
  split at h
  ·rename_i o s off hx;have hs:=S.cA x;rw[hx] at hs;cases hk:(C.tt T).known with
   |false=>simp[hk] at h
   |true=>
    simp only[hk,cond_true] at h;split at h
    ·rename_i cells hb;obtain⟨v,hc,hv⟩:=Option.bind_eq_some_iff.1 h;have hv:=px hv;subst hv;obtain⟨b,gg,cur,h1,h2,h3,aE,bi⟩:=S.box (gx hb) hs;obtain⟨aD,aF⟩:=TW hc FN bi;refine⟨_,?_,aF⟩;have hl:(loadVar T ⟨b,off,none⟩).run P w=.ok (sn (C.tt T).agg ((cur.drop off).take (C.tt T).size)) w:=by
      refine tG (H.tt T) (Fv hk) _ _ (by simp;omega) fun j u hu=>?_
      rw[gC];have:=((hJ.row h3).drop off).take (C.tt T).size j u hu;simpa using this
     simp only[pV,h2,asAddr,Sem.run_bind,Sem.run_pure,Result.andThen_ok,hl]
    ·cases h
  ·cases h
theorem NP{C:Ctx}(H:CtxOk P C)(L:fg U Y X D st M w c7 eQ av):∀{outs:List ResultVar} {as:List bP} {us:List (Nat×Site)},nr C.tt st outs=some (as,us)->
  ∃rv,(outs.mapM (pV M)).run P w=.ok rv w/\kV w av as rv (cY D (keys us))/\gF st.sites us:=by
 intro outs;induction outs with
 |nil=>intro as us h;simp only[nr] at h;cases h;exact⟨[],by simp,rfl,.nil⟩
 |cons t outs ih=>
  intro as us h;simp only[nr] at h;split at h
  ·rename_i a ha;split at h
   ·rename_i dv u1 n3 u2 h1 h2;cases h;obtain⟨rv,ly,aD,aF⟩:=ih h2;obtain⟨v,q0,hs⟩:=aiL L.fz.old H ha;have:Bq w av dv v (cY D (keys u1))/\gF st.sites u1:=by
     cases a with
     |am l=>
      obtain⟨p,q1,q2⟩:=Option.map_eq_some_iff.1 h1;cases q2;exact ye L q1 hs
     |agg ai=>
      obtain⟨p,q1,q2⟩:=Option.map_eq_some_iff.1 h1;cases q2;obtain⟨vs,e1,e2,bv⟩:=hs;obtain⟨r1,r2⟩:=Hb L q1 ⟨e2,bv⟩;exact⟨⟨vs,e1,r1⟩,r2⟩
    refine⟨v::rv,?_,⟨_,_,by rw[jF,oe],this.1,aD⟩,this.2.append aF⟩
    simp only[List.mapM_cons,Sem.run_bind,q0,Result.andThen_ok,ly,Sem.run_pure]
   ·cases h
  ·cases h
theorem Nf(L:fg U Y X D st M w c7 eQ av):∀{cU:List Nat} {cC:List (List aP)} {us:List (Nat×Site)},nj st cU=some (cC,us)->
  iN w av (cU.map fun t=>nF (M.getD t undef)) cC (cY D (keys us))/\gF st.sites us:=by
 intro cU;induction cU with
 |nil=>intro cC us h;simp only[nj] at h;cases h;exact⟨rfl,.nil⟩
 |cons t cU ih=>
  intro cC us h;have hs:=L.fz.old.cA t;simp only[nj] at h;split at h
  ·rename_i o s hx;rw[hx] at hs;split at h
   ·rename_i cells az8 mK lW hr;split at h
    ·rename_i cs gone hg;cases h;obtain⟨aD,aF⟩:=ih hr;have jm:=gx lW;obtain⟨b,T,cur,e1,e2,bv,dq,fa⟩:=L.fz.old.box jm hs;obtain⟨g1,g2⟩:=Hb L hg fa;have Jg:mB cells T cur b:=by
      obtain⟨b2,eo,XR,q1,q2,_,_,eC,_⟩:=L.fz.old.sites o _ jm;rw[e1] at q1;cases q1;rw[bv] at q2;cases q2;exact eC
     have wJ:nF (M.getD t undef)=b:=by rw[e2];rfl
     have awK:bN (D o)=some b:=by rw[e1];rfl
     refine⟨⟨b::cY D (keys gone),cY D (keys mK),?_,?_,aD⟩,?_⟩
     ·simp only[keys,jF,oe,List.cons_append];simp[cY,awK]
     ·show Hw w av (nF (M.getD t undef)) cs _;rw[wJ];exact⟨T,cur,_,rfl,bv,dq,fun bJ=>Jg (O7 hg bJ),g1⟩
     ·intro ab aM hm;rcases List.mem_cons.1 hm with hm|hm
      ·cases hm;exact⟨_,jm,rfl,rfl⟩
      ·exact(gF.append g2 aF) ab aM hm
    ·cases h
   ·cases h
  ·cases h
theorem M9{fn:Func}{outs:List ResultVar}(h:fn.results=outs.toArray){M:Array Value}{w:World}{rv:List Value}(k:(outs.mapM (pV M)).run P w=.ok rv w):(results fn M).run P w=.ok (nw rv) w:=by
 have e:(results fn M)=(do let vs <-fn.results.mapM (pV M);pure (if h:vs.size=1 then vs[0] else .tuple vs)):=by
  unfold results;congr 2
 rw[e,h];simp only[List.mapM_toArray,Sem.run_bind,Sem.run_map];rw[k];match rv with
 |[]=>simp[nw]
 |[t]=>simp[nw]
 |t::t2::r=>simp[nw]
theorem aq.aqX(S:aq U Y X D st M w){be:Nat}(gd:X be)(e':U.heap.size<=be)(B:Obj):aq U Y X D st M (w.putObj be B):=by
 have hsz:(w.putObj be B).heap.size=w.heap.size:=by simp[World.putObj]
 have Jj:∀b,b≠be->(w.putObj be B).heap[b]? =w.heap[b]? :=fun b hb=>World.putObj_heap_other hb
 have G:hP D D st.sites st.sites w (w.putObj be B) (aH X D st.sites) (aH X D st.sites):=
  ⟨fun o ae h=>⟨ae,h,Nat.le_refl _,fun _=>rfl⟩,fun b hb _=>Jj b fun e=>hb (.inl (e▸gd)),fun _ h _=>h⟩
 have hlt:∀b,aH X D st.sites b->b<(w.putObj be B).heap.size:=fun b hb=>by rw[hsz];exact S.lt hb
 refine⟨S.nt,fun t=>(S.cA t).goes G (by rw[hsz];exact Nat.le_refl _) hlt,fun o ae h=>?_,S.dW,S.cg,?_,fun b hb=>by rw[hsz];exact S.old b hb,S.eU⟩
 ·exact(S.sites o ae h).goes G (by rw[hsz];exact Nat.le_refl _) hlt rfl fun hl b hb=>Jj b fun e=>(S.cg o b ⟨ae,h,hl⟩ hb).1 (e▸gd)
 ·exact⟨S.frame.os,S.frame.tape,S.frame.output,by rw[hsz];exact S.frame.size,fun b hb hn=>(Jj b (by omega)).trans (S.frame.block b hb hn)⟩
theorem ade{fn:Func}{R:Ending->World->Prop}:∀(dx:List Nat) (w:World),aq U Y X D st M w->dx.Nodup->(∀be,be∈dx->U.heap.size<=be/\X be/\w.heap[be]? =some (.deferred (some [])))->
  (∀w',aq U Y X D st M w'->∃v,(results fn M).run P w'=.ok v w'/\R (.returned v) w')->LeavesInM Fence.wide 0 P fn M R (dx.map mark) .returning w:=by
 intro dx;induction dx with
 |nil=>intro w S _ _ hR;exact hR w S
 |cons be dx ih=>
  intro w S hn e' hR;obtain⟨h1,h2,h3⟩:=e' be List.mem_cons_self;have hn:=List.nodup_cons.1 hn;refine⟨by simp,.inl ⟨be,w.putObj be (.deferred none),rfl,run_takeDeferred h3,ih _ (S.aqX h2 h1 _) hn.2 (fun Mn aaw=>?_) hR⟩⟩
  obtain⟨g1,g2,g3⟩:=e' Mn (List.mem_cons_of_mem _ aaw);exact⟨g1,g2,(World.putObj_heap_other (fun e=>hn.1 (by rw[<-e];exact aaw))).trans g3⟩
def Ri(dQ:Value->World->Prop):Ending->World->Prop
 |.returned v,w=>dQ v w
 |_,_=>False
theorem ajl{nt:Nat}{as:List Arg}{st:al}{vs:List Value}{dj:List Nat}(he:entry nt as=some st)(bJ:iJ w (fun b=>X b\/b∈dj) as vs dj)(ks:dj.Nodup)(gd:∀b,b∈dj->¬X b)(hlt:∀b,X b->b<w.heap.size)(hG:ij w dj X):
  (∃D,aq w dj X D st (vs.toArray++Array.replicate (nt-vs.toArray.size) undef) w)/\dI as vs=(nk 0 as).map (fun t=>nF (vs.getD t undef))/\(∀t,(vs.toArray++Array.replicate (nt-vs.toArray.size) undef).getD t undef=vs.getD t undef):=by
 unfold entry at he;cases hle:Nat.ble as.length nt with
 |false=>simp[hle] at he
 |true=>
  simp only[hle,cond_true] at he;split at he
  ·rename_i l hl;cases hn:fq (keys (Il nt as l)) with
   |false=>simp[hn] at he
   |true=>
    simp only[hn,cond_true,Option.some.injEq] at he;subst he;rw[rb] at hn;have hlen:=bJ.length;have hle:=Nat.le_of_ble_eq_true hle;obtain⟨l1,Xu⟩:∃l1:Nat->Value,∀j,l1 (500000+0+j)=vs.getD j undef:=⟨fun o=>vs.getD (o-500000) undef,fun j=>by simp⟩
    obtain⟨aD,aF,bI,_,fM⟩:=aek hl bJ Xu;have sL:∀t,(vs.toArray++Array.replicate (nt-vs.toArray.size) undef).getD t undef=vs.getD t undef:=fun t=>by
     simp only[Array.getD_eq_getD_getElem?,List.getD_eq_getElem?_getD,Array.getElem?_append,List.size_toArray];by_cases h:t<vs.length
     ·simp[h]
     ·simp only[h,if_false];rw[List.getElem?_eq_none (Nat.le_of_not_lt h)];rw[Array.getElem?_replicate];split<;>rfl
    have lO:∀o,¬ce (k5 (jI 0 as)) o:=fun o ⟨ae,h1,h2⟩=>by obtain⟨s,rfl⟩:=NW h1;cases h2
    have CI:∀b,b∈dj->b<w.heap.size:=O6 aD;have b6:∀b,aH (fun b=>X b\/b∈dj++[]) l1 (k5 (jI 0 as)) b->X b\/b∈dj:=by
     rintro b (h|⟨o,h,_⟩)
     ·simpa using h
     ·exact(lO o h).elim
    have arj:∀b,aH (fun b=>X b\/b∈dj++[]) l1 (k5 (jI 0 as)) b->b<w.heap.size:=fun b h=>(b6 b h).elim (hlt b) (CI b)
    have ob:aq w dj (fun b=>X b\/b∈dj++[]) l1 (AW nt as l) (vs.toArray++Array.replicate (nt-vs.toArray.size) undef) w:=by
     refine⟨?_,fun t=>?_,fun o ae h=>?_,fun o ab b h=>(lO o h).elim,fun o b h=>(lO o h).elim,Fr.refl _ _,fun b hb=>?_,hG.aoH fun b h=>by simpa using h⟩
     ·show(vs.toArray++_).size=nt;simp;omega
     ·rw[sL];unfold al.get;show b_ l1 (k5 (jI 0 as)) w _ (match look l t with|some v=>v|none=>.av (.am .any)) _
      cases aw:look l t with
      |none=>simp only;trivial
      |some v=>
       simp only;obtain⟨_,k⟩:=fM t v aw;rw[Nat.sub_zero] at k;rcases k with⟨a,rfl,q1,q2⟩|⟨rfl,q1,b,q2⟩
       ·exact ajC q1 q2 b6 arj
       ·refine⟨b,q2,.dead 0,NK (fun _ _ h=>Dq h) q1,Nat.le_refl _,fun _=>?_⟩
        have:=Xu t;rw[Nat.add_zero] at this;rw[this,q2]
     ·obtain⟨s,rfl⟩:=NW h;trivial
     ·exact(show X b\/b∈dj by simpa using hb).elim (hlt b) (CI b)
    obtain⟨gq,T,_⟩:=Px (av:=fun b=>X b\/b∈dj) (rest:=[]) (AW nt as l) (jI 0 as) ob aF aD (fun o s hm=>by
      have:=Dq hm;subst this;exact NK (fun _ _ h=>Dq h) hm)
     ⟨by simpa using ks,fun b hb=>⟨gd b (by simpa using hb),.inl (by simpa using hb)⟩,b6⟩
     (fun m _ ae hs=>by
      have hs:look (k5 (jI 0 as)) m=some ae:=hs;have:(AW nt as l).ae m=some ae:=hs;unfold bq;rw[this];exact Nat.lt_succ_self _) hn
    exact⟨⟨gq,T.iU.shrink fun b hb=>.inl hb⟩,by simpa using bI,sL⟩
  ·cases he
theorem ajW{C:g'}(H:aQ P C.toCtx){g:FuncId}{fn:Func}{c:Code}{kg fe:Shape}{outs:List ResultVar}{e7:List Nat}{f:kg.F->Option fe.F}(mU:P.funcs[g]? =some fn)(sx:fn.body=some c)(p2:(fn.name== "runtime.NumGoroutine")=false)
  (jU:fn.results=outs.toArray) (ea:fS P C c 1) (o':eT e7 (ck c)=true) (qi:∀y,∃r n_,nr C.tt (fe.st y) outs=some r/\nj (fe.st y) e7=some n_/\fq (keys (n_.2++r.2))=true) (hf:∀a,f a=IK C c kg fe a):ay P g (ow C.tt fn.ntmps kg fe outs e7 f):=by
 intro as;unfold ow;cases he:entry fn.ntmps as with
 |none=>intro y hy;cases hy
 |some st=>
  simp only;cases nV:to (nk 0 as) e7 with
  |false=>intro y hy;cases hy
  |true=>
  simp only[cond_true];have nV:=ane nV;rw[Pd] at o';intro y hy w X vs dj bJ ks gd hlt hG;obtain⟨a,K8,aas⟩:=Option.bind_eq_some_iff.1 hy;obtain⟨⟨l1,ob⟩,eI,sL⟩:=ajl he bJ ks gd hlt hG;obtain⟨gq,di,_⟩:=Shape.fR ob K8;rw[hf] at aas;refine .inl ⟨?_,Calls.mono (R:=Ri _) ((callsIn_wide (n:=0)).1 (callsIn_of_wp_marks mU sx trivial (jf (rn:=none) H c 1 (.inl rfl) ea w dj X _ gq _ w [] _ _ aas di fun B e dv w' hk hl=>?_) rfl)) fun e w' h=>by cases e<;>first|exact h|exact h.elim⟩
  ·have am2:¬fn.name= "runtime.NumGoroutine" :=by simpa using p2
   simp[callFunc,mU,am2,sx]
  ·-- where it ends
   have fin:∀ao,fe.ex ao=some y->ep w dj X [] (vs.toArray++Array.replicate (fn.ntmps-vs.toArray.size) undef) (ck c) ao dv w'->LeavesInM Fence.wide 0 P fn dv.tmps (Ri fun v w'=>∃ee ed rv,Fr dj w w'/\
     iN w' (fun b=>X b\/b∈ee++ed) (dI as vs) (match nj (fe.st y) e7 with|some r=>r.1|none=>[]) ee/\
     kV w' (fun b=>X b\/b∈ee++ed) (match nr C.tt (fe.st y) outs with|some r=>r.1|none=>[]) rv ed/\v=nw rv/\(ee++ed).Nodup/\∀b,b∈ee++ed->¬X b/\(b∈dj\/w.heap.size<=b)) dv.defers .returning w':=by
    rintro ao KV ⟨bB,du,cT,hS,dx,b1,b2,b3,hI,kept⟩;obtain⟨hh,iZ,_⟩:=Shape.fR hI KV;rw[b3.1,List.append_nil];have iF:aq w dj cT hh (fe.st y) dv.tmps w':=⟨iZ.nt,iZ.cA,iZ.sites,iZ.dW,fun o b h1 h2=>⟨(iZ.cg o b h1 h2).1,b1.cg b (iZ.cg o b h1 h2).2⟩,b1.cx _ iZ.frame,iZ.old,⟨hG.ok,hG.Y,iZ.eU.X,hG.lt⟩⟩
    refine ade dx w' iF b2.nodup (fun be e'=>⟨b2.new be e',(b2.gS be e').2.2,(iZ.frame.block be (b2.lt e') (b2.gS be e').2.1).trans (b2.gS be e').1⟩) fun Cd axj=>?_
    have lA:=axj.shrink b1.x;obtain⟨⟨kz,us⟩,⟨cC,qV⟩,hr,KK,hn⟩:=qi y;rw[rb] at hn;have hn:(keys (qV++us)).Nodup:=hn;have CG:fg w dj X hh (fe.st y) dv.tmps Cd [] [] (fun _=>False):=⟨⟨lA,.nil⟩,fun b h=>h.elim,fun _ _ _ _ h=>h⟩
    obtain⟨_,_,_,CK⟩:=NP H.toCtxOk CG hr;have awD:=(Nf CG KK).2;have m':=gF.append awD CK;have LV:∀o,o∈keys (qV++us)->ce (fe.st y).sites o:=fun o br=>by
     obtain⟨s,hs⟩:=yd br;obtain⟨ae,h1,h2,_⟩:=m' o s hs;exact⟨ae,h1,h2⟩
    have dG:fg w dj X hh (fe.st y) dv.tmps Cd [] [] (fun b=>X b\/b∈cY hh (keys qV)++cY hh (keys us)):=by
     refine⟨⟨lA,.nil⟩,fun b hb=>?_,fun _ h=>by simp at h⟩
     rcases hb with hb|hb
     ·exact .inl hb
     ·rw[<-oe,<-jF] at hb;obtain⟨o,h1,h2⟩:=nc.1 hb;exact .inr ⟨o,LV o h1,h2⟩
    obtain⟨rv,df,dH,_⟩:=NP H.toCtxOk dG hr;have hB:=(Nf dG KK).1;have av1:(e7.map fun t=>nF (dv.tmps.getD t undef))=dI as vs:=by
     rw[eI,nV];exact List.map_congr_left fun t aw=>by rw[kept t (o' t aw),sL]
    rw[av1] at hB;refine⟨_,M9 jU df,cY hh (keys qV),cY hh (keys us),rv,lA.frame,?_,?_,rfl,?_,fun b hb=>?_⟩
    ·rw[KK];exact hB
    ·rw[hr];exact dH
    ·rw[<-oe,<-jF];exact MS lA hn LV
    ·rw[<-oe,<-jF] at hb;obtain⟨o,h1,h2⟩:=nc.1 hb;exact lA.cg o b (LV o h1) h2
   cases B with
   |norm ao=>
    cases e<;>try exact hl.elim
    exact fin ao hk hl
   |ret ao=>
    cases e<;>try exact hl.elim
    exact fin ao hk hl
   |exit id ao=>cases hk
end
def an(c:Code)(q p:Nat):Code:=match look (fC c q) p with|some c=>c|none=>.skip
def cN:Code->Code
 |.loop c=>c
 |_=>.skip
def codeOf(f:Func):Code:=match f.body with|some c=>c|none=>.skip
def Tl:Code->Bool
 |.loop _=>true
 |_=>false
def sq:List (Nat×ht)->Nat->Option ht
 |[],_=>none
 |(k,v)::r,n=>bif k.beq n then some v else sq r n
def gB(C:Ctx)(cx:List (Nat×ht)):g':={C with nL:=sq cx}
def k9(P:Program)(c:Code)(q:Nat):List (Nat×ht)->Prop
 |[]=>True
 |(p,f)::r=>aT P (an c q p) f/\k9 P c q r
theorem aiT{aI:Type}{l:List (Nat×aI)}{n:Nat}{v:aI}(h:look l n=some v):(n,v)∈l:=by
 induction l with
 |nil=>cases h
 |cons p l ih=>
  obtain⟨m,u⟩:=p;simp only[look] at h;cases hb:m.beq n with
  |true=>
   simp only[hb,cond_true,Option.some.injEq] at h;rw[<-Nat.eq_of_beq_eq_true hb,h];exact List.mem_cons_self
  |false=>simp only[hb,cond_false] at h;exact List.mem_cons_of_mem _ (ih h)
theorem aiR{aI:Type}{l:List (Nat×aI)}{n:Nat}{v:aI}(hn:(keys l).Nodup)(h:(n,v)∈l):look l n=some v:=by
 induction l with
 |nil=>simp at h
 |cons p l ih=>
  obtain⟨m,u⟩:=p;simp only[keys,List.nodup_cons] at hn;simp only[look];rcases List.mem_cons.1 h with h|h
  ·cases h;simp
  ·have:¬m=n:=by rintro rfl;exact hn.1 (agN h)
   rw[js this];exact ih hn.2 h
where
 agN {aI:Type} {us:List (Nat×aI)} {o:Nat} {s:aI} (h:(o,s)∈us):o∈keys us:=by
  induction us with
  |nil=>simp at h
  |cons p us ih=>
   rcases List.mem_cons.1 h with rfl|h
   ·exact List.mem_cons_self
   ·exact List.mem_cons_of_mem _ (ih h)
theorem kN{P:Program}{C:Ctx}{c:Code}{q:Nat}{cx:List (Nat×ht)}(hu:fq (keys (fC c q))=true)(h:k9 P c q cx):fS P (gB C cx) c q:=by
 rw[rb] at hu;refine Rp c q fun p fb hm f v8=>?_
 have hl:=aiR hu hm;have hf:sq cx p=some f:=v8;clear v8;clear hm;induction cx with
 |nil=>cases hf
 |cons x cx ih=>
  obtain⟨k,g⟩:=x;simp only[sq] at hf;cases hb:k.beq p with
  |true=>
   simp only[hb,cond_true,Option.some.injEq] at hf;have:=Nat.eq_of_beq_eq_true hb;subst this hf;have:=h.1;unfold an at this;rw[hl] at this;exact this
  |false=>simp only[hb,cond_false] at hf;exact ih h.2 hf
theorem af{P:Program}{c:Code}{q:Nat}:k9 P c q []:=trivial
theorem alb{P:Program}{C:Ctx}(H:aQ P C){c:Code}{q p:Nat}{a':Shape}{os:List aO}{cx:List (Nat×ht)}{g:a'.F->Option (aA os)}(hl:Tl (an c q p)=true)
  (hu:fq (keys (fC (cN (an c q p)) (2*p)))=true) (en:k9 P (cN (an c q p)) (2*p) cx)
  (hg:∀y,g y=bo (rX (gB C cx) (cN (an c q p)) p a' os) y):aT P (an c q p) (aU a' os g):=by
 have:an c q p=.loop (cN (an c q p)):=by
  generalize an c q p=d at hl;cases d<;>first|rfl|cases hl
 rw[this];exact agR (C:=gB C cx) H (kN hu en) hg
theorem b8{P:Program}{C:Ctx}(H:aQ P C){c:Code}{q p:Nat}{a':Shape}{os:List aO}{cx:List (Nat×ht)}{g:a'.F->Option (aA os)}
  (hu:fq (keys (fC (an c q p) p))=true) (en:k9 P (an c q p) p cx)
  (hg:∀y,g y=SR (gB C cx) (an c q p) p a' os y):aT P (an c q p) (aU a' os g):=
 aeU (C:=gB C cx) H (kN hu en) hg
theorem am9{P:Program}{C:Ctx}(H:aQ P C){g:FuncId}{fn:Func}{kg fe:Shape}{outs:List ResultVar}{e7:List Nat}{cx:List (Nat×ht)}{f:kg.F->Option fe.F}(mU:P.funcs[g]? =some fn)(sx:fn.body=some (codeOf fn))
  (p2:(fn.name== "runtime.NumGoroutine")=false) (jU:fn.results=outs.toArray) (hu:fq (keys (fC (codeOf fn) 1))=true) (en:k9 P (codeOf fn) 1 cx) (hk:eT e7 (ck (codeOf fn))=true)
  (qi:∀y,∃r n_,nr C.tt (fe.st y) outs=some r/\nj (fe.st y) e7=some n_/\fq (keys (n_.2++r.2))=true) (hf:∀a,f a=IK (gB C cx) (codeOf fn) kg fe a):ay P g (ow C.tt fn.ntmps kg fe outs e7 f):=
 ajW (C:=gB C cx) H mU sx p2 jU (kN hu en) hk qi hf
def jk{A bn:Type}(ff:(A->Option bn)->A->Option bn):Nat->A->Option bn
 |0=>fun _=>none
 |n+1=>ff (jk ff n)
def jQ:Nat:=4611686018427387904
theorem HU{P:Program}{g:FuncId}{tt:TypeId->b7}{nt:Nat}{lx ky:Shape}{outs:List ResultVar}{e7:List Nat}{ff:(lx.F->Option ky.F)->lx.F->Option ky.F}
  (h:∀aR,ay P g (ow tt nt lx ky outs e7 aR)->ay P g (ow tt nt lx ky outs e7 (ff aR))):∀n,ay P g (ow tt nt lx ky outs e7 (jk ff n)):=by
 intro n;induction n with
 |zero=>
  intro as;unfold ow;cases entry nt as with
  |none=>intro y hy;cases hy
  |some st=>
   simp only;cases to (nk 0 as) e7 with
   |false=>intro y hy;cases hy
   |true=>
    intro y hy;simp only[cond_true,jk] at hy;obtain⟨a,_,h2⟩:=Option.bind_eq_some_iff.1 hy;cases h2
 |succ n ih=>exact h _ ih
def Bx:List (Nat×b7)->TypeId->b7
 |[],_=>.none
 |(k,v)::r,n=>bif Nat.beq k n then v else Bx r n
def IL(P:Program):List (Nat×b7)->Prop
 |[]=>True
 |(k,v)::r=>v.ok P k/\IL P r
theorem ajV{P:Program}:∀{l:List (Nat×b7)},IL P l->∀T,(Bx l T).ok P T:=by
 intro l;induction l with
 |nil=>intro _ T;trivial
 |cons p l ih=>
  obtain⟨k,v⟩:=p;intro h T;simp only[Bx];cases hb:Nat.beq k T with
  |true=>have:=Nat.eq_of_beq_eq_true hb;subst this;exact h.1
  |false=>exact ih h.2 T
theorem ae7{F bn:Type}{f g:F->Option (Sum F bn)}(h:∀y,f y=g y):∀y,bo f y=bo g y:=by
 have:f=g:=funext h;rw[this];exact fun _=>rfl
def rI:List Arg->Option (J×Int)
 |[.av (.am (.d (.str s))),.av (.am (.d (.int .u8 c)))]=>some (s,c)
 |_=>none
def Ew:aB:=fun as=>match rI as with
 |some (s,c)=>⟨Unit,some (),fun _=>[],fun _=>[.am (.d (.int .i64 (Lib.indexByte s c.toNat.toUInt8)))]⟩
 |none=>.fail
theorem Nc{as:List Arg}{s:J}{c:Int}(h:rI as=some (s,c)):as=[.av (.am (.d (.str s))),.av (.am (.d (.int .u8 c)))]:=by
 unfold rI at h;split at h
 ·cases h;rfl
 ·cases h
theorem adj{P:Program}{g:FuncId}{fn:Func}(hf:P.funcs[g]? =some fn)(p2:(fn.name== "runtime.NumGoroutine")=false)(hb:fn.body.isNone=true)(hn:Extern.findNext fn=none)
  (he:Extern.find fn=some Extern.BytealgIndexByte.indexByte):ay P g Ew:=by
 intro as;unfold Ew;cases aC:rI as with
 |none=>intro y hy;cases hy
 |some q=>
  obtain⟨s,c⟩:=q;have has:=Nc aC;subst has;intro y hy w X vs dj bJ _ _ _ _;match vs,bJ with
  |[v1,v2],⟨a1,a2,e1,h1,c1,c2,e2,h2,bv⟩=>
   obtain⟨eX,r1⟩:=h1;obtain⟨z2,r2⟩:=h2;subst eX z2 bv;simp only[List.append_nil] at e2;subst e2;simp only[List.append_nil] at e1;subst e1;obtain⟨b,rfl,dP⟩:=gh r1;have e:=h4 r2;subst e;refine .inr ⟨.int .i64 (Lib.indexByte b.data.toList c.toNat.toUInt8),w,?_,[],[],[.int .i64 (Lib.indexByte s c.toNat.toUInt8)],Fr.refl _ _,?_,?_,?_,by simp,fun b hb=>by simp at hb⟩
   ·rw[run_callFunc_extern hf p2 hb hn he];show((Extern.BytealgIndexByte.indexByte #[.string b,.int .u8 c]).run P w).andThen _=_;rw[Lib.run_indexByteString];rfl
   ·simp[dI,iN]
   ·exact⟨[],[],rfl,⟨rfl,.int _ _⟩,rfl⟩
   ·rw[dP];rfl
end Go.Jk
namespace Go.Jk
open Go.RowKit Go.Sort
theorem ahQ{P:Program}{w:World}{g:Nat}{name:String}{k:IntKind}{zs:List Int}(hg:P.globalNamed name=some g)(h:nE w g k zs):Lib.TabIs P w name k zs:=by
 obtain⟨T,fz,h⟩:=h;simp[Lib.TabIs,World.var?,hg,h]
theorem ahR{P:Program}{w:World}{g:Nat}{name:String}{k:IntKind}{zs:List Int}(hg:P.globalNamed name=some g)(h:Lib.TabIs P w name k zs):nE w g k zs:=by
 simp only[Lib.TabIs,World.var?,hg,Option.bind_some] at h;split at h
 ·rename_i cs T fz hc;cases h;exact⟨_,_,hc⟩
 ·cases h
def Bc:List Arg->Option Int
 |[.av (.am (.d (.int .i64 n)))]=>some n
 |_=>none
theorem agW{as:List Arg}{n:Int}(h:Bc as=some n):as=[.av (.am (.d (.int .i64 n)))]:=by
 unfold Bc at h;split at h
 ·cases h;rfl
 ·cases h
def Fw:aB:=fun as=>match Bc as with
 |some n=>⟨Unit,if-9223372036854775808<=n/\n<=9223372036854775807 then some () else none,fun _=>[],fun _=>[.am (.d (.str (Lib.itoa n)))]⟩
 |none=>.fail
theorem alm(w:World)(k:Nat)(os:Array Obj):Fr [] w (grow (w.drewN k) os):=
 ⟨rfl,rfl,rfl,by simp[grow,World.drewN],fun b hb _=>by
  show(w.heap++os)[b]? =w.heap[b]?;rw[Array.getElem?_append_left hb]⟩
theorem alf{P:Program}{g:FuncId}(he:∀args w,(callFunc g args).run P w=.ok (.enter g args) w)
  (h:∀n:Int,-9223372036854775808<=n->n<=9223372036854775807->∀w,mV w->Calls P g #[.int .i64 n] w fun e w'=>e=.returned (.string ⟨(Lib.itoa n).toArray⟩)/\∃k os,w'=grow (w.drewN k) os):ay P g Fw:=by
 intro as;unfold Fw;cases aC:Bc as with
 |some n=>
  have has:=agW aC;subst has;intro y hy w X vs dj bJ _ gd hlt hG;have hy:(if-9223372036854775808<=n/\n<=9223372036854775807 then some () else none)=some y:=hy
  split at hy
  ·rename_i hn;match vs,bJ with
   |[v1],⟨a1,a2,e1,h1,e2⟩=>
    obtain⟨eX,r1⟩:=h1;subst eX e2;simp only[List.append_nil] at e1;subst e1;have e:=h4 r1;subst e;refine .inl ⟨he _ _,(h n hn.1 hn.2 w hG.ok).mono fun e w' hw=>?_⟩
    obtain⟨rfl,k,os,rfl⟩:=hw;exact⟨[],[],[.string ⟨(Lib.itoa n).toArray⟩],alm w k os,rfl,⟨[],[],rfl,⟨rfl,.str _ _ rfl⟩,rfl⟩,rfl,by simp,fun b hb=>by simp at hb⟩
  ·cases hy
 |none=>intro y hy;cases hy
end Go.Jk
namespace Go.Jk
open Go.ChangeShapes Go.WideShapes Go.RowKit
def IW:bc->List dw
 |.i64=>[.int .i64]
 |.u8=>[.int .u8]
 |.u32=>[.int .u32]
 |.bool=>[.bool]
 |.str=>[.str]
 |.entry=>[.str,.int .i64,.int .i64,.str]
 |.need=>[.str,.int .i64,.str]
 |.pack=>[.str,.str,.sl .need,.sl .entry]
 |.file|.lt|.source|.piece=>[.str,.str]
 |.recipe=>[.str,.str,.sl .lt,.sl .need,.sl .need,.sl .source,.sl .piece,.sl .str]
 |.hunk=>[.int .i64,.sl .str]
 |.sA=>[.sl .bool]
inductive kx:be->Prop where
 |int (k:IntKind) (n:Int):(Lit.int k n).wf=true->kx (.int k n)
 |bool (b:Bool):kx (.bool b)
 |str (s:J):s.length<=maxLen->kx (.str s)
 |sl (t:bc) (xs:List (den t)):xs.length<=maxLen->(∀x,x∈xs->∀d,d∈enc t x->kx d)->kx (.sl t xs)
theorem alA:∀(t:bc) (y:kw (IW t)),∃x,enc t x=fh (IW t) y:=by
 intro t y;cases t;case recipe=>obtain⟨a,b,c,d,e,f,g,h,_⟩:=y;exact⟨⟨a,b,c,d,e,f,g,h⟩,rfl⟩
 case entry=>obtain⟨a,b,c,d,_⟩:=y;exact⟨⟨a,b,c,d⟩,rfl⟩
 case pack=>obtain⟨a,b,c,d,_⟩:=y;exact⟨⟨a,b,c,d⟩,rfl⟩
 case need=>obtain⟨a,b,c,_⟩:=y;exact⟨⟨a,b,c⟩,rfl⟩
 case file=>obtain⟨a,b,_⟩:=y;exact⟨⟨a,b⟩,rfl⟩
 case lt=>obtain⟨a,b,_⟩:=y;exact⟨⟨a,b⟩,rfl⟩
 case source=>obtain⟨a,b,_⟩:=y;exact⟨⟨a,b⟩,rfl⟩
 case piece=>obtain⟨a,b,_⟩:=y;exact⟨⟨a,b⟩,rfl⟩
 case hunk=>obtain⟨a,b,_⟩:=y;exact⟨⟨a,b⟩,rfl⟩
 all_goals(obtain⟨a,_⟩:=y;exact⟨a,rfl⟩)
instance:DecidableEq dw:=fun a b=>by
 cases a<;>cases b<;>first|exact isTrue rfl|(rename_i x y;exact if h:x=y then isTrue (by rw[h]) else isFalse (fun e=>h (by cases e;rfl)))|exact isFalse (fun e=>by cases e)
def uh(P:Program)(r:TypeId->Option (List dw)):List Field->Nat->Option (List dw)
 |[],_=>some []
 |f::bO,B=>match r f.type,uh P r bO (B+P.cellsOf f.type) with
  |some a,some b=>if f.offset=B/\P.cellsOf f.type=a.length then some (a++b) else none
  |_,_=>none
def pP(tt:TypeId->b7)(P:Program):Nat->TypeId->Option (List dw)
 |0,_=>none
 |n+1,T=>match P.underlying T with
  |some (.int k)=>some [.int k]
  |some .bool=>some [.bool]
  |some .string=>some [.str]
  |some (.slice e)=>match tt T,pP tt P n e with
   |.slice _ t _,some ba=>if ba=IW t/\P.cellsOf e=bb t then some [.sl t] else none
   |_,_=>none
  |some (.struct bO)=>match uh P (pP tt P n) bO.toList 0 with
   |some ba=>if P.cellsOf T=ba.length then some ba else none
   |none=>none
  |_=>none
def uM(w:World)(av:Nat->Prop)(ba:List dw)(cs:List Value):Prop:=∃y:kw ba,cO w av (fh ba y) cs/\∀d,d∈fh ba y->kx d
theorem aiQ:∀(ba nK:List dw) (y:kw ba) (y':kw nK),∃z:kw (ba++nK),fh (ba++nK) z=fh ba y++fh nK y':=by
 intro ba;induction ba with
 |nil=>intro nK y y';exact⟨y',rfl⟩
 |cons s ba ih=>
  intro nK y y';obtain⟨a,b⟩:=y;obtain⟨z,hz⟩:=ih nK b y';exact⟨(a,z),by simp[fh,hz]⟩
theorem cO.bX{w:World}{av:Nat->Prop}{ds kv:List be}{vs cS:List Value}(h:cO w av ds vs)(aj:cO w av kv cS):cO w av (ds++kv) (vs++cS):=by
 refine⟨by rw[List.length_append,List.length_append,h.1,aj.1],fun j g1 g2=>?_⟩
 rw[List.getElem_append,List.getElem_append];have:=h.1;simp only[List.length_append] at g1 g2;by_cases hj:j<ds.length
 ·rw[dif_pos hj,dif_pos (by omega)]
  exact h.2 j hj (by omega)
 ·rw[dif_neg hj,dif_neg (by omega)]
  have:=aj.2 (j-ds.length) (by omega) (by omega)
  simpa[h.1] using this
theorem uM.one{w:World}{av:Nat->Prop}{s:dw}{d:be}{v:Value}(y:s.F)(Z:s.mk y=d)(h:bF w av d v)(hw:kx d):uM w av [s] [v]:=
 ⟨(y,()),⟨rfl,fun j h1 h2=>by
  simp only[fh,List.length_cons,List.length_nil] at h1;obtain rfl:j=0:=by omega
  simpa[fh,Z] using h⟩,fun ay4 aj=>by simp only[fh,List.mem_singleton] at aj;rw[aj,Z];exact hw⟩
section
variable {H:Type}{jW:TypeId×Value->H}{P:Program}{w:World}{base:Nat}{spare:Nat->Bool}{held:Bool}{av:Nat->Prop}{tt:TypeId->b7}
theorem ac9{r:TypeId->Option (List dw)}{n:Nat}{cs:List Value}(ih:∀{T:TypeId} {ba:List dw} {cs:List Value} {x:DataW H×List MemPlace},r T=some ba->DataW.trod jW P w base spare held n T cs=some x->uM w av ba cs):
  ∀(bO:List Field) (B:Nat) (ba:List dw),uh P r bO B=some ba->B+ba.length<=cs.length->(∀(i:Nat) (f:Field),bO[i]? =some f->∃x,DataW.trod jW P w base spare held n f.type ((cs.drop f.offset).take (P.cellsOf f.type))=some x)->
   uM w av ba ((cs.drop B).take ba.length):=by
 intro bO;induction bO with
 |nil=>
  intro B ba h hl _;simp only[uh] at h;cases h;exact⟨(),⟨by simp[fh],fun j g=>by simp[fh] at g⟩,fun d Z=>by simp[fh] at Z⟩
 |cons f bO avr=>
  intro B ba h hl hx;simp only[uh] at h;split at h
  ·rename_i a b h1 h2;split at h
   ·rename_i hc;cases h;obtain⟨x,nN⟩:=hx 0 f rfl;have fY:B+a.length+b.length<=cs.length:=by simp only[List.length_append] at hl;omega
    rw[hc.1,hc.2] at nN;rw[hc.2] at h2;obtain⟨db,aD,aF⟩:=ih h1 nN;obtain⟨dD,bI,cJ⟩:=avr (B+a.length) b h2 fY (fun i g hg=>hx (i+1) g (by simpa using hg))
    obtain⟨z,hz⟩:=aiQ a b db dD;have gH:(cs.drop B).take (a++b).length=(cs.drop B).take a.length++(cs.drop (B+a.length)).take b.length:=by
     rw[List.length_append,List.take_add,List.drop_drop]
    refine⟨z,?_,?_⟩
    ·rw[hz,gH];exact aD.bX bI
    ·rw[hz];intro d Z;rcases List.mem_append.1 Z with Z|Z
     ·exact aF d Z
     ·exact cJ d Z
   ·cases h
  ·cases h
theorem aeT(b6:∀b,¬av b):∀(m:Nat) {T:TypeId} {ba:List dw} {n:Nat} {cs:List Value} {x:DataW H×List MemPlace},pP tt P m T=some ba->DataW.trod jW P w base spare held n T cs=some x->uM w av ba cs:=by
 intro m;induction m with
 |zero=>intro T ba n cs x h;cases h
 |succ m ih=>
  intro T ba n cs x h hx;simp only[pP] at h;split at h
  ·rename_i k hu;cases h;obtain⟨z,rfl,_,hw⟩:=DataW.trod_int hu hx;exact .one (s:=.int k) z rfl (.int k z) (.int k z hw)
  ·rename_i hu;cases h;obtain⟨b,rfl,_⟩:=DataW.trod_bool hu hx;exact .one (s:=.bool) b rfl (.bool b) (.bool b)
  ·rename_i hu;cases h;obtain⟨s,rfl,_,hl⟩:=DataW.trod_string hu hx;exact .one (s:=.str) s.data.toList rfl (.str _ _ rfl) (.str _ (by rw[Array.length_toList];exact hl))
  ·rename_i e hu;split at h
   ·rename_i cy t bytes nK iW lp;split at h
    ·rename_i hc;cases h;rcases DataW.trod_slice hu hx with⟨rfl,_⟩|⟨a,len,cap,azN,rest,gR,rfl,rfl,_,hb,ta,hcm,l9,bw,_⟩
     ·exact .one (s:=.sl t) [] rfl (.nil t) (.sl t [] (Nat.zero_le _) (fun x h=>by cases h))
     ·have key:∀j,j<=len->∃xs:List (den t),∃cs:List Value,xs.length=j/\cs.length=j*bb t/\(∀i u,cs[i]? =some u->w.cell? (a.add i)=some u)/\cO w av (flat t xs) cs/\∀x,x∈xs->∀d,d∈enc t x->kx d:=by
       intro j;induction j with
       |zero=>intro _;exact⟨[],[],rfl,by simp,fun i u h=>by simp at h,⟨rfl,fun i h=>by simp[flat] at h⟩,fun x h=>by cases h⟩
       |succ j avq=>
        intro hj;obtain⟨xs,cs,h1,h2,h3,aE,bi⟩:=avq (by omega)
        have jy:=bw j (by omega)
        rw[List.getElem?_eq_getElem (by omega)] at jy
        obtain⟨nY,aD,aF⟩:=Option.bind_eq_some_iff.1 jy;obtain⟨bI,cJ,fM⟩:=World.cells?_some aD;obtain⟨y,iD,LX⟩:=ih lp aF;obtain⟨hc1,qK⟩:=hc;subst hc1;obtain⟨wz,hxe⟩:=alA t y;rw[<-hxe] at iD LX;have fY:nY.length=bb t:=by rw[cJ,qK]
        refine⟨xs++[wz],cs++nY,by simp[h1],by rw[List.length_append,h2,fY,Nat.succ_mul],fun i u hi=>?_,?_,fun x hx=>?_⟩
        ·by_cases hlt:i<cs.length
         ·rw[List.getElem?_append_left hlt] at hi;exact h3 i u hi
         ·rw[List.getElem?_append_right (by omega)] at hi
          have oU:i-cs.length<bb t:=by rw[<-fY];exact(List.getElem?_eq_some_iff.1 hi).1
          have:=fM (i-cs.length) (by rw[qK];exact oU)
          rw[Deep.add_add,qK,hi,show j*bb t+(i-cs.length)=i by omega] at this
          exact this
        ·rw[ra,show flat t [wz]=enc t wz by simp[flat]]
         exact aE.bX iD
        ·rcases List.mem_append.1 hx with hx|hx
         ·exact bi x hx
         ·rw[List.mem_singleton.1 hx];exact LX
      obtain⟨xs,cs,h1,h2,h3,aE,bi⟩:=key len (Nat.le_refl _);exact .one (s:=.sl t) xs rfl (.sl t xs a cap cs len h1.symm ta (fun _=>b6 _) (by rw[h2,eS,h1]) h3 aE.2) (.sl t xs (by omega) bi)
    ·cases h
   ·cases h
  ·rename_i bO hu;split at h
   ·rename_i nK awa;split at h
    ·rename_i hc;cases h;obtain⟨xs,gR,_,_,hl,hlen,hf⟩:=DataW.trod_struct hu hx;have:=ac9 (cs:=cs) (fun h1 h2=>ih h1 h2) bO.toList 0 ba awa (by omega) (fun i f aaf=>by
      have:=hf i f (by simpa using aaf)
      have hi:i<xs.length:=by
       rw[hlen];have:=(List.getElem?_eq_some_iff.1 aaf).1;simpa using this
      exact⟨xs[i],by rw[this,List.getElem?_eq_getElem hi]⟩)
     rw[List.drop_zero,List.take_of_length_le (by omega)] at this
     exact this
    ·cases h
   ·cases h
  ·cases h
theorem uf{w:World}{av:Nat->Prop}{d:be}{ds:List be}{vs:List Value}(h:cO w av (d::ds) vs):∃v cS,vs=v::cS/\bF w av d v/\cO w av ds cS:=by
 obtain⟨h1,h2⟩:=h;match vs,h1 with
 |v::vs,h1=>
  refine⟨v,vs,rfl,?_,by simpa using h1,fun j g1 g2=>?_⟩
  ·have:=h2 0 (by simp) (by simp)
   simpa using this
  ·have:=h2 (j+1) (by simp only[List.length_cons];omega) (by simp only[List.length_cons];omega)
   simpa using this
theorem ah6{w:World}{av:Nat->Prop}:∀{ds:List be} {vs:List Value},cO w av ds vs->k8 w av (cv ds) vs []:=by
 intro ds;induction ds with
 |nil=>
  intro vs h;match vs,h.1 with
  |[],_=>rfl
 |cons d ds ih=>
  intro vs h;obtain⟨v,cS,rfl,h1,h2⟩:=uf h;exact⟨[],[],rfl,⟨rfl,h1⟩,ih h2⟩
def va(P:Program)(T:TypeId):Bool:=match P.underlying T with
 |some (.struct _)=>true
 |_=>false
def uZ(b:Bool)(ds:List be):Arg:=match b,ds with
 |true,ds=>.av (.agg (cv ds))
 |false,[d]=>.av (.am (.d d))
 |false,_=>.av (.am .any)
theorem ano(b6:∀b,¬av b){m:Nat}{T:TypeId}{ba:List dw}{v:Value}{d:DataW H}{p:List MemPlace}{r:Reach}{q4:Nat}(hp:pP tt P m T=some ba)(ir:Value.okWide P w r q4 T v)
  (Z:DataW.Trod jW P w base spare held T v d p):∃y:kw ba,Sd w av (uZ (va P T) (fh ba y)) v []/\dI [uZ (va P T) (fh ba y)] [v]=[]/\∀d,d∈fh ba y->kx d:=by
 obtain⟨n,hn⟩:=Z;obtain⟨y,h1,h2⟩:=aeT b6 m hp hn;refine⟨y,?_,?_,h2⟩
 ·cases m with
  |zero=>cases hp
  |succ m=>
   simp only[pP] at hp;unfold va;split at hp
   ·rename_i k hu;cases hp;rw[hu];obtain⟨z,rfl⟩:=okWide_int hu ir;obtain⟨v',cS,e,h3,aE⟩:=uf h1;cases e;exact⟨rfl,h3⟩
   ·rename_i hu;cases hp;rw[hu];obtain⟨z,rfl⟩:=okWide_bool hu ir;obtain⟨v',cS,e,h3,aE⟩:=uf h1;cases e;exact⟨rfl,h3⟩
   ·rename_i hu;cases hp;rw[hu];obtain⟨z,rfl⟩:=okWide_string hu ir;obtain⟨v',cS,e,h3,aE⟩:=uf h1;cases e;exact⟨rfl,h3⟩
   ·rename_i e hu;split at hp
    ·split at hp
     ·cases hp;rw[hu];obtain⟨a,len,cap,rfl⟩:=okWide_slice hu ir;obtain⟨v',cS,e,h3,aE⟩:=uf h1;cases e;exact⟨rfl,h3⟩
     ·cases hp
    ·cases hp
   ·rename_i bO hu;rw[hu];obtain⟨cs,rfl,_⟩:=okWide_struct hu ir;exact⟨cs.toList,rfl,ah6 h1⟩
   ·cases hp
 ·unfold uZ;split<;>cases v<;>rfl
def ug(tt:TypeId->b7)(P:Program)(m:Nat):List TypeId->Option (List (Bool×List dw))
 |[]=>some []
 |T::cL=>match pP tt P m T,ug tt P m cL with
  |some ba,some r=>some ((va P T,ba)::r)
  |_,_=>none
@[reducible] def wi:List (Bool×List dw)->Type
 |[]=>Unit
 |p::r=>kw p.2×wi r
def se:(ps:List (Bool×List dw))->wi ps->List Arg
 |[],_=>[]
 |p::r,(y,z)=>uZ p.1 (fh p.2 y)::se r z
def JC:(ps:List (Bool×List dw))->wi ps->Prop
 |[],_=>True
 |p::r,(y,z)=>(∀d,d∈fh p.2 y->kx d)/\JC r z
theorem alN(b6:∀b,¬av b){m:Nat}{r:Reach}{q4:Nat}:∀{cL:List TypeId} {ps:List (Bool×List dw)} {vs:List Value} {ds:List (DataW H)} {p:List MemPlace},ug tt P m cL=some ps->
  (∀(j:Nat) (t:TypeId) (v:Value),cL[j]? =some t->vs[j]? =some v->Value.okWide P w r q4 t v)->DataW.TrodAll jW P w base spare held cL vs ds p->
  ∃y:wi ps,iJ w av (se ps y) vs []/\dI (se ps y) vs=[]/\JC ps y:=by
 intro cL;induction cL with
 |nil=>
  intro ps vs ds p hp _ Z;simp only[ug] at hp;cases hp;obtain⟨rfl,rfl,rfl⟩:=trodAll_nil Z;exact⟨(),rfl,rfl,trivial⟩
 |cons T cL ih=>
  intro ps vs ds p hp ir Z;simp only[ug] at hp;split at hp
  ·rename_i ba fK h1 h2;cases hp;obtain⟨v,cS,d,kv,ja,jC,rfl,rfl,rfl,hd1,hd2⟩:=trodAll_cons Z;obtain⟨y,aD,aF,bI⟩:=ano b6 h1 (ir 0 T v rfl rfl) hd1;obtain⟨z,cJ,fM,iD⟩:=ih h2 (fun j t u g1 g2=>ir (j+1) t u (by simpa using g1) (by simpa using g2)) hd2
   refine⟨(y,z),⟨[],[],rfl,aD,cJ⟩,?_,bI,iD⟩;have:=MR (as:=[uZ (va P T) (fh ba y)]) (vs:=[v]) (n3:=se fK z) (cS:=cS) rfl;rw[aF,fM] at this;exact this
  ·cases hp
theorem adh{P:Program}{w:World}:∀{laid:List (String×DataW Unit)} {ps:List MemPlace} {n:String} {d:DataW Unit},DataW.LaidVars P w laid ps->(n,d)∈laid->∃qs,DataW.LaidVars P w [(n,d)] qs:=by
 intro laid;induction laid with
 |nil=>intro ps n d _ hm;cases hm
 |cons x laid ih=>
  obtain⟨n0,d0⟩:=x;intro ps n d h hm;obtain⟨g,t,cs,lX,p,q,h1,h2,h3,aE,bi,ca⟩:=h;rcases List.mem_cons.1 hm with e|hm
  ·cases e;exact⟨_,g,t,cs,lX,p,[],h1,h2,h3,aE,rfl,rfl⟩
  ·exact ih bi hm
theorem Qa{P:Program}{W:World}{laid:List (String×DataW Unit)}{name:String}{k:IntKind}{zs:List Int}{g:Nat}{t e:TypeId}{n i:Nat}(hg:P.globalNamed name=some g)(avH:(P.globals[g]?).map (·.type)=some t)(aw:P.underlying t=some (.array n e))
  (he:P.underlying e=some (.int k)) (th:P.cellsOf e=1) (awd:P.cellsOf t=n) (hm:laid[i]? =some (name,Lib.tabData k zs)) (h:laidMet P laid W):nE W g k zs:=by
 obtain⟨ps,h,_⟩:=h;obtain⟨qs,cn,bz,cs,lX,p,q,hg',mS,aq8,Z,_,_⟩:=adh h (List.mem_of_getElem? hm);obtain rfl:=Option.some.inj (hg.symm.trans hg');obtain rfl:=Option.some.inj (avH.symm.trans mS);have hc:=Lib.cells_of_tab aw he th awd Z;refine ahR hg ?_
 show W.var? P name=_;rw[aq8,<-hc]
def LawOk(S:aB)(ps:List (Bool×List dw)):Prop:=∀y:wi ps,JC ps y->∃r,(S (se ps y)).comp=some r/\(S (se ps y)).e5 r=[.am (.d (.bool true))]
theorem acy{W cV:World}(hl:laidOutB P=true){sp':Nat->Bool}(kq:∀b,b<W.heap.size->sp' b=true)(hb:Below W.heap.size W cV):∀{cL:List TypeId} {vs:List Value} {ds:List (DataW H)} {p:List MemPlace},
  (∀t,t∈cL->P.readableRec t=true/\t<P.types.size)->(∀x∈p,x.block<W.heap.size)->DataW.TrodAll jW P W 0 (fun _=>true) true cL vs ds p->DataW.TrodAll jW P cV 0 sp' true cL vs ds p:=by
 intro cL;induction cL with
 |nil=>intro vs ds p _ _ Z;obtain⟨rfl,rfl,rfl⟩:=trodAll_nil Z;rfl
 |cons T cL ih=>
  intro vs ds p hr hlt Z;obtain⟨v,cS,d,kv,ja,jC,rfl,rfl,rfl,hd1,hd2⟩:=trodAll_cons Z;refine⟨ja,jC,?_,ih (fun t aw=>hr t (List.mem_cons_of_mem _ aw)) (fun x hx=>hlt x (List.mem_append.2 (.inr hx))) hd2,rfl⟩
  exact WideElems.Trod_stays hl (hr T List.mem_cons_self).1 (hr T List.mem_cons_self).2 hd1 (fun x hx=>hb.same (hlt x (List.mem_append.2 (.inl hx)))) (fun x hx=>kq _ (hlt x (List.mem_append.2 (.inl hx))))
theorem acY{cL:List TypeId}{vs:List Value}{ds:List (DataW H)}{p:List MemPlace}(h:DataW.TrodAll jW P w base spare held cL vs ds p):ds.length=cL.length:=by
 induction cL generalizing vs ds p with
 |nil=>obtain⟨rfl,rfl,rfl⟩:=trodAll_nil h;rfl
 |cons T cL ih=>
  obtain⟨v,cS,d,kv,ja,jC,rfl,rfl,rfl,_,hd2⟩:=trodAll_cons h;simp[ih hd2]
def Bw(P:Program):List String->Bool
 |[]=>true
 |n::ns=>(match P.globalNamed n with
  |some g=>match(P.globals[g]?).map (·.type) with
   |some t=>P.readableRec t&&decide (t<P.types.size)
   |none=>true
  |none=>true)&&Bw P ns
theorem acp{W cV:World}(hl:laidOutB P=true){sp':Nat->Bool}(kq:∀b,b<W.heap.size->sp' b=true)(hb:Below W.heap.size W cV):∀{ns:List String} {gs:List (DataW H)} {q:List MemPlace},
  Bw P ns=true->(∀x∈q,x.block<W.heap.size)->DataW.TrodVars jW P W (fun _=>true) ns gs q->DataW.TrodVars jW P cV sp' ns gs q:=by
 intro ns;induction ns with
 |nil=>intro gs q _ _ h;obtain⟨rfl,rfl⟩:=trodVars_none h;rfl
 |cons n ns ih=>
  intro gs q hr hlt h;cases gs with
  |nil=>exact h.elim
  |cons d ds=>
   obtain⟨g,t,cs,lX,p,hD,h1,h2,h3,aE,hs,rfl⟩:=h;simp only[Bw,h1,h2,Bool.and_eq_true,decide_eq_true_eq] at hr;have hg:g<W.heap.size:=by
    have Lc:=h3;simp only[World.var?,h1,Option.bind_some] at Lc;split at Lc
    ·rename_i hc;exact(Array.getElem?_eq_some_iff.1 hc).1
    ·cases Lc
   have Z:DataW.Trod jW P W 0 (fun _=>true) true t (.agg cs) d p:=⟨lX,aE⟩
   have hx:∀x∈p,x.block<W.heap.size:=fun x hx=>hlt x (List.mem_append.2 (.inl (List.mem_append.2 (.inr hx))))
   obtain⟨ao5,nW⟩:=WideElems.Trod_stays (sp':=sp') hl hr.1.1 hr.1.2 Z (fun x h=>hb.same (hx x h)) (fun x h=>kq _ (hx x h))
   refine⟨g,t,cs,ao5,p,hD,h1,h2,?_,nW,ih hr.2 (fun x h=>hlt x (List.mem_append.2 (.inr h))) hs,rfl⟩
   simp only[World.var?,h1,Option.bind_some] at h3 ⊢;rw[hb.block g hg];exact h3
theorem acX{lw:Nat->Bool}:∀{ns:List String} {gs:List (DataW H)} {q:List MemPlace},DataW.TrodVars jW P w lw ns gs q->gs.length=ns.length:=by
 intro ns;induction ns with
 |nil=>intro gs q h;obtain⟨rfl,rfl⟩:=trodVars_none h;rfl
 |cons n ns ih=>
  intro gs q h;cases gs with
  |nil=>exact h.elim
  |cons d ds=>
   obtain⟨g,t,cs,lX,p,hD,h1,h2,h3,aE,hs,rfl⟩:=h;simp[ih hs]
theorem adg{f:FuncId}{fn:Func}{S:aB}{s:ChangeSpec}{LP:TypeId}{m:Nat}{ps:List (Bool×List dw)}(eD:ay P f S)(he:∀vs w,(callFunc f vs).run P w=.ok (.enter f vs) w)(hl:laidOutB P=true)
  (aoS:∀t,t∈fn.params.toList->P.readableRec t=true/\t<P.types.size) (jU:fn.resultTypes=#[LP]) (avJ:P.underlying LP=some .bool) (aoO:Bw P s.vars=true)
  (mU:∀ds gs:List (DataW H),ds.length=fn.params.toList.length->gs.length=s.vars.length->s.fn H (ds++gs)={results:=[.lit (.bool true)],args:=ds,vars:=gs}) (nR:ug tt P m fn.params.toList=some ps) (Jo:LawOk S ps)
  (W:World) (hG:mV W) (q4:Nat) (args:Array Value) (ds gs:List (DataW H)) (before:List MemPlace) (ir:∀(j:Nat) t v,fn.params[j]? =some t->args[j]? =some v->Value.okWide P W .any q4 t v)
  (hW:DataW.Whole jW P fn.params.toList s.vars false W args.toList ds gs before):
  Calls P f args W fun e cV=>∃v,e=.returned v/\s.post jW P fn false true false false W args v cV:=by
 have hlt:=hW.lt;have K':=hW;obtain⟨p,q,dH,abL,rfl,_,_⟩:=hW;obtain⟨y,h1,h2,h3⟩:=alN (av:=fun b=>False\/b∈([]:List Nat)) (fun b hb=>by simp at hb) nR (fun j t v g1 g2=>ir j t v (by simpa using g1) (by simpa using g2)) dH
 obtain⟨r,aE,bi⟩:=Jo y h3;have key:=eD _ r aE W (fun _=>False) args.toList [] h1 List.nodup_nil (fun b hb=>by simp at hb) (fun b hb=>hb.elim) ⟨hG,fun b _ h=>(by cases h),fun _ _ h=>h,awI hG⟩
 rcases key with⟨_,hc⟩|⟨v,w',hv,_⟩
 ·have e:args.toList.toArray=args:=by simp
  rw[e] at hc;refine hc.mono fun C5 cV h=>?_
  cases C5 with
  |returned v=>
   obtain⟨ee,ed,rv,en,hB,hR,hv,_,_⟩:=h;refine⟨v,rfl,?_⟩;rw[bi] at hR;match rv,hR with
   |[v1],⟨c1,c2,e1,⟨_,hr⟩,_⟩=>
    have hr:bF cV _ (.bool true) v1:=hr;have o7:v1=.bool true:=by cases hr;rfl
    subst o7;have hv:v=.bool true:=hv;subst hv;have Ju:Below W.heap.size W cV:=⟨en.os,en.tape,en.output,en.size,fun k hk=>en.block k hk (by simp)⟩
    have gr:=mU ds gs (acY dH) (acX abL);refine⟨ds,gs,p++q,[],p,q,K',?_,?_,?_,Ju.frame _,fun h=>by cases h⟩
    ·rw[gr,jU];exact trodAll_mk1 (shut_bool avJ _)
    ·rw[gr];exact acy hl (fun b hb=>by simpa using hb) Ju aoS (fun x hx=>hlt x (List.mem_append.2 (.inl hx))) dH
    ·rw[gr];exact acp hl (fun b hb=>by simpa using hb) Ju aoO (fun x hx=>hlt x (List.mem_append.2 (.inr hx))) abL
  |panicked c=>exact h.elim
  |outgrown=>exact h.elim
 ·rw[he] at hv;cases hv
end
end Go.Jk
namespace Go.Jk
def bC(c:UInt8):J->List J
 |[]=>[[]]
 |b::r=>bif b==c then []::bC c r else match bC c r with
  |x::xs=>(b::x)::xs
  |[]=>[[b]]
def Gx(st:al)(cn:FuncId):aZ->Option ((J×UInt8)×List (Nat×Site))
 |.av (.am (.clo g [(fU,s1),(fT,s2),(hd,hV)]))=>bif Nat.beq g cn&&fq [fU,fT,hd] then
   match fs st fU s1,fs st fT s2,fs st hd hV with
   |some [.d (.str [c])],some [.d (.str s)],some [.d (.int .i64 (.ofNat 0))]=>some ((s,c),[(fU,.dead s1),(fT,.dead s2),(hd,.dead hV)])
   |_,_,_=>none
  else none
 |_=>none
def EI(st:al):List Nat->List (Nat×aZ)
 |[]=>[]
 |t::r=>(t,st.get t)::EI st r
def al.back(st:al)(cU:List Nat):al:=⟨EI st cU,st.sites,st.nt⟩
def Out.back(cU:List Nat):Out->Out
 |.norm st=>.norm (st.back cU)
 |.exit id st=>.exit id (st.back cU)
 |.ret st=>.ret (st.back cU)
def h7{F bn:Type}(aR:J->F->Option (Sum F bn))(fin:F->Option bn):List J->F->Option bn
 |[],y=>fin y
 |x::xs,y=>match aR x y with
  |none=>none
  |some (.inl y')=>h7 aR fin xs y'
  |some (.inr b)=>some b
noncomputable def HT(C:g')(assign body:Code)(p eH:Nat)(a':Shape)(os:List aO)(x:J)(y:a'.F):Option (Sum a'.F (aA os)):=
 exec C assign (2*p) ((a'.st y).set eH (one (.str x))) fun
  |.norm st=>exec C body (2*p+1) st fun
   |.norm st=>(a'.ex (st.back (keys a'.cA))).map .inl
   |B=>(gP os (B.back (keys a'.cA))).map .inr
  |_=>none
def kc:Nat:=4611686018427387904
noncomputable def rs(cn:FuncId)(t:Nat)(a':Shape)(os:List aO)(aR:J->a'.F->Option (Sum a'.F (aA os)))(fin:a'.F->Option (aA os)):ht:=fun st=>
 ⟨aA os,(Gx st cn (st.get t)).bind fun q=>(a'.ex (st.hN q.2)).bind fun y=>bif Nat.ble q.1.1.length kc then h7 aR fin (bC q.1.2 q.1.1) y else none,lm os,Bn os,Qz os⟩
def uN(P:Program)(cn:FuncId):Prop:=
 (∀args w,(callFunc cn args).run P w=.ok (.enter cn args) w)/\
 ∀(l b1 b2 b3:Nat) (p s:ByteArray) (c:UInt8) (cX eo fx:TypeId) (W:World) (eR:List J->World->Prop) (jE:World->Prop),p.data.toList=[c]->s.data.toList.length<=kc->b1≠b2->b1≠b3->b2≠b3->
  W.heap[b1]? =some (.cells #[.string p] cX)->W.heap[b2]? =some (.cells #[.string s] eo)->W.heap[b3]? =some (.cells #[.int .i64 0] fx)->
  (∀r W cV,eR r W->Fr [b2] W cV->eR r cV)->(∀W cV,jE W->Fr [b2] W cV->jE cV)->(∀r W,eR r W->ij W [b2] fun _=>False)->(∀W,jE W->ij W [b2] fun _=>False)->
  (∀x rest W ie,eR (x::rest) W->b1<W.heap.size->b2<W.heap.size->b3<W.heap.size->ie.data.toList=x->YieldAt (ey none) 0 P l #[.string ie] W fun e cV=>
   (e=.returned (.bool true)/\eR rest cV/\W.heap.size<=cV.heap.size/\cV.heap[b1]? =W.heap[b1]? /\cV.heap[b2]? =W.heap[b2]? /\cV.heap[b3]? =W.heap[b3]?)\/(e=.returned (.bool false)/\jE cV))->
  eR (bC c s.data.toList) W->
  CallsIn (ey none) 0 P cn (#[.func (.yield l) #[] #[]]++#[.pointer (some ⟨b1,0,none⟩),.pointer (some ⟨b2,0,none⟩),.pointer (some ⟨b3,0,none⟩)]) W fun e cV=>(∃v,e=.returned v)/\(eR [] cV\/jE cV)
section
variable {P:Program}{U:World}{Y:List Nat}{X:Nat->Prop}{D:Nat->Value}{st:al}{M:Array Value}{w:World}
theorem ajB(st:al)(cU:List Nat)(t:Nat):(st.back cU).get t=st.get t/\t∈cU\/(st.back cU).get t=.av (.am .any):=by
 unfold al.back al.get;induction cU with
 |nil=>exact .inr rfl
 |cons u cU ih=>
  simp only[EI,look];cases hb:u.beq t with
  |true=>
   have:=Nat.eq_of_beq_eq_true hb;subst this;left;simp only[cond_true,al.get];exact⟨trivial,List.mem_cons_self⟩
  |false=>
   simp only[cond_false];rcases ih with⟨h1,h2⟩|h
   ·exact .inl ⟨h1,List.mem_cons_of_mem _ h2⟩
   ·exact .inr h
theorem aq.back(S:aq U Y X D st M w){bW:Array Value}{cU:List Nat}(aw:∀t,t∈cU->M.getD t undef=bW.getD t undef)(hs:bW.size=M.size):aq U Y X D (st.back cU) bW w:=by
 refine⟨hs.trans S.nt,fun t=>?_,S.sites,S.dW,S.cg,S.frame,S.old,S.eU⟩
 rcases ajB st cU t with⟨h,hm⟩|h
 ·rw[h,<-aw t hm];exact S.cA t
 ·rw[h];trivial
theorem aq.other(S:aq U Y X D st M w){w':World}{L:List Nat}(aR:Fr L w w')(dG:∀b,b∈L->X b/\(b∈Y\/U.heap.size<=b)):aq U Y X D st M w':=by
 have Cz:∀b,¬aH X D st.sites b->b∉L:=fun b hb h=>hb (.inl (dG b h).1)
 have G:hP D D st.sites st.sites w w' (aH X D st.sites) (aH X D st.sites):=
  ⟨fun o ae h=>⟨ae,h,Nat.le_refl _,fun _=>rfl⟩,fun b hb hlt=>aR.block b hlt (Cz b hb),fun _ h _=>h⟩
 have hlt:∀b,aH X D st.sites b->b<w'.heap.size:=fun b hb=>Nat.lt_of_lt_of_le (S.lt hb) aR.size
 refine⟨S.nt,fun t=>(S.cA t).goes G aR.size hlt,fun o ae h=>?_,S.dW,S.cg,?_,fun b hb=>Nat.lt_of_lt_of_le (S.old b hb) aR.size,S.eU⟩
 ·exact(S.sites o ae h).goes G aR.size hlt rfl fun hl b hb=>aR.block b (S.fp ⟨ae,h,hl⟩ hb) fun hm=>(S.cg o b ⟨ae,h,hl⟩ hb).1 (dG b hm).1
 ·refine⟨aR.os.trans S.frame.os,aR.tape.trans S.frame.tape,aR.output.trans S.frame.output,Nat.le_trans S.frame.size aR.size,fun b hb hn=>?_⟩
  have h1:b∉L:=fun h=>by
   rcases(dG b h).2 with h2|h2
   ·exact hn h2
   ·omega
  rw[aR.block b (Nat.lt_of_lt_of_le hb S.frame.size) h1];exact S.frame.block b hb hn
theorem Fr.putObj(w:World)(l:Nat)(B:Obj):Fr [l] w (w.putObj l B):=
 ⟨rfl,rfl,rfl,by simp,fun b _ hn=>World.putObj_heap_other fun e=>hn (by simp[e])⟩
theorem Fr.mono{Y mc:List Nat}{U w:World}(aR:Fr Y U w)(h:∀b,b∈Y->b∈mc):Fr mc U w:=⟨aR.os,aR.tape,aR.output,aR.size,fun b hb hn=>aR.block b hb fun aj=>hn (h b aj)⟩
theorem aq.Am(S:aq U Y X D st M w){mc:List Nat}(h:∀o b,ce st.sites o->bN (D o)=some b->b∈mc)(hg:∀b,b∈mc->b∈Y\/U.heap.size<=b):aq w mc X D st M w:=
 ⟨S.nt,S.cA,S.sites,S.dW,fun o b h1 h2=>⟨(S.cg o b h1 h2).1,.inl (h o b h1 h2)⟩,Fr.refl _ _,S.old,⟨S.kC.1,fun b hb hm=>(hg b hm).elim (S.eU.Y b hb) fun h=>by have:=S.eU.lt b hb;omega,S.eU.X,fun b hb=>(S.kC.2 b hb).2⟩⟩
theorem aq.base(S:aq U Y X D st M w){mc:List Nat}(h:∀b,b∈mc->b∈Y\/U.heap.size<=b):hQ U Y X w mc X:=by
 refine⟨fun w' aR=>?_,fun b hb=>?_,fun b hb=>hb⟩
 ·refine⟨aR.os.trans S.frame.os,aR.tape.trans S.frame.tape,aR.output.trans S.frame.output,Nat.le_trans S.frame.size aR.size,fun b hb hn=>?_⟩
  have h1:b∉mc:=fun aj=>by
   rcases h b aj with h2|h2
   ·exact hn h2
   ·omega
  rw[aR.block b (Nat.lt_of_lt_of_le hb S.frame.size) h1];exact S.frame.block b hb hn
 ·rcases hb with hb|hb
  ·exact h b hb
  ·exact .inr (Nat.le_trans S.frame.size hb)
theorem aq.zX{bB:World}{du:List Nat}{cT:Nat->Prop}(bn:hQ U Y X bB du cT)(G:ij U Y X)(S:aq bB du cT D st M w):aq U Y cT D st M w:=
 ⟨S.nt,S.cA,S.sites,S.dW,fun o b h1 h2=>⟨(S.cg o b h1 h2).1,bn.cg b (S.cg o b h1 h2).2⟩,bn.cx _ S.frame,S.old,⟨G.ok,G.Y,S.eU.X,G.lt⟩⟩
def Ff(sites:List (Nat×Site)):List Nat:=(keys sites).filter fun o=>match look sites o with|some s=>s.live|none=>false
theorem MM{sites:List (Nat×Site)}{o:Nat}:o∈Ff sites <-> ce sites o:=by
 unfold Ff ce;rw[List.mem_filter];constructor
 ·rintro⟨_,h⟩;split at h
  ·rename_i s hs;exact⟨s,hs,h⟩
  ·cases h
 ·rintro⟨s,hs,hl⟩;refine⟨?_,by simp only[hs];exact hl⟩
  have:=Rx hs;clear hl hs;induction sites with
  |nil=>cases this
  |cons p sites ih=>
   rcases List.mem_cons.1 this with h|h
   ·simp only[keys];rw[<-h];exact List.mem_cons_self
   ·simp only[keys];exact List.mem_cons_of_mem _ (ih h)
def ik(D:Nat->Value)(sites:List (Nat×Site)):List Nat:=cY D (Ff sites)
theorem nh{sites:List (Nat×Site)}{b:Nat}:b∈ik D sites <-> ∃o,ce sites o/\bN (D o)=some b:=by
 unfold ik;rw[nc];constructor
 ·rintro⟨o,h1,h2⟩;exact⟨o,MM.1 h1,h2⟩
 ·rintro⟨o,h1,h2⟩;exact⟨o,MM.2 h1,h2⟩
def lK(dQ:al->Prop):Out->Exit->Prop
 |.norm st,.normal=>dQ st
 |.exit id st,.exit iz=>id=iz/\dQ st
 |.ret st,.ret=>dQ st
 |_,_=>False
theorem lK.some{dQ:al->Prop}{B:Out}{e:Exit}(h:lK dQ B e):∃st,dQ st:=by
 cases B<;>cases e<;>first|exact⟨_,h⟩|exact⟨_,h.2⟩|exact h.elim
theorem R8{dQ:al->Prop}(Ky:∀(a':Shape) st y,a'.ex st=some y->dQ st->dQ (a'.st y)):∀{os:List aO} {x:Out} {y:aA os} {e:Exit},gP os x=some y->lK dQ x e->lK dQ (lm os y) e:=by
 have one:∀{k:Kind} {x:Out} {st:al} {a':Shape} {y:a'.F} {e:Exit},k.gS x=some st->a'.ex st=some y->lK dQ x e->lK dQ (k.mk (a'.st y)) e:=by
  intro k x st a' y e h hy hl;cases k<;>cases x<;>simp only[Kind.gS] at h<;>try(cases h;done)
  ·cases h;cases e<;>try exact hl.elim
   exact Ky a' _ y hy hl
  ·rename_i id iz ao;cases hb:Nat.beq id iz with
   |false=>simp[hb] at h
   |true=>
    simp only[hb,cond_true,Option.some.injEq] at h;subst h;cases e<;>try exact hl.elim
    exact⟨(Nat.eq_of_beq_eq_true hb).trans hl.1,Ky a' _ y hy hl.2⟩
  ·cases h;cases e<;>try exact hl.elim
   exact Ky a' _ y hy hl
 intro os;induction os with
 |nil=>intro x y;exact y.elim
 |cons B os ih=>
  intro x y e h hl;cases os with
  |nil=>
   simp only[gP] at h;split at h
   ·rename_i st hk;exact one hk h hl
   ·cases h
  |cons cP r=>
   simp only[gP] at h;split at h
   ·rename_i st hk;obtain⟨db,aD,aF⟩:=Option.map_eq_some_iff.1 h;subst aF;exact one hk aD hl
   ·obtain⟨db,aD,aF⟩:=Option.map_eq_some_iff.1 h;subst aF;exact ih aD hl
theorem adJ{cn:FuncId}{v:aZ}{q:(J×UInt8)×List (Nat×Site)}(h:Gx st cn v=some q):∃fU s1 fT s2 hd hV c s,v=.av (.am (.clo cn [(fU,s1),(fT,s2),(hd,hV)]))/\(fU≠fT/\fU≠hd/\fT≠hd)/\
  fs st fU s1=some [.d (.str [c])]/\fs st fT s2=some [.d (.str s)]/\fs st hd hV=some [.d (.int .i64 0)]/\q=((s,c),[(fU,.dead s1),(fT,.dead s2),(hd,.dead hV)]):=by
 unfold Gx at h;split at h
 ·rename_i g fU s1 fT s2 hd hV;cases hb:Nat.beq g cn&&fq [fU,fT,hd] with
  |false=>simp[hb] at h
  |true=>
   simp only[hb,cond_true] at h;simp only[Bool.and_eq_true] at hb;have hg:=Nat.eq_of_beq_eq_true hb.1;subst hg;have hn:=(rb _).1 hb.2;simp only[List.nodup_cons,List.mem_cons,List.not_mem_nil,or_false,not_or,not_false_eq_true,List.nodup_nil,and_true] at hn;split at h
   ·rename_i c s h1 h2 h3;cases h;exact⟨fU,s1,fT,s2,hd,hV,c,s,rfl,⟨hn.1.1,hn.1.2,hn.2⟩,h1,h2,h3,rfl⟩
   ·cases h
 ·cases h
theorem DS{F bn:Type}{aR:J->F->Option (Sum F bn)}{fin:F->Option bn}{x:J}{xs:List J}{y:F}{b:bn}(h:h7 aR fin (x::xs) y=some b):(∃y',aR x y=some (.inl y')/\h7 aR fin xs y'=some b)\/aR x y=some (.inr b):=by
 simp only[h7] at h;split at h
 ·cases h
 ·rename_i y' hy;exact .inl ⟨y',hy,h⟩
 ·rename_i bG hy;cases h;exact .inr hy
end
theorem II{a':Shape}{st:al}{y:a'.F}(h:a'.ex st=some y):st.nt=a'.nt:=by
 unfold Shape.ex at h;simp only at h;cases hb:(st.hN (pI st a'.cA++pJ st a'.sites)).nt.beq a'.nt with
 |false=>rw[hb] at h;cases h
 |true=>rw[<-QF (pI st a'.cA++pJ st a'.sites) st];exact Nat.eq_of_beq_eq_true hb
def sB(n:Nat):List aO->Bool
 |[]=>true
 |B::r=>Nat.beq B.2.nt n&&sB n r
def Out.st:Out->al
 |.norm st|.exit _ st|.ret st=>st
theorem RM{k:Kind}{x:Out}{st:al}(h:k.gS x=some st):x.st=st:=by
 cases k<;>cases x<;>simp only[Kind.gS] at h<;>try(cases h;done)
 ·cases h;rfl
 ·rename_i id iz ao;cases hb:Nat.beq id iz with
  |false=>simp[hb] at h
  |true=>simp only[hb,cond_true,Option.some.injEq] at h;exact h
 ·cases h;rfl
theorem ana{n:Nat}:∀{os:List aO} {x:Out} {y:aA os},gP os x=some y->sB n os=true->x.st.nt=n:=by
 intro os;induction os with
 |nil=>intro x y;exact y.elim
 |cons B os ih=>
  intro x y h hn;simp only[sB,Bool.and_eq_true] at hn;have hno:=Nat.eq_of_beq_eq_true hn.1;cases os with
  |nil=>
   simp only[gP] at h;split at h
   ·rename_i st hk;rw[RM hk,II h,hno]
   ·cases h
  |cons cP r=>
   simp only[gP] at h;split at h
   ·rename_i st hk;obtain⟨db,aD,_⟩:=Option.map_eq_some_iff.1 h;rw[RM hk,II aD,hno]
   ·obtain⟨db,aD,_⟩:=Option.map_eq_some_iff.1 h;exact ih aD hn.2
section
variable {P:Program}{C:g'}
theorem aeL(H:aQ P C.toCtx){cn:FuncId}(tE:uN P cn){t eH p:Nat}{assign body:Code}{a':Shape}{os:List aO}(awo:fS P C assign (2*p))(awn:fS P C body (2*p+1))
  {aR:J->a'.F->Option (Sum a'.F (aA os))} {fin:a'.F->Option (aA os)} (en:∀x y,aR x y=HT C assign body p eH a' os x y) (vg:∀y,fin y=gP os (.norm (a'.st y)))
  (Js:eT (keys a'.cA) (eH::(ck assign++ck body))=true) (Jm:gA assign=true) (Jl:gA body=true) (Jh:eH<a'.nt) (qC:sB a'.nt os=true):
  aT P (.rangeFunc (.tmp t) #[eH] assign body) (rs cn t a' os aR fin):=by
 intro rn hn U Y X st y hy D M w ds S;have avQ:rn=none:=hn.elim id fun h=>by cases h
 subst avQ;simp only[rs] at hy y ⊢;obtain⟨q,aC,hy⟩:=Option.bind_eq_some_iff.1 hy;obtain⟨f_,Kz,oN⟩:=Option.bind_eq_some_iff.1 hy;obtain⟨fU,s1,fT,s2,hd,hV,c,s,hv,⟨iy,Kr,ix⟩,hb1,hb2,hb3,rfl⟩:=adJ aC;obtain⟨hlen,oN⟩:s.length<=kc/\h7 aR fin (bC c s) f_=some y:=by
  cases hb:Nat.ble s.length kc with
  |false=>rw[hb] at oN;cases oN
  |true=>rw[hb] at oN;exact⟨Nat.le_of_ble_eq_true hb,oN⟩
 have iP:=S.cA t;rw[hv] at iP;obtain⟨vs,ir,l5,qj⟩:=iP;match vs,l5 with
 |[v1,v2,v3],_=>
 have r1:v1=D fU:=Ref.at (qj 0 (by simp) (by simp)) (gx hb1) rfl
 have r2:v2=D fT:=Ref.at (qj 1 (by simp) (by simp)) (gx hb2) rfl
 have c_:v3=D hd:=Ref.at (qj 2 (by simp) (by simp)) (gx hb3) rfl
 have IJ:∀{o k:Nat} {d:be},fs st o k=some [.d d]->∃b T u,D o=.pointer (some ⟨b,0,none⟩)/\w.heap[b]? =some (.cells #[u] T)/\bF w (aH X D st.sites) d u:=by
  intro o k d h;obtain⟨b,T,cur,g1,g2,g3,g4,_,g5⟩:=S.sites o _ (gx h);match cur,g3 with
  |[u],_=>exact⟨b,T,u,g1,g2,g5 0 (by simp) (by simp)⟩
 obtain⟨b1,cX,u1,i1,h1,d1⟩:=IJ hb1;obtain⟨b2,eo,u2,i2,h2,d2⟩:=IJ hb2;obtain⟨b3,fx,C0,i3,h3,d3⟩:=IJ hb3;obtain⟨j5,rfl,Cy⟩:=gh d1;obtain⟨aM,rfl,fu⟩:=gh d2;have bv:C0=.int .i64 0:=h4 d3;subst bv;have Ku:ce st.sites fU:=⟨_,gx hb1,rfl⟩;have Cm:ce st.sites fT:=⟨_,gx hb2,rfl⟩;have Kt:ce st.sites hd:=⟨_,gx hb3,rfl⟩;have aD:bN (D fU)=some b1:=by rw[i1];rfl
 have aF:bN (D fT)=some b2:=by rw[i2];rfl
 have bI:bN (D hd)=some b3:=by rw[i3];rfl
 have m12:b1≠b2:=fun e=>iy (S.dW fU fT b1 Ku Cm aD (e▸aF))
 have m13:b1≠b3:=fun e=>Kr (S.dW fU hd b1 Ku Kt aD (e▸bI))
 have m23:b2≠b3:=fun e=>ix (S.dW fT hd b2 Cm Kt aF (e▸bI))
 have vK:=S.fp Ku aD;have _Y:=S.fp Cm aF;have vJ:=S.fp Kt bI;have aoF:=(S.cg fT b2 Cm aF).2;obtain⟨cT,awj,di,_1,_0,_Z⟩:∃cT:Nat->Prop,(∀b,X b->cT b)/\aq U Y cT D (st.hN [(fU,.dead s1),(fT,.dead s2),(hd,.dead hV)]) M w/\cT b1/\cT b2/\cT b3:=by
  have A:=S.kill (gx hb1) rfl;have fw:look (ci st.sites fU (.dead s1)) fT=some (.box s2 [.d (.str s)]):=by rw[cR,if_neg iy];exact gx hb2
  have bn:=A.kill (st:={st with sites:=ci st.sites fU (.dead s1)}) fw rfl
  have wC:look (ci (ci st.sites fU (.dead s1)) fT (.dead s2)) hd=some (.box hV [.d (.int .i64 0)]):=by rw[cR,if_neg ix,cR,if_neg Kr];exact gx hb3
  have be:=bn.kill (st:={st with sites:=ci (ci st.sites fU (.dead s1)) fT (.dead s2)}) wC rfl
  exact⟨_,fun b hb=>.inl (.inl (.inl hb)),be,.inl (.inl (.inr aD)),.inl (.inr aF),.inr bI⟩
 obtain⟨hS,hI,_⟩:=Shape.fR di Kz;have aAn:M.size=a'.nt:=hI.nt;refine fN.of (n:=0) (wpIn_rangeFunc ?_);intro fn _;obtain⟨rec,nH⟩:∃rec:LoopState->Option Code->Loop,rec=fun st ayO=>{state:=st,pending:=ayO,fn,tmps:=M,params:=#[eH],assign,body,defers:=w.heap.size}:=⟨_,rfl⟩
 obtain⟨W1,hW1⟩:∃W1,(w.alloc (.deferred (some []))).alloc (.loop (rec .ready none))=W1:=⟨_,rfl⟩;obtain⟨l,hl⟩:∃l,l=w.heap.size+1:=⟨_,rfl⟩;obtain⟨be,e'⟩:∃be,be=w.heap.size:=⟨_,rfl⟩;have hsz:W1.heap.size=w.heap.size+2:=by rw[<-hW1];simp
 have awr:W1.heap[l]? =some (.loop (rec .ready none)):=by
  rw[<-hW1,hl];have:=World.alloc_heap_new (w.alloc (.deferred (some []))) (.loop (rec .ready none));rwa[World.size_alloc] at this
 have aav:W1.heap[be]? =some (.deferred (some [])):=by
  rw[<-hW1,e'];exact(RowKit.Below.heap_alloc _ _ _ (by simp only[World.size_alloc];omega)).trans (World.alloc_heap_new w _)
 have hold:∀b,b<w.heap.size->W1.heap[b]? =w.heap[b]? :=fun b hb=>by
  rw[<-hW1,RowKit.Below.heap_alloc _ _ _ (by simp only[World.size_alloc];omega),RowKit.Below.heap_alloc _ _ _ hb]
 have arv:Fr Y U W1:=⟨by rw[<-hW1];exact S.frame.os,by rw[<-hW1];exact S.frame.tape,by rw[<-hW1];exact S.frame.output,by have:=S.frame.size;omega,fun b hb hn=>by
  have:=S.frame.size;rw[hold b (by omega)];exact S.frame.block b hb hn⟩
 have oL:=S.frame.size;have iF:=hI.jump (w':=W1) (fun b _ hb=>hold b hb) (by omega) arv
 obtain⟨cp,ma⟩:∃cp:Nat->Prop,cp=fun b=>cT b\/(w.heap.size<=b/\b<W1.heap.size):=⟨_,rfl⟩
 rw[<-ma] at iF;have LL:cp l:=by rw[ma];exact .inr ⟨by omega,by omega⟩
 have LM:cp be:=by rw[ma];exact .inr ⟨by omega,by omega⟩
 have fH:cp b1:=by rw[ma];exact .inl _1
 have fv:cp b2:=by rw[ma];exact .inl _0
 have i_:cp b3:=by rw[ma];exact .inl _Z
 have K9:∀b,X b->cp b:=fun b hb=>by rw[ma];exact .inl (awj b hb)
 obtain⟨e6,vh⟩:∃e6,e6=l::b2::ik hS (a'.st f_).sites:=⟨_,rfl⟩;have SS:∀b,b∈ik hS (a'.st f_).sites->¬cp b/\(b∈Y\/U.heap.size<=b):=fun b hb=>by
  obtain⟨o,g1,g2⟩:=nh.1 hb;exact iF.cg o b g1 g2
 have ayT:l∈e6:=by rw[vh];exact List.mem_cons_self
 have aaB:b2∈e6:=by rw[vh];exact List.mem_cons_of_mem _ List.mem_cons_self
 have azt:be∉e6:=by
  rw[vh];intro h;rcases List.mem_cons.1 h with h|h
  ·omega
  ·rcases List.mem_cons.1 h with h|h
   ·omega
   ·exact(SS be h).1 LM
 have TT:∀b,b∈e6->b∈Y\/U.heap.size<=b:=fun b hb=>by
  rw[vh] at hb;rcases List.mem_cons.1 hb with h|h
  ·exact .inr (by omega)
  ·rcases List.mem_cons.1 h with h|h
   ·rw[h];exact aoF
   ·exact(SS b h).2
 have lA:aq W1 e6 cp hS (a'.st f_) M W1:=iF.Am (fun o b g1 g2=>by rw[vh];exact List.mem_cons_of_mem _ (List.mem_cons_of_mem _ (nh.2 ⟨o,g1,g2⟩))) TT
 have ayu:hQ U Y X W1 e6 cp:=by
  have:=iF.base TT;exact⟨this.cx,this.cg,K9⟩
 obtain⟨eR,mg⟩:∃eR:List J->World->Prop,∀r W,eR r W <-> ∃D z,aq W1 e6 cp D (a'.st z) M W/\h7 aR fin r z=some y/\W.heap[l]? =some (.loop (rec .ready none))/\W.heap[be]? =some (.deferred (some [])):=⟨_,fun _ _=>Iff.rfl⟩
 obtain⟨jE,wb⟩:∃jE:World->Prop,∀W,jE W <-> ∃j e,((j=.ret/\e=.ret)\/∃id,j=.exit id/\e=.exit id)/\lK (fun st=>∃D,aq W1 e6 cp D st M W) (lm os y) e/\
   W.heap[l]? =some (.loop (rec .done (some j)))/\W.heap[be]? =some (.deferred (some [])):=⟨_,fun _=>Iff.rfl⟩
 have UY:∀{D:Nat->Value} {st:al} {W:World},aq W1 e6 cp D st M W->ij W [b2] fun _=>False:=fun S=>
  ⟨S.kC.1,fun b hb h=>S.eU.Y b hb (by rw[List.mem_singleton.1 h];exact aaB),fun _ _ h=>h,fun b hb=>(S.kC.2 b hb).2⟩
 have ayS:l<W1.heap.size:=by omega
 have ayU:be<W1.heap.size:=by omega
 have Xo:l≠b2:=by omega
 have ZP:be≠b2:=by omega
 have ak8:∀{dQ abx:al->Prop} {B:Out} {e:Exit},(∀st,dQ st->abx st)->lK dQ B e->lK abx B e:=fun h k=>by
  rename_i B e;cases B<;>cases e<;>first|exact h _ k|exact⟨k.1,h _ k.2⟩|exact k.elim
 have Uo:∀{D:Nat->Value} {st:al} {W cV:World},aq W1 e6 cp D st M W->Fr [b2] W cV->aq W1 e6 cp D st M cV:=fun S aR=>S.other aR fun b hb=>by
  rw[List.mem_singleton.1 hb];exact⟨fv,.inl aaB⟩
 have Iw:∀{D:Nat->Value} {st:al} {M:Array Value} {W:World} {X':Nat->Prop} (B:Obj),(∀b,cp b->X' b)->aq W1 e6 X' D st M W->aq W1 e6 X' D st M (W.putObj l B):=fun B hx S=>S.other (Fr.putObj _ l B) fun b hb=>by
  rw[List.mem_singleton.1 hb];exact⟨hx _ LL,.inl ayT⟩
 refine⟨l,[mark be],W1,{target:=.fn (.func cn) #[.pointer (some ⟨b1,0,none⟩),.pointer (some ⟨b2,0,none⟩),.pointer (some ⟨b3,0,none⟩)],args:=#[.func (.yield l) #[] #[]]},W1,cn,
  #[.func (.yield l) #[] #[]]++#[.pointer (some ⟨b1,0,none⟩),.pointer (some ⟨b2,0,none⟩),.pointer (some ⟨b3,0,none⟩)],W1,?_,?_,fun _ _=>trivial,?_,fun h=>by simp[ey,Fence.wide] at h,?_⟩
 ·rw[<-hW1,nH,hl,e'];exact run_enterLoop_outer _ _ _ _ _
 ·have aoP:Act.eval ⟨M,ds⟩ (.tmp t)=.func (.func cn) #[] #[.pointer (some ⟨b1,0,none⟩),.pointer (some ⟨b2,0,none⟩),.pointer (some ⟨b3,0,none⟩)]:=by
   show M.getD t undef=_;rw[ir,r1,r2,c_,i1,i2,i3]
  simp only[rangeCall,resolve,aoP];simp[Deferred.ofValue,Act.eval]
 ·simp[invoke,tE.1]
 ·refine CallsIn.mono (tE.2 l b1 b2 b3 j5 aM c cX eo fx W1 eR jE Cy (by rw[fu];exact hlen) m12 m13 m23 ((hold b1 vK).trans h1) ((hold b2 _Y).trans h2) ((hold b3 vJ).trans h3) ?_ ?_ ?_ ?_ ?_ ?_) ?_
  ·-- alJ two rounds sX azw turns avo azD box
   intro r W cV hj aR;obtain⟨D,z,g1,g2,g3,g4⟩:=(mg _ _).1 hj;have qF:=Nat.lt_of_lt_of_le ayS g1.frame.size;have tm:=Nat.lt_of_lt_of_le ayU g1.frame.size;exact(mg _ _).2 ⟨D,z,Uo g1 aR,g2,(aR.block l qF (by simpa using Xo)).trans g3,(aR.block be tm (by simpa using ZP)).trans g4⟩
  ·intro W cV hj aR;obtain⟨j,e,g1,g2,g3,g4⟩:=(wb _).1 hj;have qF:l<W.heap.size:=(Array.getElem?_eq_some_iff.1 g3).1;have tm:be<W.heap.size:=(Array.getElem?_eq_some_iff.1 g4).1;exact(wb _).2 ⟨j,e,g1,ak8 (fun st ⟨D,h⟩=>⟨D,Uo h aR⟩) g2,(aR.block l qF (by simpa using Xo)).trans g3,(aR.block be tm (by simpa using ZP)).trans g4⟩
  ·intro r W hj;obtain⟨D,z,g1,_⟩:=(mg _ _).1 hj;exact UY g1
  ·intro W hj;obtain⟨j,e,_,g2,_⟩:=(wb _).1 hj;obtain⟨st,D,g1⟩:=g2.some;exact UY g1
  ·-- aAC azO
   intro x rest W ie hj q1 q2 eC vO;obtain⟨D,z,jD,hz,qF,tm⟩:=(mg _ _).1 hj;have hlt:l<W.heap.size:=(Array.getElem?_eq_some_iff.1 qF).1;have ark:be<W.heap.size:=(Array.getElem?_eq_some_iff.1 tm).1;refine⟨fn,M.setIfInBounds eH (.string ie),assign,body,?_,?_⟩
   ·have:=run_yield (P:=P) (args:=#[.string ie]) qF (by rw[nH];rfl)
    rw[nH] at this;simpa using this
   refine roundIn_of_wpIn (n:=0) trivial ?_
   show fN (some l) P assign _ _ _;obtain⟨s,hs⟩:∃s,aR x z=some s:=by
    rcases DS hz with⟨eK,h,_⟩|h
    ·exact⟨_,h⟩
    ·exact⟨_,h⟩
   have Cv:=hs;rw[en] at hs;have tB:aq W1 e6 cp D ((a'.st z).set eH (one (.str x))) (M.setIfInBounds eH (.string ie)) W:=jD.put (t:=eH) Jh (bF.str _ _ vO);have aq0:∀o b,ce ((a'.st z).set eH (one (.str x))).sites o->bN (D o)=some b->b∈ik D (a'.st z).sites:=fun o b g1 g2=>nh.2 ⟨o,g1,g2⟩
   have wR:=tB.Am aq0 fun b hb=>by
    obtain⟨o,g1,g2⟩:=nh.1 hb;exact(jD.cg o b g1 g2).2
   have Vw:∀b,b∈ik D (a'.st z).sites->¬cp b/\(b∈e6\/W1.heap.size<=b):=fun b hb=>by
    obtain⟨o,g1,g2⟩:=nh.1 hb;exact jD.cg o b g1 g2
   have Mq:hQ W1 e6 cp W (ik D (a'.st z).sites) cp:=tB.base fun b hb=>(Vw b hb).2
   refine jf (rn:=some l) H assign (2*p) (.inr Jm) awo W _ cp _ D _ W [] _ _ hs wR ?_
   intro o1 e1 a1 bB qG gO;cases o1 with
   |exit id ew=>cases qG
   |ret ew=>cases qG
   |norm ew=>
   cases e1<;>try exact gO.elim
   obtain⟨CZ,L1,kF,ko,ab1,po,_,_,aaG,aoL⟩:=gO;have tF:Fr (ik D (a'.st z).sites) W bB:=po.cx _ aaG.frame;have abH:∀b,cp b->b∉ik D (a'.st z).sites:=fun b hb h=>(Vw b h).1 hb
   have gO:bB.heap[l]? =some (.loop (rec .ready none)):=(tF.block l hlt (abH l LL)).trans qF;refine⟨bB.putObj l (.loop {rec .ready none with state:=.busy}),run_beginRound gO (by rw[nH]),?_⟩
   obtain⟨w2,vP⟩:∃w2,w2=bB.putObj l (.loop {rec .ready none with state:=.busy}):=⟨_,rfl⟩
   rw[<-vP];have axh:aq W1 e6 kF ko ew a1.tmps bB:=aq.zX (Mq.trans po) lA.eU aaG;have oa:aq W1 e6 kF ko ew a1.tmps w2:=by rw[vP];exact Iw _ po.x axh
   have I0:∀b,b∈ik ko ew.sites->¬kF b/\(b∈e6\/W1.heap.size<=b):=fun b hb=>by
    obtain⟨o,g1,g2⟩:=nh.1 hb;exact oa.cg o b g1 g2
   have Da:=oa.Am (mc:=ik ko ew.sites) (fun o b g1 g2=>nh.2 ⟨o,g1,g2⟩) fun b hb=>(I0 b hb).2
   have b9:hQ W1 e6 kF w2 (ik ko ew.sites) kF:=oa.base fun b hb=>(I0 b hb).2
   have nT:w2.heap[l]? =some (.loop {rec .ready none with state:=.busy}):=by rw[vP];exact World.putObj_heap_same (Nat.lt_of_lt_of_le hlt tF.size)
   have auX:w2.heap.size=bB.heap.size:=by rw[vP];simp
   show fN (some l) P body _ a1 _;have K8:a1=⟨a1.tmps,a1.defers⟩:=rfl;rw[K8];refine jf (rn:=some l) H body (2*p+1) (.inr Jl) awn w2 _ kF ew ko a1.tmps w2 a1.defers _ _ qG Da ?_
   intro B e a ef hk fF;have _W:∀b,kF b->b∉ik ko ew.sites:=fun b hb h=>(I0 b h).1 hb
   have Xq:∀{tx eJ wQ},hQ w2 (ik ko ew.sites) kF tx eJ wQ->Fr eJ tx ef->∀b,cp b->b<W.heap.size->b≠l->ef.heap[b]? =W.heap[b]? :=fun bn aR b hb oU hne=>by
    have wU:=bn.cx _ aR;have hb1:b<bB.heap.size:=Nat.lt_of_lt_of_le oU tF.size;rw[wU.block b (by omega) (_W b (po.x b hb)),vP,World.putObj_heap_other hne,tF.block b oU (abH b hb)]
   have fin:∀(fV:al),fV.nt=a'.nt->ep w2 (ik ko ew.sites) kF a1.defers a1.tmps (ck body) fV a ef->∀(jump:Option Code),
     (Instr.endRound l jump).run P ef=.ok (.bool jump.isNone) (ef.putObj l (.loop (rec (if jump.isNone then .ready else .done) jump)))/\
     (∃hh,aq W1 e6 cp hh (fV.back (keys a'.cA)) M (ef.putObj l (.loop (rec (if jump.isNone then .ready else .done) jump))))/\
     (ef.putObj l (.loop (rec (if jump.isNone then .ready else .done) jump))).heap[l]? =some (.loop (rec (if jump.isNone then .ready else .done) jump))/\
     (ef.putObj l (.loop (rec (if jump.isNone then .ready else .done) jump))).heap[be]? =some (.deferred (some []))/\
     W.heap.size<=(ef.putObj l (.loop (rec (if jump.isNone then .ready else .done) jump))).heap.size/\
     (∀b,cp b->b<W.heap.size->b≠l->(ef.putObj l (.loop (rec (if jump.isNone then .ready else .done) jump))).heap[b]? =W.heap[b]?):=by
    rintro fV az4 ⟨tx,eJ,wQ,hh,ab0,ww,_,_,iZ,aoK⟩ jump;have wU:=ww.cx _ iZ.frame;have hlt2:l<w2.heap.size:=by rw[auX];exact Nat.lt_of_lt_of_le hlt tF.size
    have CA:ef.heap[l]? =some (.loop {rec .ready none with state:=.busy}):=(wU.block l hlt2 (_W l (po.x l LL))).trans nT
    have arl:=Nat.lt_of_lt_of_le hlt2 wU.size;have XH:=run_endRound (P:=P) jump CA;have arG:({({rec .ready none with state:=.busy}:Loop) with state:=if jump.isNone then .ready else .done,pending:=jump}:Loop)=rec (if jump.isNone then .ready else .done) jump:=by rw[nH]
    rw[arG] at XH;have axg:aq W1 e6 wQ hh fV a.tmps ef:=aq.zX ((b9.trans ww)) oa.eU iZ;have axf:aq W1 e6 cp hh fV a.tmps ef:=axg.shrink fun b hb=>ww.x b (po.x b hb)
    have axe:=Iw (.loop (rec (if jump.isNone then .ready else .done) jump)) (fun _ h=>h) axf
    have ln:∀bz,bz∈keys a'.cA->bz≠eH/\bz∉ck assign/\bz∉ck body:=fun bz mS=>by
     have hm:bz∉(eH::(ck assign++ck body)):=fun h=>by
      have:=rm mS h;rw[Js] at this;cases this
     simp only[List.mem_cons,List.mem_append,not_or] at hm;exact⟨hm.1,hm.2.1,hm.2.2⟩
    refine⟨XH,⟨hh,axe.back (fun bz mS=>?_) ?_⟩,World.putObj_heap_same arl,?_,?_,fun b hb oU hne=>?_⟩
    ·obtain⟨g1,g2,g3⟩:=ln bz mS;rw[aoK bz g3,aoL bz g2];simp only[Array.getD_eq_getD_getElem?,Array.getElem?_setIfInBounds_ne (show eH≠bz from fun e=>g1 e.symm)]
    ·have e1:a.tmps.size=fV.nt:=iZ.nt;omega
    ·rw[World.putObj_heap_other (by omega)]
     exact(Xq ww iZ.frame be LM ark (by omega)).trans tm
    ·simp only[World.putObj_size];have:=tF.size;have:=wU.size;omega
    ·rw[World.putObj_heap_other hne];exact Xq ww iZ.frame b hb oU hne
   have Bb:∀(fV:al) (i_:Out) (j:Code) (bv:Exit),((j=.ret/\bv=.ret)\/∃id,j=.exit id/\bv=.exit id)->i_.st=fV->(∀dQ:al->Prop,dQ (fV.back (keys a'.cA))->lK dQ (i_.back (keys a'.cA)) bv)->
     (gP os (i_.back (keys a'.cA))).map Sum.inr=some s->ep w2 (ik ko ew.sites) kF a1.defers a1.tmps (ck body) fV a ef->
     ∃v w',(Instr.endRound l (some j)).run P ef=.ok v w'/\((Ending.returned v=.returned (.bool true)/\eR rest w'/\W.heap.size<=w'.heap.size/\w'.heap[b1]? =W.heap[b1]? /\w'.heap[b2]? =W.heap[b2]? /\w'.heap[b3]? =W.heap[b3]?)\/(Ending.returned v=.returned (.bool false)/\jE w')):=by
    intro fV i_ j bv KW avA Ji hex l';obtain⟨b,hb,ej⟩:=Option.map_eq_some_iff.1 hex;have avX:fV.nt=a'.nt:=by
     have:=ana hb qC;have e:(i_.back (keys a'.cA)).st.nt=i_.st.nt:=by cases i_<;>rfl
     rw[e,avA] at this;exact this
    obtain⟨f1,⟨hh,f2⟩,f3,f4,f5,f6⟩:=fin fV avX l' (some j);refine⟨_,_,f1,.inr ⟨rfl,(wb _).2 ⟨j,bv,KW,?_,f3,f4⟩⟩⟩;have jz:b=y:=by
     rcases DS hz with⟨eK,h,_⟩|h
     ·rw[Cv] at h;cases h;cases ej
     ·rw[Cv] at h;cases h;cases ej;rfl
    subst jz;refine R8 (fun au0 ao y' Jr ⟨aW,cc⟩=>?_) hb (Ji _ ⟨hh,f2⟩)
    obtain⟨IQ,LA,_⟩:=Shape.fR cc Jr;exact⟨IQ,LA⟩
   cases B with
   |norm fV=>
    cases e<;>try exact fF.elim
    obtain⟨eK,mO,hzs⟩:=Option.map_eq_some_iff.1 hk;obtain⟨f1,⟨hh,f2⟩,f3,f4,f5,f6⟩:=fin fV (show(fV.back (keys a'.cA)).nt=a'.nt from II mO) fF none
    obtain⟨at4,f7,_⟩:=Shape.fR f2 mO;refine⟨_,_,f1,.inl ⟨rfl,(mg _ _).2 ⟨at4,eK,f7,?_,f3,f4⟩,f5,f6 b1 fH q1 (by omega),f6 b2 fv q2 (by omega),f6 b3 i_ eC (by omega)⟩⟩
    rcases DS hz with⟨z2,h,h2⟩|h
    ·rw[Cv] at h;cases h;cases hzs;exact h2
    ·rw[Cv] at h;cases h;cases hzs
   |exit id fV=>
    cases e<;>try exact fF.elim
    obtain⟨rfl,fF⟩:=fF;exact Bb fV (.exit id fV) (.exit id) (.exit id) (.inr ⟨id,rfl,rfl⟩) rfl (fun dQ h=>⟨rfl,h⟩) hk fF
   |ret fV=>
    cases e<;>try exact fF.elim
    exact Bb fV (.ret fV) .ret .ret (.inl ⟨rfl,rfl⟩) rfl (fun dQ h=>h) hk fF
  ·exact(mg _ _).2 ⟨hS,f_,lA,by rw[fu];exact oN,awr,aav⟩
  ·-- azH aAA azx
   have land:∀{jb:World} {e:Exit} (cP:Obj),lK (fun st=>∃D,aq W1 e6 cp D st M jb) (lm os y) e->jb.heap[l]? ≠none->jb.heap[be]? =some (.deferred (some []))->
     eY U Y X ds M (ck (.rangeFunc (.tmp t) #[eH] assign body)) (lm os y) e ⟨M,[mark be]++ds⟩ (jb.putObj l cP):=by
    intro jb e cP h _ aAu;have mk:∀st,(∃D,aq W1 e6 cp D st M jb)->ep U Y X ds M (ck (.rangeFunc (.tmp t) #[eH] assign body)) st ⟨M,[mark be]++ds⟩ (jb.putObj l cP):=by
     rintro st ⟨D,S⟩;refine⟨W1,e6,cp,D,[be],ayu,⟨by simp,fun Mn h=>by rw[List.mem_singleton.1 h];omega,fun Mn h=>by rw[List.mem_singleton.1 h];exact⟨aav,azt,LM⟩⟩,⟨rfl,fun h=>absurd List.mem_cons_self h⟩,Iw _ (fun _ h=>h) S,fun _ _=>rfl⟩
    cases hm:lm os y<;>rw[hm] at h<;>cases e<;>first|exact mk _ h|exact⟨h.1,mk _ h.2⟩|exact h.elim
   rintro e jb ⟨⟨v,rfl⟩,hj|hj⟩
   ·obtain⟨D,z,g1,g2,g3,g4⟩:=(mg _ _).1 hj;refine⟨none,jb.putObj l (.loop {rec .ready none with state:=.exhausted}),?_,?_⟩
    ·have:=run_endLoop (P:=P) g3 (by rw[nH];simp)
     rw[nH] at this ⊢;exact this
    ·simp only[h7,vg] at g2;refine land _ ?_ (by rw[g3];simp) g4
     refine R8 (fun au0 ao y' Jr ⟨aW,cc⟩=>?_) g2 ⟨D,g1⟩
     obtain⟨IQ,LA,_⟩:=Shape.fR cc Jr;exact⟨IQ,LA⟩
   ·obtain⟨j,e,KW,g1,g3,g4⟩:=(wb _).1 hj;refine⟨some j,jb.putObj l (.loop {rec .done (some j) with state:=.exhausted}),?_,?_⟩
    ·have:=run_endLoop (P:=P) g3 (by rw[nH];simp)
     rw[nH] at this ⊢;exact this
    ·have:=land (.loop {rec .done (some j) with state:=.exhausted}) g1 (by rw[g3];simp) g4
     rcases KW with⟨rfl,rfl⟩|⟨id,rfl,rfl⟩
     ·exact wpIn_ret this
     ·exact wpIn_exit this
end
def opsOf:Code->Array Oper
 |.region _ B _=>B
 |_=>#[]
section
variable {P:Program}
theorem Pm{B:Oper}{M:Array Value}{ds:List Deferred}{W:World}{a b:Nat}{ty:Array TypeId}{l:Nat}{ie:ByteArray}{K:Act->World->Prop}{Q:Exit->Act->World->Prop}{R:Ending->World->Prop}
  (aL:B.op=.call {callee:=.value (.tmp a),args:=#[.tmp b],argTypes:=ty}) (ha:M.getD a undef=.func (.yield l) #[] #[]) (hb:M.getD b undef=.string ie)
  (ayW:YieldAt (ey none) 0 P l #[.string ie] W R) (hR:∀e cV,R e cV->∃v,e=.returned v/\K ⟨cr M B.dst v,ds⟩ cV):B.wpIn (ey none) 0 P ⟨M,ds⟩ W K Q:=by
 obtain⟨fn,tmps,assign,body,hy,awm⟩:=ayW;refine⟨fun f _=>Br none f,?_⟩
 have df:(B.semAt none (Act.eval ⟨M,ds⟩)).run P W=.ok (.round l fn tmps assign body) W:=by
  rw[Oper.semAt_none];have wK:Act.eval ⟨M,ds⟩ (.tmp a)=.func (.yield l) #[] #[]:=ha;have wJ:Act.eval ⟨M,ds⟩ (.tmp b)=.string ie:=hb;unfold execOp;simp only[aL,resolve,wK,Deferred.ofValue,Sem.run_bind,Sem.run_pure,Result.andThen_ok,invoke,List.map_toArray,List.map_cons,List.map_nil,wJ];simpa using hy
 show B.uponIn (ey none) 0 P _ K Q ((B.semAt none (Act.eval ⟨M,ds⟩)).run P W);rw[df];refine⟨fun h=>by simp[ey,Fence.wide] at h,RoundIn.mono awm fun e cV he=>?_⟩
 obtain⟨v,rfl,hk⟩:=hR e cV he;rw[<-tW] at hk;exact hk
def e3(k:Nat)(more:List (Nat×eW)):Shape:=⟨[(1,.am (.er [.str] 0)),(2,.am (.ptr 1001 0)),(3,.am (.er [.int .i64] 0))]++more,[(1001,.box [.d .str],.same)],k⟩
structure iT(b1 b2 b3:Nat)(p:ByteArray)(cX fx:TypeId)(l k:Nat)(r:J)(M:Array Value)(W:World):Prop where
 size:M.size=k
 f_:M.getD 0 undef=.func (.yield l) #[] #[]
 db:M.getD 1 undef=.pointer (some ⟨b1,0,none⟩)
 dD:M.getD 2 undef=.pointer (some ⟨b2,0,none⟩)
 dK:M.getD 3 undef=.pointer (some ⟨b3,0,none⟩)
 h1:W.heap[b1]? =some (.cells #[.string p] cX)
 h2:∃s eo,W.heap[b2]? =some (.cells #[.string s] eo)/\s.data.toList=r
 h3:W.heap[b3]? =some (.cells #[.int .i64 0] fx)
 kC:ij W [b2] fun _=>False
theorem iT.iU{b1 b2 b3:Nat}{p:ByteArray}{cX fx:TypeId}{l k:Nat}{r:J}{M:Array Value}{W:World}(I:iT b1 b2 b3 p cX fx l k r M W)(iy:b1≠b2)(ix:b2≠b3){c:UInt8}(hp:p.data.toList=[c]):
  aq W [b2] (fun _=>False) (fun _=>.pointer (some ⟨b2,0,none⟩)) ((e3 k []).st ((([c],()),((),(((0,()),())))),(((r,()),())))) M W:=by
 obtain⟨s,eo,h2,hs⟩:=I.h2;have vK:b1<W.heap.size:=(Array.getElem?_eq_some_iff.1 I.h1).1;have _Y:b2<W.heap.size:=(Array.getElem?_eq_some_iff.1 h2).1;have vJ:b3<W.heap.size:=(Array.getElem?_eq_some_iff.1 I.h3).1;have uC:((e3 k []).st ((([c],()),((),(((0,()),())))),(((r,()),())))).sites=[(1001,.box 0 [.d (.str r)])]:=rfl;have cB:∀o,ce [(1001,Site.box 0 [.d (.str r)])] o->o=1001:=fun o ⟨s,h,_⟩=>by
  simp only[look] at h;cases hb:Nat.beq 1001 o with
  |true=>exact(Nat.eq_of_beq_eq_true hb).symm
  |false=>simp[hb] at h
 have b6:∀b,aH (fun _=>False) (fun _=>Value.pointer (some ⟨b2,0,none⟩)) [(1001,Site.box 0 [.d (.str r)])] b->b=b2:=by
  rintro b (h|⟨o,_,h⟩)
  ·exact h.elim
  ·simp only[bN,Option.some.injEq] at h;exact h.symm
 refine⟨I.size,fun t=>?_,fun o ae h=>?_,fun o ab b h1 h2 _ _=>?_,fun o b h1 h2=>?_,Fr.refl _ _,fun b h=>h.elim,I.kC⟩
 ·rw[uC];show b_ _ _ _ _ (match look [(1,bZ (.er [.str [c]] 0)),(2,bZ (.ptr 1001 0 0)),(3,bZ (.er [.int .i64 0] 0))] t with|some v=>v|none=>.av (.am .any)) _
  simp only[look];by_cases e1:t=1
  ·subst e1;refine⟨b1,0,I.db,fun h=>iy (b6 _ h),vK,[.string p],rfl,fun j u hu=>?_,fun j h aj=>?_⟩
   ·match j,hu with
    |0,hu=>cases hu;simp[World.cell?,I.h1]
   ·match j,h,aj with
    |0,_,_=>exact .str _ _ hp
  ·by_cases e2:t=2
   ·subst e2;exact⟨b2,I.dD,_,rfl,Nat.le_refl _,fun _=>rfl⟩
   ·by_cases bv:t=3
    ·subst bv;refine⟨b3,0,I.dK,fun h=>ix (b6 _ h).symm,vJ,[.int .i64 0],rfl,fun j u hu=>?_,fun j h aj=>?_⟩
     ·match j,hu with
      |0,hu=>cases hu;simp[World.cell?,I.h3]
     ·match j,h,aj with
      |0,_,_=>exact .int _ _
    ·rw[js (fun e=>e1 e.symm),js (fun e=>e2 e.symm),js (fun e=>bv e.symm)]
     trivial
 ·rw[uC] at h ⊢;simp only[look] at h;cases hb:Nat.beq 1001 o with
  |false=>simp[hb] at h
  |true=>
   simp only[hb,cond_true,Option.some.injEq] at h;subst h;refine⟨b2,eo,[.string s],rfl,h2,rfl,fun u hu=>?_,(fun h=>by cases h),fun j h aj=>?_⟩
   ·rw[List.mem_singleton.1 hu];rfl
   ·match j,h,aj with
    |0,_,_=>exact bF.str _ _ hs
 ·rw[cB o h1,cB ab h2]
 ·simp only[bN,Option.some.injEq] at h2;exact⟨fun h=>h,.inl (by simp[h2])⟩
theorem iT.of{b1 b2 b3:Nat}{p:ByteArray}{cX fx:TypeId}{l k:Nat}{r fK:J}{M bW:Array Value}{W cV:World}(I:iT b1 b2 b3 p cX fx l k r M W)(iy:b1≠b2)(ix:b2≠b3){more:List (Nat×eW)}{y:(e3 k more).F}{D:Nat->Value}
  {X:Nat->Prop} (S:aq W [b2] X D ((e3 k more).st y) bW cV) (aw:∀t,t<4->bW.getD t undef=M.getD t undef) (hy:y.2=((fK,()),())):iT b1 b2 b3 p cX fx l k fK bW cV:=by
 have vK:b1<W.heap.size:=(Array.getElem?_eq_some_iff.1 I.h1).1;have vJ:b3<W.heap.size:=(Array.getElem?_eq_some_iff.1 I.h3).1;refine⟨S.nt,(aw 0 (by omega)).trans I.f_,(aw 1 (by omega)).trans I.db,(aw 2 (by omega)).trans I.dD,(aw 3 (by omega)).trans I.dK,(S.frame.block b1 vK (by simp[iy])).trans I.h1,?_,(S.frame.block b3 vJ (by simp[ix.symm])).trans I.h3,⟨S.kC.1,S.eU.Y,fun _ _ h=>h,fun b hb=>(S.kC.2 b hb).2⟩⟩
 have gl:look ((e3 k more).st y).sites 1001=some (.box 0 [.d (.str fK)]):=by
  show look (j_ (e3 k more).sites y.2) 1001=_;rw[hy];rfl
 have iP:=S.cA 2;have hg:((e3 k more).st y).get 2=bZ (.ptr 1001 0 0):=rfl;rw[hg] at iP;obtain⟨b,hb,hr⟩:=iP;have cG:=Ref.at hr gl rfl;rw[aw 2 (by omega),I.dD] at hb
 simp only[Value.pointer.injEq,Option.some.injEq,Addr.mk.injEq,and_true] at hb;obtain⟨bG,T,cur,g1,g2,g3,g4,_,g5⟩:=S.sites 1001 _ gl;rw[cG] at g1;simp only[Value.pointer.injEq,Option.some.injEq,Addr.mk.injEq,and_true] at g1;match cur,g3 with
 |[u],_=>
  obtain⟨s,o8,qz⟩:=gh (g5 0 (by simp) (by simp))
  simp only[List.getElem_cons_zero] at o8;subst o8;exact⟨s,T,by rw[hb,g1];exact g2,qz⟩
end
theorem oi(c:UInt8)(s:J):bC c s≠[]:=by
 cases s with
 |nil=>simp[bC]
 |cons b r=>
  simp only[bC];cases b==c
  ·simp only[cond_false];split<;>simp
  ·simp
theorem adL{c:UInt8}{s:J}(h:Lib.indexByte s c<0):bC c s=[s]:=by
 induction s with
 |nil=>rfl
 |cons b r ih=>
  simp only[Lib.indexByte] at h;split at h
  ·omega
  ·rename_i hb;split at h
   ·rename_i h1;have h1:Lib.indexByte r c=-1:=by simpa using h1
    have:=ih (by omega)
    have hb:(b==c)=false:=by simpa using hb
    simp only[bC,hb,cond_false,this]
   ·rename_i h1;have:=Lib.indexByte_ge r c;have h1:¬Lib.indexByte r c=-1:=by simpa using h1
    omega
theorem adK{c:UInt8}{s:J}(h:0<=Lib.indexByte s c):bC c s=s.take (Lib.indexByte s c).toNat::bC c (s.drop ((Lib.indexByte s c).toNat+1))/\(Lib.indexByte s c).toNat<s.length:=by
 induction s with
 |nil=>simp[Lib.indexByte] at h
 |cons b r ih=>
  simp only[Lib.indexByte] at h ⊢;by_cases hb:(b==c)=true
  ·simp only[hb,if_true] at h ⊢;simp[bC,hb]
  ·have dP:(b==c)=false:=by simpa using hb
   simp only[dP,Bool.false_eq_true,if_false] at h ⊢;by_cases h1:(Lib.indexByte r c==-1)=true
   ·simp only[h1,if_true] at h;omega
   ·have h1':(Lib.indexByte r c==-1)=false:=by simpa using h1
    simp only[h1',Bool.false_eq_true,if_false] at h ⊢;have hge:=Lib.indexByte_ge r c;have h1:¬Lib.indexByte r c=-1:=by simpa using h1
    obtain⟨g1,g2⟩:=ih (by omega)
    have e:(Lib.indexByte r c+1).toNat=(Lib.indexByte r c).toNat+1:=by omega
    rw[e];refine⟨?_,by simp;omega⟩
    simp only[bC,dP,cond_false,g1,List.take_succ_cons,List.drop_succ_cons]
def kB(k:Nat)(c:UInt8)(r:J):(e3 k []).F:=((([c],()),((),((0,()),()))),((r,()),()))
def mN(k:Nat)(c:UInt8)(r:J):al:=(e3 k []).st (kB k c r)
def BH(k:Nat):Out->Option (e3 k []).F
 |.norm st=>(e3 k []).ex st
 |_=>none
def Jd(k t7 t8:Nat):Out->Option (Sum (e3 k []).F ((Int×J)×(e3 k []).F))
 |.norm st=>match st.get t7,st.get t8 with
  |.av (.am (.d (.int .i64 i))),.av (.am (.d (.str x)))=>((e3 k []).ex st).map fun y=>.inr ((i,x),y)
  |_,_=>none
 |_=>none
noncomputable def vL(C:g')(k t7 t8:Nat)(r7:Code)(p7:Nat):Out->Option (Sum (e3 k []).F ((Int×J)×(e3 k []).F))
 |.exit id st=>bif Nat.beq id 2 then((e3 k []).ex st).map .inl else none
 |.norm st=>exec C r7 p7 st (Jd k t7 t8)
 |_=>none
noncomputable def BG(C:g')(k t7 t8:Nat)(c6 r7:Code)(p6 p7:Nat):Out->Option (Sum (e3 k []).F ((Int×J)×(e3 k []).F))
 |.norm st=>exec C c6 p6 st (vL C k t7 t8 r7 p7)
 |_=>none
noncomputable def two(k:Nat)(C:Ctx)(st:al)(o0 o1:Oper)(a b:Nat):Option ((Value×J)×(e3 k []).F):=
 ka C st o0 fun st=>ka C st o1 fun st=>match st.get a,st.get b with
  |.av (.am (.cH v)),.av (.am (.d (.str x)))=>((e3 k []).ex st).map fun y=>((v,x),y)
  |_,_=>none
noncomputable def sF(k:Nat)(C:Ctx)(st:al)(o3:Oper)(t42:Nat):Option (Bool×(e3 k []).F):=
 ka C st o3 fun st=>match st.get t42 with
  |.av (.am (.d (.bool b)))=>((e3 k []).ex st).map fun y=>(b,y)
  |_=>none
section
variable {P:Program}{U:World}{Y:List Nat}{X:Nat->Prop}{D:Nat->Value}{st:al}{M:Array Value}{w:World}
theorem PP(S:aq U Y X D st M w){t:Nat}{k:IntKind}{n:Int}(h:st.get t=.av (.am (.d (.int k n)))):M.getD t undef=.int k n:=by
 have:=S.cA t;rw[h] at this;exact h4 this
theorem PO(S:aq U Y X D st M w){t:Nat}{x:J}(h:st.get t=.av (.am (.d (.str x)))):∃b,M.getD t undef=.string b/\b.data.toList=x:=by
 have:=S.cA t;rw[h] at this;exact gh this
theorem Eb(S:aq U Y X D st M w){t:Nat}{x:Bool}(h:st.get t=.av (.am (.d (.bool x)))):M.getD t undef=.bool x:=by
 have:=S.cA t;rw[h] at this;exact jg this
theorem ahY(S:aq U Y X D st M w){t:Nat}{x:Value}(h:st.get t=.av (.am (.cH x))):M.getD t undef=x:=by
 have:=S.cA t;rw[h] at this;exact this
theorem So{C:Ctx}(H:aQ P C){k:Nat}{o0 o1:Oper}{a b:Nat}{v:Value}{x:J}{y:(e3 k []).F}(h:two k C st o0 o1 a b=some ((v,x),y))(S:aq U Y X D st M w){ds:List Deferred}{K:Act->World->Prop}{Q:Exit->Act->World->Prop}
  (bR:∀bW w' ie aW,bW.getD a undef=v->bW.getD b undef=.string ie->ie.data.toList=x->(∀t,t∉o0.dst.toList++o1.dst.toList->bW.getD t undef=M.getD t undef)->
   aq U Y X aW ((e3 k []).st y) bW w'->K ⟨bW,ds⟩ w'):o0.wpIn (ey none) 0 P ⟨M,ds⟩ w (fun dv w'=>o1.wpIn (ey none) 0 P dv w' K Q) Q:=by
 refine ng S H h fun ew gq ho bB e1 di mR=>?_
 refine ng di H e1 fun vE hS o4 w2 e2 hI lo=>?_
 split at e2
 ·rename_i v' hU ha hb;obtain⟨y',hy,he⟩:=Option.map_eq_some_iff.1 e2;cases he;obtain⟨ie,g1,g2⟩:=PO hI hb;obtain⟨hh,iF,_⟩:=Shape.fR hI hy;refine bR o4 w2 ie hh (ahY hI ha) g1 g2 (fun t aw=>?_) iF
  simp only[List.mem_append,not_or] at aw;rw[lo t aw.2,mR t aw.1]
 ·cases e2
theorem ak9{C:Ctx}(H:aQ P C){k:Nat}{o3:Oper}{t42:Nat}{b:Bool}{y:(e3 k []).F}(h:sF k C st o3 t42=some (b,y))(S:aq U Y X D st M w){ds:List Deferred}{K:Act->World->Prop}{Q:Exit->Act->World->Prop}
  (bR:∀bW w' aW,bW.getD t42 undef=.bool b->(∀t,t∉o3.dst.toList->bW.getD t undef=M.getD t undef)->aq U Y X aW ((e3 k []).st y) bW w'->K ⟨bW,ds⟩ w'):o3.wpIn (ey none) 0 P ⟨M,ds⟩ w K Q:=by
 refine ng S H h fun ew gq ho bB e1 di mR=>?_
 split at e1
 ·rename_i bG hb;obtain⟨y',hy,he⟩:=Option.map_eq_some_iff.1 e1;cases he;obtain⟨hh,iF,_⟩:=Shape.fR di hy;exact bR ho bB hh (Eb di hb) mR iF
 ·cases e1
structure ajF(P:Program)(C:g')(cn:FuncId)(fn:Func)(k:Nat)(A r5 c6 r7 r9:Code)(o0 o1 o2 o3 q0 q1 q2:Oper)(pA p5 p6 p7 p9 t7 t8 a1 a2 t41 t42 u1 u2:Nat)(ty Cf:Array TypeId):Prop where
 Xs:P.funcs[cn]? =some fn
 nt:fn.ntmps=k
 cJ:4<=k
 e5:fn.results=#[]
 aaA:∀args w,(callFunc cn args).run P w=.ok (.enter cn args) w
 body:∃i8 i10,fn.body=some (.seq A (.seq (.block 2 (.loop (.block 3 (.seq r5 (.seq c6 (.seq r7 (.seq (.seq (.region i8 #[o0,o1,o2,o3] false) (.cond (.tmp t42) .ret .skip)) r9))))))) (.region i10 #[q0,q1,q2] false)))
 wB:(gA A&&(gA r5&&(gA c6&&(gA r7&&gA r9))))=true
 wr:eT [0,1,2,3] (ck A++(ck r5++(ck c6++(ck r7++ck r9))))=true
 aV:o0.guard=none/\o1.guard=none/\o2.guard=none/\o3.guard=none/\q0.guard=none/\q1.guard=none/\q2.guard=none
 abA:eT [0,1,2,3,t7] (o0.dst.toList++(o1.dst.toList++(o3.dst.toList++[t41])))=true
 abz:eT [0,1,2,3] (q0.dst.toList++q1.dst.toList)=true
 d2:o2.dst=some t41
 I_:t41<k
 c2:o2.op=.call {callee:=.value (.tmp a1),args:=#[.tmp a2],argTypes:=ty}
 d5:q2.op=.call {callee:=.value (.tmp u1),args:=#[.tmp u2],argTypes:=Cf}
 ki:fS P C A pA/\fS P C r5 p5/\fS P C c6 p6/\fS P C r7 p7/\fS P C r9 p9
 dH:∀c r,exec C A pA (mN k c r) (BH k)=some (kB k c r)
 hB:∀c r,exec C r5 p5 (mN k c r) (BG C k t7 t8 c6 r7 p6 p7)=bif decide (Lib.indexByte r c<0) then some (.inl (kB k c r)) else(bu r 0 (IntKind.i64.wrap (Lib.indexByte r c+0))).bind fun x=>some (.inr ((Lib.indexByte r c,x),kB k c r))
 bh:∀c r i x v,two k C.toCtx ((((mN k c r).set t7 (one (.int .i64 i))).set t8 (one (.str x))).set 0 (bZ (.cH v))) o0 o1 a1 a2=some ((v,x),kB k c r)
 h3:∀c r b,sF k C.toCtx ((mN k c r).set t41 (one (.bool b))) o3 t42=some (!b,kB k c r)
 aax:(ka C.toCtx ⟨[(t41,one (.bool false))],[],k⟩ o3 fun st=>match st.get t42 with|.av (.am (.d (.bool b)))=>some b|_=>none)=some true
 wI:∀c r i,exec C r9 p9 ((mN k c r).set t7 (one (.int .i64 i))) (BH k)=(bu r (IntKind.i64.wrap (i+(([c]:J).length:Int))) r.length).bind fun x=>some (kB k c x)
 C4:∀c r v,two k C.toCtx ((mN k c r).set 0 (bZ (.cH v))) q0 q1 u1 u2=some ((v,r),kB k c r)
end
end Go.Jk
