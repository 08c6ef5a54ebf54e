/- FnExactDiskTear: the program's DiskTear returns what the reference's returns, for all arguments. (part 2 of 7: JkCall3, JkCall4, JkCall5, JkBld, JkCall6, JkDraw1, JkLogic, JkWalk0, JkDraw2, JkDraw3, JkWalk1, JkShape, JkShape2, JkWalk2, JkWalk3, JkWalk4, JkHand, JkHand2, JkLaw0, JkRange, JkRange2, JkIter, JkIte) Conditions: none beyond the statement. -/
import Derived.Test.YthhecoidfjkmeaaGreatDoorZFnExactDiskTear0
import Derived.RangeFuncRecord
import Derived.Below
import Derived.RangeFuncSeq
import Derived.Orders
import Derived.OrdersIn
import Derived.ControlIn
import Derived.LoopIn
import Derived.RangeFuncCalls
import Derived.RangeFuncLeaves
import Derived.Lib.Bytealg
import Derived.Laws.Externs
import Derived.Lib.LaidTab
import Derived.Lib.ItoaNum
import Derived.Deep.Draws
import Derived.Sort.Grow
import Derived.Deep.Slices
import Derived.ChangeSame
import Derived.Carry
import Derived.ProofKit
import Derived.OpenShut
set_option linter.unusedVariables false
set_option linter.unusedSimpArgs false
namespace Go.Jk
theorem un(n:Nat)(l:List Nat):fP n l=true <-> n∈l:=by
 induction l with
 |nil=>simp[fP]
 |cons m l ih=>
  simp only[fP,Bool.or_eq_true,ih,List.mem_cons];constructor
  ·rintro(h|h)
   ·exact .inl (Nat.eq_of_beq_eq_true h)
   ·exact .inr h
  ·rintro(rfl|h)
   ·exact .inl (Nat.beq_refl n)
   ·exact .inr h
theorem rA(l:List Nat):fA l=true <-> l.Nodup:=by
 induction l with
 |nil=>simp[fA]
 |cons n l ih=>
  simp only[fA,Bool.and_eq_true,ih,List.nodup_cons,Bool.not_eq_true'];constructor
  ·rintro⟨h1,h2⟩;exact⟨fun h=>(by rw[(un n l).2 h] at h1;cases h1),h2⟩
  ·rintro⟨h1,h2⟩;refine⟨?_,h2⟩;cases h:fP n l with
   |false=>rfl
   |true=>exact absurd ((un n l).1 h) h1
theorem N2(l m:List Nat):eX l m=true <-> ∀n,n∈l->n∉m:=by
 induction l with
 |nil=>simp[eX]
 |cons n l ih=>
  simp only[eX,Bool.and_eq_true,ih,Bool.not_eq_true',List.mem_cons];constructor
  ·rintro⟨h1,h2⟩ k (rfl|hk)
   ·intro h;rw[(un k m).2 h] at h1;cases h1
   ·exact h2 k hk
  ·intro h;refine⟨?_,fun k hk=>h k (.inr hk)⟩
   cases af:fP n m with
   |false=>rfl
   |true=>exact absurd ((un n m).1 af) (h n (.inl rfl))
theorem nd{sites us:List (Nat×Site)}{o:Nat}(h:o∉keys us):look (bm sites us) o=look sites o:=by
 induction us generalizing sites with
 |nil=>rfl
 |cons p us ih=>
  obtain⟨n,s⟩:=p;simp only[keys,List.mem_cons,not_or] at h;simp only[bm];rw[ih h.2,cZ];have:¬n=o:=fun e=>h.1 e.symm
  simp[this]
theorem EG{ax:Type}{us:List (Nat×ax)}{o:Nat}{s:ax}(h:(o,s)∈us):o∈keys us:=by
 induction us with
 |nil=>simp at h
 |cons p us ih=>
  rcases List.mem_cons.1 h with rfl|h
  ·exact List.mem_cons_self
  ·exact List.mem_cons_of_mem _ (ih h)
theorem ym{ax:Type}{us:List (Nat×ax)}{o:Nat}(h:o∈keys us):∃s,(o,s)∈us:=by
 induction us with
 |nil=>simp[keys] at h
 |cons p us ih=>
  obtain⟨n,s⟩:=p;rcases List.mem_cons.1 h with h|h
  ·exact⟨s,by rw[h];exact List.mem_cons_self⟩
  ·obtain⟨aC,af⟩:=ih h;exact⟨aC,List.mem_cons_of_mem _ af⟩
section
variable {O:World}{Y:List Nat}{X:Nat->Prop}{D:Nat->Value}{st:ah}{M:Array Value}{w:World}
theorem am.ajC:∀{us:List (Nat×Site)} {st:ah} {X:Nat->Prop},am O Y X D st M w->gP st.sites us->(keys us).Nodup->
  am O Y (fun b=>X b\/b∈db D (keys us)) D {st with sites:=bm st.sites us} M w:=by
 intro us;induction us with
 |nil=>intro st X S _ _;exact S.shrink fun b h=>by rcases h with h|h;exact h;simp[keys,db] at h
 |cons p us ih=>
  obtain⟨o,aC⟩:=p;intro st X S hg hn;obtain⟨ab,h1,h2,rfl⟩:=hg o aC List.mem_cons_self;simp only[keys,List.nodup_cons] at hn;have dr:=S.kill h1 h2;have hT:=ih dr (fun aa s hm=>by
   obtain⟨t,aB,aA,bC⟩:=hg aa s (List.mem_cons_of_mem _ hm);have:¬o=aa:=fun e=>hn.1 (by rw[e];exact EG hm)
   exact⟨t,by simp[cZ,this,aB],aA,bC⟩) hn.2
  refine hT.shrink fun b h=>?_
  rcases h with h|h
  ·exact .inl (.inl h)
  ·simp only[keys,db,List.filterMap_cons] at h;cases hb:bH (D o) with
   |none=>simp only[hb] at h;exact .inr h
   |some c=>
    simp only[hb,List.mem_cons] at h;rcases h with rfl|h
    ·exact .inl (.inr rfl)
    ·exact .inr h
structure jC(O:World)(Y:List Nat)(X X':Nat->Prop)(D aI:Nat->Value)(st:ah)(M:Array Value)(w:World)(us:List (Nat×Site)):Prop where
 jf:am O Y X' aI {st with sites:=bm st.sites us} M w
 le:∀c,ay X' aI (bm st.sites us) c->ay X D st.sites c
 go:∀{a v},cc D st.sites w (ay X D st.sites) a v->cc aI (bm st.sites us) w (ay X' aI (bm st.sites us)) a v
 same:∀o,o∉keys us->aI o=D o
theorem jC.nil{X':Nat->Prop}(S:am O Y X D st M w)(h:∀b,X' b->X b):jC O Y X X' D D st M w []:=
 ⟨S.shrink h,fun c hc=>by
  rcases hc with hc|hc
  ·exact .inl (h c hc)
  ·exact .inr hc,fun k=>k.gT (fun c hc=>by
   rcases hc with hc|hc
   ·exact .inl (h c hc)
   ·exact .inr hc) (fun c hc=>(S.shrink h).lt hc),fun _ _=>rfl⟩
theorem jC.trans{c7 cu:Nat->Prop}{gz h9:Nat->Value}{us vs:List (Nat×Site)}(A:jC O Y X c7 D gz st M w us)(bh:jC O Y c7 cu gz h9 {st with sites:=bm st.sites us} M w vs):
  jC O Y X cu D h9 st M w (us++vs):=by
 refine⟨?_,?_,?_,fun o h=>?_⟩
 ·rw[kU];exact bh.jf
 ·rw[kU];exact fun c hc=>A.le c (bh.le c hc)
 ·rw[kU];exact fun h=>bh.go (A.go h)
 ·rw[jN,List.mem_append,not_or] at h;rw[bh.same o h.2,A.same o h.1]
theorem jC.one{X':Nat->Prop}{n:Nat}{bV:Site}{nv:Value}(S:am O Y X D st M w)(gq:∀b,X' b->X b)
  (dJ:(∀ab,look st.sites n=some ab->ab.cq<bV.cq)\/(D n=nv/\∀ab,look st.sites n=some ab->ab.cq=bV.cq/\ab.live=false))
  (hb:∀b,bH nv=some b->X b/\¬X' b/\(b∈Y\/O.heap.size<=b))
  (fv:∀{bU:List (Nat×Site)} {aI:Nat->Value},bU=cl st.sites n bV->aI n=nv->(∀{a v},cc D st.sites w (ay X D st.sites) a v->cc aI bU w (ay X' aI bU) a v)->
   (∀b,ay X' aI bU b->ay X D st.sites b)->jU aI bU w (ay X' aI bU) n bV):
  jC O Y X X' D (fun aa=>if aa=n then nv else D aa) st M w [(n,bV)]:=by
 obtain⟨h1,h2,h3⟩:=S.vk gq dJ hb fv;exact⟨h1,h2,h3,fun o h=>by
  simp only[keys,List.mem_singleton] at h;simp[h]⟩
theorem Dj{av cd:Nat->Prop}{l:aF}{v:Value}{sites:List (Nat×Site)}(hf:∀t xs,l≠.fresh t xs)(h:dQ lV [] w av l v)(hle:∀b,cd b->av b)(hlt:∀b,cd b->b<w.heap.size):dQ D sites w cd l v:=by
 have gT:∀{d:aZ} {v:Value},bD w av d v->bD w cd d v:=fun h=>cc.gT (D:=D) (sites:=[]) (a:=one _) hle hlt h
 cases l with
 |d x=>exact gT h
 |nil t=>exact h
 |own o s=>obtain⟨_,_,h,_⟩:=h;cases h
 |ptr o s off=>obtain⟨_,_,_,h,_⟩:=h;cases h
 |ev cells off=>
  obtain⟨b,B,h1,h2,h3,cs,aw,bk,cp⟩:=h;exact⟨b,B,h1,fun hx=>h2 (hle b hx),h3,cs,aw,bk,fun j g1 g2=>gT (cp j g1 g2)⟩
 |eT o s t k off=>obtain⟨_,_,_,h,_⟩:=h;cases h
 |clo g bz=>
  obtain⟨vs,h1,h2,h3⟩:=h;match bz,vs,h2 with
  |[],[],_=>exact⟨[],h1,rfl,fun i h=>by simp at h⟩
  |c::bz,v::vs,_=>obtain⟨_,h,_⟩:=h3 0 (by simp) (by simp);cases h
 |cP u=>exact h
 |fresh t xs=>exact absurd rfl (hf t xs)
 |dn=>trivial
 |any=>trivial
theorem cr.go{aI:Nat->Value}{sites bU:List (Nat×Site)}{w':World}{av cd:Nat->Prop}(go:∀{a:aJ} {v:Value},cc D sites w av a v->cc aI bU w' cd a v){ad:List aF}{vs:List Value}
  (h:cr D sites w av ad vs):cr aI bU w' cd ad vs:=Am go h
structure Left(O:World)(Y:List Nat)(X:Nat->Prop)(D:Nat->Value)(st:ah)(av:Nat->Prop)(bs:List Nat):Prop where
 nodup:bs.Nodup
 ci:∀b,b∈bs->¬X b/\(b∈Y\/O.heap.size<=b)
 le:∀c,ay (fun b=>X b\/b∈bs) D st.sites c->av c
def ld(bw:ah)(sites:List (Nat×Site))(fX:List Nat):Prop:=∀m,m∈fX->∀ab,look sites m=some ab->ab.cq<bn bw m
theorem ld.step{bw:ah}{sites us:List (Nat×Site)}{fX:List Nat}(h:ld bw sites fX)(Z:∀n,n∈keys us->n∉fX):ld bw (bm sites us) fX:=by
 intro m hm ab hs;rw[nd (fun af=>Z m af hm)] at hs
 exact h m hm ab hs
theorem _4{u:Bool}{e:TypeId}{s:Nat}{v:Value}{n:Nat}{cs:List Value}(h:rowAt w u e s v n cs):v.oneCell'=true:=by
 rcases h.2 with⟨h,_⟩|⟨g,cap,cur,fz,h,_⟩<;>rw[h]<;>rfl
theorem Pd{av:Nat->Prop}(bw:ah):∀(ad:List aF) (n:Nat) {D:Nat->Value} {st:ah} {vs:List Value} {bs rest:List Nat},am O Y (fun b=>X b\/b∈bs++rest) D st M w->lf w av ad vs bs->
  Left O Y X D st av (bs++rest)->ld bw st.sites (keys (take bw n ad).2)->(keys (take bw n ad).2).Nodup->
  ∃aI,jC O Y (fun b=>X b\/b∈bs++rest) (fun b=>X b\/b∈rest) D aI st M w (take bw n ad).2/\cr aI (bm st.sites (take bw n ad).2) w (ay (fun b=>X b\/b∈rest) aI (bm st.sites (take bw n ad).2)) (take bw n ad).1 vs/\
   Left O Y X aI {st with sites:=bm st.sites (take bw n ad).2} av rest:=by
 intro ad;induction ad with
 |nil=>
  intro n D st vs bs rest S h L eR Z;match vs,h with
  |[],h=>
   have h:bs=[]:=h;subst h;exact⟨D,.nil S (fun b hb=>hb),.nil,L⟩
 |cons l ad ih=>
  intro n D st vs bs rest S h L eR Z;match vs,h with
  |v::vs,⟨b1,b2,ep,h1,h2⟩=>
   subst ep;by_cases hf:∃t xs,l=.fresh t xs
   ·obtain⟨t,xs,rfl⟩:=hf;obtain⟨hb1,e,cs,aE,hr⟩:=h1;simp only[take,keys,List.nodup_cons] at Z eR;have kD:=L.nodup;rw[List.append_assoc,hb1] at kD;have c':jC O Y (fun b=>X b\/b∈b1++b2++rest) (fun b=>X b\/b∈b2++rest) D (fun aa=>if aa=n then v else D aa) st M w [(n,.row (bn bw n) t xs)]:=by
     refine .one S (fun b hb=>?_) (.inl fun ab hs=>eR n List.mem_cons_self ab hs) (fun b hb=>?_) (fun fG j1 go le=>?_)
     ·rcases hb with hb|hb
      ·exact .inl hb
      ·exact .inr (by rw[List.append_assoc];exact List.mem_append.2 (.inr hb))
     ·have hm:b∈b1:=by rw[hb1,hb];simp
      have l9:b∈b1++b2++rest:=by rw[List.append_assoc];exact List.mem_append.2 (.inl hm)
      refine⟨.inr l9,?_,(L.ci b l9).2⟩;rintro(hx|hx)
      ·exact(L.ci b l9).1 hx
      ·rw[hb] at kD;simp only[Option.toList_some,List.singleton_append,List.nodup_cons] at kD;exact kD.1 hx
     ·refine⟨e,cs,by rw[j1];exact aE,fun j g1 g2=>?_⟩
      have k:=hr.2 j g1 g2;have hle:∀b,ay (fun b=>X b\/b∈b2++rest) _ _ b->av b:=fun b hb=>L.le b (le b hb)
      exact cc.gT (D:=D) (sites:=[]) (a:=one _) hle (fun b hb=>S.lt (le b hb)) k
    have rp:Left O Y X (fun aa=>if aa=n then v else D aa) {st with sites:=bm st.sites [(n,.row (bn bw n) t xs)]} av (b2++rest):=by
     refine⟨(List.nodup_append.1 (by rw[List.append_assoc] at L;exact L.nodup)).2.1,fun b hb=>L.ci b (by rw[List.append_assoc];exact List.mem_append.2 (.inr hb)),fun c hc=>L.le c (c'.le c hc)⟩
    obtain⟨aI,et,h3,aw⟩:=ih (n+1) (st:={st with sites:=bm st.sites [(n,.row (bn bw n) t xs)]}) c'.jf h2 rp
     (ld.step (us:=[(n,.row (bn bw n) t xs)]) (fun m hm=>eR m (List.mem_cons_of_mem _ hm)) (fun m hm=>by simp only[keys,List.mem_singleton] at hm;subst hm;exact Z.1)) Z.2
    refine⟨aI,c'.trans et,?_,aw⟩;refine cr.cons ?_ h3;have:dQ (fun aa=>if aa=n then v else D aa) (bm st.sites [(n,.row (bn bw n) t xs)]) w (ay (fun b=>X b\/b∈b2++rest) (fun aa=>if aa=n then v else D aa) (bm st.sites [(n,.row (bn bw n) t xs)])) (.own n (bn bw n)) v:=
     ⟨_4 aE,Ref.mk (ab:=.row (bn bw n) t xs) (by simp[bm,cZ]) rfl (by simp)⟩
    exact et.go (a:=bZ (.own n (bn bw n))) (v:=v) this
   ·have J4:∀t xs,l≠.fresh t xs:=fun t xs h=>hf ⟨t,xs,h⟩
    have ajY:take bw n (l::ad)=(l::(take bw (n+1) ad).1,(take bw (n+1) ad).2):=by
     cases l<;>first|rfl|exact absurd rfl (J4 _ _)
    have h1':b1=[]/\dQ lV [] w av l v:=by
     cases l<;>first|exact h1|exact absurd rfl (J4 _ _)
    obtain⟨rfl,h1'⟩:=h1';rw[ajY] at Z eR ⊢;simp only[List.nil_append] at S L ⊢;obtain⟨aI,et,h3,aw⟩:=ih (n+1) S h2 L eR Z;refine⟨aI,et,?_,aw⟩;refine cr.cons ?_ h3;exact Dj J4 h1' (fun b hb=>L.le b (et.le b hb)) (fun b hb=>et.jf.lt hb)
end
section
variable {O:World}{Y:List Nat}{X:Nat->Prop}{D:Nat->Value}{st:ah}{M:Array Value}{w:World}
def oV(D:Nat->Value)(sites:List (Nat×Site))(w:World)(av:Nat->Prop)(as:List bL)(vs:List Value):Prop:=
 vs.length=as.length/\∀j (h:j<as.length) (af:j<vs.length),gU D sites w av (as[j]) (vs[j])
theorem oV.cons{sites:List (Nat×Site)}{av:Nat->Prop}{a:bL}{as:List bL}{v:Value}{vs:List Value}(h:gU D sites w av a v)(hs:oV D sites w av as vs):oV D sites w av (a::as) (v::vs):=
 ⟨by simp[hs.1],fun j h1 h2=>by
  cases j with
  |zero=>exact h
  |succ j=>exact hs.2 j (by simpa using h1) (by simpa using h2)⟩
theorem Left.rest{av:Nat->Prop}{a b:List Nat}(L:Left O Y X D st av (a++b)){aI:Nat->Value}{al:ah}(h:∀c,ay (fun c=>X c\/c∈b) aI al.sites c->ay (fun c=>X c\/c∈a++b) D st.sites c):Left O Y X aI al av b:=
 ⟨(List.nodup_append.1 L.nodup).2.1,fun c hc=>L.ci c (List.mem_append.2 (.inr hc)),fun c hc=>L.le c (h c hc)⟩
theorem ab9{bw:ah}{n:Nat}{ad:List aF}(h:(take bw n ad).1.head?=some .dn):ad.head?=some .dn:=by
 cases ad with
 |nil=>cases h
 |cons l ad=>cases l<;>first|exact h|cases h
theorem take_one(bw:ah)(n:Nat)(l:aF):∃gp,(take bw n [l]).1=[gp]:=by cases l<;>exact⟨_,rfl⟩
theorem ad5{av:Nat->Prop}(bw:ah):∀(as:List bL) (n:Nat) {D:Nat->Value} {st:ah} {vs:List Value} {bs rest:List Nat},am O Y (fun b=>X b\/b∈bs++rest) D st M w->k6 w av as vs bs->
  Left O Y X D st av (bs++rest)->ld bw st.sites (keys (dT bw n as).2)->(keys (dT bw n as).2).Nodup->
  ∃aI,jC O Y (fun b=>X b\/b∈bs++rest) (fun b=>X b\/b∈rest) D aI st M w (dT bw n as).2/\oV aI (bm st.sites (dT bw n as).2) w (ay (fun b=>X b\/b∈rest) aI (bm st.sites (dT bw n as).2)) (dT bw n as).1 vs/\
   Left O Y X aI {st with sites:=bm st.sites (dT bw n as).2} av rest:=by
 intro as;induction as with
 |nil=>
  intro n D st vs bs rest S h L eR Z;match vs,h with
  |[],h=>
   have h:bs=[]:=h;subst h;exact⟨D,.nil S (fun b hb=>hb),⟨rfl,fun j h=>by simp[dT] at h⟩,L⟩
 |cons a as ih=>
  intro n D st vs bs rest S h L eR Z;match vs,h with
  |v::vs,⟨b1,b2,ep,h1,h2⟩=>
   subst ep;have go:∀(ad:List aF) (us:List Value),lf w av ad us b1->(dT bw n (a::as)).2=(take bw n ad).2++(dT bw (n+100) as).2->
     ∃aI,jC O Y (fun b=>X b\/b∈b1++b2++rest) (fun b=>X b\/b∈rest) D aI st M w (dT bw n (a::as)).2/\cr aI (bm st.sites (dT bw n (a::as)).2) w (ay (fun b=>X b\/b∈rest) aI (bm st.sites (dT bw n (a::as)).2)) (take bw n ad).1 us/\
      oV aI (bm st.sites (dT bw n (a::as)).2) w (ay (fun b=>X b\/b∈rest) aI (bm st.sites (dT bw n (a::as)).2)) (dT bw (n+100) as).1 vs/\Left O Y X aI {st with sites:=bm st.sites (dT bw n (a::as)).2} av rest:=by
    intro ad us bP e;rw[e] at eR Z ⊢;rw[jN] at eR Z;obtain⟨d1,d2,d3⟩:=List.nodup_append.1 Z;rw[List.append_assoc] at S L ⊢;obtain⟨gz,c',aB,rp⟩:=Pd bw ad n S bP L (fun m hm=>eR m (List.mem_append.2 (.inl hm))) d1
    obtain⟨h9,et,aA,tR⟩:=ih (n+100) (st:={st with sites:=bm st.sites (take bw n ad).2}) c'.jf h2 rp
     (ld.step (fun m hm=>eR m (List.mem_append.2 (.inr hm))) (fun m hm l9=>d3 m hm m l9 rfl)) d2
    refine⟨h9,c'.trans et,?_,?_,?_⟩
    ·rw[kU];exact aB.go et.go
    ·rw[kU];exact aA
    ·rw[kU];exact tR
   cases a with
   |ak l=>
    have h1:mF w av l v b1:=h1;obtain⟨aI,T,aB,aA,bC⟩:=go [l] [v] ⟨b1,[],by simp,h1,rfl⟩ rfl
    refine⟨aI,T,?_,bC⟩;obtain⟨gp,gj⟩:=take_one bw n l;have:(dT bw n (bL.ak l::as)).1=bL.ak gp::(dT bw (n+100) as).1:=by simp only[dT,gj]
    rw[this];refine oV.cons ?_ aA;rw[gj] at aB;exact aB.2 0 (by simp) (by simp)
   |agg ad=>
    obtain⟨us,e,h1⟩:=h1;obtain⟨aI,T,aB,aA,bC⟩:=go ad us h1 rfl;refine⟨aI,T,?_,bC⟩;have:(dT bw n (bL.agg ad::as)).1=bL.agg (take bw n ad).1::(dT bw (n+100) as).1:=rfl;rw[this];exact oV.cons ⟨us,e,aB.1,aB.2⟩ aA
def mY(D:Nat->Value):List (Nat×Nat)->List Nat->Prop
 |[],[]=>True
 |p::r,b::dx=>D p.1=.pointer (some ⟨b,0,none⟩)/\mY D r dx
 |_,_=>False
theorem mY.of:∀{boxes:List (Nat×Nat)},(∀o s,(o,s)∈boxes->∃b,D o=.pointer (some ⟨b,0,none⟩))->mY D boxes (db D (keys boxes)):=by
 intro boxes;induction boxes with
 |nil=>intro _;trivial
 |cons q boxes ih=>
  obtain⟨ρ,r⟩:=q;intro h;obtain⟨c,hc⟩:=h ρ r List.mem_cons_self;have:=ih fun o s hm=>h o s (List.mem_cons_of_mem _ hm)
  have e:db D (keys ((ρ,r)::boxes))=c::db D (keys boxes):=by simp[db,keys,hc,bH]
  rw[e];exact⟨hc,this⟩
theorem mY.congr{aI:Nat->Value}:∀{boxes:List (Nat×Nat)} {dx:List Nat},mY D boxes dx->(∀aa,aa∈keys boxes->aI aa=D aa)->mY aI boxes dx:=by
 intro boxes;induction boxes with
 |nil=>
  intro dx h _;match dx,h with
  |[],_=>trivial
 |cons q boxes ih=>
  intro dx h af;match dx,h with
  |b::dx,⟨h1,h2⟩=>exact⟨by rw[af q.1 List.mem_cons_self];exact h1,ih h2 fun aa bN=>af aa (List.mem_cons_of_mem _ bN)⟩
theorem MD{av:Nat->Prop}{bw:ah}{aa:Nat}:∀{boxes:List (Nat×Nat)} {cK:List (List aF)} {dx bs:List Nat},mY D boxes dx->i_ w av dx cK bs->aa∈keys boxes->aa∈keys (gN bw boxes cK):=by
 intro boxes;induction boxes with
 |nil=>intro cK dx bs _ _ h;simp[keys] at h
 |cons q boxes ih=>
  obtain⟨ρ,r⟩:=q;intro cK dx bs hl bP hm;match dx,cK,hl,bP with
  |c::dx,cs::cK,⟨_,hl⟩,⟨_,_,_,_,bP⟩=>
   simp only[gN,jN,keys,List.mem_append,List.mem_cons];rcases List.mem_cons.1 hm with rfl|hm
   ·exact .inr (.inl rfl)
   ·exact .inr (.inr (ih hl bP hm))
theorem Oi{av:Nat->Prop}(bw:ah):∀(boxes:List (Nat×Nat)) {cK:List (List aF)} {D:Nat->Value} {st:ah} {dx bs rest:List Nat},am O Y (fun b=>X b\/b∈bs++rest) D st M w->mY D boxes dx->i_ w av dx cK bs->
  (∀o s,(o,s)∈boxes->look st.sites o=some (.dead s))->
  Left O Y X D st av (bs++rest)->ld bw st.sites (keys (gN bw boxes cK))->(keys (gN bw boxes cK)).Nodup->
  ∃aI,jC O Y (fun b=>X b\/b∈bs++rest) (fun b=>X b\/b∈rest) D aI st M w (gN bw boxes cK)/\Left O Y X aI {st with sites:=bm st.sites (gN bw boxes cK)} av rest:=by
 intro boxes;induction boxes with
 |nil=>
  intro cK D st dx bs rest S eO h hB L eR Z;match dx,cK,eO,h with
  |[],[],_,h=>
   have h:bs=[]:=h;subst h;exact⟨D,.nil S (fun b hb=>hb),L⟩
 |cons p boxes ih=>
  obtain⟨o,s⟩:=p;intro cK D st dx bs rest S eO h hB L eR Z;have bo:=hB o s List.mem_cons_self;match dx,cK,eO,h with
  |b::dx,cs::cK,⟨hb,eO⟩,⟨b1,b2,ep,⟨T,cur,po,e1,e2,bp,c_⟩,h2⟩=>
   subst ep e1;have hb:D o=.pointer (some ⟨b,0,none⟩):=hb;have re:gN bw ((o,s)::boxes) (cs::cK)=(take bw (1000000+o*100) cs).2++([(o,Site.box s (take bw (1000000+o*100) cs).1)]++gN bw boxes cK):=rfl;rw[re] at eR Z ⊢;rw[jN,jN] at eR Z;obtain⟨d1,d2,d3⟩:=List.nodup_append.1 Z;obtain⟨d4,d5,d6⟩:=List.nodup_append.1 d2;have A3:∀c,c∈b::po++b2++rest <-> c∈po++(b::(b2++rest)):=by intro c;simp[or_assoc,or_left_comm]
   have arm:=L.nodup;have dr:am O Y (fun c=>X c\/c∈po++(b::(b2++rest))) D st M w:=S.shrink fun c hc=>hc.imp id (A3 c).2
   have rp:Left O Y X D st av (po++(b::(b2++rest))):=by
    refine⟨?_,fun c hc=>L.ci c ((A3 c).2 hc),fun c hc=>L.le c ?_⟩
    ·have:List.Perm (b::po++b2++rest) (po++(b::(b2++rest))):=by
      simp only[List.cons_append,List.append_assoc];exact List.perm_middle.symm
     exact this.nodup_iff.1 arm
    ·rcases hc with hc|hc
     ·exact .inl (hc.imp id (A3 c).2)
     ·exact .inr hc
   obtain⟨gz,c',aB,tR⟩:=Pd bw cs (1000000+o*100) dr c_.2 rp (fun m hm=>eR m (List.mem_append.2 (.inl hm))) d1
   have Ua:o∉keys (take bw (1000000+o*100) cs).2:=fun h=>d3 o h o (by simp[keys]) rfl
   have Iv:gz o=D o:=c'.same o Ua;have gX:look (bm st.sites (take bw (1000000+o*100) cs).2) o=some (.dead s):=by rw[nd Ua,bo]
   have XO:=tR.nodup;simp only[List.nodup_cons] at XO;have et:jC O Y (fun c=>X c\/c∈b::(b2++rest)) (fun c=>X c\/c∈b2++rest) gz (fun aa=>if aa=o then D o else gz aa) {st with sites:=bm st.sites (take bw (1000000+o*100) cs).2} M w [(o,Site.box s (take bw (1000000+o*100) cs).1)]:=by
    refine .one c'.jf (fun c hc=>hc.imp id (List.mem_cons_of_mem _)) (.inr ⟨Iv,fun ab hs=>?_⟩) (fun c hc=>?_) (fun fG j1 go le=>?_)
    ·have hs:look (bm st.sites (take bw (1000000+o*100) cs).2) o=some ab:=hs;rw[gX] at hs;cases hs;exact⟨rfl,rfl⟩
    ·rw[hb] at hc;cases hc;refine⟨.inr List.mem_cons_self,?_,(tR.ci b List.mem_cons_self).2⟩;rintro(hx|hx)
     ·exact(tR.ci b List.mem_cons_self).1 hx
     ·exact XO.1 hx
    ·have:=Am go aB;exact⟨b,T,cur,by rw[j1,hb],e2,this.1,bp,fun bP=>c_.1 (ab9 bP),this.2⟩
   have Lv:Left O Y X (fun aa=>if aa=o then D o else gz aa) {st with sites:=bm (bm st.sites (take bw (1000000+o*100) cs).2) [(o,Site.box s (take bw (1000000+o*100) cs).1)]} av (b2++rest):=
    Left.rest (a:=[b]) (st:={st with sites:=bm st.sites (take bw (1000000+o*100) cs).2}) tR et.le
   have hbk:∀aa,aa∈keys boxes->(fun aa=>if aa=o then D o else gz aa) aa=D aa:=by
    intro aa bN;have hk:=MD (bw:=bw) eO h2 bN;by_cases e:aa=o
    ·subst e;simp
    ·simp only[e,if_false];exact c'.same aa fun hm=>d3 aa hm aa (List.mem_append.2 (.inr hk)) rfl
   obtain⟨aI,fL,Lu⟩:=ih (st:={st with sites:=bm (bm st.sites (take bw (1000000+o*100) cs).2) [(o,Site.box s (take bw (1000000+o*100) cs).1)]}) et.jf (eO.congr hbk) h2
    (fun aa r hm=>by
     have hk:=MD (bw:=bw) eO h2 (EG hm);show look (bm (bm st.sites _) _) aa=_;rw[nd (fun h=>d6 aa h aa hk rfl),nd (fun h=>d3 aa h aa (List.mem_append.2 (.inr hk)) rfl)]
     exact hB aa r (List.mem_cons_of_mem _ hm))
    Lv
    (ld.step (ld.step (fun m hm=>eR m (List.mem_append.2 (.inr (List.mem_append.2 (.inr hm))))) (fun m hm l9=>d3 m hm m (List.mem_append.2 (.inr l9)) rfl)) (fun m hm l9=>d6 m hm m l9 rfl)) d5
   refine⟨aI,?_,?_⟩
   ·have arc:=c'.trans et;have Lo:jC O Y (fun c=>X c\/c∈b::po++b2++rest) (fun c=>X c\/c∈po++(b::(b2++rest))) D D st M w []:=.nil S fun c hc=>hc.imp id (A3 c).2
    have amo:=Lo.trans (vs:=(take bw (1000000+o*100) cs).2++[(o,Site.box s (take bw (1000000+o*100) cs).1)]) arc;have:=amo.trans (vs:=gN bw boxes cK) (by simpa only[List.nil_append,kU] using fL)
    simpa only[List.nil_append,List.append_assoc] using this
   ·simpa only[kU] using Lu
end
theorem CX{us:List (Nat×Site)}:∀{sites:List (Nat×Site)} {o:Nat} {s:Site},(keys us).Nodup->(o,s)∈us->look (bm sites us) o=some s:=by
 induction us with
 |nil=>intro sites o s _ h;simp at h
 |cons p us ih=>
  obtain⟨n,aC⟩:=p;intro sites o s hn hm;simp only[keys,List.nodup_cons] at hn;simp only[bm];rcases List.mem_cons.1 hm with hm|hm
  ·cases hm;rw[nd hn.1,cZ];simp
  ·exact ih hn.2 hm
section plain
variable {w:World}{av cd:Nat->Prop}
theorem OM{d:aZ}{v:Value}(h:aF.oG (.d d)=false)(r:bD w av d v):bD w cd d v:=by
 cases r with
 |int k n=>exact .int k n
 |bool b=>exact .bool b
 |str l s hs=>exact .str l s hs
 |nil t=>cases h
 |sl=>cases h
 |fn=>cases h
 |vu=>cases h
 |map=>cases h
 |vG T=>exact .vG T
 |err T n=>exact .err T n
theorem adp{t:a6}(h:t.oG=false)(x:den t):∀d,d∈enc t x->aF.oG (.d d)=false:=by
 cases t<;>first|(cases h;done)|(intro d Z;simp only[enc,List.mem_cons,List.not_mem_nil,or_false] at Z;(rcases Z with rfl|rfl|rfl|rfl|rfl);all_goals rfl)|skip
 all_goals(intro d Z;simp only[enc,List.mem_cons,List.not_mem_nil,or_false] at Z)
 all_goals first|(subst Z;rfl)|(rcases Z with rfl|rfl<;>rfl)|(rcases Z with rfl|rfl|rfl<;>rfl)|(rcases Z with rfl|rfl|rfl|rfl<;>rfl)
theorem acr{t:a6}{xs:List (den t)}{cs:List Value}(h:t.oG=false)(r:cX w av (flat t xs) cs):cX w cd (flat t xs) cs:=by
 refine⟨r.1,fun j g1 g2=>OM ?_ (r.2 j g1 g2)⟩
 have hm:(flat t xs)[j]∈flat t xs:=List.getElem_mem g1;simp only[flat,List.mem_flatMap] at hm;obtain⟨x,_,hx⟩:=hm;exact adp h x _ hx
theorem Mt{l:aF}{v:Value}{bs:List Nat}(h:l.oG=false)(k:mF w av l v bs):mF w cd l v bs:=by
 cases l with
 |d x=>exact⟨k.1,OM h k.2⟩
 |fresh t xs=>
  obtain⟨h1,e,cs,h2,h3⟩:=k;exact⟨h1,e,cs,h2,acr h h3⟩
 |cP v=>exact k
 |dn=>exact k
 |_=>cases h
theorem Mr:∀{ad:List aF} {vs:List Value} {bs:List Nat},rM ad=false->lf w av ad vs bs->lf w cd ad vs bs:=by
 intro ad;induction ad with
 |nil=>
  intro vs bs _ k;match vs,k with
  |[],k=>exact k
 |cons l ad ih=>
  intro vs bs h k;simp only[rM,Bool.or_eq_false_iff] at h;match vs,k with
  |v::vs,⟨b1,b2,aB,aA,bC⟩=>exact⟨b1,b2,aB,Mt h.1 aA,ih h.2 bC⟩
theorem _x:∀{as:List bL} {vs:List Value} {bs:List Nat},rE as=false->k6 w av as vs bs->k6 w cd as vs bs:=by
 intro as;induction as with
 |nil=>
  intro vs bs _ k;match vs,k with
  |[],k=>exact k
 |cons a as ih=>
  intro vs bs h k;simp only[rE,Bool.or_eq_false_iff] at h;match vs,k with
  |v::vs,⟨b1,b2,aB,aA,bC⟩=>
   refine⟨b1,b2,aB,?_,ih h.2 bC⟩;cases a with
   |ak l=>
    have h1:=h.1;simp only[bL.cells,rM,Bool.or_false] at h1;exact Mt h1 aA
   |agg ad=>
    obtain⟨us,e,aA⟩:=aA;exact⟨us,e,Mr h.1 aA⟩
theorem _w:∀{cK:List (List aF)} {dx bs:List Nat},rD cK=false->i_ w av dx cK bs->i_ w cd dx cK bs:=by
 intro cK;induction cK with
 |nil=>
  intro dx bs _ k;match dx,k with
  |[],k=>exact k
 |cons a as ih=>
  intro dx bs h k;simp only[rD,Bool.or_eq_false_iff] at h;match dx,k with
  |b::dx,⟨b1,b2,aB,⟨T,cur,oa,e1,e2,bp,c_,fp⟩,bC⟩=>
   exact⟨b1,b2,aB,⟨T,cur,oa,e1,e2,bp,c_,Mr h.1 fp⟩,ih h.2 bC⟩
theorem OW{l:aF}{v:Value}{bs:List Nat}(k:mF w av l v bs):∀b,b∈bs->b<w.heap.size:=by
 cases l with
 |fresh t xs=>
  obtain⟨h1,e,cs,h2,h3⟩:=k;intro b hb;rw[h1] at hb;rcases h2.2 with⟨h,_⟩|⟨g,cap,cur,fz,h,_,hg,_⟩
  ·rw[h] at hb;simp[bH] at hb
  ·rw[h] at hb;simp[bH] at hb;subst hb;exact(Array.getElem?_eq_some_iff.1 hg).1
 |_=>intro b hb;rw[k.1] at hb;simp at hb
theorem OV:∀{ad:List aF} {vs:List Value} {bs:List Nat},lf w av ad vs bs->∀b,b∈bs->b<w.heap.size:=by
 intro ad;induction ad with
 |nil=>
  intro vs bs k;match vs,k with
  |[],k=>have k:bs=[]:=k;intro b hb;rw[k] at hb;simp at hb
 |cons l ad ih=>
  intro vs bs k;match vs,k with
  |v::vs,⟨b1,b2,aB,aA,bC⟩=>
   intro b hb;rw[aB] at hb;rcases List.mem_append.1 hb with hb|hb
   ·exact OW aA b hb
   ·exact ih bC b hb
theorem adh:∀{as:List bL} {vs:List Value} {bs:List Nat},k6 w av as vs bs->∀b,b∈bs->b<w.heap.size:=by
 intro as;induction as with
 |nil=>
  intro vs bs k;match vs,k with
  |[],k=>have k:bs=[]:=k;intro b hb;rw[k] at hb;simp at hb
 |cons a as ih=>
  intro vs bs k;match vs,k with
  |v::vs,⟨b1,b2,aB,aA,bC⟩=>
   intro b hb;rw[aB] at hb;rcases List.mem_append.1 hb with hb|hb
   ·cases a with
    |ak l=>exact OW (show mF w av l v b1 from aA) b hb
    |agg ad=>obtain⟨us,e,aA⟩:=aA;exact OV aA b hb
   ·exact ih bC b hb
theorem NU:∀{cK:List (List aF)} {dx bs:List Nat},i_ w av dx cK bs->∀b,b∈bs->b<w.heap.size:=by
 intro cK;induction cK with
 |nil=>
  intro dx bs k;match dx,k with
  |[],k=>have k:bs=[]:=k;intro b hb;rw[k] at hb;simp at hb
 |cons a as ih=>
  intro dx bs k;match dx,k with
  |c::dx,⟨b1,b2,aB,⟨T,cur,oa,e1,e2,bp,_,c_⟩,bC⟩=>
   intro b hb;rw[aB] at hb;rcases List.mem_append.1 hb with hb|hb
   ·rw[e1] at hb;rcases List.mem_cons.1 hb with rfl|hb
    ·exact(Array.getElem?_eq_some_iff.1 e2).1
    ·exact OV c_ b hb
   ·exact ih bC b hb
end plain
section
variable {P:Program}{O:World}{Y:List Nat}{X:Nat->Prop}{D:Nat->Value}{st:ah}{M:Array Value}{w:World}{B:Oper}
theorem ng{fX:List Nat}{b:Nat}:b∈db D fX <-> ∃o,o∈fX/\bH (D o)=some b:=by simp[db]
theorem L5(S:am O Y X D st M w):∀{fX:List Nat},fX.Nodup->(∀o,o∈fX->cg st.sites o)->(db D fX).Nodup:=by
 intro fX;induction fX with
 |nil=>intro _ _;exact List.nodup_nil
 |cons o fX ih=>
  intro hn hl;rw[List.nodup_cons] at hn;have:=ih hn.2 fun aa bN=>hl aa (List.mem_cons_of_mem _ bN)
  simp only[db,List.filterMap_cons] at this ⊢;cases hb:bH (D o) with
  |none=>simpa using this
  |some b=>
   simp only[List.nodup_cons];refine⟨fun hm=>?_,this⟩
   obtain⟨aa,h1,h2⟩:=ng.1 hm;have:=S.dV o aa b (hl o List.mem_cons_self) (hl aa (List.mem_cons_of_mem _ h1)) hb h2;subst this;exact hn.1 h1
structure amp(O:World)(Y:List Nat)(X:Nat->Prop)(D:Nat->Value)(st:ah)(M:Array Value)(w:World)(a:j5)(vs:List Value):Prop where
 fz:dI st.sites a.eM
 lb:∀o,o∈a.fN->cg st.sites o
 m':gP st.sites a.gone
 arg:∀av,fs O Y X D st M w a.eM a.fN av->iW w av a.as vs (db D (keys a.gone))
 dx:dN a.as vs=db D (keys a.boxes)
 fj:∀o s,(o,s)∈a.boxes->(o,.dead s)∈a.gone/\∃b,D o=.pointer (some ⟨b,0,none⟩)
theorem Mv{us:List (Nat×Site)}{sites:List (Nat×Site)}(aX:dI sites us){o:Nat}(h:cg (bm sites us) o):cg sites o:=by
 obtain⟨ab,h1,h2⟩:=h;rcases lz aX o with h|⟨s,t,xs,aw,bk⟩
 ·exact⟨ab,h▸h1,h2⟩
 ·rw[bk] at h1;cases h1;cases h2
theorem afs(S:am O Y X D st M w){g:FuncId}{ap:aH}(eA:aG P g ap){a:j5}{vs:List Value}(A:amp O Y X D st M w a vs){d:Nat}(Z:ch st B.dst=true)
  (dm:(execOp (Act.eval ⟨M,[]⟩) B).run P w=(callFunc g vs.toArray).run P w):Holds (oU d st ap a) (cE P O Y X st M w B):=by
 intro y hy hc;simp only[oU] at y hy hc ⊢;simp only[Bool.and_eq_true] at hc;obtain⟨⟨⟨⟨c1,c2⟩,c3⟩,c5⟩,gD⟩:=hc;rw[rA] at c1 c3;rw[N2] at c2 c5;have rH:∀o,o∈keys a.gone->cg st.sites o:=fun o bo=>by
  obtain⟨s,hs⟩:=ym bo;obtain⟨ab,h1,h2,_⟩:=A.m' o s hs;exact⟨ab,h1,h2⟩
 have NP:∀o,o∈keys a.gone->o∉keys a.eM:=fun o h1 h2=>c2 o (List.mem_append.2 (.inl h2)) h1
 have asS:∃X':Nat->Prop,∀b,X' b <-> (ay X D (bm st.sites a.eM) b/\b∉db D (keys a.gone)/\∀o,o∈a.fN->bH (D o)≠some b):=⟨_,fun b=>Iff.rfl⟩
 obtain⟨X',tA⟩:=asS;have dY:fs O Y X D st M w a.eM a.fN (fun b=>X' b\/b∈db D (keys a.gone)):=by
  refine⟨⟨S,A.fz⟩,fun b hb=>?_,fun o bo b hb hx=>?_⟩
  ·rcases hb with hb|hb
   ·exact((tA b).1 hb).1
   ·obtain⟨o,h1,h2⟩:=ng.1 hb;obtain⟨ab,h3,aw⟩:=rH o h1;exact .inr ⟨o,⟨ab,by rw[nd (NP o h1)];exact h3,aw⟩,h2⟩
  ·rcases hx with hx|hx
   ·exact((tA b).1 hx).2.2 o bo hb
   ·obtain⟨aa,h1,h2⟩:=ng.1 hx;have:=S.dV o aa b (A.lb o bo) (rH aa h1) hb h2;subst this;exact c2 o (List.mem_append.2 (.inr bo)) h1
 have Cn:(db D (keys a.gone)).Nodup:=L5 S c1 rH;have EZ:∀b,b∈db D (keys a.gone)->¬X b/\(b∈Y\/O.heap.size<=b):=fun b hb=>by
  obtain⟨o,h1,h2⟩:=ng.1 hb;exact S.ci o b (rH o h1) h2
 have XY:∀b,X b->X' b:=fun b hb=>(tA b).2 ⟨.inl hb,fun h=>(EZ b h).1 hb,fun o bo h=>(S.ci o b (A.lb o bo) h).1 hb⟩
 have hG:iz w (db D (keys a.gone)) X':=by
  obtain⟨g1,g2⟩:=S.kM;refine⟨g1,fun b hb h=>?_,fun b hb h=>?_,fun b hb=>(g2 b hb).2⟩
  ·obtain⟨o,h1,h2⟩:=ng.1 h;exact(g2 b hb).1 (.inr ⟨o,rH o h1,h2⟩)
  ·rcases((tA b).1 h).1 with h|⟨o,h1,h2⟩
   ·exact(g2 b hb).1 (.inl h)
   ·exact(g2 b hb).1 (.inr ⟨o,Mv A.fz h1,h2⟩)
 have E:=eA a.as y hy w X' vs (db D (keys a.gone)) (A.arg _ dY) Cn (fun b hb hx=>((tA b).1 hx).2.1 hb) (fun b hb=>dY.lt (.inl hb)) hG
 intro K Q bM;have core:∀v w',(∃ek ej rv,Fr (db D (keys a.gone)) w w'/\i_ w' (fun b=>X' b\/b∈ek++ej) (dN a.as vs) ((ap a.as).fj y) ek/\k6 w' (fun b=>X' b\/b∈ek++ej) ((ap a.as).fa y) rv ej/\
   v=nD rv/\(ek++ej).Nodup/\∀b,b∈ek++ej->¬X' b/\(b∈db D (keys a.gone)\/w.heap.size<=b))->K ⟨cv M B.dst v,[]⟩ w':=by
  rintro v w' ⟨ek,ej,rv,aX,hB,dZ,rfl,kD,hm⟩;obtain⟨sl,iN⟩:∃sl,(rE ((ap a.as).fa y)||rD ((ap a.as).fj y))=sl:=⟨_,rfl⟩;rw[iN] at gD bM;obtain⟨df,Ck⟩:∃df,(bif sl then a.eM else [])=df:=⟨_,rfl⟩
  rw[Ck] at bM;have Uu:dI st.sites df:=by rw[<-Ck];cases sl;exact .nil;exact A.fz
  have ajD:∀o,o∈keys df->o∈keys a.eM:=by rw[<-Ck];cases sl;intro o h;simp[keys] at h;exact fun o h=>h
  have dr:am O Y X D {st with sites:=bm st.sites df} M w:=S.zL Uu
  have Co:gP (bm st.sites df) a.gone:=fun o s hs=>by
   obtain⟨ab,h1,h2,h3⟩:=A.m' o s hs;exact⟨ab,by rw[nd (fun h=>NP o (EG hs) (ajD o h))];exact h1,h2,h3⟩
  have hT:=dr.ajC Co c1;have iS:=hT.jump (w':=w') (fun b hb hlt=>aX.block b hlt (fun h=>hb (.inr h))) aX.size
   ⟨aX.os.trans S.frame.os,aX.tape.trans S.frame.tape,aX.output.trans S.frame.output,Nat.le_trans S.frame.size aX.size,fun b hlt hb=>by
    rw[aX.block b (Nat.lt_of_lt_of_le hlt S.frame.size) (fun h=>by rcases(EZ b h).2 with af|af;exact hb af;omega)]
    exact S.frame.block b hlt hb⟩
  have apm:∀b,b∈ek++ej->b<w'.heap.size:=fun b hb=>by
   rcases List.mem_append.1 hb with hb|hb
   ·exact NU hB b hb
   ·exact adh dZ b hb
  have jK:am O Y (fun b=>X b\/b∈ek++(ej++[])) D {st with sites:=bm (bm st.sites df) a.gone} M w':=iS.shrink fun b hb=>by
   rcases hb with hb|hb
   ·exact .inl (.inl hb)
   ·rw[List.append_nil] at hb;rcases(hm b hb).2 with h|h
    ·exact .inl (.inr h)
    ·exact .inr ⟨h,apm b hb⟩
  obtain⟨av,Us,al9,al8⟩:∃av:Nat->Prop,i_ w' av (dN a.as vs) ((ap a.as).fj y) ek/\k6 w' av ((ap a.as).fa y) rv ej/\
    ∀c,ay (fun b=>X b\/b∈ek++(ej++[])) D (bm (bm st.sites df) a.gone) c->av c:=by
   cases sl with
   |false=>
    rw[Bool.or_eq_false_iff] at iN;exact⟨_,_w iN.2 hB,_x iN.1 dZ,fun c hc=>hc⟩
   |true=>
    refine⟨_,hB,dZ,fun c hc=>?_⟩
    rcases hc with(hc|hc)|⟨o,⟨ab,h1,h2⟩,h3⟩
    ·exact .inl (XY c hc)
    ·rw[List.append_nil] at hc;exact .inr hc
    ·refine .inl ((tA c).2 ?_);have bo:o∉keys a.gone:=fun h=>by
      obtain⟨s,hs⟩:=ym h;rw[CX c1 hs] at h1;obtain⟨_,_,_,e⟩:=A.m' o s hs;cases h1;rw[e] at h2;cases h2
     rw[nd bo] at h1;have amb:a.eM=df:=Ck;rw[<-amb] at h1;have live:cg st.sites o:=Mv A.fz ⟨ab,h1,h2⟩;refine⟨.inr ⟨o,⟨ab,h1,h2⟩,h3⟩,fun h=>?_,fun aa bN h=>?_⟩
     ·obtain⟨aa,aB,aA⟩:=ng.1 h;have:=S.dV o aa c live (rH aa aB) h3 aA;subst this;exact bo aB
     ·simp only[Bool.not_true,Bool.false_or,List.isEmpty_iff] at gD;rw[gD] at bN;simp at bN
  have L:Left O Y X D {st with sites:=bm (bm st.sites df) a.gone} av (ek++(ej++[])):=by
   refine⟨by simpa using kD,fun b hb=>?_,al8⟩
   rw[List.append_nil] at hb;obtain⟨h1,h2⟩:=hm b hb;refine⟨fun hx=>h1 (XY b hx),?_⟩
   rcases h2 with h2|h2
   ·exact(EZ b h2).2
   ·exact .inr (Nat.le_trans S.frame.size h2)
  have RP:∀fX,ld st (bm (bm st.sites df) a.gone) fX:=fun fX m _ ab hs=>by
   have h1:∀ab,look (bm st.sites df) m=some ab->ab.cq<bn st m:=fun ab hs=>by
    rcases lz Uu m with h|⟨s,t,xs,aw,bk⟩
    ·rw[h] at hs;exact lA hs
    ·rw[bk] at hs;cases hs;rcases aw with aw|aw<;>(have q:=lA aw;exact q)
   by_cases hk:m∈keys a.gone
   ·obtain⟨s,fG⟩:=ym hk;rw[CX c1 fG] at hs;obtain⟨bV,e1,_,bp⟩:=Co m s fG;rw[bp] at hs;cases hs;exact h1 bV e1
   ·rw[nd hk] at hs;exact h1 ab hs
  rw[jN] at c3;obtain⟨d1,d2,d3⟩:=List.nodup_append.1 c3;rw[A.dx] at Us;obtain⟨gz,c',rp⟩:=Oi st a.boxes (st:={st with sites:=bm (bm st.sites df) a.gone}) jK (mY.of fun o s hs=>(A.fj o s hs).2) Us
   (fun o s hs=>CX c1 (A.fj o s hs).1) L (RP _) d1
  obtain⟨h9,et,j2,_⟩:=ad5 st ((ap a.as).fa y) (2000000+d*10000) (st:={st with sites:=bm (bm (bm st.sites df) a.gone) (gN st a.boxes ((ap a.as).fj y))}) c'.jf al9 rp
   (ld.step (RP _) (fun n h1 h2=>d3 n h1 n h2 rfl)) d2
  have Lq:am O Y X h9 {st with sites:=bm st.sites (df++a.gone++gN st a.boxes ((ap a.as).fj y)++(dT st (2000000+d*10000) ((ap a.as).fa y)).2)} M w':=by
   have:=et.jf.shrink (X':=X) fun b hb=>.inl hb
   simpa only[kU] using this
  refine bM h9 _ w' (am.cT Lq Z (v:=RI (dT st (2000000+d*10000) ((ap a.as).fa y)).1) ?_);have RY:oV h9 (bm st.sites (df++a.gone++gN st a.boxes ((ap a.as).fj y)++(dT st (2000000+d*10000) ((ap a.as).fa y)).2)) w'
    (ay X h9 (bm st.sites (df++a.gone++gN st a.boxes ((ap a.as).fj y)++(dT st (2000000+d*10000) ((ap a.as).fa y)).2))) (dT st (2000000+d*10000) ((ap a.as).fa y)).1 rv:=by
   have e:(fun b=>X b\/b∈([]:List Nat))=X:=by funext b;simp
   rw[e] at j2;simpa only[kU] using j2
  generalize(dT st (2000000+d*10000) ((ap a.as).fa y)).1=apn at RY;match apn,rv,RY with
  |[],[],h=>exact⟨[],rfl,rfl,fun j h=>by simp at h⟩
  |[l],[v],h=>exact h.2 0 (by simp) (by simp)
  |l::gB::ad,v::v2::ck,h=>exact⟨v::v2::ck,rfl,h.1,h.2⟩
 rcases E with⟨h1,h2⟩|⟨v,w',h1,h2⟩
 ·unfold Oper.wp;rw[dm,h1,Oper.upon_enter];refine h2.mono fun e w' he=>?_
  cases e with
  |returned v=>
   have:=core v w' he;cases dC:B.dst with
   |none=>rw[dC] at this;simpa[Act.put,cv] using this
   |some t=>rw[dC] at this;simpa[Act.put,cv] using this
  |panicked c=>exact he.elim
  |outgrown=>exact he.elim
 ·exact oE (dm.trans h1) (core v w' h2)
end
def AS(P:Program)(g:FuncId):Prop:=
 ∀(b:Nat) (p v:Value) (w:World),w.heap[b]? =some (.cells #[p,v] qZ (0,0))->(p=.pointer none\/p=.pointer (some ⟨b,0,none⟩))->
  Enters P g #[.pointer (some ⟨b,0,none⟩)] w fun r w'=>r=.tuple #[]/\w'=w.setRow b #[.pointer (some ⟨b,0,none⟩),v]
def Bc(P:Program)(g:FuncId):Prop:=
 ∀(b:Nat) (p v:Value) (T:TypeId) (xs:List Int) (w:World),w.heap[b]? =some (.cells #[p,v] T (0,0))->rowAt w true mc 1 v xs.length (xs.map (Value.int .u8))->
  Enters P g #[.pointer (some ⟨b,0,none⟩)] w fun r w'=>r=.string ⟨(strOf xs).toArray⟩/\w'.os=w.os/\w'.tape=w.tape/\w'.output=w.output/\w.heap.size<=w'.heap.size/\
   (∀c,c<w.heap.size->bH v≠some c->w'.heap[c]? =w.heap[c]?)/\∀c cur e fz,bH v=some c->w.heap[c]? =some (.cells cur e fz)->∃fz',w'.heap[c]? =some (.cells cur e fz')
section
variable {P:Program}{O:World}{Y:List Nat}{X:Nat->Prop}{D:Nat->Value}{st:ah}{M:Array Value}{w:World}{B:Oper}
theorem am.afd(S:am O Y X D st M w){o s:Nat}{t:a6}{xs:List (den t)}(hl:look st.sites o=some (.row s t xs)){w':World}(h1:w'.os=w.os)(h2:w'.tape=w.tape)(h3:w'.output=w.output)(aw:w.heap.size<=w'.heap.size)
  (bk:∀c,c<w.heap.size->bH (D o)≠some c->w'.heap[c]? =w.heap[c]?) (cp:∀c cur e fz,bH (D o)=some c->w.heap[c]? =some (.cells cur e fz)->∃fz',w'.heap[c]? =some (.cells cur e fz')):
  am O Y X D {st with sites:=cl st.sites o (.di s t xs)} M w':=by
 have cJ:cg st.sites o:=⟨_,hl,rfl⟩;have eb:∀aa,cg (cl st.sites o (.di s t xs)) aa->cg st.sites aa/\aa≠o:=by
  rintro aa ⟨ab,h1,h2⟩;rw[cZ] at h1;by_cases e:o=aa
  ·subst e;simp at h1;subst h1;cases h2
  ·simp only[e,if_false] at h1;exact⟨⟨ab,h1,h2⟩,fun h=>e h.symm⟩
 have b9:∀bI,ay X D (cl st.sites o (.di s t xs)) bI->ay X D st.sites bI:=by
  rintro bI (h|⟨aa,h1,h2⟩)
  ·exact .inl h
  ·exact .inr ⟨aa,(eb aa h1).1,h2⟩
 have aX:=S.frame;refine S.qn (fun aa ab bN=>?_) (fun bI h hb=>bk bI hb (fun af=>h (.inr ⟨o,cJ,af⟩))) (fun bI h _ af=>h (b9 bI af)) (fun go aa ab bN=>?_) (fun aa ρ bI h1 h2=>S.dV aa ρ bI (eb aa h1).1 (eb ρ h2).1)
  (fun aa bI h=>S.ci aa bI (eb aa h).1) (fun aa bI h hb=>Nat.lt_of_lt_of_le (S.fy (eb aa h).1 hb) aw)
  ⟨h1.trans aX.os,h2.trans aX.tape,h3.trans aX.output,Nat.le_trans aX.size aw,fun b hb hn=>by
   have hs:=aX.size;rw[bk b (by omega) (fun af=>by
    rcases(S.ci o b cJ af).2 with af|af
    ·exact hn af
    ·omega)]
   exact aX.block b hb hn⟩ aw
 ·rw[cZ];by_cases e:o=aa
  ·subst e;rw[hl] at bN;cases bN;exact⟨.di s t xs,by simp,Nat.le_refl _,fun _=>rfl⟩
  ·exact⟨ab,by simp[e,bN],Nat.le_refl _,fun _=>rfl⟩
 ·rw[cZ] at bN;by_cases e:o=aa
  ·subst e;simp only[if_true,Option.some.injEq] at bN;subst bN;refine .inr ?_
   show bD _ _ (.sl t xs) (D o)/\BH (D o);obtain⟨cz,cs,aB,aA⟩:=S.sites o _ hl;rcases aB.2 with⟨hn,h0⟩|⟨g,cap,cur,fz,hv,_,hg,hnc,_,_,htk⟩
   ·have:xs=[]:=List.eq_nil_of_length_eq_zero h0;subst this;rw[hn];exact⟨.nil t,.inl rfl⟩
   ·obtain⟨fz',hg'⟩:=cp g cur cz fz (by rw[hv];rfl) hg
    rw[hv];refine⟨?_,.inr ⟨_,_,_,rfl⟩⟩;have hlen:cs.length=(flat t xs).length:=by rw[eW];exact aB.1
    refine .sl t xs _ cap cs xs.length rfl hnc (fun _=>?_) hlen (fun j u hu=>?_) (fun j g1 g2=>oP go (aA j g1 g2))
    ·rintro(hx|⟨aa,g1,g2⟩)
     ·exact(S.ci o g cJ (by rw[hv];rfl)).1 hx
     ·obtain⟨g3,g4⟩:=eb aa g1;exact g4 (S.dV aa o g g3 cJ g2 (by rw[hv];rfl))
    ·rw[gM,Nat.zero_add,cell_of_row w' g j cur cz fz' hg'];rw[<-htk,List.getElem?_take] at hu;split at hu
     ·simpa using hu
     ·cases hu
  ·simp only[e,if_false] at bN;refine .inl ⟨bN,rfl,fun s0 b hb=>bk b (S.fy ⟨_,bN,s0⟩ hb) fun h=>e (S.dV o aa b cJ ⟨_,bN,s0⟩ h hb)⟩
theorem D8{g:FuncId}{vs:List Value}{post:Value->World->Prop}(dm:(execOp (Act.eval ⟨M,[]⟩) B).run P w=(callFunc g vs.toArray).run P w)(eA:Enters P g vs.toArray w post){K:Act->World->Prop}{Q:Exit->Act->World->Prop}
  (core:∀v w',post v w'->K ⟨cv M B.dst v,[]⟩ w'):B.wp P ⟨M,[]⟩ w K Q:=by
 rcases eA with⟨h1,h2⟩|⟨v,w',h1,h2⟩
 ·unfold Oper.wp;rw[dm,h1,Oper.upon_enter];refine h2.mono fun e w' he=>?_
  cases e with
  |returned v=>
   have:=core v w' he;cases dC:B.dst with
   |none=>rw[dC] at this;simpa[Act.put,cv] using this
   |some t=>rw[dC] at this;simpa[Act.put,cv] using this
  |panicked c=>exact he.elim
  |outgrown=>exact he.elim
 ·exact oE (dm.trans h1) (core v w' h2)
theorem afp(S:am O Y X D st M w){g:FuncId}(eA:AS P g){cw:List aJ}{vs:List Value}(hl:cw.length=vs.length)
  (hv:∀i (h:i<cw.length) (af:i<vs.length),cc D st.sites w (ay X D st.sites) (cw[i]) (vs[i])) (Z:ch st B.dst=true) (dm:(execOp (Act.eval ⟨M,[]⟩) B).run P w=(callFunc g vs.toArray).run P w):
  Holds (copyV st cw) (cE P O Y X st M w B):=by
 unfold copyV;split
 ·rename_i o s;split
  ·rename_i aC l gx;have gx:look st.sites o=some (.box aC [.dn,l]):=gx;cases lp:aC.beq s with
   |false=>exact .fail
   |true=>
    have:=Nat.eq_of_beq_eq_true lp;subst this;refine Holds.fu ?_
    intro K Q bM;match vs,hl,hv,dm with
    |[q8],_,hv,dm=>
    obtain⟨rh,hb0,lq⟩:dQ D st.sites w (ay X D st.sites) (.ptr o aC 0) q8:=hv 0 (by simp) (by simp)
    have lq:=Ref.at lq gx rfl;obtain⟨b,T,cur,e1,e2,bp,c_,fp,na⟩:=S.sites o _ gx;rw[e1] at lq;have lq:b=rh:=by cases lq;rfl
    subst lq;subst hb0;match cur,e2,bp,c_,fp,na with
    |[p,v],e2,_,c_,fp,na=>
     obtain⟨rfl,hp⟩:=fp rfl;have hp:p=.pointer none\/p=.pointer (some ⟨b,0,none⟩):=by simpa using hp
     refine D8 dm (eA b p v w e2 hp) ?_
     rintro r w' ⟨rfl,rfl⟩;have ce:am O Y X D {st with sites:=cl st.sites o (.box aC [.dn,l])} M (w.setRow b #[.pointer (some ⟨b,0,none⟩),v]):=by
      refine S.write gx rfl rfl rfl (by rw[e1];rfl) e2 (fun hs hw hg' go=>⟨b,qZ,[.pointer (some ⟨b,0,none⟩),v],e1,hg',rfl,fun u hu=>?_,fun _=>⟨rfl,.inr rfl⟩,fun j h af=>?_⟩)
      ·rcases List.mem_cons.1 hu with rfl|hu
       ·rfl
       ·exact c_ u (List.mem_cons_of_mem _ hu)
      ·match j,h,af with
       |0,_,_=>trivial
       |1,_,_=>exact go (a:=bZ l) (na 1 (by simp) (by simp))
     exact bM _ _ _ (am.cT (us:=[(o,.box aC [.dn,l])]) ce Z (v:=.jD []) ⟨[],rfl,rfl,fun j h=>by simp at h⟩)
  ·exact .fail
 ·exact .fail
theorem ad4{av:Nat->Prop}{xs:List Int}{cs:List Value}(h0:cs.length=xs.length)(h:∀j (h:j<(flat .u8 (xs:List (den .u8))).length) (af:j<cs.length),bD w av ((flat .u8 (xs:List (den .u8)))[j]) (cs[j])):cs=xs.map (Value.int .u8):=by
 refine List.ext_getElem (by rw[List.length_map];exact h0) fun j g1 g2=>?_
 have XU:j<xs.length:=by simpa using g2
 have:=h j (by rw[eW];simpa[aT] using XU) g1
 rw[List.getElem_map];generalize Z:(flat .u8 (xs:List (den .u8)))[j]'(by rw[eW];simpa[aT] using XU)=d at this
 have hd2:d=.int .u8 xs[j]:=by
  rw[<-Z];simp only[sb,List.getElem_map]
 subst hd2;generalize cs[j]=v at this;cases this;rfl
theorem aaP(S:am O Y X D st M w){g:FuncId}(eA:Bc P g){cw:List aJ}{vs:List Value}(hl:cw.length=vs.length)
  (hv:∀i (h:i<cw.length) (af:i<vs.length),cc D st.sites w (ay X D st.sites) (cw[i]) (vs[i])) (Z:ch st B.dst=true) (dm:(execOp (Act.eval ⟨M,[]⟩) B).run P w=(callFunc g vs.toArray).run P w):
  Holds (rW st cw) (cE P O Y X st M w B):=by
 unfold rW;split
 ·rename_i o s;match vs,hl,hv,dm with
  |[q8],_,hv,dm=>
  have mR:dQ D st.sites w (ay X D st.sites) (.ptr o s 0) q8:=hv 0 (by simp) (by simp)
  split
  ·rename_i Y0 lY;have gx:=gF lY;obtain⟨b,T,cur,cO,rfl,hg,_,hc⟩:=S.box gx mR;refine Holds.ok ?_
   intro K Q bM;obtain⟨p,r1,rfl,_,hc⟩:=hc.inv;obtain⟨v,r2,rfl,wg,hc⟩:=hc.inv;have:r2=[]:=List.eq_nil_of_length_eq_zero hc.1;subst this;have wg:v=.slice none 0 0:=wg;subst wg;refine D8 dm (eA b p _ T [] w hg (DH w true mc 1)) ?_
   rintro r w' ⟨rfl,aB,aA,bC,cL,fK,ia⟩;have dr:=S.jump (w':=w') (fun c _ hc=>fK c hc (by simp[bH])) cL ⟨aB.trans S.frame.os,aA.trans S.frame.tape,bC.trans S.frame.output,Nat.le_trans S.frame.size cL,fun c hc hn=>by
    rw[fK c (Nat.lt_of_lt_of_le hc S.frame.size) (by simp[bH])]
    exact S.frame.block c hc hn⟩
   have hT:am O Y X D {st with sites:=bm st.sites []} M w':=dr.shrink fun b hb=>.inl hb
   exact bM _ _ _ (am.cT (us:=[]) hT Z (v:=one (.str [])) (bD.str _ _ rfl))
  ·rename_i Y0 aa u lY;have gx:=gF lY;obtain⟨b,T,cur,cO,rfl,hg,_,hc⟩:=S.box gx mR;split
   ·rename_i b5 xs hrow;have hrow:look st.sites aa=some (.row b5 .u8 xs):=hrow;cases apJ:b5.beq u with
    |false=>exact .fail
    |true=>
     have:=Nat.eq_of_beq_eq_true apJ;subst this;refine Holds.fu ?_
     intro K Q bM;obtain⟨p,r1,rfl,_,hc⟩:=hc.inv;obtain⟨v,r2,rfl,wg,hc⟩:=hc.inv;have:r2=[]:=List.eq_nil_of_length_eq_zero hc.1;subst this;have Ud:v=D aa:=Ref.at wg.2 hrow rfl;obtain⟨e,cs,h1,h2⟩:=S.sites aa _ hrow;have hlen:cs.length=xs.length:=by have:=h1.1;simpa[aT] using this
     have hcs:cs=List.map (Value.int .u8) xs:=ad4 hlen h2;have li:rowAt w true mc 1 v xs.length (List.map (Value.int .u8) xs):=by
      rw[<-hcs,Ud];refine⟨h1.1,?_⟩;rcases h1.2 with h|⟨ct,cap,cur',fz,q1,q2,cU⟩
      ·exact .inl h
      ·have:=q2.1 rfl;subst this;exact .inr ⟨ct,cap,cur',fz,q1,q2,cU⟩
     refine D8 dm (eA b p v T xs w hg li) ?_
     rintro r w' ⟨rfl,aB,aA,bC,cL,fK,ia⟩;rw[Ud] at fK ia;have hT:=S.afd hrow aB aA bC cL fK ia;exact bM _ _ _ (am.cT (us:=[(aa,.di b5 .u8 xs)]) hT Z (v:=one (.str (strOf xs))) (bD.str _ _ (by simp)))
   ·exact .fail
  ·exact .fail
 ·exact .fail
end
def zR(P:Program)(g ct:FuncId):Prop:=
 ∀(a b:ByteArray) (w:World),Enters P g #[.string a,.string b] w fun v w'=>∃c' et,v=.func (.func ct) #[] #[.pointer (some ⟨w.heap.size+1,0,none⟩),.pointer (some ⟨w.heap.size,0,none⟩),.pointer (some ⟨w.heap.size+2,0,none⟩)]/\
  w'=((w.alloc (.cells #[.string a] c')).alloc (.cells #[.string b] c')).alloc (.cells #[.int .i64 0] et)
def AR(P:Program)(g:FuncId):Prop:=
 ∀(xs:List Int) (v:Value) (w:World) (av:Nat->Prop),bD w av (.sl .u8 xs) v->Enters P g #[v] w fun v' w'=>∃u T,bD w av (.sl .u8 (xs.take 2000)) u/\v'=.pointer (some ⟨w.heap.size,0,none⟩)/\w'=w.alloc (.cells #[u,.int .i64 0] T)
structure a_(P:Program)(C:Ctx):Prop extends CtxOk P C where
 bK:∀g S,C.bK g=some S->aG P g S
 K6:P.follows .mixedOrders=true
 lu:∀g ct,C.lu g=some ct->zR P g ct
 op:∀g,C.op g=true->AR P g
 ke:∀g,C.ke g=true->AS P g
 bs:∀g,C.bs g=true->Bc P g
section
variable {P:Program}{O:World}{Y:List Nat}{X:Nat->Prop}{D:Nat->Value}{st:ah}{M:Array Value}{w:World}{B:Oper}
theorem N5:∀{bz:List (Nat×Nat)} {cs:List (List aZ)} {us:List (Nat×Site)} {bs:List Nat},k5 st bz=some (cs,us,bs)->dI st.sites us/\∀o,o∈bs->cg st.sites o:=by
 intro bz;induction bz with
 |nil=>intro cs us bs h;simp only[k5] at h;cases h;exact⟨.nil,fun o h=>by simp at h⟩
 |cons c bz ih=>
  obtain⟨o,s⟩:=c;intro cs us bs h;simp only[k5] at h;split at h
  ·rename_i cells lY;split at h
   ·rename_i ds u1 rest u2 b2 gA oS;cases h;obtain⟨aB,aA⟩:=ih oS;refine⟨(GQ gA).append aB,fun aa bN=>?_⟩
    rcases List.mem_cons.1 bN with rfl|bN
    ·exact⟨_,gF lY,rfl⟩
    ·exact aA aa bN
   ·cases h
  ·cases h
theorem F0{l gp:aF}{us:List (Nat×Site)}{bs:List Nat}(h:mG st l=some (gp,us,bs)):dI st.sites us/\∀o,o∈bs->cg st.sites o:=by
 unfold mG at h;split at h
 ·cases h;exact⟨.nil,fun o h=>by simp at h⟩
 ·split at h
  ·rename_i hc;cases h;exact N5 hc
  ·cases h
 ·split at h
  ·rename_i Z;cases h;exact⟨Rh Z,fun o h=>by simp at h⟩
  ·cases h
theorem ae2:∀{ad gi:List aF} {us:List (Nat×Site)} {bs:List Nat},lO st ad=some (gi,us,bs)->dI st.sites us/\∀o,o∈bs->cg st.sites o:=by
 intro ad;induction ad with
 |nil=>intro gi us bs h;simp only[lO] at h;cases h;exact⟨.nil,fun o h=>by simp at h⟩
 |cons l ad ih=>
  intro gi us bs h;simp only[lO] at h;split at h
  ·rename_i a u1 b1 as u2 b2 h1 h2;cases h;obtain⟨aB,aA⟩:=F0 h1;obtain⟨bC,cL⟩:=ih h2;refine⟨aB.append bC,fun o bo=>?_⟩
   rcases List.mem_append.1 bo with h|h
   ·exact aA o h
   ·exact cL o h
  ·cases h
theorem acY:∀{cw:List aJ} {a:j5},iZ st cw=some a->dI st.sites a.eM/\∀o,o∈a.fN->cg st.sites o:=by
 intro cw;induction cw with
 |nil=>intro a h;simp only[iZ] at h;cases h;exact⟨.nil,fun o h=>by simp at h⟩
 |cons q' cw ih=>
  intro a h;unfold iZ at h;split at h
  ·cases ‹q'::cw=[]›
  ·rename_i b4;cases b4;split at h
   ·rename_i hr;split at h
    ·cases h;have q:=ih hr;exact q
    ·cases h
   ·cases h
  ·rename_i b4;cases b4;split at h
   ·rename_i h1 hr;cases h;obtain⟨aB,aA⟩:=F0 h1;obtain⟨bC,cL⟩:=ih hr;refine⟨aB.append bC,fun o bo=>?_⟩
    rcases List.mem_append.1 bo with h|h
    ·exact aA o h
    ·exact cL o h
   ·cases h
  ·rename_i b4;cases b4;split at h
   ·rename_i h1 hr;cases h;obtain⟨aB,aA⟩:=ae2 h1;obtain⟨bC,cL⟩:=ih hr;refine⟨aB.append bC,fun o bo=>?_⟩
    rcases List.mem_append.1 bo with h|h
    ·exact aA o h
    ·exact cL o h
   ·cases h
  ·cases h
theorem adj{l gp:aF}{gs us:List (Nat×Site)}{bs:List Nat}(h:oJ st l=some (gp,gs,us,bs)):dI st.sites us/\∀o,o∈bs->cg st.sites o:=by
 unfold oJ at h;split at h
 ·split at h
  ·cases h;exact⟨.nil,fun o h=>by simp at h⟩
  ·cases h
 ·cases h;exact⟨.nil,fun o h=>by simp at h⟩
 ·split at h
  ·rename_i hl;cases h;exact F0 hl
  ·cases h
theorem abd:∀{cw:List aJ} {a:j5},lI st cw=some a->dI st.sites a.eM/\∀o,o∈a.fN->cg st.sites o:=by
 intro cw;induction cw with
 |nil=>intro a h;simp only[lI] at h;cases h;exact⟨.nil,fun o h=>by simp at h⟩
 |cons q' cw ih=>
  intro a h;unfold lI at h;split at h
  ·cases ‹q'::cw=[]›
  ·rename_i b4;cases b4;split at h
   ·rename_i h1 hr;cases h;obtain⟨aB,aA⟩:=adj h1;obtain⟨bC,cL⟩:=ih hr;refine⟨aB.append bC,fun o bo=>?_⟩
    rcases List.mem_append.1 bo with h|h
    ·exact aA o h
    ·exact cL o h
   ·cases h
  ·cases h
theorem abb{b:Bool}{cw:List aJ}{a:j5}(h:rY b st cw=some a):dI st.sites a.eM/\∀o,o∈a.fN->cg st.sites o:=by
 cases b
 ·exact acY h
 ·exact abd h
theorem aiE(S:am O Y X D st M w)(C:Ctx):∀(xs:List Operand) (cV:List TypeId),(gl C st xs cV).length=(xs.map (Act.eval ⟨M,[]⟩)).length/\
  ∀i (h:i<(gl C st xs cV).length) (af:i<(xs.map (Act.eval ⟨M,[]⟩)).length),cc D st.sites w (ay X D st.sites) ((gl C st xs cV)[i]) ((xs.map (Act.eval ⟨M,[]⟩))[i]):=by
 intro xs;induction xs with
 |nil=>intro cV;cases cV<;>exact⟨rfl,fun i h=>by simp[gl] at h⟩
 |cons x xs ih=>
  intro cV;have key:∀(T:TypeId) (KC:List TypeId),gl C st (x::xs) cV=a7 C st T x::gl C st xs KC->(gl C st (x::xs) cV).length=((x::xs).map (Act.eval ⟨M,[]⟩)).length/\
    ∀i (h:i<(gl C st (x::xs) cV).length) (af:i<((x::xs).map (Act.eval ⟨M,[]⟩)).length),cc D st.sites w (ay X D st.sites) ((gl C st (x::xs) cV)[i]) (((x::xs).map (Act.eval ⟨M,[]⟩))[i]):=by
   intro T KC e;obtain⟨aB,aA⟩:=ih KC;refine⟨by rw[e];simp[aB],fun i h af=>?_⟩
   simp only[e];cases i with
   |zero=>exact dB S C T x
   |succ i=>
    simp only[List.getElem_cons_succ,List.map_cons];exact aA i (by simpa[e] using h) (by simpa using af)
  cases cV with
  |nil=>exact key 0 [] rfl
  |cons T cV=>exact key T cV rfl
theorem acd(S:am O Y X D st M w){g ct:FuncId}(eA:zR P g ct){n:Nat}{cw:List aJ}{vs:List Value}(hl:cw.length=vs.length)
  (hv:∀i (h:i<cw.length) (af:i<vs.length),cc D st.sites w (ay X D st.sites) (cw[i]) (vs[i])) (Z:ch st B.dst=true) (dm:(execOp (Act.eval ⟨M,[]⟩) B).run P w=(callFunc g vs.toArray).run P w):
  Holds (si ct n st cw) (cE P O Y X st M w B):=by
 unfold si;split
 ·rename_i s p;refine Holds.fu ?_
  intro K Q bM;match vs,hl,hv,dm with
  |[q8,vb],_,hv,dm=>
  obtain⟨a,ha,fc⟩:=gv (hv 0 (by simp) (by simp))
  obtain⟨b,hb,dR⟩:=gv (hv 1 (by simp) (by simp))
  simp only[List.getElem_cons_zero,List.getElem_cons_succ] at ha hb;subst ha hb;have core:∀v w',(∃c' et,v=.func (.func ct) #[] #[.pointer (some ⟨w.heap.size+1,0,none⟩),.pointer (some ⟨w.heap.size,0,none⟩),.pointer (some ⟨w.heap.size+2,0,none⟩)]/\
    w'=((w.alloc (.cells #[.string a] c')).alloc (.cells #[.string b] c')).alloc (.cells #[.int .i64 0] et))->K ⟨cv M B.dst v,[]⟩ w':=by
   rintro v w' ⟨c',et,rfl,hw⟩;have hsz:w'.heap.size=w.heap.size+3:=by rw[hw];simp
   have hold:∀b,b<w.heap.size->w'.heap[b]? =w.heap[b]? :=fun b hb=>by
    rw[hw];rw[RowKit.Below.heap_alloc _ _ _ (by simp;omega),RowKit.Below.heap_alloc _ _ _ (by simp;omega),RowKit.Below.heap_alloc _ _ _ hb]
   have h0:w'.heap[w.heap.size]? =some (.cells #[.string a] c'):=by
    rw[hw,RowKit.Below.heap_alloc _ _ _ (by simp only[World.size_alloc];omega),RowKit.Below.heap_alloc _ _ _ (by simp only[World.size_alloc];omega)];exact World.alloc_heap_new w _
   have h1:w'.heap[w.heap.size+1]? =some (.cells #[.string b] c'):=by
    rw[hw,RowKit.Below.heap_alloc _ _ _ (by simp only[World.size_alloc];omega)]
    have:=World.alloc_heap_new (w.alloc (.cells #[.string a] c')) (.cells #[.string b] c');rwa[World.size_alloc] at this
   have h2:w'.heap[w.heap.size+2]? =some (.cells #[.int .i64 0] et):=by
    rw[hw];have:=World.alloc_heap_new ((w.alloc (.cells #[.string a] c')).alloc (.cells #[.string b] c')) (.cells #[.int .i64 0] et);rwa[World.size_alloc,World.size_alloc] at this
   have Ke:Fr Y O w':=⟨by rw[hw];exact S.frame.os,by rw[hw];exact S.frame.tape,by rw[hw];exact S.frame.output,by have:=S.frame.size;omega,fun b hb hn=>by
    have:=S.frame.size;rw[hold b (by omega)];exact S.frame.block b hb hn⟩
   have oR:=S.frame.size;have dr:=S.jump (w':=w') (fun b _ hb=>hold b hb) (by omega) Ke
   have mk:∀{D:Nat->Value} {sites:List (Nat×Site)} {av:Nat->Prop} {m k:Nat} {T:TypeId} {x:Value} {d:aZ},D m=.pointer (some ⟨k,0,none⟩)->w'.heap[k]? =some (.cells #[x] T)->bD w' av d x->
     jU D sites w' av m (.box (bn st m) [.d d]):=by
    intro D sites av m k T x d e1 e2 bp;refine⟨k,T,[x],e1,e2,rfl,fun u hu=>?_,(fun h=>by cases h),fun j h af=>?_⟩
    ·rw[List.mem_singleton.1 hu];exact bp.jr
    ·match j,h,af with
     |0,_,_=>exact bp
   obtain⟨LJ,_,_⟩:=dr.vk (X':=fun b=>(X b\/(w.heap.size<=b/\b<w'.heap.size))/\b≠w.heap.size+1) (n:=n) (bV:=.box (bn st n) [.d (.str p)]) (nv:=.pointer (some ⟨w.heap.size+1,0,none⟩)) (fun b h=>h.1)
    (.inl fun ab h=>lA h) (fun b h=>by simp only[bH,Option.some.injEq] at h;subst h;exact⟨.inr ⟨by omega,by omega⟩,fun h=>h.2 rfl,.inr (by omega)⟩) (fun _ e _ _=>mk e h1 (.str _ _ dR))
   obtain⟨LI,_,_⟩:=LJ.vk (X':=fun b=>((X b\/(w.heap.size<=b/\b<w'.heap.size))/\b≠w.heap.size+1)/\b≠w.heap.size) (n:=n+1) (bV:=.box (bn st (n+1)) [.d (.str s)]) (nv:=.pointer (some ⟨w.heap.size,0,none⟩)) (fun b h=>h.1)
    (.inl fun ab h=>by
     have h:look (cl st.sites n _) (n+1)=some ab:=h;rw[cZ,if_neg (by omega)] at h
     exact lA h) (fun b h=>by simp only[bH,Option.some.injEq] at h;subst h;exact⟨⟨.inr ⟨by omega,by omega⟩,by omega⟩,fun h=>h.2 rfl,.inr (by omega)⟩) (fun _ e _ _=>mk e h0 (.str _ _ fc))
   obtain⟨LH,_,_⟩:=LI.vk (X':=X) (n:=n+2) (bV:=.box (bn st (n+2)) [.d (.int .i64 0)]) (nv:=.pointer (some ⟨w.heap.size+2,0,none⟩)) (fun b h=>by have:=S.old b h;exact⟨⟨.inl h,by omega⟩,by omega⟩)
    (.inl fun ab h=>by
     have h:look (cl (cl st.sites n _) (n+1) _) (n+2)=some ab:=h;rw[cZ,if_neg (by omega),cZ,if_neg (by omega)] at h
     exact lA h) (fun b h=>by simp only[bH,Option.some.injEq] at h;subst h;exact⟨⟨⟨.inr ⟨by omega,by omega⟩,by omega⟩,by omega⟩,fun h=>by have:=S.old _ h;omega,.inr (by omega)⟩) (fun _ e _ _=>mk e h2 (.int _ _))
   refine bM _ _ w' (am.cT (us:=[(n,.box (bn st n) [.d (.str p)]),(n+1,.box (bn st (n+1)) [.d (.str s)]),(n+2,.box (bn st (n+2)) [.d (.int .i64 0)])]) LH Z (v:=bZ (.clo ct _)) ?_);refine⟨[.pointer (some ⟨w.heap.size+1,0,none⟩),.pointer (some ⟨w.heap.size,0,none⟩),.pointer (some ⟨w.heap.size+2,0,none⟩)],rfl,rfl,fun i hi j_=>?_⟩
   match i,hi,j_ with
   |0,_,_=>exact⟨.box (bn st n) [.d (.str p)],by simp[bm,cZ],Nat.le_refl _,fun _=>by simp⟩
   |1,_,_=>exact⟨.box (bn st (n+1)) [.d (.str s)],by simp[bm,cZ],Nat.le_refl _,fun _=>by simp⟩
   |2,_,_=>exact⟨.box (bn st (n+2)) [.d (.int .i64 0)],by simp[bm,cZ],Nat.le_refl _,fun _=>by simp⟩
  rcases eA a b w with⟨h1,h2⟩|⟨v,w',h1,h2⟩
  ·unfold Oper.wp;rw[dm,h1,Oper.upon_enter];refine h2.mono fun e w' he=>?_
   cases e with
   |returned v=>
    have:=core v w' he;cases dC:B.dst with
    |none=>rw[dC] at this;simpa[Act.put,cv] using this
    |some t=>rw[dC] at this;simpa[Act.put,cv] using this
   |panicked c=>exact he.elim
   |outgrown=>exact he.elim
  ·exact oE (dm.trans h1) (core v w' h2)
 ·exact .fail
theorem aeS(S:am O Y X D st M w){g:FuncId}(eA:AR P g){n:Nat}{cw:List aJ}{vs:List Value}(hl:cw.length=vs.length)
  (hv:∀i (h:i<cw.length) (af:i<vs.length),cc D st.sites w (ay X D st.sites) (cw[i]) (vs[i])) (Z:ch st B.dst=true) (dm:(execOp (Act.eval ⟨M,[]⟩) B).run P w=(callFunc g vs.toArray).run P w):
  Holds (sE n st cw) (cE P O Y X st M w B):=by
 unfold sE;split
 ·rename_i xs;refine Holds.fu ?_
  intro K Q bM;match vs,hl,hv,dm with
  |[q8],_,hv,dm=>
  have dK:bD w (ay X D st.sites) (.sl .u8 xs) q8:=hv 0 (by simp) (by simp)
  have core:∀v w',(∃u T,bD w (ay X D st.sites) (.sl .u8 (xs.take 2000)) u/\v=.pointer (some ⟨w.heap.size,0,none⟩)/\w'=w.alloc (.cells #[u,.int .i64 0] T))->K ⟨cv M B.dst v,[]⟩ w':=by
   rintro v w' ⟨u,T,hu,rfl,hw⟩;have hsz:w'.heap.size=w.heap.size+1:=by rw[hw];simp
   have hold:∀b,b<w.heap.size->w'.heap[b]? =w.heap[b]? :=fun b hb=>by
    rw[hw,RowKit.Below.heap_alloc _ _ _ hb]
   have h0:w'.heap[w.heap.size]? =some (.cells #[u,.int .i64 0] T):=by rw[hw];exact World.alloc_heap_new w _
   have Ke:Fr Y O w':=⟨by rw[hw];exact S.frame.os,by rw[hw];exact S.frame.tape,by rw[hw];exact S.frame.output,by have:=S.frame.size;omega,fun b hb hn=>by
    have:=S.frame.size;rw[hold b (by omega)];exact S.frame.block b hb hn⟩
   have oR:=S.frame.size;have dr:=S.jump (w':=w') (fun b _ hb=>hold b hb) (by omega) Ke
   have gq:∀b,X b->b<w.heap.size:=S.old;have alW:∀b,ay (fun b=>X b\/(w.heap.size<=b/\b<w'.heap.size)) D st.sites b->b<w'.heap.size:=fun b hb=>dr.lt hb
   have JR:cc D st.sites w' (ay (fun b=>X b\/(w.heap.size<=b/\b<w'.heap.size)) D st.sites) (one (.sl .u8 (xs.take 2000))) u:=by
    have G:h6 D D st.sites st.sites w w' (ay X D st.sites) (ay (fun b=>X b\/(w.heap.size<=b/\b<w'.heap.size)) D st.sites):=
     ⟨fun aa s h=>⟨s,h,Nat.le_refl _,fun _=>rfl⟩,fun b _ dR=>hold b dR,fun b hb dR af=>by
      rcases af with(af|af)|af
      ·exact hb (.inl af)
      ·omega
      ·exact hb (.inr af)⟩
    exact cc.goes (a:=one (.sl .u8 (xs.take 2000))) G (by omega) alW hu
   obtain⟨LJ,auh,aus⟩:=dr.vk (X':=X) (n:=n) (bV:=.box (bn st n) [.d (.sl .u8 (xs.take 2000)),.d (.int .i64 0)]) (nv:=.pointer (some ⟨w.heap.size,0,none⟩)) (fun b h=>.inl h)
    (.inl fun ab h=>lA h) (fun b h=>by simp only[bH,Option.some.injEq] at h;subst h;exact⟨.inr ⟨by omega,by omega⟩,fun h=>by have:=gq _ h;omega,.inr (by omega)⟩) (fun hs e go _=>by
     have JQ:=go JR;refine⟨w.heap.size,T,[u,.int .i64 0],e,h0,rfl,fun x hx=>?_,(fun h=>by cases h),fun j h af=>?_⟩
     ·rcases List.mem_cons.1 hx with rfl|hx
      ·exact bD.jr hu
      ·rw[List.mem_singleton.1 hx];rfl
     ·match j,h,af with
      |0,_,_=>exact JQ
      |1,_,_=>exact bD.int .i64 0)
   refine bM _ _ w' (am.cT (us:=[(n,.box (bn st n) [.d (.sl .u8 (xs.take 2000)),.d (.int .i64 0)])]) LJ Z (v:=bZ (.ptr n (bn st n) 0)) ?_);exact⟨w.heap.size,rfl,.box (bn st n) [.d (.sl .u8 (xs.take 2000)),.d (.int .i64 0)],by simp[bm,cZ],Nat.le_refl _,fun _=>by simp⟩
  rcases eA xs q8 w _ dK with⟨h1,h2⟩|⟨v,w',h1,h2⟩
  ·unfold Oper.wp;rw[dm,h1,Oper.upon_enter];refine h2.mono fun e w' he=>?_
   cases e with
   |returned v=>
    have:=core v w' he;cases dC:B.dst with
    |none=>rw[dC] at this;simpa[Act.put,cv] using this
    |some t=>rw[dC] at this;simpa[Act.put,cv] using this
   |panicked c=>exact he.elim
   |outgrown=>exact he.elim
  ·exact oE (dm.trans h1) (core v w' h2)
 ·exact .fail
theorem Mz(S:am O Y X D st M w){C:Ctx}(H:a_ P C){c:Go.Call}{f:Operand}(aE:B.op=.call c)(hf:c.callee=.value f)(Z:ch st B.dst=true)(d:Nat)(T:TypeId):
  Holds (lG C d st (a7 C st T f) (gl C st c.args.toList c.argTypes.toList)) (cE P O Y X st M w B):=by
 have bu:=dB S C T f;obtain⟨e1,e2⟩:=aiE S C c.args.toList c.argTypes.toList;have run:∀{g:FuncId} {eZ:List Value},Act.eval ⟨M,[]⟩ f=.func (.func g) #[] eZ.toArray->
   (execOp (Act.eval ⟨M,[]⟩) B).run P w=(callFunc g (c.args.toList.map (Act.eval ⟨M,[]⟩)++eZ).toArray).run P w:=by
  intro g eZ hv;have wZ:(#[]++c.args.map (Act.eval ⟨M,[]⟩))++eZ.toArray=(c.args.toList.map (Act.eval ⟨M,[]⟩)++eZ).toArray:=by apply Array.ext';simp
  unfold execOp;simp only[aE,resolve,hf,hv,Deferred.ofValue,Sem.run_bind,Sem.run_pure,Result.andThen_ok,invoke,wZ]
 have go:∀{g:FuncId} {ap:aH} {a:j5} {cs:List (List aZ)} {us:List (Nat×Site)} {bs:List Nat} {eZ:List Value} {gb:Bool},C.bK g=some ap->rY gb st (gl C st c.args.toList c.argTypes.toList)=some a->
   Act.eval ⟨M,[]⟩ f=.func (.func g) #[] eZ.toArray->(dI st.sites us/\∀o,o∈bs->cg st.sites o)->
   (∀{df eU av},fs O Y X D st M w df eU av->(∀p,p∈us->p∈df)->(∀o,o∈bs->o∈eU)->kl w av cs eZ)->
   Holds (oU d st ap {a with as:=a.as++nA cs,eM:=a.eM++us,fN:=a.fN++bs}) (cE P O Y X st M w B):=by
  intro g ap a cs us bs eZ gb hg ha hv hz hcap;obtain⟨fH,z2⟩:=abb ha;have hfz:dI st.sites (a.eM++us):=fH.append hz.1;have Cl:fs O Y X D st M w (a.eM++us) (a.fN++bs) (fun _=>False):=⟨⟨S,hfz⟩,fun b h=>h.elim,fun _ _ _ _ h=>h⟩
  obtain⟨m1,m2,m3,m4⟩:=MQ Cl ha e1 e2 (fun p hp=>List.mem_append.2 (.inl hp)) (fun p hp=>List.mem_append.2 (.inl hp))
  refine afs (a:={a with as:=a.as++nA cs,eM:=a.eM++us,fN:=a.fN++bs}) S (H.bK g ap hg) (vs:=c.args.toList.map (Act.eval ⟨M,[]⟩)++eZ) ⟨hfz,fun o bo=>?_,m2,fun av dY=>?_,?_,m4⟩ Z (run hv)
  ·rcases List.mem_append.1 bo with h|h
   ·exact z2 o h
   ·exact hz.2 o h
  ·obtain⟨n1,_,_,_⟩:=MQ dY ha e1 e2 (fun p hp=>List.mem_append.2 (.inl hp)) (fun p hp=>List.mem_append.2 (.inl hp))
   have n2:=abv (hcap dY (fun p hp=>List.mem_append.2 (.inr hp)) (fun p hp=>List.mem_append.2 (.inr hp)))
   have:=n1.append n2;rwa[List.append_nil] at this
  ·show dN (a.as++nA cs) _=_;rw[L4 m1.length,m3,abx,List.append_nil]
 unfold lG;split
 ·rename_i g bz Kf;rw[Kf] at bu;obtain⟨eZ,h1,h2,h3⟩:=bu;split
  ·rename_i ct kA;split
   ·have hcv:eZ=[]:=List.eq_nil_of_length_eq_zero (by simpa using h2)
    subst hcv;have r:=run h1;rw[List.append_nil] at r;exact acd S (H.lu g ct kA) e1 e2 Z r
   ·exact .fail
  ·cases J2:C.op g with
   |true=>
    simp only[cond_true];split
    ·have hcv:eZ=[]:=List.eq_nil_of_length_eq_zero (by simpa using h2)
     subst hcv;have r:=run h1;rw[List.append_nil] at r;exact aeS S (H.op g J2) e1 e2 Z r
    ·exact .fail
   |false=>
    simp only[cond_false];have RO:bz=[]->(execOp (Act.eval ⟨M,[]⟩) B).run P w=(callFunc g (c.args.toList.map (Act.eval ⟨M,[]⟩)).toArray).run P w:=by
     rintro rfl;have hcv:eZ=[]:=List.eq_nil_of_length_eq_zero (by simpa using h2)
     subst hcv;have r:=run h1;rwa[List.append_nil] at r
    cases XJ:C.ke g with
    |true=>
     simp only[cond_true];split
     ·exact afp S (H.ke g XJ) e1 e2 Z (RO rfl)
     ·exact .fail
    |false=>
     simp only[cond_false];cases ep:C.bs g with
     |true=>
      simp only[cond_true];split
      ·exact aaP S (H.bs g ep) e1 e2 Z (RO rfl)
      ·exact .fail
     |false=>
      simp only[cond_false];split
      ·rename_i ap a cs us bs hg ha hc;exact go hg ha h1 (N5 hc) (fun dY hu hb=>N4 dY hc hu hb h2 h3)
      ·exact .fail
 ·rename_i g bz Kf;rw[Kf] at bu;obtain⟨eZ,h1,_⟩:=kl.RL bu;split
  ·rename_i ap a hg ha;have:=go (us:=[]) (bs:=[]) (cs:=bz) (gb:=false) hg ha h1 ⟨.nil,fun o h=>by simp at h⟩ (fun {df eU av} dY _ _=>by
    obtain⟨at3,aB,aA⟩:=kl.RL (dY.vV (bu:bD w (ay X D st.sites) (.fn g bz) _));rw[h1] at aB;simp only[Value.func.injEq,Fn.func.injEq,true_and] at aB;have e:=congrArg Array.toList aB;simp only at e;rw[e];exact aA)
   simpa only[List.append_nil] using this
  ·exact .fail
 ·exact .fail
theorem afR(S:am O Y X D st M w){C:Ctx}(H:a_ P C)(Z:ch st B.dst=true):Holds (step C st B) (cE P O Y X st M w B):=by
 unfold step;split
 ·rename_i x aE;exact Holds.ok (PX S (.inl aE) Z _)
 ·rename_i x aE;exact Holds.ok (PX S (.inr aE) Z _)
 ·rename_i c a b aE;split
  ·rename_i hc;exact Holds.ok (PQ S aE Z hc)
  ·rename_i hc;exact Holds.ok (PQ S aE Z hc)
  ·exact .fail
 ·rename_i elem aE;split
  ·rename_i o e t n dC be;exact adz S H.toCtxOk be aE Z
  ·rename_i o dC _;split
   ·rename_i z hz;exact Holds.fu (afA S H.toCtxOk aE dC hz Z)
   ·exact .fail
  ·exact .fail
 ·rename_i elem x aE;split
  ·rename_i o e t n dC be;exact ahf S H.toCtxOk be aE Z
  ·rename_i o dC _;split
   ·rename_i a ha;cases dJ:hh a.cells with
    |false=>exact .fail
    |true=>
     have bu:=dB S C elem x;rw[pI ha] at bu;exact Holds.fu (aiK S aE dC bu dJ Z)
   ·exact .fail
  ·exact .fail
 ·rename_i t parts aE;split
  ·rename_i bK n z eq be;exact aft S H.toCtxOk be aE Z
  ·rename_i e ty n be;split
   ·rename_i z hz;exact adw S H.toCtxOk be hz aE Z
   ·exact .fail
  ·exact .fail
 ·rename_i t len parts aE;split
  ·rename_i o e ty bytes dC be;cases hb:(parts.toList.length.beq len&&r3 0 parts.toList&&Nat.ble (len*aT ty) 1000) with
   |false=>exact .fail
   |true=>
    simp only[Bool.and_eq_true] at hb;obtain⟨⟨b1,b2⟩,b3⟩:=hb;simp only[cond_true];split
    ·rename_i as has;split
     ·rename_i xs us j3;exact Holds.fu (Z2 S H.toCtxOk be aE dC Z (Nat.eq_of_beq_eq_true b1) b2 (Nat.le_of_ble_eq_true b3) has j3)
     ·exact .fail
    ·exact .fail
  ·exact .fail
 ·rename_i t a aE;split
  ·rename_i e ty n be;exact aeY S H.toCtxOk be aE Z
  ·cases hk:(C.tt t).known with
   |false=>exact .fail
   |true=>exact agU S H.toCtxOk aE Z hk
 ·rename_i t a x aE;split
  ·rename_i v hv;split
   ·rename_i e ty n be;exact aca S H.toCtxOk be aE Z hv
   ·cases hk:(C.tt t).known with
    |false=>exact .fail
    |true=>exact ad9 S H.toCtxOk aE Z hk hv
  ·exact .fail
 ·rename_i x aE;split
  ·rename_i hx;exact Holds.ok (C7 S aE Z hx fun vv h=>by obtain⟨b,h,_⟩:=h;exact⟨_,h⟩)
  ·rename_i hx;exact Holds.ok (C7 S aE Z hx fun vv h=>by obtain⟨b,B,h,_⟩:=h;exact⟨_,h⟩)
  ·rename_i hx;exact Holds.ok (C7 S aE Z hx fun vv h=>by obtain⟨b,h,_⟩:=h;exact⟨_,h⟩)
  ·exact .fail
 ·rename_i op t x y mZ aE;cases hn:Ap y with
  |true=>exact adn S H.toCtxOk aE Z hn
  |false=>exact ahi S H.toCtxOk aE Z
 ·rename_i op t x aE;split
  ·rename_i b hx;exact Holds.ok (_N S aE Z hx)
  ·rename_i k n hx;exact Holds.ok (_O S aE Z hx)
  ·rename_i k n hx;exact Holds.ok (_M (T:=B.type) S aE Z hx)
  ·exact .fail
 ·rename_i src dst x aE;split
  ·rename_i o dC;exact afq S H.toCtxOk aE dC Z
  ·exact .fail
 ·rename_i fn first captured aE
  split
  ·rename_i g;cases hf:first.toList.isEmpty with
   |false=>exact .fail
   |true=>
    simp only[cond_true];split
    ·rename_i bz hc;exact Holds.ok (_' S aE Z hf hc)
    ·exact .fail
  ·exact .fail
 ·rename_i t l c aE;split
  ·rename_i o e ty bytes wS n wT m dC be hl hc;split
   ·rename_i z hz;split
    ·rename_i ds us gA;split
     ·rename_i eQ mQ;exact Holds.hH fun r hr=>_n S H.toCtxOk be aE dC Z hl hc hz gA mQ r hr
     ·exact .fail
    ·exact .fail
   ·exact .fail
  ·exact .fail
 ·rename_i t x cQ hi CF aE;split
  ·split
   ·rename_i e ty n be;exact acf S H.toCtxOk be aE Z
   ·exact aee S H.toCtxOk aE Z
  ·exact .fail
 ·rename_i s x f aE;split
  ·rename_i bK n z eq be;split
   ·rename_i off K3 hf;exact _z S H.toCtxOk be aE Z hf
   ·exact .fail
  ·exact .fail
 ·rename_i t x i aE;split
  ·rename_i e ty bytes k n be hi;exact _v S H.toCtxOk be hi aE Z
  ·rename_i e ty m k n be hi;exact ZY S H.toCtxOk be hi aE Z
  ·exact .fail
 ·rename_i t x i aE;split
  ·rename_i s k n be hx hi;exact ae7 S H.toCtxOk aE Z be hx hi
  ·rename_i e ty m k n be hi;exact adf S H.toCtxOk be hi aE Z
  ·exact .fail
 ·rename_i t i aE;split
  ·rename_i as hx;split
   ·rename_i a ha;exact Holds.ok (abl S aE Z hx ha)
   ·exact .fail
  ·exact .fail
 ·rename_i c aE;split
  ·rename_i f hf;split
   ·exact Mz S H aE hf Z _ _
   ·exact Mz S H aE hf Z _ _
  ·rename_i b hb;obtain⟨callee,args,argTypes⟩:=c;simp only at hb aE ⊢;subst hb;split
   ·rename_i x t nJ Iw;have e1:args=#[x]:=Array.ext' nJ;have e2:argTypes=#[t]:=Array.ext' Iw;subst e1 e2;exact air S H.toCtxOk aE Z
   ·rename_i o s x t u dC nJ Iw;have e1:args=#[s,x]:=Array.ext' nJ;have e2:argTypes=#[t,u]:=Array.ext' Iw;subst e1 e2;split
    ·rename_i be gC;exact ady S H.toCtxOk be gC aE dC Z
    ·rename_i be gC;exact abB S H.toCtxOk be gC aE dC Z
    ·exact .fail
   ·rename_i x y nJ;have e1:args=#[x,y]:=Array.ext' nJ;subst e1;split
    ·rename_i hx hy;exact Holds.ok (NL (sK:=true) S aE Z hx hy)
    ·exact .fail
   ·rename_i x y z u v nJ;have e1:args=#[x,y,z,u,v]:=Array.ext' nJ;subst e1;split
    ·rename_i hx hy hz hu hv;exact Holds.ok (agS S aE Z hx hy hz hu hv)
    ·exact .fail
   ·rename_i x y nJ;have e1:args=#[x,y]:=Array.ext' nJ;subst e1;split
    ·rename_i hx hy;exact Holds.ok (NL (sK:=false) S aE Z hx hy)
    ·exact .fail
   ·exact .fail
  ·exact .fail
 ·exact abe S H.toCtxOk Z
end
section
variable {st al:ah}
theorem mn{o:Nat}(h:st.ab o=al.ab o)(s:Nat):rowOf st o s=rowOf al o s:=by unfold rowOf;rw[h]
theorem tZ{o:Nat}(h:st.ab o=al.ab o)(s:Nat):fD st o s=fD al o s:=by unfold fD;rw[h]
theorem mm{o:Nat}(h:st.ab o=al.ab o):bn st o=bn al o:=by unfold bn;rw[h]
abbrev cA(st al:ah)(N:List Nat):Prop:=∀o,o∈N->st.ab o=al.ab o
theorem cA.left{N e5:List Nat}(h:cA st al (N++e5)):cA st al N:=fun o bo=>h o (List.mem_append.2 (.inl bo))
theorem cA.right{N e5:List Nat}(h:cA st al (N++e5)):cA st al e5:=fun o bo=>h o (List.mem_append.2 (.inr bo))
theorem cA.head{n:Nat}{e5:List Nat}(h:cA st al (n::e5)):st.ab n=al.ab n:=h n List.mem_cons_self
theorem cA.tail{n:Nat}{e5:List Nat}(h:cA st al (n::e5)):cA st al e5:=fun o bo=>h o (List.mem_cons_of_mem _ bo)
theorem rL{N:List Nat}(h:cA st al (eS st N)):cA st al N:=by
 induction N with
 |nil=>intro o bo;cases bo
 |cons n N ih=>
  intro o bo;rcases List.mem_cons.1 bo with rfl|bo
  ·exact h.head
  ·exact ih h.tail.right o bo
theorem O1{N:List Nat}(h:cA st al (eS st N)){o:Nat}(bo:o∈N):cA st al (xC st o):=by
 induction N with
 |nil=>cases bo
 |cons n N ih=>
  rcases List.mem_cons.1 bo with rfl|bo
  ·exact h.tail.left
  ·exact ih h.tail.right bo
theorem D9{N e5:List Nat}:eS st (N++e5)=eS st N++eS st e5:=by
 induction N with
 |nil=>rfl
 |cons n N ih=>simp[eS,ih]
theorem N3{l:aF}(h:cA st al l.names):jJ st l=jJ al l:=by
 cases l<;>try rfl
 case own o s=>simp only[jJ,l0];rw[mn (h.head) s,h.head]
 case clo g bz=>cases bz<;>rfl
theorem xr{ad:List aF}(h:cA st al (dD ad)):fR st ad=fR al ad:=by
 induction ad with
 |nil=>rfl
 |cons l ad ih=>
  simp only[dD] at h;simp only[fR,N3 h.left,ih h.right]
theorem Da{o s:Nat}{cells:List aF}(h:fD st o s=some cells):xC st o=dD cells:=by
 unfold fD at h;cases hs:st.ab o with
 |none=>rw[hs] at h;cases h
 |some x=>
  rw[hs] at h;cases x with
  |box aC cs=>
   have h:(bif aC.beq s then some cs else none)=some cells:=h
   unfold xC;rw[hs];cases hb:aC.beq s with
   |true=>simp only[hb,cond_true,Option.some.injEq] at h;subst h;rfl
   |false=>simp[hb] at h
  |row _ _ _=>cases h
  |di _ _ _=>cases h
  |map _ _ _=>cases h
  |dead _=>cases h
theorem aaa{agg:Bool}{n:Nat}{a:aJ}(h:cA st al a.names):sH agg n st a=sH agg n al a:=by
 unfold sH;split
 ·rename_i o s off;rw[tZ (show st.ab o=al.ab o from h o (by simp[aJ.names,bL.cells,dD,aF.names]))]
 ·rfl
 ·rename_i o s u k off;rw[mn (show st.ab o=al.ab o from h o (by simp[aJ.names,bL.cells,dD,aF.names]))]
 ·rfl
theorem _c{n:Nat}{a:aJ}{v:bL}(h:cA st al a.names)(hv:cA st al (dD v.cells)):sg n st a v=sg n al a v:=by
 unfold sg;congr 1
 split
 ·rename_i o s off;rw[tZ (show st.ab o=al.ab o from h o (by simp[aJ.names,bL.cells,dD,aF.names]))]
 ·rename_i o s u k off;rw[show st.ab o=al.ab o from h o (by simp[aJ.names,bL.cells,dD,aF.names]),xr hv]
 ·rfl
theorem Zu{u:a6}{x:aJ}{i:Int}(h:cA st al x.names):rB u st x i=rB u al x i:=by
 unfold rB;split
 ·rfl
 ·rename_i o s;rw[mn (show st.ab o=al.ab o from h o (by simp[aJ.names,bL.cells,dD,aF.names]))]
 ·rfl
theorem _f{ti:b_}{x:aJ}{cQ hi:Option aJ}(h:cA st al x.names):sj ti st x cQ hi=sj ti al x cQ hi:=by
 unfold sj;split
 ·rfl
 ·rfl
 ·rfl
 ·rename_i o s;simp only[l0];rw[mn (show st.ab o=al.ab o from h o (by simp[aJ.names,bL.cells,dD,aF.names])),show st.ab o=al.ab o from h o (by simp[aJ.names,bL.cells,dD,aF.names])]
 ·rfl
theorem Mp{l:aF}(h:cA st al l.names):mapOf st l=mapOf al l:=by
 cases l<;>try rfl
 case own o s=>simp only[mapOf];rw[h.head]
 case d v=>cases v<;>rfl
theorem abg{ti:b_}{x:aJ}(h:cA st al x.names):sX ti st x=sX ti al x:=by
 unfold sX;split<;>try rfl
 rotate_left
 ·rename_i l;rw[Mp (l:=l) (fun o bo=>h o (by simp[aJ.names,bL.cells,dD,bo]))]
 rename_i o s;rw[mn (show st.ab o=al.ab o from h o (by simp[aJ.names,bL.cells,dD,aF.names]))]
theorem _S{x:aJ}(h:cA st al x.names):sB st x=sB al x:=by
 unfold sB;split<;>try rfl
 rename_i o s;rw[mn (show st.ab o=al.ab o from h o (by simp[aJ.names,bL.cells,dD,aF.names]))]
theorem Zo{o dst s:Nat}(Z:st.ab dst=al.ab dst):bn (st.ib o (.dead s)) dst=bn (al.ib o (.dead s)) dst:=by
 apply mm;rw[ah.w9,ah.w9,Z]
theorem LR{bytes:Nat}{t:a6}{dst:Nat}{s:aJ}{bd:List (den t)}(h:cA st al s.names)(Z:st.ab dst=al.ab dst):qb bytes t dst st s bd=qb bytes t dst al s bd:=by
 unfold qb;split
 ·simp only[mm Z]
 ·rename_i o s;simp only[show st.ab o=al.ab o from h o (by simp[aJ.names,bL.cells,dD,aF.names]),Zo Z]
 ·rfl
theorem Z3{bytes:Nat}{t:a6}{dst:Nat}{s x:aJ}(h:cA st al s.names)(hx:cA st al x.names)(Z:st.ab dst=al.ab dst):se bytes t dst st s x=se bytes t dst al s x:=by
 unfold se;rw[_S hx];split
 ·rfl
 ·split
  ·split
   ·exact LR h Z
   ·rfl
  ·rfl
theorem Z4{bytes:Nat}{t:a6}{dst:Nat}{s x:aJ}(h:cA st al s.names)(Z:st.ab dst=al.ab dst):sf bytes t dst st s x=sf bytes t dst al s x:=by
 unfold sf;split
 ·split
  ·exact LR h Z
  ·rfl
 ·rfl
theorem MP{o:Nat}{t:a6}{n:Nat}{xs:List (den t)}(Z:st.ab o=al.ab o):qs o st t n xs=qs o al t n xs:=by
 unfold qs;rw[mm Z]
theorem _C{o:Nat}{t:a6}{n:Nat}(Z:st.ab o=al.ab o):sy o st t n=sy o al t n:=by
 unfold sy;split<;>first|exact MP Z|rfl
theorem aby{o:Nat}{t:a6}{n:Nat}{v:aJ}(Z:st.ab o=al.ab o):s8 o st t n v=s8 o al t n v:=by
 unfold s8;split
 ·split<;>first|exact MP Z|rfl
 ·rfl
theorem aab{t:a6}{n:Nat}{a:aJ}(h:cA st al a.names):sI st t n a=sI al t n a:=by
 unfold sI;split
 ·rename_i o s u;rw[mn (show st.ab o=al.ab o from h o (by simp[aJ.names,bL.cells,dD,aF.names]))]
 ·rfl
theorem _d{t:a6}{n:Nat}{a:aJ}{v:bL}(h:cA st al a.names):sh st t n a v=sh al t n a v:=by
 unfold sh;split
 ·rename_i o s u ad;rw[show st.ab o=al.ab o from h o (by simp[aJ.names,bL.cells,dD,aF.names])]
 ·rfl
theorem Zv{C:Ctx}{t:a6}{n:Nat}{x:aJ}{i:Int}(h:cA st al x.names):rC C st t n x i=rC C al t n x i:=by
 unfold rC;split
 ·rename_i o s u;rw[mn (show st.ab o=al.ab o from h o (by simp[aJ.names,bL.cells,dD,aF.names]))]
 ·rfl
 ·rfl
theorem _g{t:a6}{n:Nat}{x:aJ}{cQ hi:Option aJ}(h:cA st al x.names):sk st t n x cQ hi=sk al t n x cQ hi:=by
 unfold sk;split
 ·rename_i o s u;simp only[l0];rw[mn (show st.ab o=al.ab o from h o (by simp[aJ.names,bL.cells,dD,aF.names])),show st.ab o=al.ab o from h o (by simp[aJ.names,bL.cells,dD,aF.names])]
 ·rfl
theorem abt{t:a6}{as:List bL}(h:cA st al (rT as)):ll t st as=ll t al as:=by
 induction as with
 |nil=>rfl
 |cons a as ih=>
  simp only[rT] at h;simp only[ll,xr h.left,ih h.right]
theorem aao{C:Ctx}{src dst:TypeId}{o:Nat}{x:aJ}(h:cA st al x.names)(Z:st.ab o=al.ab o):sP C src dst o st x=sP C src dst o al x:=by
 unfold sP;split<;>try rfl
 ·rename_i aa s _ _;rw[mn (show st.ab aa=al.ab aa from h aa (by simp[aJ.names,bL.cells,dD,aF.names]))]
 ·rw[mm Z]
theorem L3{bz:List (Nat×Nat)}(h:cA st al (eS st (keys bz))):k5 st bz=k5 al bz:=by
 induction bz with
 |nil=>rfl
 |cons p bz ih=>
  obtain⟨o,s⟩:=p;simp only[keys,eS] at h;simp only[k5];rw[<-tZ h.head,<-ih h.tail.right];cases hb:fD st o s with
  |none=>rfl
  |some cells=>
   have:=h.tail.left;rw[Da hb] at this;simp only[xr this]
theorem Df{l:aF}(h:cA st al (eS st l.names)):mG st l=mG al l:=by
 have Z:=N3 (rL h);unfold mG;split
 ·rfl
 ·rename_i g c cs;simp only[aF.names] at h;rw[L3 h]
 ·rw[Z]
theorem aad{ad:List aF}(h:cA st al (eS st (dD ad))):lO st ad=lO al ad:=by
 induction ad with
 |nil=>rfl
 |cons l ad ih=>
  simp only[dD,D9] at h;simp only[lO,Df h.left,ih h.right]
theorem Mu{l:aF}(h:cA st al l.names):nK st l=nK al l:=by
 unfold nK;split<;>try rfl
 rename_i o s;rw[show st.ab o=al.ab o from h.head]
theorem abk{ad:List aF}(h:cA st al (dD ad)):ku st ad=ku al ad:=by
 induction ad with
 |nil=>rfl
 |cons l ad ih=>
  simp only[dD] at h;simp only[ku,Mu h.left,ih h.right]
def gG:List aJ->List Nat
 |[]=>[]
 |v::vs=>v.names++gG vs
theorem LZ{vs:List aJ}(h:cA st al (eS st (gG vs))):iZ st vs=iZ al vs:=by
 induction vs with
 |nil=>rfl
 |cons v vs ih=>
  simp only[gG,D9] at h;have ih:=ih h.right;have h:=h.left;cases v with
  |jD as=>rfl
  |av a=>
   cases a with
   |agg ad=>
    simp only[iZ];rw[aad (by simpa[aJ.names,bL.cells] using h),ih]
   |ak l=>
    have hl:cA st al (eS st l.names):=by simpa[aJ.names,bL.cells,dD] using h
    unfold iZ;split
    ·rfl
    ·rename_i o s aoU b4;cases b4;have hl:cA st al (eS st [o]):=by simpa[aJ.names,bL.cells,dD,aF.names] using h
     simp only[eS] at hl;rw[<-tZ hl.head,<-ih];cases hb:fD st o s with
     |none=>rfl
     |some cells=>
      have:=hl.tail.left;rw[Da hb] at this;cases iZ st vs with
      |none=>rfl
      |some r=>simp only[abk this]
    ·rename_i gp aoU _ b4;cases b4;rw[Df hl,ih]
    ·rename_i b4;cases b4
    ·rfl
theorem _y{l:aF}(h:cA st al (eS st l.names)):oJ st l=oJ al l:=by
 unfold oJ;split
 ·rw[Mu (rL h)]
 ·rfl
 ·rw[Df h]
theorem ZV{vs:List aJ}(h:cA st al (eS st (gG vs))):lI st vs=lI al vs:=by
 induction vs with
 |nil=>rfl
 |cons v vs ih=>
  simp only[gG,D9] at h;have ih:=ih h.right;have h:=h.left;cases v with
  |jD as=>rfl
  |av a=>
   cases a with
   |agg ad=>rfl
   |ak l=>
    have hl:cA st al (eS st l.names):=by simpa[aJ.names,bL.cells,dD] using h
    simp only[lI,_y hl,ih]
theorem ZU{b:Bool}{vs:List aJ}(h:cA st al (eS st (gG vs))):rY b st vs=rY b al vs:=by
 cases b
 ·exact LZ h
 ·exact ZV h
theorem tY(hb:∀o,1000000<=o->st.ab o=al.ab o){o:Nat}(h:1000000<=o):bn st o=bn al o:=mm (hb o h)
theorem Dc(hb:∀o,1000000<=o->st.ab o=al.ab o):∀{ad:List aF} {n:Nat},1000000<=n->take st n ad=take al n ad:=by
 intro ad;induction ad with
 |nil=>intro n _;rfl
 |cons l ad ih=>
  intro n hn;cases l<;>simp only[take,ih (show 1000000<=n+1 by omega),tY hb hn]
theorem _Q(hb:∀o,1000000<=o->st.ab o=al.ab o):∀{as:List bL} {n:Nat},1000000<=n->dT st n as=dT al n as:=by
 intro as;induction as with
 |nil=>intro n _;rfl
 |cons a as ih=>
  intro n hn;cases a with
  |ak l=>simp only[dT];rw[Dc hb hn,ih (show 1000000<=n+100 by omega)]
  |agg ad=>simp only[dT];rw[Dc hb hn,ih (show 1000000<=n+100 by omega)]
theorem _P(hb:∀o,1000000<=o->st.ab o=al.ab o):∀{bs:List (Nat×Nat)} {cK:List (List aF)},gN st bs cK=gN al bs cK:=by
 intro bs;induction bs with
 |nil=>intro cK;cases cK<;>rfl
 |cons p bs ih=>
  obtain⟨o,s⟩:=p;intro cK;cases cK with
  |nil=>rfl
  |cons cs cK=>simp only[gN];rw[Dc hb (by omega),ih]
theorem My(hb:∀o,1000000<=o->st.ab o=al.ab o){dst:Nat}{S:aH}{a:j5}:oU dst st S a=oU dst al S a:=by
 unfold oU;simp only[_P hb,_Q hb (show 1000000<=2000000+dst*10000 by omega)]
theorem _e{g:FuncId}{n:Nat}{vs:List aJ}(hb:∀o,1000000<=o->st.ab o=al.ab o)(hn:1000000<=n):si g n st vs=si g n al vs:=by
 unfold si;rw[tY hb hn,tY hb (show 1000000<=n+1 by omega),tY hb (show 1000000<=n+2 by omega)]
theorem _5{n:Nat}{vs:List aJ}(hb:∀o,1000000<=o->st.ab o=al.ab o)(hn:1000000<=n):sE n st vs=sE n al vs:=by
 unfold sE;rw[tY hb hn]
theorem aan{vs:List aJ}(h:cA st al (eS st (gG vs))):copyV st vs=copyV al vs:=by
 unfold copyV;split
 ·rename_i o s;rw[show st.ab o=al.ab o from rL h o (by simp[gG,aJ.names,bL.cells,dD,aF.names])]
 ·rfl
theorem ZR{vs:List aJ}(h:cA st al (eS st (gG vs))):rW st vs=rW al vs:=by
 unfold rW;split
 ·rename_i o s;have h0:o∈gG [aJ.av (.ak (.ptr o s 0))]:=by simp[gG,aJ.names,bL.cells,dD,aF.names]
  rw[<-tZ (rL h o h0)];split
  ·rfl
  ·rename_i Y0 aa u hb;have:=O1 h h0;rw[Da hb] at this;rw[show st.ab aa=al.ab aa from this aa (by simp[dD,aF.names])]
  ·rfl
 ·rfl
theorem LP{C:Ctx}(hb:∀o,1000000<=o->st.ab o=al.ab o){dst:Nat}{f:aJ}{vs:List aJ}(hf:cA st al (eS st f.names))(h:cA st al (eS st (gG vs))):lG C dst st f vs=lG C dst al f vs:=by
 unfold lG;split
 ·rename_i g bz;have:cA st al (eS st (keys bz)):=by simpa[aJ.names,bL.cells,dD,aF.names] using hf
  simp only[ZU h,L3 this,My hb,_e hb (show 1000000<=3000000+dst*10 by omega),_5 hb (show 1000000<=4000000+dst by omega),aan h,ZR h]
 ·simp only[LZ h,My hb]
 ·rfl
theorem afg{C:Ctx}{x:Operand}{T:TypeId}(h:∀t,x=.tmp t->st.get t=al.get t):a7 C st T x=a7 C al T x:=by
 cases x with
 |tmp t=>exact h t rfl
 |_=>rfl
theorem Z1{ti:b_}{v:Value}:(uL ti v).names=[]:=by
 unfold uL;split<;>try rfl
 all_goals(split<;>rfl)
theorem yx{C:Ctx}{x:Operand}{T:TypeId}:∀{xs:List Operand},x∈xs->∀o,o∈(a7 C st T x).names->o∈nu st xs:=by
 intro xs;induction xs with
 |nil=>intro h;cases h
 |cons y xs ih=>
  intro h o bo;rcases List.mem_cons.1 h with rfl|h
  ·cases x with
   |tmp t=>simp only[nu];exact List.mem_append.2 (.inl bo)
   |const v=>simp only[a7,Z1] at bo;cases bo
   |global g=>simp[a7,aJ.names,bL.cells,dD,aF.names,bZ] at bo
   |func g=>simp[a7,aJ.names,bL.cells,dD,aF.names,bZ,keys] at bo
  ·have:=ih h o bo;cases y<;>simp only[nu]<;>first|exact List.mem_append.2 (.inr this)|exact this
theorem _6{t:Nat}:∀{xs:List Operand},.tmp t∈xs->t∈oy xs:=by
 intro xs;induction xs with
 |nil=>intro h;cases h
 |cons y xs ih=>
  intro h;rcases List.mem_cons.1 h with h|h
  ·subst h;simp only[oy];exact List.mem_cons_self
  ·have:=ih h;cases y<;>simp only[oy]<;>first|exact List.mem_cons_of_mem _ this|exact this
theorem MZ{v:aJ}{a:bL}(h:l1 v=some a):dD a.cells=v.names:=by
 cases v with
 |av b=>simp only[l1,Option.some.injEq] at h;subst h;rfl
 |jD _=>cases h
theorem aar{vs:List aJ}:∀{as:List bL},nM vs=some as->∀o,o∈rT as->o∈gG vs:=by
 induction vs with
 |nil=>intro as h;simp only[nM,Option.some.injEq] at h;subst h;intro o bo;cases bo
 |cons v vs ih=>
  intro as h o bo;simp only[nM] at h;split at h
  ·rename_i a ob h1 h2;simp only[Option.some.injEq] at h;subst h;simp only[rT,List.mem_append] at bo;simp only[gG,List.mem_append];rcases bo with bo|bo
   ·exact .inl (by rw[MZ h1] at bo;exact bo)
   ·exact .inr (ih h2 o bo)
  ·cases h
end
theorem aaQ{C:Ctx}{st al:ah}{B:Oper}(hs:∀t,t∈oy (k8 B.op)->st.get t=al.get t)(hn:cA st al (HZ C st B))(hb:Aq B.op=true->∀o,1000000<=o->st.ab o=al.ab o):
  step C st B=step C al B:=by
 have he:∀x,x∈k8 B.op->∀T,a7 C st T x=a7 C al T x:=fun x hx T=>afg fun t aq=>hs t (_6 (aq▸hx))
 have Uq:looks B.op=true->cA st al (eS st (nu st (k8 B.op))):=fun h=>by have:=hn.left.left;rw[h] at this;exact this
 have Uh:looks B.op=true->∀x,x∈k8 B.op->∀T,cA st al (a7 C st T x).names:=fun hl x hx T o bo=>rL (Uq hl) o (yx hx o bo)
 have Rc:looks B.op=true->∀N:List Nat,(∀o,o∈N->o∈nu st (k8 B.op))->cA st al (eS st N):=by
  intro hl N;have XH:=Uq hl;induction N with
  |nil=>intro _ o bo;cases bo
  |cons n N ih=>
   intro h o bo;simp only[eS,List.mem_cons,List.mem_append] at bo;rcases bo with rfl|bo|bo
   ·exact rL XH o (h o List.mem_cons_self)
   ·exact O1 XH (h n List.mem_cons_self) o bo
   ·exact ih (fun aa bN=>h aa (List.mem_cons_of_mem _ bN)) o bo
 have Z:∀d,B.dst=some d->st.ab d=al.ab d:=fun d h=>hn.left.right d (by simp[h])
 have hz:cA st al (HO C B.op):=hn.right;obtain⟨dst,op,type,pos,after,guard⟩:=B;simp only at he Uh Rc Z hb hz;cases op<;>(try have gW:=Uh rfl)<;>(try have HX:=Rc rfl)<;>(try simp only[k8,List.mem_cons,List.not_mem_nil,or_false,forall_eq_or_imp,forall_eq] at he)<;>
  (try simp only[k8,List.mem_cons,List.not_mem_nil,or_false,forall_eq_or_imp,forall_eq] at gW)<;>simp only[step]<;>try rfl
 case move x=>rw[he]
 case assign x=>rw[he]
 case makeMap t r=>
  simp only[k3];cases dst with
  |none=>rfl
  |some o=>
   have e:=mm (Z o rfl);cases C.tt t<;>try rfl
   cases r with
   |none=>simp only[e]
   |some x=>simp only[he x (by simp[k8]),e]
 case lookup t m k c=>
  simp only[k3];rw[he.1,he.2];have h1:=gW.1 t;rw[he.1] at h1;generalize a7 C al t m=YQ at h1 ⊢;split
  ·rename_i l n _ _;rw[Mp (l:=l) (fun o bo=>h1 o (by simp[aJ.names,bL.cells,dD,bo]))]
  ·rfl
 case mapUpdate t m k x=>
  simp only[k3,k3.sq];rw[he.1,he.2.1,he.2.2];have h1:=gW.1 t;rw[he.1] at h1;generalize a7 C al t m=YQ at h1 ⊢;split
  ·rename_i o s n d _ _ _;rw[show st.ab o=al.ab o from h1 o (by simp[aJ.names,bL.cells,dD,aF.names])]
  ·rfl
 case insert t m k x=>
  simp only[k3,k3.sq];rw[he.1,he.2.1,he.2.2];have h1:=gW.1 t;rw[he.1] at h1;generalize a7 C al t m=YQ at h1 ⊢;split
  ·rename_i o s n d _ _ _;rw[show st.ab o=al.ab o from h1 o (by simp[aJ.names,bL.cells,dD,aF.names])]
  ·rfl
 case pick c a b=>rw[he.1,he.2.1,he.2.2]
 case alloc elem=>
  cases dst with
  |none=>rfl
  |some o=>
   have e:=mm (Z o rfl);cases be:C.tt elem with
   |arr _ t n=>exact _C (Z o rfl)
   |_=>simp only[e]
 case box elem x=>
  rw[he];cases dst with
  |none=>rfl
  |some o=>
   have e:=mm (Z o rfl);cases be:C.tt elem with
   |arr _ t n=>exact aby (Z o rfl)
   |_=>simp only[e]
 case build t ps=>
  have go:∀(bK:List (Nat×Nat)) (r:List (Nat×Operand)) (z:List aF),(∀x,x∈r.map (·.2)->∀T,a7 C st T x=a7 C al T x)->step.mz C st bK z r=step.mz C al bK z r:=by
    intro bK r;induction r with
    |nil=>intro z _;rfl
    |cons p r ih=>
     obtain⟨i,x⟩:=p;intro z h;simp only[step.mz];rw[h x (by simp)]
     split
     ·rw[ih _ fun x hx=>h x (by simp only[List.map_cons,List.mem_cons];exact .inr hx)]
     ·rfl
  split
  ·exact go _ _ _ he
  ·split
   ·exact go _ _ _ he
   ·rfl
  ·rfl
 case buildSlice t len ps=>
  cases dst with
  |none=>rfl
  |some o=>
   cases h2:C.tt t<;>try rfl
   rename_i e ty bytes;simp only;have h1:some o=some o:=rfl;have em:(ps.toList.map fun p=>a7 C st e p.2)=ps.toList.map fun p=>a7 C al e p.2:=by
    apply List.map_congr_left;intro p hp;exact he _ (List.mem_map.2 ⟨p,hp,rfl⟩) e
   have kC:cA st al (gG (ps.toList.map fun p=>a7 C st e p.2)):=by
    have:∀l:List (Nat×Operand),(∀p,p∈l->p∈ps.toList)->cA st al (gG (l.map fun p=>a7 C st e p.2)):=by
     intro l;induction l with
     |nil=>intro _ o bo;cases bo
     |cons p l ih=>
      intro h o bo;simp only[List.map_cons,gG,List.mem_append] at bo;rcases bo with bo|bo
      ·exact gW _ (List.mem_map.2 ⟨p,h p List.mem_cons_self,rfl⟩) e o bo
      ·exact ih (fun q ar=>h q (List.mem_cons_of_mem _ ar)) o bo
    exact this _ fun _ h=>h
   rw[<-em,mm (Z o h1)];congr 1
   split
   ·rename_i as has;rw[abt fun aa bN=>kC aa (aar has aa bN)]
   ·rfl
 case load t a=>
  rw[<-he];split
  ·exact aab (gW _)
  ·rw[aaa (gW _)]
 case store t a x=>
  rw[<-he.1,<-he.2];split
  ·rename_i v hv;split
   ·exact _d (gW.1 _)
   ·rw[_c (gW.1 _) (by rw[MZ hv];exact gW.2 _)]
  ·rfl
 case nilCheck x=>rw[he]
 case makeInterface t x=>simp only[k3];rw[he]
 case binOp op t x y ty=>rw[he.1,he.2]
 case unOp op t x=>rw[he]
 case convert src auM x=>
  cases dst with
  |none=>rfl
  |some o=>simp only;rw[<-he,aao (gW _) (Z o rfl)]
 case makeFunc fn first captured=>
  split
  ·rename_i g;have go:∀(r:List Operand),(∀x,x∈r->∀T,a7 C st T x=a7 C al T x)->step.nL C st r=step.nL C al r:=by
    intro r;induction r with
    |nil=>intro _;rfl
    |cons x r ih=>
     intro h;simp only[step.nL];rw[h x (by simp),ih fun x hx=>h x (List.mem_cons_of_mem _ hx)]
   rw[go _ he]
  ·rfl
 case makeSlice t l c=>
  rw[<-he.1,<-he.2];cases dst with
  |none=>rfl
  |some o=>
   cases h2:C.tt t<;>try rfl
   rename_i e ty bytes;simp only[HO,h2] at hz;have e1:=mm (Z o rfl);have e2:∀z,(C.tt e).zero=some z->fR st z=fR al z:=fun z hzz=>by
    simp only[hzz] at hz;exact xr hz
   generalize a7 C st 0 l=dX;generalize a7 C st 0 c=fI;have c_:∀n m aB aA,dX=.av (.ak (.d (.int aB n)))->fI=.av (.ak (.d (.int aA m)))->
     (match(C.tt e).zero with
      |some z=>match fR st z with
       |some (ds,_)=>match dec ty ds with
        |some eQ=>de.hH (jE bytes n m eQ) (fun _=>bZ (.own o (bn st o))) fun r=>[(o,.row (bn st o) ty r)]
        |none=>.fail
       |none=>.fail
      |none=>.fail)=(match(C.tt e).zero with
      |some z=>match fR al z with
       |some (ds,_)=>match dec ty ds with
        |some eQ=>de.hH (jE bytes n m eQ) (fun _=>bZ (.own o (bn al o))) fun r=>[(o,.row (bn al o) ty r)]
        |none=>.fail
       |none=>.fail
      |none=>.fail):=by
    intro n m aB aA _ _;cases hzz:(C.tt e).zero with
    |none=>rfl
    |some z=>simp only[e2 z hzz,e1]
   rcases dX with(ee|_)|_<;>try rfl
   cases ee<;>try rfl
   rename_i d1;cases d1<;>try rfl
   rcases fI with(gB|_)|_<;>try rfl
   cases gB<;>try rfl
   rename_i d2;cases d2<;>try rfl
   exact c_ _ _ _ _ rfl rfl
 case slice t x cQ hi CF=>
  cases CF with
  |some _=>rfl
  |none=>
   simp only;have e1:cQ.map (a7 C st 0)=cQ.map (a7 C al 0):=by
    cases cQ with
    |none=>rfl
    |some y=>simp only[Option.map_some];rw[he.2 y (by simp)]
   have e2:hi.map (a7 C st 0)=hi.map (a7 C al 0):=by
    cases hi with
    |none=>rfl
    |some y=>simp only[Option.map_some];rw[he.2 y (by simp)]
   rw[<-he.1,e1,e2];split
   ·exact _g (gW.1 _)
   ·exact _f (gW.1 _)
 case fieldAddr s x f=>rw[he]
 case indexAddr t x i=>
  rw[<-he.1,<-he.2];split
  ·rw[Zu (gW.1 _)]
  ·rw[Zv (gW.1 _)]
  ·rfl
 case index t x i=>rw[he.1,he.2]
 case extract t i=>rw[he]
 case call c=>
  obtain⟨aq0,args,Jt⟩:=c;simp only;cases aq0 with
  |invoke r m=>rfl
  |value f=>
   simp only[k8,List.mem_append,List.mem_cons,List.not_mem_nil,or_false] at HX;simp only[Aq,forall_const] at hb;simp only[List.mem_append,List.mem_cons,List.not_mem_nil,or_false] at he;have em:∀(xs:List Operand) (cV:List TypeId),(∀x,x∈xs->∀T,a7 C st T x=a7 C al T x)->gl C st xs cV=gl C al xs cV:=by
    intro xs;induction xs with
    |nil=>intro cV _;cases cV<;>rfl
    |cons x xs ih=>
     intro cV h;cases cV with
     |nil=>simp only[gl];rw[h x (by simp),ih [] fun y hy=>h y (List.mem_cons_of_mem _ hy)]
     |cons T cV=>simp only[gl];rw[h x (by simp),ih cV fun y hy=>h y (List.mem_cons_of_mem _ hy)]
   have CJ:∀(xs bd:List Operand) (cV:List TypeId),(∀x,x∈xs->x∈bd)->∀o,o∈gG (gl C st xs cV)->o∈nu st bd:=by
    intro xs bd;induction xs with
    |nil=>intro cV _ o bo;cases cV<;>cases bo
    |cons x xs ih=>
     intro cV h o bo;cases cV with
     |nil=>
      simp only[gl,gG,List.mem_append] at bo;rcases bo with bo|bo
      ·exact yx (h x List.mem_cons_self) o bo
      ·exact ih [] (fun y hy=>h y (List.mem_cons_of_mem _ hy)) o bo
     |cons T cV=>
      simp only[gl,gG,List.mem_append] at bo;rcases bo with bo|bo
      ·exact yx (h x List.mem_cons_self) o bo
      ·exact ih cV (fun y hy=>h y (List.mem_cons_of_mem _ hy)) o bo
   have h1:cA st al (eS st (a7 C st 0 f).names):=HX _ fun o bo=>yx (List.mem_append.2 (.inl (by simp))) o bo
   have h2:cA st al (eS st (gG (gl C st args.toList Jt.toList))):=HX _ fun o bo=>CJ _ _ _ (fun x hx=>List.mem_append.2 (.inr hx)) o bo
   have h3:=he f (.inl rfl) 0;have aw:=em args.toList Jt.toList fun x hx=>he x (.inr hx)
   cases dst with
   |none=>show lG C 0 st _ _=lG C 0 al _ _;rw[<-h3,<-aw];exact LP hb h1 h2
   |some d=>show lG C d st _ _=lG C d al _ _;rw[<-h3,<-aw];exact LP hb h1 h2
  |builtin b=>
   simp only[List.nil_append] at he gW;generalize args.toList=xs at he gW;generalize Jt.toList=b';cases b<;>try rfl
   case append=>
    rcases dst with _|o
    ·rfl
    rcases xs with _|⟨s,_|⟨x,_|_⟩⟩<;>try rfl
    rcases b' with _|⟨t,_|⟨u,_|_⟩⟩<;>try rfl
    have e1:=he s (by simp) t
    have e2:=he x (by simp) u
    dsimp only;cases C.tt t<;>try rfl
    cases C.tt u<;>try rfl
    all_goals dsimp only
    all_goals rw[<-e1,<-e2]
    all_goals first|exact Z3 (gW s (by simp) _) (gW x (by simp) _) (Z o rfl)|exact Z4 (gW s (by simp) _) (Z o rfl)
   case len=>
    rcases xs with _|⟨s,_|⟨x,_|_⟩⟩<;>try rfl
    rcases b' with _|⟨t,_|⟨u,_|_⟩⟩<;>try rfl
    have e1:=he s (by simp) t
    dsimp only;rw[<-e1];exact abg (gW s (by simp) _)
   case max=>
    rcases xs with _|⟨s,_|⟨x,_|⟨z,_|⟨u,_|⟨v,_|_⟩⟩⟩⟩⟩<;>try rfl
    ·have e1:=he s (by simp) type
     have e2:=he x (by simp) type
     dsimp only;rw[<-e1,<-e2]
    ·have e1:=he s (by simp) type
     have e2:=he x (by simp) type
     have bp:=he z (by simp) type
     have c_:=he u (by simp) type
     have fp:=he v (by simp) type
     dsimp only;rw[<-e1,<-e2,<-bp,<-c_,<-fp]
   case min=>
    rcases xs with _|⟨s,_|⟨x,_|_⟩⟩<;>try rfl
    have e1:=he s (by simp) type
    have e2:=he x (by simp) type
    dsimp only;rw[<-e1,<-e2]
def eE(r:Option Nat):Fence:={Fence.wide with round:=r}
abbrev fY(r:Option Nat)(P:Program)(c:Code)(Q:Exit->Act->World->Prop)(a:Act)(w:World):Prop:=c.wpIn (eE r) 0 P Q a w
theorem Bf(r:Option Nat)(f:FuncId):(eE r).fn f:=trivial
theorem Ql(r:Option Nat)(n:Nat):(eE r).room n:=fun _ h=>by simp[eE,Fence.wide] at h
theorem fY.any{r:Option Nat}{P:Program}{c:Code}{Q:Exit->Act->World->Prop}{a:Act}{w:World}(h:fY r P c Q a w)(n:Nat):c.wpIn (eE r) n P Q a w:=
 fun b k cs JX hb _=>h b k cs JX hb (Ql r _)
theorem fY.of{r:Option Nat}{P:Program}{c:Code}{Q:Exit->Act->World->Prop}{a:Act}{w:World}{n:Nat}(h:c.wpIn (eE r) n P Q a w):fY r P c Q a w:=
 fun b k cs JX hb _=>h b k cs JX hb (Ql r _)
theorem fY.wp{P:Program}{c:Code}{Q:Exit->Act->World->Prop}{a:Act}{w:World}(h:fY none P c Q a w):c.wp P Q a w:=(wpIn_wide (n:=0)).1 h
theorem abw{r:Option Nat}{n:Nat}{P:Program}{f:FuncId}{args:Array Value}{w:World}{R:Ending->World->Prop}(h:Calls P f args w R):CallsIn (eE r) n P f args w R:=by
 cases r with
 |none=>exact callsIn_wide.2 h
 |some l=>exact CallsIn.inRound l (callsIn_wide.2 h)
theorem acm{r:Option Nat}{n:Nat}{P:Program}{row:String}{args:Array Value}{w:World}{R:Value->World->Prop}(h:Rows P row args w R):RowsIn (eE r) n P row args w R:=by
 intro c cs _;obtain⟨v,w',hr,hs⟩:=h c cs;exact⟨v,w',hr,stepsIn_wide.2 hs⟩
theorem um(M:Array Value)(ds:List Deferred)(dst:Option Nat)(v:Value):(⟨M,ds⟩:Act).put dst v=⟨cv M dst v,ds⟩:=by cases dst<;>rfl
theorem HU{P:Program}{B:Oper}{M:Array Value}{w:World}{K:Act->World->Prop}(bM:∀a w,K a w->a.defers=[])(h:B.wp P ⟨M,[]⟩ w K (fun _ _ _=>False))(r:Option Nat)(ds:List Deferred){Q:Exit->Act->World->Prop}:
  B.wpIn (eE r) 0 P ⟨M,ds⟩ w (fun cM w'=>∃v,cM=⟨cv M B.dst v,ds⟩/\K ⟨cv M B.dst v,[]⟩ w') Q:=by
 refine⟨fun f _=>Bf r f,?_⟩
 have bu:(⟨M,ds⟩:Act).eval=(⟨M,[]⟩:Act).eval:=by funext x;cases x<;>rfl
 rw[bu];unfold Oper.wp at h;have Z:∀c,B.op≠.defer c:=by
  intro c aE;have:(execOp (Act.eval ⟨M,[]⟩) B)=(do let d <-resolve (Act.eval ⟨M,[]⟩) c B.type;pure (.defer d)):=by
   unfold execOp;simp only[aE]
  rw[this] at h;simp only[Sem.run_bind] at h;cases hr:(resolve (Act.eval ⟨M,[]⟩) c B.type).run P w with
  |ok d w'=>
   rw[hr] at h;simp only[Result.andThen_ok,Sem.run_pure,Oper.upon] at h;have:=bM _ _ h;cases dC:B.dst<;>rw[dC] at this<;>simp[Act.put] at this
  |halt x w'=>
   rw[hr] at h;cases x<;>simp[Result.andThen,Oper.upon] at h
 rw[Oper.semAt_eq _ _ _ Z];generalize(execOp (Act.eval ⟨M,[]⟩) B).run P w=fa at h;have hp:∀v,(⟨M,ds⟩:Act).put B.dst v=⟨cv M B.dst v,ds⟩:=um M ds B.dst;have qM:∀v,(⟨M,[]⟩:Act).put B.dst v=⟨cv M B.dst v,[]⟩:=um M [] B.dst;cases fa with
 |ok x w'=>
  cases x with
  |value v=>simp only[Oper.upon,Oper.uponIn,qM] at h ⊢;exact⟨v,hp v,h⟩
  |skip=>simp only[Oper.upon,Oper.uponIn,qM] at h ⊢;exact⟨undef,hp _,h⟩
  |defer d=>
   simp only[Oper.upon] at h;have:=bM _ _ h;cases dC:B.dst<;>rw[dC] at this<;>simp[Act.put] at this
  |enter f args=>
   simp only[Oper.upon,Oper.uponIn] at h ⊢;refine⟨fun h=>by simp[eE,Fence.wide] at h,(abw h).mono fun e BS he=>?_⟩
   cases e with
   |returned v=>simp only[qM] at he;exact⟨v,hp v,he⟩
   |panicked c=>exact he.elim
   |outgrown=>obtain⟨a0,O,ar⟩:=he;exact ar.elim
  |row row args=>
   simp only[Oper.upon,Oper.uponIn] at h ⊢;refine⟨fun h=>by simp[eE,Fence.wide] at h,(acm h).mono fun v BS he=>?_⟩
   simp only[qM] at he;exact⟨v,hp v,he⟩
  |_=>simp only[Oper.upon] at h
 |halt x w'=>
  cases x<;>simp only[Oper.upon] at h
def ik:List Oper->List Nat
 |[]=>[]
 |B::r=>B.dst.toList++ik r
def ho:Nat:=1000000000
def cn:Code->List Nat
 |.region _ ops _=>ik ops.toList
 |.seq a b|.cond _ a b=>cn a++cn b
 |.block _ a|.loop a=>cn a
 |.rangeFunc _ ps a b=>ho::(ps.toList++(cn a++cn b))
 |_=>[]
def gJ:Code->Bool
 |.seq a b|.cond _ a b=>gJ a&&gJ b
 |.block _ a|.loop a=>gJ a
 |.rangeFunc _ _ _ _=>false
 |_=>true
def mark(aZ:Nat):Deferred:={target:=.collected aZ,args:=#[]}
structure h7(O:World)(Y:List Nat)(X:Nat->Prop)(aN:World)(dF:List Nat)(c7:Nat->Prop):Prop where
 cD:∀w,Fr dF aN w->Fr Y O w
 ci:∀b,(b∈dF\/aN.heap.size<=b)->(b∈Y\/O.heap.size<=b)
 x:∀b,X b->c7 b
structure Marks(O:World)(dG:List Nat)(aN:World)(dF:List Nat)(c7:Nat->Prop):Prop where
 nodup:dG.Nodup
 new:∀aZ,aZ∈dG->O.heap.size<=aZ
 hd:∀aZ,aZ∈dG->aN.heap[aZ]? =some (.deferred (some []))/\aZ∉dF/\c7 aZ
def eu(O:World)(Y:List Nat)(X:Nat->Prop)(ds:List Deferred)(eG:Array Value)(W:List Nat)(st:ah)(a:Act)(w:World):Prop:=
 ∃aN dF c7 D dG,h7 O Y X aN dF c7/\Marks O dG aN dF c7/\(a.defers=dG.map mark++ds/\(ho∉W->dG=[]))/\am aN dF c7 D st a.tmps w/\∀t,t∉W->a.tmps.getD t undef=eG.getD t undef
def e6(O:World)(Y:List Nat)(X:Nat->Prop)(ds:List Deferred)(eG:Array Value)(W:List Nat):Out->Exit->Act->World->Prop
 |.norm st,.normal,a,w=>eu O Y X ds eG W st a w
 |.exit id st,.exit iM,a,w=>id=iM/\eu O Y X ds eG W st a w
 |.ret st,.ret,a,w=>eu O Y X ds eG W st a w
 |_,_,_,_=>False
theorem h7.refl(O:World)(Y:List Nat)(X:Nat->Prop):h7 O Y X O Y X:=⟨fun _ h=>h,fun _ h=>h,fun _ h=>h⟩
theorem h7.trans{O aN w2:World}{Y dF eP:List Nat}{X c7 cu:Nat->Prop}(h:h7 O Y X aN dF c7)(k:h7 aN dF c7 w2 eP cu):h7 O Y X w2 eP cu:=
 ⟨fun w hw=>h.cD w (k.cD w hw),fun b hb=>h.ci b (k.ci b hb),fun b hb=>k.x b (h.x b hb)⟩
theorem Marks.nil(O aN:World)(Y:List Nat)(X:Nat->Prop):Marks O [] aN Y X:=⟨List.nodup_nil,fun _ h=>by simp at h,fun _ h=>by simp at h⟩
theorem Marks.lt{O aN:World}{Y:List Nat}{X:Nat->Prop}{dG:List Nat}(h:Marks O dG aN Y X){aZ:Nat}(fo:aZ∈dG):aZ<aN.heap.size:=by
 have:=(h.hd aZ fo).1;exact(Array.getElem?_eq_some_iff.1 this).1
theorem Marks.trans{O aN w2:World}{Y dF eP:List Nat}{X c7 cu:Nat->Prop}{dG CC:List Nat}(hb:h7 O Y X aN dF c7)(h:Marks O dG aN dF c7)(k:h7 aN dF c7 w2 eP cu)(m:Marks aN CC w2 eP cu):
  Marks O (CC++dG) w2 eP cu:=by
 have hf:Fr dF aN w2:=k.cD w2 (Fr.refl _ _);refine⟨List.nodup_append.2 ⟨m.nodup,h.nodup,fun a ha b hb e=>?_⟩,fun aZ fo=>?_,fun aZ fo=>?_⟩
 ·subst e;have h1:=m.new a ha;have h2:=h.lt hb;omega
 ·rcases List.mem_append.1 fo with fo|fo
  ·have h1:=m.new aZ fo;have h2:Fr Y O aN:=hb.cD aN (Fr.refl _ _);have:=h2.size;omega
  ·exact h.new aZ fo
 ·rcases List.mem_append.1 fo with fo|fo
  ·exact m.hd aZ fo
  ·obtain⟨h1,h2,h3⟩:=h.hd aZ fo;have hlt:=h.lt fo;refine⟨(hf.block aZ hlt h2).trans h1,fun aw=>?_,k.x aZ h3⟩
   rcases k.ci aZ (.inl aw) with bk|bk
   ·exact h2 bk
   ·omega
section
variable {O:World}{Y:List Nat}{X:Nat->Prop}{ds:List Deferred}{eG:Array Value}{W:List Nat}
theorem eu.of{D:Nat->Value}{st:ah}{M:Array Value}{w:World}(S:am O Y X D st M w)(aq:∀t,t∉W->M.getD t undef=eG.getD t undef):eu O Y X ds eG W st ⟨M,ds⟩ w:=
 ⟨O,Y,X,D,[],h7.refl _ _ _,Marks.nil _ _ _ _,⟨rfl,fun _=>rfl⟩,S,aq⟩
theorem eu.mono{c8:List Nat}(h:∀t,t∈W->t∈c8){st:ah}{a:Act}{w:World}(k:eu O Y X ds eG W st a w):eu O Y X ds eG c8 st a w:=by
 obtain⟨aN,dF,c7,D,dG,h1,h2,h3,aw,bk⟩:=k;exact⟨aN,dF,c7,D,dG,h1,h2,⟨h3.1,fun hn=>h3.2 fun af=>hn (h _ af)⟩,aw,fun t aq=>bk t fun af=>aq (h t af)⟩
theorem e6.mono{c8:List Nat}(h:∀t,t∈W->t∈c8):∀{B:Out} {e:Exit} {a:Act} {w:World},e6 O Y X ds eG W B e a w->e6 O Y X ds eG c8 B e a w:=by
 intro B e a w k;cases B<;>cases e<;>first|exact eu.mono h k|exact⟨k.1,eu.mono h k.2⟩|exact k.elim
theorem eu.trans{aN:World}{dF:List Nat}{c7:Nat->Prop}{dG:List Nat}{W1 jo:List Nat}{hM:Array Value}(hb:h7 O Y X aN dF c7)(hm:Marks O dG aN dF c7)(hr:ho∉W1->dG=[])(aq:∀t,t∉W1->hM.getD t undef=eG.getD t undef)
  {st:ah} {a:Act} {w:World} (k:eu aN dF c7 (dG.map mark++ds) hM jo st a w):eu O Y X ds eG (W1++jo) st a w:=by
 obtain⟨w2,eP,cu,D,CC,h1,h2,h3,aw,bk⟩:=k;refine⟨w2,eP,cu,D,CC++dG,hb.trans h1,hm.trans hb h1 h2,⟨by rw[h3.1,List.map_append,List.append_assoc],fun hn=>by
  simp only[List.mem_append,not_or] at hn;rw[h3.2 hn.2,hr hn.1];rfl⟩,aw,fun t JS=>?_⟩
 simp only[List.mem_append,not_or] at JS;rw[bk t JS.2,aq t JS.1]
theorem e6.trans{aN:World}{dF:List Nat}{c7:Nat->Prop}{dG:List Nat}{W1 jo:List Nat}{hM:Array Value}(hb:h7 O Y X aN dF c7)(hm:Marks O dG aN dF c7)(hr:ho∉W1->dG=[])(aq:∀t,t∉W1->hM.getD t undef=eG.getD t undef)
  {B:Out} {e:Exit} {a:Act} {w:World} (k:e6 aN dF c7 (dG.map mark++ds) hM jo B e a w):e6 O Y X ds eG (W1++jo) B e a w:=by
 cases B<;>cases e<;>first|exact eu.trans hb hm hr aq k|exact⟨k.1,eu.trans hb hm hr aq k.2⟩|exact k.elim
end
def aY(P:Program)(c:Code)(f:hO):Prop:=
 ∀r,r=none\/gJ c=true->∀O Y X st y,(f st).comp=some y->∀D M w ds,am O Y X D st M w->fY r P c (e6 O Y X ds M (cn c) ((f st).out y)) ⟨M,ds⟩ w
def ga(P:Program)(C:hJ):Code->Nat->Prop
 |.seq a b,p=>(∀f,C.nW p=some f->aY P (.seq a b) f)/\ga P C a (2*p)/\ga P C b (2*p+1)
 |.cond c a b,p=>(∀f,C.nW p=some f->aY P (.cond c a b) f)/\ga P C a (2*p)/\ga P C b (2*p+1)
 |.block id a,p=>(∀f,C.nW p=some f->aY P (.block id a) f)/\ga P C a (2*p)
 |c,p=>∀f,C.nW p=some f->aY P c f
def fO:Code->Nat->List (Nat×Code)
 |.seq a b,p=>(p,.seq a b)::(fO a (2*p)++fO b (2*p+1))
 |.cond c a b,p=>(p,.cond c a b)::(fO a (2*p)++fO b (2*p+1))
 |.block id a,p=>(p,.block id a)::fO a (2*p)
 |c,p=>[(p,c)]
theorem PU{P:Program}{C:hJ}:∀(c:Code) (p:Nat),(∀q fi,(q,fi)∈fO c p->∀f,C.nW q=some f->aY P fi f)->ga P C c p:=by
 intro c;induction c with
 |seq a b l5 qE=>
  intro p h;simp only[fO] at h;exact⟨h p _ List.mem_cons_self,l5 _ fun q fi hm=>h q fi (List.mem_cons_of_mem _ (List.mem_append.2 (.inl hm))),qE _ fun q fi hm=>h q fi (List.mem_cons_of_mem _ (List.mem_append.2 (.inr hm)))⟩
 |cond B a b l5 qE=>
  intro p h;simp only[fO] at h;exact⟨h p _ List.mem_cons_self,l5 _ fun q fi hm=>h q fi (List.mem_cons_of_mem _ (List.mem_append.2 (.inl hm))),qE _ fun q fi hm=>h q fi (List.mem_cons_of_mem _ (List.mem_append.2 (.inr hm)))⟩
 |block id a l5=>
  intro p h;simp only[fO] at h;exact⟨h p _ List.mem_cons_self,l5 _ fun q fi hm=>h q fi (List.mem_cons_of_mem _ hm)⟩
 |_=>intro p h;exact h p _ (by simp[fO])
section
variable {P:Program}{O:World}{Y:List Nat}{X:Nat->Prop}{D:Nat->Value}{st:ah}{M:Array Value}{w:World}
theorem am.mx(S:am O Y X D st M w){t:Nat}{v:aJ}(hv:cc D st.sites w (ay X D st.sites) v (M.getD t undef)):am O Y X D (st.set t v) M w:=by
 refine⟨S.nt,fun u=>?_,S.sites,S.dV,S.ci,S.frame,S.old,S.eY⟩
 rw[ah.Gw];by_cases h:t=u
 ·subst h;simp only[if_true];exact hv
 ·simp only[h,if_false];exact S.cF u
variable {R:Type}{C:Ctx}{ops:Array Oper}
theorem NF(S:am O Y X D st M w)(H:a_ P C){B:Oper}{K:ah->Option R}{r:R}(h:ki C st B K=some r){N:Act->World->Prop}{Q:Exit->Act->World->Prop}
  (bM:∀al aI bW w',K al=some r->am O Y X aI al bW w'->N ⟨bW,[]⟩ w'):B.wp P ⟨M,[]⟩ w N Q:=by
 unfold ki at h;cases Z:ch st B.dst with
 |false=>simp[Z] at h
 |true=>
  simp only[Z,cond_true] at h;have hs:=afR S H Z;cases hc:(step C st B).comp with
  |none=>simp[hc] at h
  |some y=>
   simp only[hc,Option.bind_some] at h;cases hk:(step C st B).q3 y with
   |false=>simp[hk] at h
   |true=>
    simp only[hk,cond_true] at h;exact hs y hc hk N Q fun aI bW w' ce=>bM _ aI bW w' h ce
theorem aaU{T e:TypeId}(h:P.underlying T=some (.slice e))(a:Option Addr)(n c:Nat)(neg:Bool):
  (binOp (if neg then .neq else .eql) T (.slice a n c) (.slice none 0 0)).run P w=.ok (.bool (if neg then !a.isNone else a.isNone)) w:=by
 have e:(Op.equal T (.slice a n c) (.slice none 0 0)).run P w=.ok a.isNone w:=by
  have key:∀d:Nat,(Op.equalIn (d+1) T (.slice a n c) (.slice none 0 0)).run P w=.ok a.isNone w:=fun d=>by cases a<;>simp[Op.equalIn,run_underlying h]
  exact key 9999
 cases neg
 ·show((do pure (.bool (<-Op.equal T (.slice a n c) (.slice none 0 0)))):Sem Value).run P w=_
  simp only[Sem.run_bind,e,Result.andThen_ok,Sem.run_pure];rfl
 ·show((do pure (.bool (!(<-Op.equal T (.slice a n c) (.slice none 0 0))))):Sem Value).run P w=_
  simp only[Sem.run_bind,e,Result.andThen_ok,Sem.run_pure];rfl
theorem Zr{op:BinOp}{T:TypeId}{x y:Operand}{a b:Option Addr}{n c tN fi:Nat}:(eqGuard op T x y (.slice a n c) (.slice b tN fi)).run P w=.ok () w:=by
 unfold eqGuard;cases op<;>rfl
theorem aa7{B:Oper}{t:a6}{xs:List (den t)}{neg:Bool}(h:Hf C st B=some (⟨t,xs⟩,neg)):∃T x mZ e ty bytes,B.op=.binOp (if neg then .neq else .eql) T x (.const (.slice none 0 0)) mZ/\C.tt T=.slice e ty bytes/\a7 C st T x=.av (.ak (.d (.sl t xs))):=by
 unfold Hf at h;split at h
 ·rename_i op T x mZ aE;split at h
  ·rename_i e ty bytes be;split at h
   ·split at h
    ·rename_i bj iI hx;cases h;exact⟨T,x,mZ,e,ty,bytes,aE,be,hx⟩
    ·cases h
   ·split at h
    ·rename_i bj iI hx;cases h;exact⟨T,x,mZ,e,ty,bytes,aE,be,hx⟩
    ·cases h
   ·cases h
  ·cases h
 ·cases h
theorem ZP{t:a6}{xs:List (den t)}{a b:Option R}{r:R}(h:pK xs a b=some r):b=some r/\(xs=[]->a=some r):=by
 unfold pK at h;split at h
 ·rename_i XM;exact⟨h,fun he=>(XM he).trans h⟩
 ·cases h
theorem aei(S:am O Y X D st M w)(H:a_ P C){B:Oper}{K:ah->Option R}{r:R}(h:u7 C st B K=some r){N:Act->World->Prop}{Q:Exit->Act->World->Prop}
  (bM:∀al aI bW w',K al=some r->am O Y X aI al bW w'->N ⟨bW,[]⟩ w'):B.wp P ⟨M,[]⟩ w N Q:=by
 unfold u7 at h;split at h
 ·rename_i t xs neg hn;cases Z:ch st B.dst with
  |false=>simp[Z] at h
  |true=>
   simp only[Z,cond_true] at h;obtain⟨h2,h1⟩:=ZP h;obtain⟨T,x,mZ,e,ty,bytes,aE,be,hx⟩:=aa7 hn;have hs:=dB S C T x;rw[hx] at hs;have bF:=H.tt T;rw[be] at bF;have run:∀{a:Option Addr} {n c:Nat},Act.eval ⟨M,[]⟩ x=.slice a n c->(execOp (Act.eval ⟨M,[]⟩) B).run P w=.ok (.value (.bool (if neg then !a.isNone else a.isNone))) w:=by
    intro a n c hv;unfold execOp;have hc:Act.eval ⟨M,[]⟩ (.const (.slice none 0 0))=.slice none 0 0:=rfl;simp only[aE,hv,hc,Sem.run_bind,Zr,aaU bF.1.1,Result.andThen_ok,Sem.run_pure]
   have fin:∀b:Bool,(execOp (Act.eval ⟨M,[]⟩) B).run P w=.ok (.value (.bool b)) w->K (st.cT B.dst (one (.bool b)) [])=some r->B.wp P ⟨M,[]⟩ w N Q:=by
    intro b hr hk;refine oE hr (bM _ _ _ _ hk (am.cT (us:=[]) S Z ?_));exact bD.bool b
   have hs:bD w (ay X D st.sites) (.sl t xs) (Act.eval ⟨M,[]⟩ x):=hs;generalize iG:Act.eval ⟨M,[]⟩ x=v at hs;cases hs with
   |nil=>
    have:=run iG;cases neg
    ·exact fin true this (h1 rfl)
    ·exact fin false this (h1 rfl)
   |sl t xs a cap cs n iq hcap hb hl hc hr=>
    have:=run iG;cases neg
    ·exact fin false this h2
    ·exact fin true this h2
 ·exact NF S H h bM
theorem acg(S:am O Y X D st M w){B:Oper}{K:ah->Option R}{r:R}(h:sn st B K=some r){N:Act->World->Prop}
  (bM:∀al aI bW w',K al=some r->am O Y X aI al bW w'->N ⟨bW,[]⟩ w'):N ((⟨M,[]⟩:Act).put B.dst undef) w:=by
 unfold sn at h;cases Z:ch st B.dst with
 |false=>simp[Z] at h
 |true=>
  simp only[Z,cond_true] at h;have:(⟨M,[]⟩:Act).put B.dst undef=⟨cv M B.dst undef,[]⟩:=by cases B.dst<;>rfl
  rw[this];exact bM _ _ _ _ h (am.cT (us:=[]) S Z rfl)
theorem iX{M:Array Value}{dst:Option Nat}{v:Value}{t:Nat}(h:t∉dst.toList):(cv M dst v).getD t undef=M.getD t undef:=by
 cases dst with
 |none=>rfl
 |some d=>
  have:d≠t:=fun e=>h (by simp[e])
  simp[cv,Array.getD_eq_getD_getElem?,Array.getElem?_setIfInBounds_ne this]
variable {rn:Option Nat}{ds:List Deferred}
theorem EA(S:am O Y X D st M w)(H:a_ P C){B:Oper}{K:ah->Option R}{r:R}(h:u7 C st B K=some r){N:Act->World->Prop}{Q:Exit->Act->World->Prop}
  (bM:∀al aI bW w',K al=some r->am O Y X aI al bW w'->(∀t,t∉B.dst.toList->bW.getD t undef=M.getD t undef)->N ⟨bW,ds⟩ w'):B.wpIn (eE rn) 0 P ⟨M,ds⟩ w N Q:=by
 refine Oper.wpIn_mono ?_ (HU (K:=fun a w=>a.defers=[]/\∃al aI,K al=some r/\am O Y X aI al a.tmps w) (fun _ _ h=>h.1) (aei S H h fun al aI bW w' hk ce=>⟨rfl,al,aI,hk,ce⟩) rn ds)
 rintro a w' ⟨v,rfl,_,al,aI,hk,ce⟩;exact bM al aI _ w' hk ce fun t aq=>iX aq
theorem nk(S:am O Y X D st M w)(H:a_ P C){B:Oper}{K:ah->Option R}{r:R}(h:ki C st B K=some r){N:Act->World->Prop}{Q:Exit->Act->World->Prop}
  (bM:∀al aI bW w',K al=some r->am O Y X aI al bW w'->(∀t,t∉B.dst.toList->bW.getD t undef=M.getD t undef)->N ⟨bW,ds⟩ w'):B.wpIn (eE rn) 0 P ⟨M,ds⟩ w N Q:=by
 refine Oper.wpIn_mono ?_ (HU (K:=fun a w=>a.defers=[]/\∃al aI,K al=some r/\am O Y X aI al a.tmps w) (fun _ _ h=>h.1) (NF S H h fun al aI bW w' hk ce=>⟨rfl,al,aI,hk,ce⟩) rn ds)
 rintro a w' ⟨v,rfl,_,al,aI,hk,ce⟩;exact bM al aI _ w' hk ce fun t aq=>iX aq
theorem xB(S:am O Y X D st M w){B:Oper}{K:ah->Option R}{r:R}(h:sn st B K=some r){N:Act->World->Prop}
  (bM:∀al aI bW w',K al=some r->am O Y X aI al bW w'->(∀t,t∉B.dst.toList->bW.getD t undef=M.getD t undef)->N ⟨bW,ds⟩ w'):N ((⟨M,ds⟩:Act).put B.dst undef) w:=by
 rw[um];refine acg (N:=fun a w=>∀t0,a.tmps=t0->t0=cv M B.dst undef->N ⟨t0,ds⟩ w) S h (fun al aI bW w' hk ce t0 e1 e2=>?_) (cv M B.dst undef) (by rw[um]) rfl
 subst e1;exact bM al aI _ w' hk ce fun t aq=>by have e2:bW=cv M B.dst undef:=e2;rw[e2];exact iX aq
theorem acl(H:a_ P C){r:R}{W:List Nat}:∀(n k:Nat),ops.size=k+n->(∀B,B∈ops.toList.drop k->∀t,t∈B.dst.toList->t∈W)->∀(st:ah) (D:Nat->Value) (M:Array Value) (w:World) (K:ah->Option R) (Q:Exit->Act->World->Prop),am O Y X D st M w->
  uR C ops (ops.toList.drop k) st K=some r->(∀al aI bW w',K al=some r->am O Y X aI al bW w'->(∀t,t∉W->bW.getD t undef=M.getD t undef)->Q .normal ⟨bW,ds⟩ w')->wpOpsIn (eE rn) 0 P ops Q (List.range' k n) ⟨M,ds⟩ w:=by
 intro n;induction n with
 |zero=>
  intro k hk _ st D M w K Q S h bM;rw[List.drop_eq_nil_of_le (by simp;omega)] at h
  exact bM st D M w h S fun _ _=>rfl
 |succ n ih=>
  intro k hk hW st D M w K Q S h bM;have hlt:k<ops.size:=by omega
  have aE:ops[k]? =some ops[k]:=Array.getElem?_eq_getElem hlt;have vh:ops.toList.drop k=ops[k]::ops.toList.drop (k+1):=by
   rw[List.drop_eq_getElem_cons (by simpa using hlt)];simp
  rw[vh] at h hW;simp only[uR] at h;rw[show List.range' k (n+1)=k::List.range' (k+1) n from rfl]
  simp only[wpOpsIn,aE];have aqo:=hW _ List.mem_cons_self;have Kn:=fun B aE=>hW B (List.mem_cons_of_mem _ aE)
  have next:∀al aI bW w',uR C ops (ops.toList.drop (k+1)) al K=some r->am O Y X aI al bW w'->(∀t,t∉(ops[k]).dst.toList->bW.getD t undef=M.getD t undef)->wpOpsIn (eE rn) 0 P ops Q (List.range' (k+1) n) ⟨bW,ds⟩ w':=
   fun al aI bW w' af ce aq=>ih (k+1) (by omega) Kn al aI bW w' K Q ce af fun vU h9 pa w2 hk2 hT JV=>bM vU h9 pa w2 hk2 hT fun t Xs=>(JV t Xs).trans (aq t fun af=>Xs (aqo t af))
  generalize ops[k]=B at h next ⊢
  have og:∀f,B.about P w (Act.eval ⟨M,ds⟩)=some f->(eE rn).fn f:=fun f _=>Bf rn f
  unfold P' at h;cases hg:B.guard with
  |none=>
   simp only[hg] at h;rw[if_pos (by simp[Region.wanted,hg])]
   exact EA S H h next
  |some K9=>
   obtain⟨j,want⟩:=K9;simp only[hg] at h;have hw:Region.wanted B (yielded ops M)=(yielded ops M j==some want):=by simp[Region.wanted,hg]
   cases hj:(ops[j]?).bind (·.dst) with
   |none=>simp[hj] at h
   |some t=>
    simp only[hj] at h;have i':=S.cF t;split at h
    ·rename_i b hb;rw[hb] at i';have hv:=jt i';have hy:yielded ops M j=some b:=by
      have aq:t<M.size:=by
       rcases Nat.lt_or_ge t M.size with af|af
       ·exact af
       ·simp[Array.getD,Nat.not_lt.2 af,undef] at hv
      have:M[t]? =some (.bool b):=by
       rw[Array.getElem?_eq_getElem aq];simpa[Array.getD,aq] using hv
      simp[yielded,hj,this]
     rw[hy] at hw;have go:∀bI,b=bI->am O Y X D (st.set t (one (.bool bI))) M w:=fun bI e=>S.mx (by rw[hv,e];exact .bool _)
     cases b<;>cases want<;>simp only[cond_true,cond_false,Bool.not_true,Bool.not_false] at h
     ·rw[if_pos (by rw[hw];rfl)];exact EA (go false rfl) H h next
     ·rw[if_neg (by rw[hw];decide)];exact⟨og,xB (go false rfl) h next⟩
     ·rw[if_neg (by rw[hw];decide)];exact⟨og,xB (go true rfl) h next⟩
     ·rw[if_pos (by rw[hw];rfl)];exact EA (go true rfl) H h next
    ·rename_i x hb;rw[hb] at i';have hv:M.getD t undef=.tuple x:=i';have hy:yielded ops M j=none:=by
      simp only[yielded,hj,Option.bind_some];cases aq:M[t]? with
      |none=>rfl
      |some v=>
       have:M.getD t undef=v:=by simp[Array.getD_eq_getD_getElem?,aq]
       rw[this] at hv;rw[hv]
     rw[hy] at hw;rw[if_neg (by rw[hw];simp)]
     exact⟨og,xB S h next⟩
    ·cases h
end
abbrev oj:=Nat⊕Nat
def eh(st:ah):oj->aJ⊕Option Site
 |.inl t=>.inl (st.get t)
 |.inr o=>.inr (st.ab o)
def nm{ax:Type}:List (Nat×ax)->Nat->Option ax
 |[],_=>none
 |(k,v)::r,n=>match nm r n with
  |some x=>some x
  |none=>bif k.beq n then some v else none
def Rec.wr(x:Rec):oj->Option (aJ⊕Option Site)
 |.inl t=>match x.B.dst with
  |some d=>bif d.beq t then some (.inl x.v) else none
  |none=>none
 |.inr o=>(nm x.us o).map fun s=>.inr (some s)
theorem ab7:∀(us:List (Nat×Site)) (st:ah) (o:Nat),(st.h4 us).ab o=match nm us o with|some s=>some s|none=>st.ab o:=by
 intro us;induction us with
 |nil=>intro st o;rfl
 |cons p us ih=>
  obtain⟨k,s⟩:=p;intro st o;simp only[ah.h4,ih,nm];cases nm us o with
  |some x=>rfl
  |none=>
   simp only[ah.w9];by_cases h:k=o
   ·subst h;simp
   ·simp[h,jB h]
theorem Of:∀(us:List (Nat×Site)) (st:ah) (t:Nat),(st.h4 us).get t=st.get t:=by
 intro us;induction us with
 |nil=>intro st t;rfl
 |cons p us ih=>intro st t;simp only[ah.h4,ih,ah.aag]
theorem Pb:∀(us:List (Nat×Site)) (st:ah),(st.h4 us).nt=st.nt:=by
 intro us;induction us with
 |nil=>intro st;rfl
 |cons p us ih=>intro st;simp only[ah.h4,ih,ah.aa6]
theorem HM(st:ah)(d:Option Nat)(v:aJ)(us:List (Nat×Site)):(st.cT d v us).nt=st.nt:=by
 cases d<;>simp only[ah.cT,ah.aio,Pb]
theorem xY(st:ah)(x:Rec)(l:oj):eh (st.cT x.B.dst x.v x.us) l=match x.wr l with|some u=>u|none=>eh st l:=by
 cases l with
 |inl t=>
  simp only[eh,Rec.wr];cases x.B.dst with
  |none=>simp only[ah.cT,Of]
  |some d=>
   simp only[ah.cT,ah.Gw,Of];by_cases h:d=t
   ·subst h;simp
   ·simp[h,jB h]
 |inr o=>
  simp only[eh,Rec.wr];have:(st.cT x.B.dst x.v x.us).ab o=(st.h4 x.us).ab o:=by cases x.B.dst<;>simp only[ah.cT,ah.aef]
  rw[this,ab7];cases nm x.us o<;>rfl
def en(L:Nat->Bool):Nat->List Rec->ah->ah
 |_,[],st=>st
 |k,x::r,st=>en L (k+1) r (bif L k then st.cT x.B.dst x.v x.us else st)
theorem Fa{L:Nat->Bool}:∀{xs:List Rec} {k:Nat} {st:ah},(en L k xs st).nt=st.nt:=by
 intro xs;induction xs with
 |nil=>intro k st;rfl
 |cons x xs ih=>intro k st;simp only[en,ih];cases L k<;>simp[HM]
theorem Do{L L':Nat->Bool}:∀{xs:List Rec} {k:Nat} {st al:ah} {l:oj},eh st l=eh al l->(∀j x,xs[j]? =some x->x.wr l≠none->L (k+j)=L' (k+j))->eh (en L k xs st) l=eh (en L' k xs al) l:=by
 intro xs;induction xs with
 |nil=>intro k st al l h _;exact h
 |cons x xs ih=>
  intro k st al l h dY;simp only[en];refine ih ?_ fun j y hy hw=>?_
  ·cases hw:x.wr l with
   |none=>
    have e1:∀s:ah,eh (s.cT x.B.dst x.v x.us) l=eh s l:=fun s=>by rw[xY,hw]
    cases L k<;>cases L' k<;>simp only[cond_true,cond_false,e1,h]
   |some u=>
    have:=dY 0 x rfl (by rw[hw];intro h;cases h)
    simp only[Nat.add_zero] at this;rw[this];cases L' k with
    |true=>simp only[cond_true,xY,hw]
    |false=>simp only[cond_false,h]
  ·have:=dY (j+1) y (by simpa using hy) hw
   rw[show k+(j+1)=k+1+j from by omega] at this
   exact this
theorem Dp{xs:List Rec}:∀{k:Nat} {st:ah} {L:Nat->Bool},(∀j,k<=j->L j=false)->en L k xs st=st:=by
 induction xs with
 |nil=>intro k st L _;rfl
 |cons x xs ih=>
  intro k st L h;simp only[en,h k (Nat.le_refl _),cond_false];exact ih fun j hj=>h j (by omega)
theorem MA{L L':Nat->Bool}:∀{xs:List Rec} {k k':Nat} {st:ah},(∀j,j<xs.length->L (k+j)=L' (k'+j))->en L k xs st=en L' k' xs st:=by
 intro xs;induction xs with
 |nil=>intro k k' st _;rfl
 |cons x xs ih=>
  intro k k' st h;simp only[en];have h0:=h 0 (by simp)
  simp only[Nat.add_zero] at h0;rw[h0];exact ih fun j hj=>by have:=h (j+1) (by simpa using hj);rw[show k+(j+1)=k+1+j from by omega,show k'+(j+1)=k'+1+j from by omega] at this;exact this
theorem abA{L:Nat->Bool}:∀{xs:List Rec} {k i:Nat} {st:ah} {l:oj} {x:Rec} {u:aJ⊕Option Site},xs[i]? =some x->L (k+i)=true->x.wr l=some u->
  (∀j y,i<j->xs[j]? =some y->y.wr l≠none->L (k+j)=false)->eh (en L k xs st) l=u:=by
 intro xs;induction xs with
 |nil=>intro k i st l x u h;cases h
 |cons y xs ih=>
  intro k i st l x u h dY hw hj;simp only[en];cases i with
  |zero=>
   simp only[List.getElem?_cons_zero,Option.some.injEq] at h;subst h;simp only[Nat.add_zero] at dY;rw[dY];simp only[cond_true];have e:eh (st.cT y.B.dst y.v y.us) l=u:=by rw[xY,hw]
   rw[<-e];have e2:st.cT y.B.dst y.v y.us=en (fun _=>false) (k+1) xs (st.cT y.B.dst y.v y.us):=(Dp fun _ _=>rfl).symm
   conv=>rhs;rw[e2]
   refine Do rfl fun j z hz JO=>?_
   have:=hj (j+1) z (by omega) (by simpa using hz) JO
   rw[show k+(j+1)=k+1+j from by omega] at this
   exact this
  |succ i=>
   refine ih (by simpa using h) (by rw[show k+1+i=k+(i+1) from by omega];exact dY) hw fun j z pi hz JO=>?_
   have:=hj (j+1) z (by omega) (by simpa using hz) JO
   rw[show k+(j+1)=k+1+j from by omega] at this
   exact this
section
variable {P:Program}{ops:Array Oper}
def BO(ops:Array Oper)(L:Nat->Bool)(i:Nat):Prop:=∀B,ops[i]? =some B->∀e,e∈B.after.toList->Region.binds .any e=true->L e.on=true
def AT(ops:Array Oper)(L:Nat->Bool):Prop:=∀j,L j=true->BO ops L j
def tJ(ops:Array Oper)(k i:Nat):Prop:=∀L,AT ops L->BO ops L i->L k=true
theorem P1{ax:Type}{l:List (Nat×ax)}{n:Nat}{v:ax}(h:look l n=some v):(n,v)∈l:=by
 induction l with
 |nil=>cases h
 |cons p l ih=>
  obtain⟨m,u⟩:=p;simp only[look] at h;cases hb:m.beq n with
  |true=>
   simp only[hb,cond_true,Option.some.injEq] at h;rw[<-Nat.eq_of_beq_eq_true hb,h];exact List.mem_cons_self
  |false=>simp only[hb,cond_false] at h;exact List.mem_cons_of_mem _ (ih h)
theorem afw{acc:List (Nat×Rec×List Nat)}(ha:∀k x b,(k,x,b)∈acc->∀m,m∈b->tJ ops m k){i:Nat}:∀{es:List Edge} {m:Nat},m∈lS acc es->∀L,AT ops L->
  (∀e,e∈es->Region.binds .any e=true->L e.on=true)->L m=true:=by
 intro es;induction es with
 |nil=>intro m h;cases h
 |cons e es ih=>
  intro m h L hc hf;simp only[lS] at h;cases hb:Region.binds .any e with
  |false=>
   simp only[hb,cond_false] at h;exact ih h L hc fun cz l'=>hf cz (List.mem_cons_of_mem _ l')
  |true=>
   simp only[hb,cond_true] at h;have h0:=hf e List.mem_cons_self hb;split at h
   ·rename_i x hx;rcases List.mem_cons.1 h with rfl|h
    ·exact h0
    ·rcases List.mem_append.1 h with h|h
     ·have hm:(e.on,x)∈acc:=P1 hx;obtain⟨dX,fI⟩:=x;exact ha _ _ _ hm m h L hc (hc _ h0)
     ·exact ih h L hc fun cz l'=>hf cz (List.mem_cons_of_mem _ l')
   ·exact ih h L hc fun cz l'=>hf cz (List.mem_cons_of_mem _ l')
structure sT(C:Ctx)(ops:Array Oper)(st:ah)(B:Oper)(x:Rec):Prop where
 hd:x.B=B
 guard:∀j want,B.guard=some (j,want)->∃t,(ops[j]?).bind (·.dst)=some t/\t∈x.kK/\((∃b,st.get t=one (.bool b)/\(x.go=(b==want)))\/((∃u,st.get t=bZ (.cP (.tuple u)))/\x.go=false))
 free:B.guard=none->x.go=true
 skip:x.go=false->x.v=zV/\x.us=[]
 run:x.go=true->∃y,(step C st B).comp=some y/\(step C st B).q3 y=true/\x.v=(step C st B).val y/\x.us=(step C st B).us y/\(∀t,t∈oy (k8 B.op)->t∈x.kK)/\(∀o,o∈HZ C st B->o∈x.rn)/\(Aq B.op=true->x.Cp=true)
inductive kR(C:Ctx)(ops:Array Oper):List Oper->Nat->List (Nat×Rec×List Nat)->ah->List Rec->ah->Prop where
 |nil {i acc st}:kR C ops [] i acc st [] st
 |cons {B r i acc st x xs al} (Z:ch st B.dst=true) (he:sd i B.after.toList=true) (hx:sT C ops st B x) (hk:sp (lS acc B.after.toList) x acc=true)
   (h:kR C ops r (i+1) ((i,x,lS acc B.after.toList)::acc) (st.cT B.dst x.v x.us) xs al):kR C ops (B::r) i acc st (x::xs) al
theorem ac6{R:Type}{g:Bool}{v:aJ}{K:aJ->Option R}{r:R}(h:Iq g v K=some r):K v=some r:=by
 unfold Iq at h;cases g with
 |false=>exact h
 |true=>
  simp only[cond_true] at h;split at h
  ·rename_i b;cases b<;>exact h
  ·exact h
theorem aak{R:Type}{C:Ctx}{g:Bool}{st:ah}{B:Oper}{K:Rec->Option R}{r:R}(h:HL C ops g st B K=some r):∃x,sT C ops st B x/\K x=some r:=by
 have run:∀gs,zO C g st B gs K=some r->(∀j want,B.guard=some (j,want)->∃t,(ops[j]?).bind (·.dst)=some t/\t∈gs/\∃b,st.get t=one (.bool b)/\(b==want)=true)->∃x,sT C ops st B x/\K x=some r:=by
  intro gs h hg;unfold zO at h;obtain⟨y,hy,h⟩:=Option.bind_eq_some_iff.1 h;cases hc:(step C st B).q3 y with
  |false=>simp[hc] at h
  |true=>
   simp only[hc,cond_true] at h;refine⟨_,⟨rfl,fun j want hj=>?_,fun _=>rfl,fun h=>(by cases h),fun _=>⟨y,hy,hc,rfl,rfl,fun t aq=>List.mem_append.2 (.inr aq),fun _ h=>h,fun h=>h⟩⟩,ac6 h⟩
   obtain⟨t,h1,h2,b,h3,aw⟩:=hg j want hj;exact⟨t,h1,List.mem_append.2 (.inl h2),.inl ⟨b,h3,aw.symm⟩⟩
 have skip:∀gs,E_ B gs K=some r->(∃j want,B.guard=some (j,want)/\∃t,(ops[j]?).bind (·.dst)=some t/\t∈gs/\((∃b,st.get t=one (.bool b)/\(b==want)=false)\/∃u,st.get t=bZ (.cP (.tuple u))))->∃x,sT C ops st B x/\K x=some r:=by
  intro gs h hg;obtain⟨j,want,hj,t,h1,h2,h3⟩:=hg;refine⟨_,⟨rfl,fun Y1 atD jH=>?_,fun h=>(by rw[hj] at h;cases h),fun _=>⟨rfl,rfl⟩,fun h=>(by cases h)⟩,h⟩
  rw[hj] at jH;cases jH;refine⟨t,h1,h2,?_⟩;rcases h3 with⟨b,h3,aw⟩|h3
  ·exact .inl ⟨b,h3,aw.symm⟩
  ·exact .inr ⟨h3,rfl⟩
 unfold HL at h;split at h
 ·rename_i hg;exact run [] h fun j want hj=>by rw[hg] at hj;cases hj
 ·rename_i j want hg;split at h
  ·rename_i t aq;split at h
   ·rename_i b hb;cases b<;>cases want<;>simp only[cond_true,cond_false,Bool.not_true,Bool.not_false] at h
    ·exact run [t] h fun Y1 w' jH=>by rw[hg] at jH;cases jH;exact⟨t,aq,List.mem_singleton.2 rfl,false,hb,rfl⟩
    ·exact skip [t] h ⟨j,true,hg,t,aq,List.mem_singleton.2 rfl,.inl ⟨false,hb,rfl⟩⟩
    ·exact skip [t] h ⟨j,false,hg,t,aq,List.mem_singleton.2 rfl,.inl ⟨true,hb,rfl⟩⟩
    ·exact run [t] h fun Y1 w' jH=>by rw[hg] at jH;cases jH;exact⟨t,aq,List.mem_singleton.2 rfl,true,hb,rfl⟩
   ·rename_i u hu;exact skip [t] h ⟨j,want,hg,t,aq,List.mem_singleton.2 rfl,.inr ⟨u,hu⟩⟩
   ·cases h
  ·cases h
theorem adr{R:Type}{C:Ctx}{K:ah->Option R}{r:R}:∀{os:List Oper} {i:Nat} {acc:List (Nat×Rec×List Nat)} {st:ah},AN C ops os i acc st K=some r->∃xs al,kR C ops os i acc st xs al/\K al=some r:=by
 intro os;induction os with
 |nil=>intro i acc st h;exact⟨[],st,.nil,h⟩
 |cons B os ih=>
  intro i acc st h;simp only[AN] at h;cases Z:ch st B.dst&&sd i B.after.toList with
  |false=>simp[Z] at h
  |true=>
   simp only[Z,cond_true] at h;obtain⟨x,hx,h⟩:=aak h;cases hk:sp (lS acc B.after.toList) x acc with
   |false=>simp[hk] at h
   |true=>
    simp only[hk,cond_true] at h;obtain⟨xs,al,h1,h2⟩:=ih h;simp only[Bool.and_eq_true] at Z;exact⟨x::xs,al,.cons Z.1 Z.2 hx hk h1,h2⟩
theorem kR.length{C:Ctx}{os:List Oper}{i:Nat}{acc:List (Nat×Rec×List Nat)}{st al:ah}{xs:List Rec}(h:kR C ops os i acc st xs al):xs.length=os.length:=by
 induction h with
 |nil=>rfl
 |cons _ _ _ _ _ ih=>simp[ih]
theorem kR.amf{C:Ctx}{os:List Oper}{i:Nat}{acc:List (Nat×Rec×List Nat)}{st al:ah}{xs:List Rec}(h:kR C ops os i acc st xs al):∀k,en (fun _=>true) k xs st=al:=by
 induction h with
 |nil=>intro k;rfl
 |cons _ _ hx _ _ ih=>intro k;simp only[en,cond_true,hx.hd];exact ih _
theorem kR.at_{C:Ctx}{os:List Oper}{i:Nat}{acc:List (Nat×Rec×List Nat)}{st al:ah}{xs:List Rec}(h:kR C ops os i acc st xs al):∀j x,xs[j]? =some x->
  ∃B,os[j]? =some B/\ch st B.dst=true/\sd (i+j) B.after.toList=true/\sT C ops (en (fun k=>decide (k<j)) 0 xs st) B x:=by
 induction h with
 |nil=>intro j x h;cases h
 |@cons B r i acc st x xs al Z he hx hk h ih=>
  intro j y hy;cases j with
  |zero=>
   simp only[List.getElem?_cons_zero,Option.some.injEq] at hy;subst hy;refine⟨B,rfl,Z,he,?_⟩;rw[Dp fun j _=>by simp[Nat.blt]]
   exact hx
  |succ j=>
   obtain⟨cY,h1,h2,h3,aw⟩:=ih j y (by simpa using hy)
   refine⟨cY,by simpa using h1,?_,by rw[show i+(j+1)=i+1+j from by omega];exact h3,?_⟩
   ·revert h2;cases cY.dst<;>simp[ch,HM]
   ·simp only[en];have eI:decide (0<j+1)=true:=by simp
    rw[eI,cond_true,hx.hd];rw[MA (L':=fun k=>decide (k<j)) (k':=0) fun m _=>by simp only[decide_eq_decide];omega]
    exact aw
theorem NK{n:Nat}{l:List Nat}:fP n l=true <-> n∈l:=by
 induction l with
 |nil=>simp[fP]
 |cons m l ih=>
  simp only[fP,Bool.or_eq_true,ih,List.mem_cons];constructor
  ·rintro(h|h)
   ·exact .inl (Nat.eq_of_beq_eq_true h)
   ·exact .inr h
  ·rintro(h|h)
   ·exact .inl (by rw[h];exact Nat.beq_refl m)
   ·exact .inr h
theorem aa5{wD:List Nat}{x:Rec}:∀{acc:List (Nat×Rec×List Nat)},sp wD x acc=true->∀k y b,(k,y,b)∈acc->k∈wD\/lW y x=false:=by
 intro acc;induction acc with
 |nil=>intro _ k y b h;cases h
 |cons p acc ih=>
  obtain⟨j,z,auN⟩:=p;intro h k y b hm;simp only[sp,Bool.and_eq_true,Bool.or_eq_true] at h;rcases List.mem_cons.1 hm with hm|hm
  ·cases hm;rcases h.1 with h1|h1
   ·exact .inl (NK.1 h1)
   ·exact .inr (by simpa using h1)
  ·exact ih h.2 k y b hm
theorem kR.apc{C:Ctx}{os:List Oper}{i:Nat}{acc:List (Nat×Rec×List Nat)}{st al:ah}{xs:List Rec}(h:kR C ops os i acc st xs al):∀(pre:List Rec),pre.length=i->(∀j,ops[i+j]? =os[j]?)->
  (∀k y,pre[k]? =some y->∃b,(k,y,b)∈acc)->(∀k x b,(k,x,b)∈acc->∀m,m∈b->tJ ops m k)->∀j x,xs[j]? =some x->∀k y,k<i+j->(pre++xs)[k]? =some y->tJ ops k (i+j)\/lW y x=false:=by
 induction h with
 |nil=>intro pre _ _ _ _ j x h;cases h
 |@cons B r i acc st x xs al Z he hx hk h ih=>
  intro pre hlen Ug Uf im j y hy k z ap5 hz;have Ur:∀m,m∈lS acc B.after.toList->tJ ops m i:=fun m hm L hc hf=>by
   refine afw im (i:=i) hm L hc fun e he hb=>hf B ?_ e he hb
   have:=Ug 0;simpa using this
  cases j with
  |zero=>
   simp only[List.getElem?_cons_zero,Option.some.injEq] at hy;subst hy;simp only[Nat.add_zero] at ap5 ⊢;rw[List.getElem?_append_left (by omega)] at hz
   obtain⟨b,hb⟩:=Uf k z hz;rcases aa5 hk k z b hb with h1|h1
   ·exact .inl (Ur k h1)
   ·exact .inr h1
  |succ j=>
   have:=ih (pre++[x]) (by simp[hlen]) (fun j=>by have:=Ug (j+1);rw[show i+1+j=i+(j+1) from by omega];simpa using this)
    (fun k y hy=>?_) (fun k h' b hm m Xv=>?_) j y (by simpa using hy) k z (by omega) (by simpa using hz)
   ·rw[show i+(j+1)=i+1+j from by omega];exact this
   ·rcases Nat.lt_or_ge k pre.length with af|af
    ·rw[List.getElem?_append_left af] at hy;obtain⟨b,hb⟩:=Uf k y hy;exact⟨b,List.mem_cons_of_mem _ hb⟩
    ·rw[List.getElem?_append_right af] at hy;have h0:k-pre.length=0:=by
      rcases Nat.eq_zero_or_pos (k-pre.length) with h0|h0
      ·exact h0
      ·rw[List.getElem?_eq_none (by simp;omega)] at hy;cases hy
     rw[h0] at hy;simp only[List.getElem?_cons_zero,Option.some.injEq] at hy;subst hy;have:k=i:=by omega
     subst this;exact⟨_,List.mem_cons_self⟩
   ·rcases List.mem_cons.1 hm with hm|hm
    ·cases hm;exact Ur m Xv
    ·exact im k h' b hm m Xv
end
section
variable {P:Program}{O:World}{Y:List Nat}{X:Nat->Prop}{D:Nat->Value}{st al:ah}{M:Array Value}{w:World}
theorem am.same(S:am O Y X D st M w)(hv:∀l,eh st l=eh al l)(hn:st.nt=al.nt):am O Y X D al M w:=by
 have hs:∀o,look st.sites o=look al.sites o:=fun o=>by have:=hv (.inr o);simpa[eh,ah.ab] using this
 have hg:∀t,st.get t=al.get t:=fun t=>by have:=hv (.inl t);simpa[eh] using this
 have hl:∀o,cg st.sites o <-> cg al.sites o:=fun o=>by unfold cg;rw[hs]
 have ha:ay X D al.sites=ay X D st.sites:=by
  funext b
  unfold ay;simp only[hl]
 have G:h6 D D st.sites al.sites w w (ay X D st.sites) (ay X D al.sites):=by
  rw[ha];exact⟨fun o ab h=>⟨ab,by rw[<-hs];exact h,Nat.le_refl _,fun _=>rfl⟩,fun _ _ _=>rfl,fun _ h _=>h⟩
 have hlt:∀b,ay X D al.sites b->b<w.heap.size:=fun b hb=>S.lt (by rw[<-ha];exact hb)
 refine⟨S.nt.trans hn,fun t=>?_,fun o ab h=>?_,fun o aa b h1 h2=>S.dV o aa b ((hl o).2 h1) ((hl aa).2 h2),fun o b h=>S.ci o b ((hl o).2 h),S.frame,S.old,S.eY⟩
 ·rw[<-hg];exact(S.cF t).goes G (Nat.le_refl _) hlt
 ·exact(S.sites o ab (by rw[hs];exact h)).goes G (Nat.le_refl _) hlt rfl (fun _ _ _=>rfl)
theorem am.drawn(S:am O Y X D st M w)(n:Nat):am O Y X D st M {w with drawn:=n}:=by
 have G:h6 D D st.sites st.sites w {w with drawn:=n} (ay X D st.sites) (ay X D st.sites):=
  ⟨fun o ab h=>⟨ab,h,Nat.le_refl _,fun _=>rfl⟩,fun _ _ _=>rfl,fun _ h _=>h⟩
 refine⟨S.nt,fun t=>(S.cF t).goes G (Nat.le_refl _) fun b hb=>S.lt hb,fun o ab h=>(S.sites o ab h).goes G (Nat.le_refl _) (fun b hb=>S.lt hb) rfl (fun _ _ _=>rfl),S.dV,S.ci,⟨S.frame.os,S.frame.tape,S.frame.output,S.frame.size,S.frame.block⟩,S.old,S.eY⟩
theorem ZW{ax:Type}:∀{us:List (Nat×ax)} {o:Nat} {s:ax},nm us o=some s->o∈keys us:=by
 intro us;induction us with
 |nil=>intro o s h;cases h
 |cons p us ih=>
  obtain⟨k,v⟩:=p;intro o s h;simp only[nm] at h;split at h
  ·rename_i x hx;exact List.mem_cons_of_mem _ (ih hx)
  ·cases hb:k.beq o with
   |true=>rw[<-Nat.eq_of_beq_eq_true hb];exact List.mem_cons_self
   |false=>simp[hb] at h
theorem DM{n:Nat}{l:List Nat}:fP n l=true <-> n∈l:=NK
theorem rK{l m:List Nat}{n:Nat}(h1:n∈l)(h2:n∈m):eX l m=false:=by
 induction l with
 |nil=>cases h1
 |cons k l ih=>
  simp only[eX];rcases List.mem_cons.1 h1 with rfl|h1
  ·rw[DM.2 h2];rfl
  ·rw[ih h1,Bool.and_false]
theorem M2{l:List Nat}{n:Nat}(h1:n∈l)(h2:1000000<=n):uZ l=true:=by
 induction l with
 |nil=>cases h1
 |cons k l ih=>
  simp only[uZ,Bool.or_eq_true];rcases List.mem_cons.1 h1 with rfl|h1
  ·exact .inl (Nat.ble_eq_true_of_le h2)
  ·exact .inr (ih h1)
def Rec.at_(x:Rec):oj->Prop
 |.inl t=>t∈x.kK
 |.inr o=>o∈x.rn\/(x.Cp=true/\1000000<=o)
theorem zU{x:Rec}{t:Nat}(h:x.wr (.inl t)≠none):x.B.dst=some t:=by
 simp only[Rec.wr] at h;split at h
 ·rename_i d Z;cases hb:d.beq t with
  |true=>rw[Z,Nat.eq_of_beq_eq_true hb]
  |false=>simp[hb] at h
 ·exact absurd rfl h
theorem zT{x:Rec}{o:Nat}(h:x.wr (.inr o)≠none):o∈keys x.us:=by
 simp only[Rec.wr] at h;cases hl:nm x.us o with
 |none=>simp[hl] at h
 |some s=>exact ZW hl
theorem ag3{a b:Rec}{l:oj}(h1:a.wr l≠none)(h2:b.at_ l):lW a b=true:=by
 unfold lW;cases l with
 |inl t=>
  have:=zU h1;have h2:t∈b.kK:=h2;simp[this,sW,DM.2 h2]
 |inr o=>
  have:=zT h1;rcases h2 with h2|⟨h2,h3⟩
  ·have:eX (keys a.us) (b.rn++keys b.us)=false:=rK this (List.mem_append.2 (.inl h2));simp[this]
  ·have:=M2 this h3;simp[this,h2]
theorem ag4{a b:Rec}{l:oj}(h1:a.at_ l)(h2:b.wr l≠none):lW a b=true:=by
 unfold lW;cases l with
 |inl t=>
  have:=zU h2;have h1:t∈a.kK:=h1;simp[this,sW,DM.2 h1]
 |inr o=>
  have:=zT h2;rcases h1 with h2|⟨h2,h3⟩
  ·have:eX (keys b.us) a.rn=false:=rK this h2;simp[this]
  ·have:=M2 this h3;simp[this,h2]
theorem ag2{a b:Rec}{l:oj}(h1:a.wr l≠none)(h2:b.wr l≠none):lW a b=true:=by
 unfold lW;cases l with
 |inl t=>
  have e1:=zU h1;have e2:=zU h2;simp[e1,e2,sW,fP]
 |inr o=>
  have e1:=zT h1;have e2:=zT h2;have:eX (keys a.us) (b.rn++keys b.us)=false:=rK e1 (List.mem_append.2 (.inr e2));simp[this]
variable {C:Ctx}{ops:Array Oper}{rn:Option Nat}{ds:List Deferred}
def nT(L:Nat->Bool)(i:Nat):Nat->Bool:=fun j=>L j||decide (j=i)
theorem adq(H:a_ P C){xs:List Rec}{bw:ah}{i:Nat}{B:Oper}{x:Rec}(hx:xs[i]? =some x)(Z:ch bw B.dst=true)(hr:sT C ops (en (fun k=>decide (k<i)) 0 xs bw) B x)
  (qw:∀j y,xs[j]? =some y->∀k z,k<j->xs[k]? =some z->tJ ops k j\/lW z y=false) {L:Nat->Bool} (hc:AT ops L) (hi:L i=false) (hf:BO ops L i) (ap0:ops[i]? =some B)
  (S:am O Y X D (en L 0 xs bw) M w) {Q:Exit->Act->World->Prop} {K:Act->World->Prop} (bM:∀aI bW w',am O Y X aI (en (nT L i) 0 xs bw) bW w'->(∀t,t∉B.dst.toList->bW.getD t undef=M.getD t undef)->K ⟨bW,ds⟩ w'):wpOpIn (eE rn) 0 P ops Q i K ⟨M,ds⟩ w:=by
 have Jy:∀l,x.at_ l->eh (en (fun k=>decide (k<i)) 0 xs bw) l=eh (en L 0 xs bw) l:=fun l hl=>by
  refine(Do rfl fun j y hy hw=>?_).symm
  simp only[Nat.zero_add];rcases Nat.lt_trichotomy j i with h|h|h
  ·rcases qw i x hx j y h hy with h1|h1
   ·rw[h1 L hc hf];simp[h]
   ·rw[ag3 hw hl] at h1;cases h1
  ·subst h;rw[hi];simp
  ·have:L j=false:=by
    cases qX:L j with
    |false=>rfl
    |true=>
     rcases qw j y hy i x h hx with h1|h1
     ·have:=h1 L hc (hc j qX);rw[hi] at this;cases this
     ·rw[ag4 hl hw] at h1;cases h1
   rw[this];simp;omega
 have Ss:∀t,t∈x.kK->(en (fun k=>decide (k<i)) 0 xs bw).get t=(en L 0 xs bw).get t:=fun t aq=>by
  have:=Jy (.inl t) aq;simpa[eh] using this
 have A0:∀l,eh ((en L 0 xs bw).cT x.B.dst x.v x.us) l=eh (en (nT L i) 0 xs bw) l:=fun l=>by
  rw[xY];cases hw:x.wr l with
  |none=>
   simp only;refine Do rfl fun j y hy JP=>?_
   simp only[Nat.zero_add,nT];by_cases h:j=i
   ·subst h;rw[hx] at hy;cases hy;exact absurd hw JP
   ·simp[h]
  |some u=>
   simp only;refine(abA hx (by simp[nT]) hw fun j y pi hy JP=>?_).symm
   simp only[Nat.zero_add,nT];have:L j=false:=by
    cases qX:L j with
    |false=>rfl
    |true=>
     rcases qw j y hy i x pi hx with h1|h1
     ·have:=h1 L hc (hc j qX);rw[hi] at this;cases this
     ·rw[ag2 (by rw[hw];intro h;cases h) JP] at h1;cases h1
   rw[this];simp;omega
 have XI:ch (en L 0 xs bw) B.dst=true:=by revert Z;cases B.dst<;>simp[ch,Fa]
 have fin:∀aI bW w',am O Y X aI ((en L 0 xs bw).cT x.B.dst x.v x.us) bW w'->(∀t,t∉B.dst.toList->bW.getD t undef=M.getD t undef)->K ⟨bW,ds⟩ w':=fun aI bW w' ce=>bM aI bW w' (ce.same A0 (by rw[HM,Fa,Fa]))
 unfold wpOpIn;rw[ap0];simp only;have A2:Region.wanted B (yielded ops M)=x.go:=by
  cases hg:B.guard with
  |none=>rw[hr.free hg];simp[Region.wanted,hg]
  |some K9=>
   obtain⟨j,want⟩:=K9;obtain⟨t,h1,h2,h3⟩:=hr.guard j want hg;rw[show Region.wanted B (yielded ops M)=(yielded ops M j==some want) by simp[Region.wanted,hg]]
   have i':=S.cF t;rw[<-Ss t h2] at i';rcases h3 with⟨b,h3,aw⟩|⟨⟨u,h3⟩,aw⟩
   ·rw[h3] at i';have hv:=jt i';have hy:yielded ops M j=some b:=by
     have aq:t<M.size:=by
      rcases Nat.lt_or_ge t M.size with af|af
      ·exact af
      ·simp[Array.getD,Nat.not_lt.2 af,undef] at hv
     have:M[t]? =some (.bool b):=by
      rw[Array.getElem?_eq_getElem aq];simpa[Array.getD,aq] using hv
     simp[yielded,h1,this]
    rw[hy,aw];cases b<;>cases want<;>rfl
   ·rw[h3] at i';have hv:M.getD t undef=.tuple u:=i';have hy:yielded ops M j=none:=by
     simp only[yielded,h1,Option.bind_some];cases aq:M[t]? with
     |none=>rfl
     |some v=>
      have:M.getD t undef=v:=by simp[Array.getD_eq_getD_getElem?,aq]
      rw[this] at hv;rw[hv]
    rw[hy,aw];rfl
 cases tv:x.go with
 |false=>
  rw[tv] at A2;rw[if_neg (by rw[A2];decide)]
  obtain⟨e1,e2⟩:=hr.skip tv;refine⟨fun f _=>Bf rn f,xB (R:=ah) (r:=(en L 0 xs bw).cT B.dst zV []) S (K:=some) (by simp[sn,XI]) fun eC gz hM aN h1 dr=>?_⟩
  cases h1;refine fin gz hM aN ?_
  rw[hr.hd,e1,e2];exact dr
 |true=>
  rw[tv] at A2;rw[if_pos A2];obtain⟨y,g1,g2,g3,g4,g5,g6,g7⟩:=hr.run tv;have dJ:step C (en (fun k=>decide (k<i)) 0 xs bw) B=step C (en L 0 xs bw) B:=by
   refine aaQ (fun t aq=>Ss t (g5 t aq)) (fun o bo=>?_) fun ajT o bo=>?_
   ·have:=Jy (.inr o) (.inl (g6 o bo));simpa[eh] using this
   ·have:=Jy (.inr o) (.inr ⟨g7 ajT,bo⟩);simpa[eh] using this
  revert y
  rw[dJ];intro y g1 g2 g3 g4;refine nk (R:=ah) (r:=(en L 0 xs bw).cT B.dst x.v x.us) S H (K:=some) ?_ fun eC gz hM aN h1 dr=>?_
  ·unfold ki;rw[XI,cond_true,g1];simp only[Option.bind_some,g2,cond_true,g3,g4]
  ·cases h1;refine fin gz hM aN ?_
   rw[hr.hd];exact dr
def vT(listed:Array Bool):Nat:=listed.toList.count false
def gw(listed:Array Bool):Nat->Bool:=fun j=>listed.getD j false
theorem afM{listed:Array Bool}{i:Nat}(h:listed.getD i true=false):vT (listed.setIfInBounds i true)+1=vT listed:=by
 unfold vT;have hlt:i<listed.size:=by
  rcases Nat.lt_or_ge i listed.size with af|af
  ·exact af
  ·simp[Array.getD,Nat.not_lt.2 af] at h
 have hv:listed.toList[i]'(by simpa using hlt)=false:=by simpa[Array.getD,hlt] using h
 rw[Array.toList_setIfInBounds,List.count_set (by simpa using hlt)]
 rw[hv];have:0<listed.toList.count false:=List.count_pos_iff.2 (by rw[<-hv];exact List.getElem_mem _)
 have e1:(if(false==false)=true then 1 else 0)=1:=rfl
 have e2:(if(true==false)=true then 1 else 0)=0:=rfl
 rw[e1,e2];omega
theorem N0{B:Oper}{t:Nat}:∀{l:List Oper},B∈l->t∈B.dst.toList->t∈ik l:=by
 intro l;induction l with
 |nil=>intro h;cases h
 |cons p l ih=>
  intro h aq;simp only[ik,List.mem_append];rcases List.mem_cons.1 h with rfl|h
  ·exact .inl aq
  ·exact .inr (ih h aq)
theorem afl(H:a_ P C){bw BX:ah}{xs:List Rec}(be:kR C ops ops.toList 0 [] bw xs BX){Q:Exit->Act->World->Prop}{eG:Array Value}(CH:∀D M w,am O Y X D BX M w->(∀t,t∉ik ops.toList->M.getD t undef=eG.getD t undef)->Q .normal ⟨M,ds⟩ w):
  ∀(lZ:Nat) (listed:Array Bool) (D:Nat->Value) (M:Array Value) (w:World),listed.size=ops.size->vT listed<=lZ->AT ops (gw listed)->am O Y X D (en (gw listed) 0 xs bw) M w->
   (∀t,t∉ik ops.toList->M.getD t undef=eG.getD t undef)->wpAnyIn (eE rn) 0 P .any ops Q lZ listed ⟨M,ds⟩ w:=by
 have hlen:xs.length=ops.size:=by rw[be.length];simp
 have qw:∀j y,xs[j]? =some y->∀k z,k<j->xs[k]? =some z->tJ ops k j\/lW z y=false:=fun j y hy k z hk hz=>by
  have:=be.apc [] rfl (fun j=>by simp) (fun k y h=>by simp at h) (fun k x b h=>by simp at h) j y hy k z (by omega) (by simpa using hz)
  simpa using this
 have all:∀listed:Array Bool,listed.size=ops.size->(∀j,j<ops.size->gw listed j=true)->∀D M w,am O Y X D (en (gw listed) 0 xs bw) M w->(∀t,t∉ik ops.toList->M.getD t undef=eG.getD t undef)->Q .normal ⟨M,ds⟩ w:=fun listed hs hl D M w S aq=>by
  refine CH D M w ?_ aq;rw[<-be.amf 0];rw[MA (L':=gw listed) (k':=0) fun j hj=>by simp only[Nat.zero_add];rw[hl j (by omega)]]
  exact S
 have done:∀listed:Array Bool,listed.size=ops.size->Region.ready .any ops listed=[]->∀j,j<ops.size->gw listed j=true:=fun listed hs hr j=>by
  induction j using Nat.strongRecOn with
  |_ j ih=>
   intro hj;cases qX:gw listed j with
   |true=>rfl
   |false=>
    exfalso
    have hx:xs[j]? =some (xs[j]'(by omega)):=List.getElem?_eq_getElem _
    obtain⟨B,h1,_,h3,_⟩:=be.at_ j _ hx;have h1:ops[j]? =some B:=by simpa using h1
    have hm:j∈Region.ready .any ops listed:=by
     rw[mem_ready];refine⟨?_,B,h1,fun e he hb=>?_⟩
     ·have hlt:j<listed.size:=by omega
      simpa[gw,Array.getD,hlt] using qX
     ·have:e.on<j:=by
       have l':e∈B.after.toList:=by simpa using he
       clear he hr;revert h3
       simp only[Nat.zero_add];generalize B.after.toList=es at l';induction es with
       |nil=>cases l'
       |cons cz es apx=>
        intro h3;simp only[sd,Bool.and_eq_true] at h3;rcases List.mem_cons.1 l' with rfl|l'
        ·rw[hb] at h3;simpa using h3.1
        ·exact apx l' h3.2
      have:=ih e.on this (by omega)
      simpa[gw] using this
    rw[hr] at hm;cases hm
 intro lZ;induction lZ with
 |zero=>
  intro listed D M w hs hu hc S aq;have mJ:∀j,j<ops.size->gw listed j=true:=fun j hj=>by
   have h0:listed.toList.count false=0:=Nat.le_zero.1 hu;rw[List.count_eq_zero] at h0;cases qX:gw listed j with
   |true=>rfl
   |false=>
    exfalso
    have hlt:j<listed.size:=by omega
    apply h0;have:listed.toList[j]'(by simpa using hlt)=false:=by simpa[gw,Array.getD,hlt] using qX
    rw[<-this];exact List.getElem_mem _
  refine⟨?_,all listed hs mJ D M w S aq⟩;rw[List.eq_nil_iff_forall_not_mem];intro j hj;rw[mem_ready] at hj;obtain⟨h1,B,h2,_⟩:=hj;have hj:j<ops.size:=(Array.getElem?_eq_some_iff.1 h2).1;have:=mJ j hj;have hlt:j<listed.size:=by omega
  simp[gw,Array.getD,hlt] at this h1;rw[h1] at this;cases this
 |succ lZ ih=>
  intro listed D M w hs hu hc S aq;refine⟨fun hr=>all listed hs (done listed hs hr) D M w S aq,fun i hi=>?_⟩
  have j_:=mem_ready.1 hi;obtain⟨h1,B,h2,h3⟩:=j_;have tu:i<ops.size:=(Array.getElem?_eq_some_iff.1 h2).1;have hx:xs[i]? =some (xs[i]'(by omega)):=List.getElem?_eq_getElem _
  obtain⟨cY,g1,g2,g3,g4⟩:=be.at_ i _ hx;have g1:ops[i]? =some cY:=by simpa using g1
  rw[h2] at g1;cases g1;have hlt:i<listed.size:=by omega
  have aqt:gw listed i=false:=by simpa[gw,Array.getD,hlt] using h1
  have hf:BO ops (gw listed) i:=fun o2 wj e he hb=>by
   rw[h2] at wj;cases wj;have:=h3 e (by simpa using he) hb
   simpa[gw] using this
  have vy:gw (listed.setIfInBounds i true)=nT (gw listed) i:=by
   funext j
   simp only[gw,nT];by_cases h:j=i
   ·subst h;simp[hlt]
   ·simp[h,Array.getElem?_setIfInBounds_ne (show i≠j from fun e=>h e.symm)]
  refine adq H hx g2 g4 qw hc aqt hf h2 S fun aI bW w' ce qK=>ih _ aI bW w' (by simpa using hs) (by have:=afM h1;omega) ?_ (by rw[vy];exact ce) fun t htn=>(qK t fun af=>htn (N0 (l:=ops.toList) (by simpa using Array.mem_of_getElem? h2) af)).trans (aq t htn)
  rw[vy];intro j hj o2 wj e he hb;simp only[nT,Bool.or_eq_true,decide_eq_true_eq] at hj;simp only[nT,Bool.or_eq_true,decide_eq_true_eq];rcases hj with hj|hj
  ·exact .inl (hc j hj o2 wj e he hb)
  ·subst hj;exact .inl (hf o2 wj e he hb)
theorem adk:∀l:List Nat,dI st.sites (AG st l):=by
 intro l;induction l with
 |nil=>exact .nil
 |cons t l ih=>
  refine dI.append ?_ ih;unfold R5;split
  ·rename_i o s _;split
   ·rename_i aC t xs hs;cases hb:aC.beq s with
    |false=>exact .nil
    |true=>
     intro aa ab hm;simp only[cond_true,List.mem_singleton,Prod.mk.injEq] at hm;obtain⟨rfl,rfl⟩:=hm;exact⟨aC,t,xs,rfl,.inl hs⟩
   ·exact .nil
  ·exact .nil
theorem abq(H:a_ P C)(hm:P.follows .mixedOrders=true){R:Type}{r:R}{K:ah->Option R}{id:Nat}{Q:Exit->Act->World->Prop}(S:am O Y X D st M w)(h:Qf C ops st K=some r)
  (bM:∀al aI bW w',K al=some r->am O Y X aI al bW w'->(∀t,t∉ik ops.toList->bW.getD t undef=M.getD t undef)->Q .normal ⟨bW,ds⟩ w'):fY rn P (Code.region id ops true) Q ⟨M,ds⟩ w:=by
 obtain⟨xs,BX,be,hk⟩:=adr h;have S:am O Y X D (st.h4 (AG st (Ex ops.toList ops.toList))) M w:=by rw[ah.ut];exact S.zL (adk _)
 refine wpIn_region_any hm (afl H be (fun D M w S=>bM BX D M w hk S) _ _ D M _ (by simp) ?_ ?_ ?_ (fun _ _=>rfl))
 ·unfold vT;simp
 ·intro j hj;simp only[gw] at hj;exfalso
  rw[Array.getD_eq_getD_getElem?,Array.getElem?_replicate] at hj;split at hj<;>cases hj
 ·rw[Dp fun j _=>by
   simp only[gw];rw[Array.getD_eq_getD_getElem?,Array.getElem?_replicate];split<;>rfl]
  exact S.drawn _
end
def sU(r:Option Nat)(c:Code):Prop:=r=none\/gJ c=true
theorem sU.left{r:Option Nat}{a b:Bool}(h:r=none\/(a&&b)=true):r=none\/a=true:=by
 rcases h with h|h
 ·exact .inl h
 ·simp only[Bool.and_eq_true] at h;exact .inr h.1
theorem sU.right{r:Option Nat}{a b:Bool}(h:r=none\/(a&&b)=true):r=none\/b=true:=by
 rcases h with h|h
 ·exact .inl h
 ·simp only[Bool.and_eq_true] at h;exact .inr h.2
theorem js{P:Program}{C:hJ}(H:a_ P C.toCtx){R:Type}{r:R}{rn:Option Nat}:∀(c:Code) (p:Nat),(rn=none\/gJ c=true)->ga P C c p->∀(O:World) (Y:List Nat) (X:Nat->Prop) (st:ah) (D:Nat->Value) (M:Array Value) (w:World)
  (ds:List Deferred) (K:Out->Option R)
  (Q:Exit->Act->World->Prop),exec C c p st K=some r->am O Y X D st M w->(∀B e a w',K B=some r->e6 O Y X ds M (cn c) B e a w'->Q e a w')->fY rn P c Q ⟨M,ds⟩ w:=by
 have piece:∀(c:Code) (p:Nat),(rn=none\/gJ c=true)->(∀f,C.nW p=some f->aY P c f)->∀(O:World) (Y:List Nat) (X:Nat->Prop) (st:ah) (D:Nat->Value) (M:Array Value) (w:World) (ds:List Deferred) (K:Out->Option R) (Q:Exit->Act->World->Prop) (x:Option R),
   wrap C p st K x=some r->am O Y X D st M w->(∀B e a w',K B=some r->e6 O Y X ds M (cn c) B e a w'->Q e a w')->(x=some r->fY rn P c Q ⟨M,ds⟩ w)->fY rn P c Q ⟨M,ds⟩ w:=by
  intro c p hn hf O Y X st D M w ds K Q x h S bM hx;unfold wrap at h;cases aE:C.nW p with
  |none=>simp only[aE] at h;exact hx h
  |some f=>
   simp only[aE] at h;cases hc:(f st).comp with
   |none=>simp[hc] at h
   |some y=>
    simp only[hc,Option.bind_some,(f st).run_eq] at h;exact wpIn_mono (hf f aE rn hn O Y X st y hc D M w ds S) fun e a w' hl=>bM _ e a w' h hl
 intro c;induction c with
 |skip=>
  intro p _ _ O Y X st D M w ds K Q h S bM;exact wpIn_skip (bM (.norm st) .normal _ _ h (eu.of S fun _ _=>rfl))
 |region id ops draw=>
  intro p hn ef O Y X st D M w ds K Q h S bM;cases draw with
  |false=>
   simp only[exec] at h;refine piece _ p hn ef O Y X st D M w ds K Q _ h S bM fun af=>?_
   refine wpIn_region ?_
   rw[List.range_eq_range'];refine acl H (W:=ik ops.toList) ops.size 0 (by omega) (fun B aE t aq=>N0 (by simpa using aE) aq) st D M w _ Q S af ?_
   intro al aI bW w' hk ce aq;exact bM (.norm al) .normal _ _ hk (eu.of ce aq)
  |true=>
   simp only[exec] at h;refine piece _ p hn ef O Y X st D M w ds K Q _ h S bM fun af=>?_
   exact abq H H.K6 S af fun al aI bW w' hk ce aq=>bM (.norm al) .normal _ _ hk (eu.of ce aq)
 |seq a b l5 qE=>
  intro p hn ef O Y X st D M w ds K Q h S bM;simp only[exec] at h;refine piece _ p hn ef.1 O Y X st D M w ds K Q _ h S bM fun af=>?_
  refine wpIn_seq (l5 _ (sU.left hn) ef.2.1 O Y X st D M w ds _ _ af S ?_);intro B e cM w' hk hl;have up:∀{B e cM w'},e6 O Y X ds M (cn a) B e cM w'->e6 O Y X ds M (cn (.seq a b)) B e cM w':=fun hl=>hl.mono fun t aq=>List.mem_append.2 (.inl aq)
  cases B with
  |norm al=>
   cases e<;>try exact hl.elim
   obtain⟨aN,dF,c7,aI,dG,h1,h2,h3,ce,bk⟩:=hl;obtain⟨bW,Le⟩:=cM;obtain⟨h3,aqE⟩:=h3;have h3:Le=dG.map mark++ds:=h3;subst h3;exact qE _ (sU.right hn) ef.2.2 aN dF c7 al aI bW w' _ K Q hk ce fun B e a2 w2 hk2 n6=>bM B e a2 w2 hk2 (e6.trans h1 h2 aqE bk n6)
  |exit id al=>
   cases e<;>try exact hl.elim
   exact bM _ _ _ _ hk (up hl)
  |ret al=>
   cases e<;>try exact hl.elim
   exact bM _ _ _ _ hk (up hl)
 |cond B a b l5 qE=>
  intro p hn ef O Y X st D M w ds K Q h S bM;simp only[exec] at h;refine piece _ p hn ef.1 O Y X st D M w ds K Q _ h S bM fun af=>?_
  split at af
  ·rename_i t aq;have hv:=GM S aq;have hv:Act.eval ⟨M,ds⟩ B=.bool t:=by cases B<;>exact hv
   cases t with
   |true=>exact wpIn_cond hv (l5 _ (sU.left hn) ef.2.1 O Y X st D M w ds K Q af S fun B e a2 w2 hk2 n6=>bM B e a2 w2 hk2 (n6.mono fun t aq=>List.mem_append.2 (.inl aq)))
   |false=>exact wpIn_cond hv (qE _ (sU.right hn) ef.2.2 O Y X st D M w ds K Q af S fun B e a2 w2 hk2 n6=>bM B e a2 w2 hk2 (n6.mono fun t aq=>List.mem_append.2 (.inr aq)))
  ·cases af
 |block id a l5=>
  intro p hn ef O Y X st D M w ds K Q h S bM;simp only[exec] at h;refine piece _ p hn ef.1 O Y X st D M w ds K Q _ h S bM fun af=>?_
  refine wpIn_block (l5 _ hn ef.2 O Y X st D M w ds _ _ af S ?_);intro B e cM w' hk hl;cases B with
  |norm al=>
   cases e<;>try exact hl.elim
   exact bM _ _ _ _ hk hl
  |exit iM al=>
   cases e<;>try exact hl.elim
   rename_i aui;obtain⟨rfl,hl⟩:=hl;simp only[Exit.inBlock];cases hb:iM.beq id with
   |true=>
    simp only[hb,cond_true] at hk;have:=Nat.eq_of_beq_eq_true hb;subst this;simp only[if_true];exact bM _ _ _ _ hk hl
   |false=>
    simp only[hb,cond_false] at hk;have:iM≠id:=by rintro rfl;rw[Nat.beq_refl] at hb;cases hb
    simp only[this,if_false];exact bM _ _ _ _ hk ⟨rfl,hl⟩
  |ret al=>
   cases e<;>try exact hl.elim
   exact bM _ _ _ _ hk hl
 |loop a _=>
  intro p hn ef O Y X st D M w ds K Q h S bM;simp only[exec] at h;exact piece _ p hn ef O Y X st D M w ds K Q _ h S bM fun af=>by cases af
 |rangeFunc=>
  intro p hn ef O Y X st D M w ds K Q h S bM;simp only[exec] at h;exact piece _ p hn ef O Y X st D M w ds K Q _ h S bM fun af=>by cases af
 |exit id=>
  intro p _ _ O Y X st D M w ds K Q h S bM;exact wpIn_exit (bM (.exit id st) (.exit id) _ _ h ⟨rfl,eu.of S fun _ _=>rfl⟩)
 |ret=>
  intro p _ _ O Y X st D M w ds K Q h S bM;exact wpIn_ret (bM (.ret st) .ret _ _ h (eu.of S fun _ _=>rfl))
 |_=>
  intro p _ _ O Y X st D M w ds K Q h S bM;simp only[exec] at h;cases h
inductive dy:Type where
 |int (k:IntKind)
 |bool
 |str
 |sl (t:a6)
 |map (t:a6)
 |err (T:Nat)
@[reducible] def dy.J:dy->Type
 |.int _=>Int
 |.bool=>Bool
 |.str=>F
 |.sl t=>List (den t)
 |.map t=>List (F×den t)
 |.err _=>Option Int
def dy.mk:(s:dy)->s.J->aZ
 |.int k,n=>.int k n
 |.bool,b=>.bool b
 |.str,s=>.str s
 |.sl t,xs=>.sl t xs
 |.map t,es=>.map t es
 |.err T,B=>.err T B
def dy.ex:(s:dy)->aZ->Option s.J
 |.int k,.int k' n=>if k=k' then some n else none
 |.bool,.bool b=>some b
 |.str,.str s=>some s
 |.sl t,.sl bj xs=>if h:bj=t then some (h▸xs) else none
 |.map t,.map bj es=>if h:bj=t then some (h▸es) else none
 |.err T,.err gr B=>if gr=T then some B else none
 |_,_=>none
theorem dy.RQ{s:dy}{d:aZ}{y:s.J}(h:s.ex d=some y):s.mk y=d:=by
 unfold dy.ex at h;split at h
 ·split at h
  ·rename_i e;cases h;subst e;rfl
  ·cases h
 ·cases h;rfl
 ·cases h;rfl
 ·split at h
  ·rename_i e;cases h;subst e;rfl
  ·cases h
 ·split at h
  ·rename_i e;cases h;subst e;rfl
  ·cases h
 ·split at h
  ·rename_i e;cases h;subst e;rfl
  ·cases h
 ·cases h
@[reducible] def kH:List dy->Type
 |[]=>Unit
 |s::r=>s.J×kH r
def e9:(aR:List dy)->kH aR->List aZ
 |[],_=>[]
 |s::r,(y,z)=>s.mk y::e9 r z
def vF:(aR:List dy)->List aZ->Option (kH aR)
 |[],[]=>some ()
 |s::r,d::ds=>match s.ex d,vF r ds with
  |some y,some z=>some (y,z)
  |_,_=>none
 |_,_=>none
theorem PY:∀{aR:List dy} {ds:List aZ} {y:kH aR},vF aR ds=some y->e9 aR y=ds:=by
 intro aR;induction aR with
 |nil=>intro ds y h;cases ds with
  |nil=>rfl
  |cons=>cases h
 |cons s aR ih=>
  intro ds y h;cases ds with
  |nil=>cases h
  |cons d ds=>
   simp only[vF] at h;split at h
   ·rename_i a b h1 h2;cases h;simp only[e9,dy.RQ h1,ih h2]
   ·cases h
@[reducible] def vI:List (List dy)->Type
 |[]=>Unit
 |s::r=>kH s×vI r
def u':(aR:List (List dy))->vI aR->List (List aZ)
 |[],_=>[]
 |s::r,(y,z)=>e9 s y::u' r z
def A9:(aR:List (List dy))->List (List aZ)->Option (vI aR)
 |[],[]=>some ()
 |s::r,d::ds=>match vF s d,A9 r ds with
  |some y,some z=>some (y,z)
  |_,_=>none
 |_,_=>none
theorem aeU:∀{aR:List (List dy)} {ds:List (List aZ)} {y:vI aR},A9 aR ds=some y->u' aR y=ds:=by
 intro aR;induction aR with
 |nil=>intro ds y h;cases ds with
  |nil=>rfl
  |cons=>cases h
 |cons s aR ih=>
  intro ds y h;cases ds with
  |nil=>cases h
  |cons d ds=>
   simp only[A9] at h;split at h
   ·rename_i a b h1 h2;cases h;simp only[u',PY h1,ih h2]
   ·cases h
inductive e4:Type where
 |any
 |d (s:dy)
 |fn (g:FuncId) (cK:List (List dy))
 |ev (aR:List dy) (off:Nat)
 |own (n:Nat)
 |ptr (n off:Nat)
 |clo (g:FuncId) (ns:List Nat)
 |dn
 |Bn -- td nil interface
 |eT (n:Nat) (t:a6)
@[reducible] def e4.J:e4->Type
 |.d s=>s.J
 |.fn _ cK=>vI cK
 |.ev aR _=>kH aR
 |_=>Unit
def e4.mk:(s:e4)->s.J->aF
 |.any,_=>.any
 |.d s,y=>.d (s.mk y)
 |.fn g cK,y=>.d (.fn g (u' cK y))
 |.ev aR off,y=>.ev (e9 aR y) off
 |.own n,_=>.own n 0
 |.ptr n off,_=>.ptr n 0 off
 |.clo g ns,_=>.clo g (ns.map fun n=>(n,0))
 |.dn,_=>.dn
 |.Bn,_=>.cP .nilIface
 |.eT n t,_=>.eT n 0 t 0 0
abbrev Ren:=List (Nat×Option (Nat×Nat))
def mC(ρ:Ren)(n o s:Nat):Bool:=match look ρ n with
 |some (some (Wl,aC))=>Wl.beq o&&aC.beq s
 |_=>false
def ux(ρ:Ren):List Nat->List (Nat×Nat)->Bool
 |[],[]=>true
 |n::ns,(o,s)::cs=>mC ρ n o s&&ux ρ ns cs
 |_,_=>false
def mu(ρ:Ren):List Nat
 :=match ρ with
 |[]=>[]
 |(_,some (o,_))::r=>o::mu r
 |(_,none)::r=>mu r
def e4.ex(st:ah)(ρ:Ren):(s:e4)->aF->Option s.J
 |.any,_=>some ()
 |.d s,.d v=>s.ex v
 |.d (.sl t),.nil _=>some ([]:List (den t))
 |.d (.err _),.cP .nilIface=>some (none:Option Int)
 |.d (.sl t),.own o s=>match st.ab o with
  |some (.di aC bj xs)=>bif aC.beq s then(if h:bj=t then some (h▸xs:List (den t)) else none) else none
  |_=>none
 |.d (.map t),.own o s=>match st.ab o with
  |some (.map aC bj es)=>bif aC.beq s&&!fP o (mu ρ) then(if h:bj=t then some (h▸es:List (F×den t)) else none) else none
  |_=>none
 |.fn g cK,.d (.fn ct cs)=>bif Nat.beq g ct then A9 cK cs else none
 |.fn g [],.clo ct []=>bif Nat.beq g ct then some () else none
 |.ev aR off,.ev ds oY=>bif Nat.beq off oY then vF aR ds else none
 |.own n,.own o s=>bif mC ρ n o s then some () else none
 |.own n,.nil _=>match look ρ n with|some none=>some ()|_=>none
 |.ptr n off,.ptr o s oY=>bif mC ρ n o s&&Nat.beq off oY then some () else none
 |.clo g ns,.clo ct cs=>bif Nat.beq g ct&&ux ρ ns cs then some () else none
 |.dn,.dn=>some ()
 |.Bn,.cP .nilIface=>some ()
 |.eT n t,.eT o s bj 0 0=>bif mC ρ n o s then(if bj=t then some () else none) else none
 |_,_=>none
@[reducible] def qB:List e4->Type
 |[]=>Unit
 |s::r=>s.J×qB r
def sF:(aR:List e4)->qB aR->List aF
 |[],_=>[]
 |s::r,(y,z)=>s.mk y::sF r z
def ql(st:ah)(ρ:Ren):(aR:List e4)->List aF->Option (qB aR)
 |[],[]=>some ()
 |s::r,l::ad=>match s.ex st ρ l,ql st ρ r ad with
  |some y,some z=>some (y,z)
  |_,_=>none
 |_,_=>none
inductive e0:Type where
 |ak (s:e4)
 |agg (aR:List e4)
@[reducible] def e0.J:e0->Type
 |.ak s=>s.J
 |.agg aR=>qB aR
def e0.mk:(s:e0)->s.J->aJ
 |.ak s,y=>bZ (s.mk y)
 |.agg aR,y=>.av (.agg (sF aR y))
def e0.ex(st:ah)(ρ:Ren):(s:e0)->aJ->Option s.J
 |.ak s,.av (.ak l)=>s.ex st ρ l
 |.agg aR,.av (.agg ad)=>ql st ρ aR ad
 |_,_=>none
@[reducible] def u0:List (Nat×e0)->Type
 |[]=>Unit
 |s::r=>s.2.J×u0 r
def uC:(aR:List (Nat×e0))->u0 aR->List (Nat×aJ)
 |[],_=>[]
 |s::r,(y,z)=>(s.1,s.2.mk y)::uC r z
def zM(st:ah)(ρ:Ren):(aR:List (Nat×e0))->Option (u0 aR)
 |[]=>some ()
 |s::r=>match s.2.ex st ρ (st.get s.1),zM st ρ r with
  |some y,some z=>some (y,z)
  |_,_=>none
inductive er:Type where
 |row (t:a6)
 |qo (t:a6) (n:Nat) -- auP att row,atC length hd told
 |box (aR:List e4)
 |map (t:a6)
@[reducible] def er.J:er->Type
 |.row t=>List (den t)
 |.qo t _=>List (den t)
 |.box aR=>qB aR
 |.map t=>List (F×den t)
def Bm{ax:Type}(z:ax):Nat->List ax->List ax
 |0,_=>[]
 |n+1,xs=>xs.headD z::Bm z n xs.tail
theorem PS{ax:Type}(z:ax):∀(xs:List ax),Bm z xs.length xs=xs
 |[]=>rfl
 |x::xs=>by simp only[List.length_cons,Bm,List.headD_cons,List.tail_cons,PS z xs]
def pad{t:a6}(n:Nat)(xs:List (den t)):List (den t):=match wL t with
 |some z=>Bm z n xs
 |none=>xs
theorem aim{t:a6}{n:Nat}{xs:List (den t)}(h:xs.length=n):pad n xs=xs:=by
 subst h;unfold pad;split
 ·exact PS _ _
 ·rfl
def er.mk:(s:er)->s.J->Site
 |.row t,xs=>.row 0 t xs
 |.qo t n,xs=>.row 0 t (pad n xs)
 |.box aR,y=>.box 0 (sF aR y)
 |.map t,es=>.map 0 t es
def er.ex(st:ah)(ρ:Ren):(s:er)->Option (Nat×Nat)->Option s.J
 |.row t,none=>some ([]:List (den t))
 |.row t,some (o,s)=>match st.ab o with
  |some (.row aC bj xs)=>bif aC.beq s then(if h:bj=t then some (h▸xs:List (den t)) else none) else none
  |_=>none
 |.qo _ _,none=>none
 |.qo t n,some (o,s)=>match st.ab o with
  |some (.row aC bj xs)=>bif aC.beq s then(if h:bj=t then(if xs.length=n then some (h▸xs:List (den t)) else none) else none) else none
  |_=>none
 |.box aR,some (o,s)=>match fD st o s with
  |some cells=>ql st ρ aR cells
  |none=>none
 |.box _,none=>none
 |.map t,some (o,s)=>match st.ab o with
  |some (.map aC bj es)=>bif aC.beq s then(if h:bj=t then some (h▸es:List (F×den t)) else none) else none
  |_=>none
 |.map _,none=>none
inductive Loc:Type where
 |same
 |slot (t j:Nat)
 |cell (o j:Nat)
def ajA(st:ah):Loc->Option aF
 |.same=>none
 |.slot t j=>match st.get t with
  |.av (.ak l)=>bif Nat.beq j 0 then some l else none
  |.av (.agg ad)=>ad[j]?
  |_=>none
 |.cell o j=>match st.ab o with
  |some (.box _ cells)=>cells[j]?
  |_=>none
def HV(st:ah)(n:Nat)(l:Loc):Option (Option (Nat×Nat)):=
 match l with
 |.same=>match st.ab n with|some s=>some (some (n,s.cq))|none=>none
 |l=>match ajA st l with
  |some (.own o s)=>some (some (o,s))
  |some (.ptr o s _)=>some (some (o,s))
  |some (.eT o s _ _ _)=>some (some (o,s))
  |some (.nil _)=>some none
  |_=>none
@[reducible] def sz:List (Nat×er×Loc)->Type
 |[]=>Unit
 |s::r=>s.2.1.J×sz r
def kg:(aR:List (Nat×er×Loc))->sz aR->List (Nat×Site)
 |[],_=>[]
 |s::r,(y,z)=>(s.1,s.2.1.mk y)::kg r z
def zN(st:ah)(ρ:Ren):(aR:List (Nat×er×Loc))->Option (sz aR)
 |[]=>some ()
 |s::r=>match(look ρ s.1).bind fun B=>s.2.1.ex st ρ B,zN st ρ r with
  |some y,some z=>some (y,z)
  |_,_=>none
def qf(st:ah):List (Nat×er×Loc)->Option Ren
 |[]=>some []
 |s::r=>match HV st s.1 s.2.2,qf st r with
  |some B,some ρ=>some ((s.1,B)::ρ)
  |_,_=>none
structure Shape where
 cF:List (Nat×e0)
 sites:List (Nat×er×Loc)
 nt:Nat
@[reducible] def Shape.J(aQ:Shape):Type:=u0 aQ.cF×sz aQ.sites
def Shape.st(aQ:Shape)(y:aQ.J):ah:=⟨uC aQ.cF y.1,kg aQ.sites y.2,aQ.nt⟩
def Bv(st:ah):e4->aF->List (Nat×Site)
 |.d (.sl _),.own o s=>match st.ab o with
  |some (.row aC t xs)=>bif aC.beq s then [(o,.di s t xs)] else []
  |_=>[]
 |_,_=>[]
def Bu(st:ah):List e4->List aF->List (Nat×Site)
 |s::aR,l::ad=>Bv st s l++Bu st aR ad
 |_,_=>[]
def Ux(st:ah):e0->aJ->List (Nat×Site)
 |.ak s,.av (.ak l)=>Bv st s l
 |.agg aR,.av (.agg ad)=>Bu st aR ad
 |_,_=>[]
def pU(st:ah):List (Nat×e0)->List (Nat×Site)
 |[]=>[]
 |s::r=>Ux st s.2 (st.get s.1)++pU st r
def Uw(st:ah):er->Option (Option (Nat×Nat))->List (Nat×Site)
 |.box aR,some (some (o,s))=>match fD st o s with
  |some cells=>Bu st aR cells
  |none=>[]
 |_,_=>[]
def pV(st:ah):List (Nat×er×Loc)->List (Nat×Site)
 |[]=>[]
 |s::r=>Uw st s.2.1 (HV st s.1 s.2.2)++pV st r
def Shape.ex(aQ:Shape)(bw:ah):Option aQ.J:=
 let st:=bw.h4 (pU bw aQ.cF++pV bw aQ.sites)
 bif st.nt.beq aQ.nt then
  match qf st aQ.sites with
  |some ρ=>bif fA (keys ρ)&&fA (mu ρ) then
    match zM st ρ aQ.cF,zN st ρ aQ.sites with
    |some y,some z=>some (y,z)
    |_,_=>none
   else none
  |none=>none
 else none
theorem Qd{st:ah}{s:e4}{l:aF}:dI st.sites (Bv st s l):=by
 unfold Bv;split
 ·rename_i o s;split
  ·rename_i aC t xs hl;cases hb:aC.beq s with
   |false=>exact .nil
   |true=>
    have:=Nat.eq_of_beq_eq_true hb;subst this;intro aa ab hm;simp only[cond_true,List.mem_singleton,Prod.mk.injEq] at hm;obtain⟨rfl,rfl⟩:=hm;exact⟨_,_,_,rfl,.inl hl⟩
  ·exact .nil
 ·exact .nil
theorem Qc{st:ah}:∀{aR:List e4} {ad:List aF},dI st.sites (Bu st aR ad):=by
 intro aR;induction aR with
 |nil=>intro ad;cases ad<;>exact .nil
 |cons s aR ih=>
  intro ad;cases ad with
  |nil=>exact .nil
  |cons l ad=>exact Qd.append ih
theorem aah{st:ah}:∀{aR:List (Nat×e0)},dI st.sites (pU st aR):=by
 intro aR;induction aR with
 |nil=>exact .nil
 |cons s aR ih=>
  refine dI.append ?_ ih;unfold Ux;split
  ·exact Qd
  ·exact Qc
  ·exact .nil
theorem aai{st:ah}:∀{aR:List (Nat×er×Loc)},dI st.sites (pV st aR):=by
 intro aR;induction aR with
 |nil=>exact .nil
 |cons s aR ih=>
  refine dI.append ?_ ih;unfold Uw;split
  ·split
   ·exact Qc
   ·exact .nil
  ·exact .nil
def sS(st:ah)(ρ:Ren)(bU:List (Nat×Site)):Prop:=
 ∀n B,look ρ n=some B->(∃aC,look bU n=some aC/\aC.cq=0)/\∀o s,B=some (o,s)->∃ab,look st.sites o=some ab/\ab.cq=s/\ab.live=true
def fB(D:Nat->Value)(ρ:Ren)(n:Nat):Value:=
 match look ρ n with
 |some (some (o,_))=>D o
 |some none=>.slice none 0 0
 |none=>undef
theorem aaW{ρ:Ren}{n o s:Nat}(h:mC ρ n o s=true):look ρ n=some (some (o,s)):=by
 unfold mC at h;split at h
 ·rename_i Wl aC hl;simp only[Bool.and_eq_true] at h;rw[hl,Nat.eq_of_beq_eq_true h.1,Nat.eq_of_beq_eq_true h.2]
 ·cases h
section
variable {O:World}{Y:List Nat}{X:Nat->Prop}{D:Nat->Value}{st:ah}{M:Array Value}{w:World}{ρ:Ren}{bU:List (Nat×Site)}{cd:Nat->Prop}
theorem zb(S:am O Y X D st M w)(hR:sS st ρ bU){n o s:Nat}(h:mC ρ n o s=true){p kd:Prop}(hr:Ref st.sites o s p)(hp:fB D ρ n=D o->p->kd):Ref bU n 0 kd:=by
 have hl:=aaW h;obtain⟨⟨aC,h1,h2⟩,h3⟩:=hR n _ hl;obtain⟨ab,aw,bk,_⟩:=h3 o s rfl;exact Ref.mk h1 h2 (hp (by simp[fB,hl]) (Ref.at hr aw bk))
theorem aaX(S:am O Y X D st M w)(hR:sS st ρ bU):∀{ns:List Nat} {cs:List (Nat×Nat)} {vs:List Value},ux ρ ns cs=true->vs.length=cs.length->
  (∀i (h:i<cs.length) (af:i<vs.length),Ref st.sites (cs[i]).1 (cs[i]).2 (vs[i]=D (cs[i]).1))->
  vs.length=(ns.map fun n=>(n,0)).length/\∀i (h:i<(ns.map fun n=>((n,0):Nat×Nat)).length) (af:i<vs.length),Ref bU ((ns.map fun n=>((n,0):Nat×Nat))[i]).1 ((ns.map fun n=>((n,0):Nat×Nat))[i]).2 (vs[i]=fB D ρ ((ns.map fun n=>((n,0):Nat×Nat))[i]).1):=by
 intro ns;induction ns with
 |nil=>
  intro cs vs h hl _;match cs,h with
  |[],_=>exact⟨by simpa using hl,fun i h=>by simp at h⟩
 |cons n ns ih=>
  intro cs vs h hl hr;match cs,h with
  |(o,s)::cs,h=>
   simp only[ux,Bool.and_eq_true] at h;match vs,hl with
   |v::vs,hl=>
    obtain⟨aB,aA⟩:=ih (vs:=vs) h.2 (by simpa using hl) (fun i g1 g2=>hr (i+1) (by simpa using g1) (by simpa using g2))
    refine⟨by simpa using aB,fun i g1 g2=>?_⟩
    cases i with
    |zero=>exact zb S hR h.1 (hr 0 (by simp) (by simp)) (fun e p=>p.trans e.symm)
    |succ i=>exact aA i (by simpa using g1) (by simpa using g2)
def Bg(D:Nat->Value)(st:ah)(ρ:Ren)(cd:Nat->Prop):Prop:=∀o,cg st.sites o->fP o (mu ρ)=false->∀b,bH (D o)=some b->¬cd b
theorem e4.f'(S:am O Y X D st M w)(hR:sS st ρ bU)(b9:∀b,cd b->ay X D st.sites b)(ef:Bg D st ρ cd){s:e4}{l:aF}{y:s.J}{v:Value}(h:s.ex st ρ l=some y)(hv:dQ D st.sites w (ay X D st.sites) l v):
  dQ (fB D ρ) bU w cd (s.mk y) v:=by
 have gT:∀{d:aZ} {v:Value},bD w (ay X D st.sites) d v->bD w cd d v:=fun h=>cc.gT (D:=D) (sites:=[]) (a:=one _) b9 (fun b hb=>S.lt (b9 b hb)) h
 unfold e4.ex at h;split at h
 ·trivial
 ·rename_i s v';have:s.mk y=v':=dy.RQ h;show bD w cd (s.mk y) v;rw[this];exact gT hv
 ·rename_i t u;cases h;have hv:v=.slice none 0 0:=hv;rw[hv];exact bD.nil t
 ·rename_i T;cases h;have hv:v=.nilIface:=hv;rw[hv];exact bD.vG T
 ·rename_i t o s;split at h
  ·rename_i aC bj xs hl;cases hb:aC.beq s with
   |false=>simp[hb] at h
   |true=>
    simp only[hb,cond_true] at h;split at h
    ·rename_i e;subst e;cases h;have hs:=Nat.eq_of_beq_eq_true hb;subst hs;have hl:look st.sites o=some (.di aC bj xs):=hl;have mS:v=D o:=Ref.at hv.2 hl rfl;rw[mS];exact gT (S.sites o _ hl).1
    ·cases h
  ·cases h
 ·rename_i t o s;split at h
  ·rename_i aC bj es hl;cases hb:(aC.beq s&&!fP o (mu ρ)) with
   |false=>simp[hb] at h
   |true=>
    simp only[hb,cond_true] at h;simp only[Bool.and_eq_true,Bool.not_eq_true'] at hb;split at h
    ·rename_i e;subst e;cases h;have hs:=Nat.eq_of_beq_eq_true hb.1;subst hs;have hl:look st.sites o=some (.map aC bj es):=hl;have mS:v=D o:=Ref.at hv.2 hl rfl;obtain⟨b,h1,h2⟩:=S.sites o _ hl;rw[mS,h1];exact bD.map bj es b (ef o ⟨_,hl,rfl⟩ hb.2 b (by rw[h1];rfl)) h2
    ·cases h
  ·cases h
 ·rename_i g cK ct cs;cases hb:Nat.beq g ct with
  |false=>simp[hb] at h
  |true=>
   simp only[hb,cond_true] at h;have:=Nat.eq_of_beq_eq_true hb;subst this;show bD w cd (.fn g (u' cK y)) v;rw[aeU h];exact gT hv
 ·rename_i g ct;cases hb:Nat.beq g ct with
  |false=>simp[hb] at h
  |true=>
   have:=Nat.eq_of_beq_eq_true hb;subst this;obtain⟨vs,h1,h2,_⟩:=hv;rw[List.eq_nil_of_length_eq_zero h2] at h1;rw[h1];exact kl.fn (bz:=[]) (vs:=[]) trivial
 ·rename_i aR off ds oY;cases hb:Nat.beq off oY with
  |false=>simp[hb] at h
  |true=>
   simp only[hb,cond_true] at h;have:=Nat.eq_of_beq_eq_true hb;subst this;have e:=PY h;obtain⟨b,B,h1,h2,h3,cs,aw,bk,cp⟩:=hv;show dQ (fB D ρ) bU w cd (.ev (e9 aR y) off) v;rw[e];exact⟨b,B,h1,fun hx=>h2 (b9 b hx),h3,cs,aw,bk,fun j g1 g2=>gT (cp j g1 g2)⟩
 ·rename_i n o s;cases hb:mC ρ n o s with
  |false=>simp[hb] at h
  |true=>exact⟨hv.1,zb S hR hb hv.2 (fun e p=>p.trans e.symm)⟩
 ·rename_i n t;split at h
  ·rename_i hl;have hv:v=.slice none 0 0:=hv;obtain⟨⟨aC,h1,h2⟩,_⟩:=hR n _ hl;exact⟨by rw[hv];rfl,Ref.mk h1 h2 (by simp[fB,hl,hv])⟩
  ·cases h
 ·rename_i n off o s oY;cases hb:(mC ρ n o s&&Nat.beq off oY) with
  |false=>simp[hb] at h
  |true=>
   simp only[Bool.and_eq_true] at hb;have:=Nat.eq_of_beq_eq_true hb.2;subst this;obtain⟨b,h1,h2⟩:=hv;exact⟨b,h1,zb S hR hb.1 h2 (fun e p=>e.trans p)⟩
 ·rename_i g ns ct cs;cases hb:(Nat.beq g ct&&ux ρ ns cs) with
  |false=>simp[hb] at h
  |true=>
   simp only[Bool.and_eq_true] at hb;have:=Nat.eq_of_beq_eq_true hb.1;subst this;obtain⟨vs,h1,h2,h3⟩:=hv;obtain⟨aB,aA⟩:=aaX S hR hb.2 h2 h3;exact⟨vs,h1,aB,aA⟩
 ·trivial
 ·exact hv
 ·rename_i n t o s bj;cases hb:mC ρ n o s with
  |false=>simp[hb] at h
  |true=>
   simp only[hb,cond_true] at h;split at h
   ·rename_i e;subst e;obtain⟨b,h1,h2⟩:=hv;exact⟨b,h1,zb S hR hb h2 (fun e p=>by rw[e];exact p)⟩
   ·cases h
 ·cases h
theorem abo{aR:List e4}{ad:List aF}{y:qB aR}(h:ql st ρ aR ad=some y)(bP:(sF aR y).head?=some .dn):ad.head?=some .dn:=by
 cases aR with
 |nil=>cases bP
 |cons s aR=>
  cases ad with
  |nil=>cases h
  |cons l ad=>
   simp only[ql] at h;split at h
   ·rename_i a b h1 h2;cases h;simp only[sF,List.head?_cons,Option.some.injEq] at bP ⊢;cases s with
    |dn=>cases l<;>first|rfl|cases h1
    |_=>cases bP
   ·cases h
theorem O0(S:am O Y X D st M w)(hR:sS st ρ bU)(b9:∀b,cd b->ay X D st.sites b)(ef:Bg D st ρ cd):∀{aR:List e4} {ad:List aF} {y:qB aR} {vs:List Value},ql st ρ aR ad=some y->
  cr D st.sites w (ay X D st.sites) ad vs->cr (fB D ρ) bU w cd (sF aR y) vs:=by
 intro aR;induction aR with
 |nil=>
  intro ad y vs h hv;match ad,h with
  |[],_=>rw[hv.ny];exact .nil
 |cons s aR ih=>
  intro ad y vs h hv;match ad,h with
  |l::ad,h=>
   simp only[ql] at h;split at h
   ·rename_i a b h1 h2;cases h;obtain⟨v,ck,rfl,aB,aA⟩:=hv.inv;exact .cons (e4.f' S hR b9 ef h1 aB) (ih h2 aA)
   ·cases h
theorem e0.f'(S:am O Y X D st M w)(hR:sS st ρ bU)(b9:∀b,cd b->ay X D st.sites b)(ef:Bg D st ρ cd){s:e0}{a:aJ}{y:s.J}{v:Value}(h:s.ex st ρ a=some y)(hv:cc D st.sites w (ay X D st.sites) a v):
  cc (fB D ρ) bU w cd (s.mk y) v:=by
 unfold e0.ex at h;split at h
 ·exact e4.f' S hR b9 ef h hv
 ·obtain⟨vs,h1,h2,h3⟩:=hv;have:=O0 S hR b9 ef h ⟨h2,h3⟩;exact⟨vs,h1,this.1,this.2⟩
 ·cases h
theorem abm:∀{aR:List (Nat×e0)} {y:u0 aR},zM st ρ aR=some y->∀t v,look (uC aR y) t=some v->∃s:e0,∃y':s.J,s.ex st ρ (st.get t)=some y'/\v=s.mk y':=by
 intro aR;induction aR with
 |nil=>intro y h t v hl;cases hl
 |cons s aR ih=>
  intro y h t v hl;simp only[zM] at h;split at h
  ·rename_i a b h1 h2;cases h;simp only[uC,look] at hl;cases hb:s.1.beq t with
   |true=>
    simp only[hb,cond_true,Option.some.injEq] at hl;have:=Nat.eq_of_beq_eq_true hb;subst this;exact⟨s.2,a,h1,hl.symm⟩
   |false=>
    simp only[hb,cond_false] at hl;exact ih h2 t v hl
  ·cases h
theorem abn:∀{aR:List (Nat×er×Loc)} {y:sz aR},zN st ρ aR=some y->∀n bV,look (kg aR y) n=some bV->∃z:er,∃y':z.J,∃B,look ρ n=some B/\z.ex st ρ B=some y'/\bV=z.mk y':=by
 intro aR;induction aR with
 |nil=>intro y h n bV hl;cases hl
 |cons s aR ih=>
  intro y h n bV hl;simp only[zN] at h;split at h
  ·rename_i a b h1 h2;cases h;simp only[kg,look] at hl;cases hb:s.1.beq n with
   |true=>
    simp only[hb,cond_true,Option.some.injEq] at hl;have:=Nat.eq_of_beq_eq_true hb;subst this;obtain⟨B,aB,aA⟩:=Option.bind_eq_some_iff.1 h1;exact⟨s.2.1,a,B,aB,aA,hl.symm⟩
   |false=>
    simp only[hb,cond_false] at hl;exact ih h2 n bV hl
  ·cases h
theorem er.cq(z:er)(y:z.J):(z.mk y).cq=0:=by cases z<;>rfl
theorem aba{eC:ah}:∀{aR:List (Nat×er×Loc)} {ρ:Ren} {y:sz aR},qf eC aR=some ρ->∀n B,look ρ n=some B->(∃aC,look (kg aR y) n=some aC/\aC.cq=0):=by
 intro aR;induction aR with
 |nil=>intro ρ y h n B hl;simp only[qf] at h;cases h;cases hl
 |cons s aR ih=>
  intro ρ y h n B hl;simp only[qf] at h;split at h
  ·rename_i a b h1 h2;cases h;obtain⟨eD,fh⟩:=y;simp only[kg,look] at hl ⊢;cases hb:s.1.beq n with
   |true=>simp only[cond_true];exact⟨_,rfl,er.cq _ _⟩
   |false=>
    simp only[hb,cond_false] at hl ⊢;exact ih h2 n B hl
  ·cases h
theorem aa9{eC:ah}:∀{aR:List (Nat×er×Loc)} {ρ:Ren},qf eC aR=some ρ->(keys ρ).Nodup->∀n z,(n,z,Loc.same)∈aR->∃s,look ρ n=some (some (n,s)):=by
 intro aR;induction aR with
 |nil=>intro ρ h _ n z hm;simp at hm
 |cons s aR ih=>
  intro ρ h hn n z hm;simp only[qf] at h;split at h
  ·rename_i a b h1 h2;cases h;simp only[keys,List.nodup_cons] at hn;rcases List.mem_cons.1 hm with hm|hm
   ·subst hm;simp only[HV] at h1;split at h1
    ·cases h1;exact⟨_,by simp[look];rfl⟩
    ·cases h1
   ·obtain⟨aC,fG⟩:=ih h2 hn.2 n z hm;refine⟨aC,?_⟩;simp only[look];have:¬s.1=n:=by
     rintro rfl;have key:∀{ρ:Ren} {n:Nat} {B},look ρ n=some B->n∈keys ρ:=by
      intro ρ;induction ρ with
      |nil=>intro n B h;cases h
      |cons p ρ apz=>
       obtain⟨m,q⟩:=p;intro n B h;simp only[look] at h;cases hb:m.beq n with
       |true=>have:=Nat.eq_of_beq_eq_true hb;subst this;exact List.mem_cons_self
       |false=>simp only[hb,cond_false] at h;exact List.mem_cons_of_mem _ (apz h)
     exact hn.1 (key fG)
    rw[jB this];exact fG
  ·cases h
theorem C6:∀{ρ:Ren} {n o s:Nat},look ρ n=some (some (o,s))->o∈mu ρ:=by
 intro ρ;induction ρ with
 |nil=>intro n o s h;cases h
 |cons p ρ ih=>
  obtain⟨m,B⟩:=p;intro n o s h;simp only[look] at h;cases hb:m.beq n with
  |true=>
   simp only[hb,cond_true,Option.some.injEq] at h;subst h;exact List.mem_cons_self
  |false=>
   simp only[hb,cond_false] at h;have:=ih h;cases B with
   |none=>exact this
   |some q=>exact List.mem_cons_of_mem _ this
theorem _Y:∀{ρ:Ren} {n m o s aC:Nat},(mu ρ).Nodup->look ρ n=some (some (o,s))->look ρ m=some (some (o,aC))->n=m:=by
 intro ρ;induction ρ with
 |nil=>intro n m o s aC _ h;cases h
 |cons p ρ ih=>
  obtain⟨k,B⟩:=p;intro n m o s aC Z h af;simp only[look] at h af;have qU:(mu ρ).Nodup:=by
   cases B with
   |none=>exact Z
   |some q=>exact(List.nodup_cons.1 Z).2
  cases hb:k.beq n with
  |true=>
   simp only[hb,cond_true,Option.some.injEq] at h;subst h;cases dR:k.beq m with
   |true=>rw[<-Nat.eq_of_beq_eq_true hb,<-Nat.eq_of_beq_eq_true dR]
   |false=>
    simp only[dR,cond_false] at af;exact absurd (C6 af) (List.nodup_cons.1 Z).1
  |false=>
   simp only[hb,cond_false] at h;cases dR:k.beq m with
   |true=>
    simp only[dR,cond_true,Option.some.injEq] at af;subst af;exact absurd (C6 h) (List.nodup_cons.1 Z).1
   |false=>
    simp only[dR,cond_false] at af;exact ih qU h af
theorem Shape.f'(S:am O Y X D st M w){aQ:Shape}{y:aQ.J}(h:aQ.ex st=some y):∃aI,am O Y X aI (aQ.st y) M w/\∀n z,(n,z,Loc.same)∈aQ.sites->aI n=D n:=by
 unfold Shape.ex at h;have fm:dI st.sites (pU st aQ.cF++pV st aQ.sites):=aah.append aai;have dr:=S.zL fm;rw[<-ah.ut] at dr;generalize st.h4 (pU st aQ.cF++pV st aQ.sites)=eC at h dr;cases qN:eC.nt.beq aQ.nt with
 |false=>simp[qN] at h
 |true=>
  simp only[qN,cond_true] at h;split at h
  ·rename_i ρ Xm;cases hc:(fA (keys ρ)&&fA (mu ρ)) with
   |false=>simp[hc] at h
   |true=>
    simp only[hc,cond_true] at h;simp only[Bool.and_eq_true,rA] at hc;split at h
    ·rename_i eD fh h1 h2;cases h;have facts:=abn h2;have RB:∀{z:er} {y':z.J} {o s:Nat},z.ex eC ρ (some (o,s))=some y'->∃ab,look eC.sites o=some ab/\ab.cq=s/\ab.live=true:=by
      intro z y' o s hz;cases z with
      |row t=>
       simp only[er.ex] at hz;split at hz
       ·rename_i aC bj xs hl;cases hb:aC.beq s with
        |false=>simp[hb] at hz
        |true=>exact⟨_,hl,Nat.eq_of_beq_eq_true hb,rfl⟩
       ·cases hz
      |qo t n=>
       simp only[er.ex] at hz;split at hz
       ·rename_i aC bj xs hl;cases hb:aC.beq s with
        |false=>simp[hb] at hz
        |true=>exact⟨_,hl,Nat.eq_of_beq_eq_true hb,rfl⟩
       ·cases hz
      |box aR=>
       simp only[er.ex] at hz;split at hz
       ·rename_i hl;exact⟨_,gF hl,rfl,rfl⟩
       ·cases hz
      |map t=>
       simp only[er.ex] at hz;split at hz
       ·rename_i aC bj xs hl;cases hb:aC.beq s with
        |false=>simp[hb] at hz
        |true=>exact⟨_,hl,Nat.eq_of_beq_eq_true hb,rfl⟩
       ·cases hz
     have hR:sS eC ρ (kg aQ.sites fh):=by
      intro n B hn;obtain⟨aC,kB,qL⟩:=aba (y:=fh) Xm n B hn;refine⟨⟨aC,kB,qL⟩,fun o s e=>?_⟩
      obtain⟨z,y',cY,aB,aA,_⟩:=facts n aC kB;rw[hn] at aB;cases aB;subst e;exact RB aA
     have live:∀n,cg (kg aQ.sites fh) n->∀b,bH (fB D ρ n)=some b->∃o s,look ρ n=some (some (o,s))/\cg eC.sites o/\fB D ρ n=D o:=by
      rintro n ⟨bV,hn,_⟩ b hb;obtain⟨z,y',B,aB,aA,_⟩:=facts n bV hn;cases B with
      |none=>simp[fB,aB,bH] at hb
      |some q=>
       obtain⟨o,s⟩:=q;obtain⟨ab,q1,_,cU⟩:=RB aA;exact⟨o,s,aB,⟨ab,q1,cU⟩,by simp[fB,aB]⟩
     have b9:∀b,ay X (fB D ρ) (kg aQ.sites fh) b->ay X D eC.sites b:=by
      rintro b (hb|⟨n,hn,hb⟩)
      ·exact .inl hb
      ·obtain⟨o,s,_,q2,cU⟩:=live n hn b hb;exact .inr ⟨o,q2,by rw[<-cU];exact hb⟩
     have gT:∀{d:aZ} {v:Value},bD w (ay X D eC.sites) d v->bD w (ay X (fB D ρ) (kg aQ.sites fh)) d v:=
      fun h=>cc.gT (D:=D) (sites:=[]) (a:=one _) b9 (fun b hb=>dr.lt (b9 b hb)) h
     have ef:Bg D eC ρ (ay X (fB D ρ) (kg aQ.sites fh)):=by
      rintro o cJ hm b hb (hx|⟨n,hn,wk⟩)
      ·exact(dr.ci o b cJ hb).1 hx
      ·obtain⟨aa,s,q1,q2,cU⟩:=live n hn b wk;rw[cU] at wk;have e:=dr.dV o aa b cJ q2 hb wk;subst e;have hin:=C6 q1;rw[<-un] at hin;rw[hm] at hin;cases hin
     refine⟨fB D ρ,⟨?_,fun t=>?_,fun n bV hn=>?_,fun n m b ee gB g1 g2=>?_,fun n b ee g1=>?_,dr.frame,dr.old,dr.eY⟩,fun n z hm=>?_⟩
     ·rw[dr.nt];exact Nat.eq_of_beq_eq_true qN
     ·show cc _ _ _ _ (ah.get _ t) _;unfold ah.get;cases hl:look (uC aQ.cF eD) t with
      |none=>simp only[Shape.st,hl];trivial
      |some v=>
       simp only[Shape.st,hl];obtain⟨s,y',aB,aA⟩:=abm h1 t v hl;rw[aA];exact e0.f' dr hR b9 ef aB (dr.cF t)
     ·have hn:look (kg aQ.sites fh) n=some bV:=hn;obtain⟨z,y',B,aB,aA,bC⟩:=facts n bV hn;rw[bC];cases z with
      |row t=>
       cases B with
       |none=>
        simp only[er.ex] at aA;cases aA;exact⟨0,[],⟨by simp,.inl ⟨by simp[fB,aB],rfl⟩⟩,fun j h=>by simp[flat] at h⟩
       |some q=>
        obtain⟨o,s⟩:=q;simp only[er.ex] at aA;split at aA
        ·rename_i aC bj xs hl;cases hb:aC.beq s with
         |false=>simp[hb] at aA
         |true=>
          simp only[hb,cond_true] at aA;split at aA
          ·rename_i e;subst e;cases aA;obtain⟨e,cs,q1,q2⟩:=dr.sites o _ hl;refine⟨e,cs,?_,fun j g1 g2=>gT (q2 j g1 g2)⟩
           have:fB D ρ n=D o:=by simp[fB,aB]
           rw[this];exact q1
          ·cases aA
        ·cases aA
      |qo t m=>
       cases B with
       |none=>cases aA
       |some q=>
        obtain⟨o,s⟩:=q;simp only[er.ex] at aA;split at aA
        ·rename_i aC bj xs hl;cases hb:aC.beq s with
         |false=>simp[hb] at aA
         |true=>
          simp only[hb,cond_true] at aA;split at aA
          ·rename_i e;subst e;split at aA
           ·rename_i hlen;cases aA;obtain⟨e,cs,q1,q2⟩:=dr.sites o _ hl;simp only[er.mk,aim hlen];refine⟨e,cs,?_,fun j g1 g2=>gT (q2 j g1 g2)⟩
            have:fB D ρ n=D o:=by simp[fB,aB]
            rw[this];exact q1
           ·cases aA
          ·cases aA
        ·cases aA
      |box aR=>
       cases B with
       |none=>cases aA
       |some q=>
        obtain⟨o,s⟩:=q;simp only[er.ex] at aA;split at aA
        ·rename_i cells hl;obtain⟨b,T,cur,q1,q2,cU,jm,ao9,ra⟩:=dr.sites o _ (gF hl);have:=O0 dr hR b9 ef aA ⟨cU,ra⟩;exact⟨b,T,cur,by simp[fB,aB,q1],q2,this.1,jm,fun bP=>ao9 (abo aA bP),this.2⟩
        ·cases aA
      |map t=>
       cases B with
       |none=>cases aA
       |some q=>
        obtain⟨o,s⟩:=q;simp only[er.ex] at aA;split at aA
        ·rename_i aC bj es hl;cases hb:aC.beq s with
         |false=>simp[hb] at aA
         |true=>
          simp only[hb,cond_true] at aA;split at aA
          ·rename_i e;subst e;cases aA;obtain⟨b,q1,q2⟩:=dr.sites o _ hl;have:fB D ρ n=D o:=by simp[fB,aB]
           exact⟨b,this.trans q1,q2⟩
          ·cases aA
        ·cases aA
     ·obtain⟨o,s,a1,a2,a3⟩:=live n ee b g1;obtain⟨aa,aC,b1,b2,b3⟩:=live m gB b g2;rw[a3] at g1;rw[b3] at g2;have:=dr.dV o aa b a2 b2 g1 g2;subst this;exact _Y hc.2 a1 b1
     ·obtain⟨o,s,a1,a2,a3⟩:=live n ee b g1;rw[a3] at g1;exact dr.ci o b a2 g1
     ·obtain⟨s,hs⟩:=aa9 Xm hc.1 n z hm;simp[fB,hs]
    ·cases h
  ·cases h
end
inductive Kind:Type where
 |norm
 |exit (id:Nat)
 |ret
abbrev aO:=Kind×Shape
@[reducible] def aD:List aO->Type
 |[]=>Empty
 |[B]=>B.2.J
 |B::cY::r=>Sum B.2.J (aD (cY::r))
def Kind.mk:Kind->ah->Out
 |.norm,st=>.norm st
 |.exit id,st=>.exit id st
 |.ret,st=>.ret st
def lo:(os:List aO)->aD os->Out
 |[B],y=>B.1.mk (B.2.st y)
 |B::cY::r,y=>match y with
  |.inl y=>B.1.mk (B.2.st y)
  |.inr y=>lo (cY::r) y
def Kind.hd:Kind->Out->Option ah
 |.norm,.norm st=>some st
 |.exit id,.exit iM st=>bif Nat.beq id iM then some st else none
 |.ret,.ret st=>some st
 |_,_=>none
def gY:(os:List aO)->Out->Option (aD os)
 |[],_=>none
 |[B],x=>match B.1.hd x with
  |some st=>B.2.ex st
  |none=>none
 |B::cY::r,x=>match B.1.hd x with
  |some st=>(B.2.ex st).map Sum.inl
  |none=>(gY (cY::r) x).map Sum.inr
section
variable {O:World}{Y:List Nat}{X:Nat->Prop}{ds:List Deferred}{eG:Array Value}{W:List Nat}
theorem eu.ex{st:ah}{aQ:Shape}{y:aQ.J}{a:Act}{w:World}(hy:aQ.ex st=some y)(h:eu O Y X ds eG W st a w):eu O Y X ds eG W (aQ.st y) a w:=by
 obtain⟨aN,dF,c7,D,dG,h1,h2,h3,S,bk⟩:=h;obtain⟨aI,ce,_⟩:=Shape.f' S hy;exact⟨aN,dF,c7,aI,dG,h1,h2,h3,ce,bk⟩
theorem Kind.EY{k:Kind}{x:Out}{st:ah}{aQ:Shape}{y:aQ.J}{e:Exit}{a:Act}{w:World}(h:k.hd x=some st)(hy:aQ.ex st=some y)(hl:e6 O Y X ds eG W x e a w):e6 O Y X ds eG W (k.mk (aQ.st y)) e a w:=by
 cases k<;>cases x<;>simp only[Kind.hd] at h<;>try(cases h;done)
 ·cases h;cases e<;>try exact hl.elim
  exact eu.ex hy hl
 ·rename_i id iM al;cases hb:Nat.beq id iM with
  |false=>simp[hb] at h
  |true=>
   simp only[hb,cond_true,Option.some.injEq] at h;subst h;cases e<;>try exact hl.elim
   exact⟨(Nat.eq_of_beq_eq_true hb).trans hl.1,eu.ex hy hl.2⟩
 ·cases h;cases e<;>try exact hl.elim
  exact eu.ex hy hl
theorem ui:∀{os:List aO} {x:Out} {y:aD os} {e:Exit} {a:Act} {w:World},gY os x=some y->e6 O Y X ds eG W x e a w->e6 O Y X ds eG W (lo os y) e a w:=by
 intro os;induction os with
 |nil=>intro x y;exact y.elim
 |cons B os ih=>
  intro x y e a w h hl;cases os with
  |nil=>
   simp only[gY] at h;split at h
   ·rename_i st hk;exact Kind.EY hk h hl
   ·cases h
  |cons cY r=>
   simp only[gY] at h;split at h
   ·rename_i st hk;obtain⟨eD,aB,aA⟩:=Option.map_eq_some_iff.1 h;subst aA;exact Kind.EY hk aB hl
   ·obtain⟨eD,aB,aA⟩:=Option.map_eq_some_iff.1 h;subst aA;exact ih aB hl
end
section
variable {J bh:Type}
def iter(f:J->Option (Sum J bh)):Nat->J->Option bh
 |0,_=>none
 |n+1,y=>match f y with
  |none=>none
  |some (.inl y')=>iter f n y'
  |some (.inr b)=>some b
theorem NR{f:J->Option (Sum J bh)}:∀{n m:Nat} {y:J} {b:bh},n<=m->iter f n y=some b->iter f m y=some b:=by
 intro n;induction n with
 |zero=>intro m y b _ h;cases h
 |succ n ih=>
  intro m y b hle h;obtain⟨m,rfl⟩:∃k,m=k+1:=⟨m-1,by omega⟩
  simp only[iter] at h ⊢;split at h
  ·cases h
  ·exact ih (by omega) h
  ·exact h
open Classical in
noncomputable def bv(f:J->Option (Sum J bh))(y:J):Option bh:=
 if h:∃n b,iter f n y=some b then some (Classical.choose (Classical.choose_spec h)) else none
theorem DO{f:J->Option (Sum J bh)}{y:J}{b:bh}:bv f y=some b <-> ∃n,iter f n y=some b:=by
 unfold bv;constructor
 ·intro h;split at h
  ·rename_i af;cases h;exact⟨_,Classical.choose_spec (Classical.choose_spec af)⟩
  ·cases h
 ·rintro⟨n,hn⟩;have h:∃n b,iter f n y=some b:=⟨n,b,hn⟩;rw[dif_pos h];have h1:=Classical.choose_spec (Classical.choose_spec h);have h2:=NR (Nat.le_max_left (Classical.choose h) n) h1;have h3:=NR (Nat.le_max_right (Classical.choose h) n) hn;rw[h2] at h3;exact h3
theorem yj(f:J->Option (Sum J bh))(y:J):bv f y=match f y with
  |none=>none
  |some (.inl y')=>bv f y'
  |some (.inr b)=>some b:=by
 apply Option.ext;intro b;rw[DO];cases hf:f y with
 |none=>
  simp only;constructor
  ·rintro⟨n,hn⟩;cases n with
   |zero=>cases hn
   |succ n=>simp only[iter,hf] at hn;cases hn
  ·intro h;cases h
 |some s=>
  cases s with
  |inl y'=>
   simp only;rw[DO];constructor
   ·rintro⟨n,hn⟩;cases n with
    |zero=>cases hn
    |succ n=>simp only[iter,hf] at hn;exact⟨n,hn⟩
   ·rintro⟨n,hn⟩;exact⟨n+1,by simp only[iter,hf];exact hn⟩
  |inr bI=>
   simp only;constructor
   ·rintro⟨n,hn⟩;cases n with
    |zero=>cases hn
    |succ n=>simp only[iter,hf] at hn;exact hn
   ·intro h;exact⟨1,by simp only[iter,hf];exact h⟩
theorem least{p:Nat->Prop}(h:∃n,p n):∃n,p n/\∀m,p m->n<=m:=by
 obtain⟨n,hn⟩:=h;induction n using Nat.strongRecOn with
 |_ n ih=>
  by_cases af:∃m,m<n/\p m
  ·obtain⟨m,h1,h2⟩:=af;exact ih m h1 h2
  ·exact⟨n,hn,fun m hm=>Nat.le_of_not_lt fun hlt=>af ⟨m,hlt,hm⟩⟩
end
noncomputable def so(C:hJ)(c:Code)(p:Nat)(aQ:Shape)(os:List aO)(y:aQ.J):Option (Sum aQ.J (aD os)):=
 exec C c (2*p) (aQ.st y) fun
  |.norm st=>(aQ.ex st).map .inl
  |x=>(gY os x).map .inr
def Bb:(os:List aO)->(R:Type)->aD os->(Out->Option R)->Option R
 |[B],R,y,K=>K (B.1.mk (B.2.st y))
 |B::cY::r,R,y,K=>match y with
  |.inl y=>K (B.1.mk (B.2.st y))
  |.inr y=>Bb (cY::r) R y K
theorem O5:∀(os:List aO) (R:Type) (y:aD os) (K:Out->Option R),Bb os R y K=K (lo os y):=by
 intro os;induction os with
 |nil=>intro R y;exact y.elim
 |cons B os ih=>
  intro R y K;cases os with
  |nil=>rfl
  |cons cY r=>
   cases y with
   |inl y=>rfl
   |inr y=>exact ih R y K
def a'(aQ:Shape)(os:List aO)(g:aQ.J->Option (aD os)):hO:=fun st=>⟨aD os,(aQ.ex st).bind g,lo os,Bb os,O5 os⟩
section
variable {P:Program}{C:hJ}
theorem ac3(H:a_ P C.toCtx){c:Code}{p:Nat}{aQ:Shape}{os:List aO}(ef:ga P C c (2*p)){g:aQ.J->Option (aD os)}(hg:∀y,g y=bv (so C c p aQ os) y):
  aY P (.loop c) (a' aQ os g):=by
 intro rn hn O Y X st y hy D M w ds S;simp only[a'] at hy y ⊢;obtain⟨dw,h1,h2⟩:=Option.bind_eq_some_iff.1 hy;obtain⟨l2,oi,_⟩:=Shape.f' S h1;rw[hg] at h2;obtain⟨n0,qO⟩:=DO.1 h2;have asT:∃eV:Nat->Act->World->Prop,∀n a w,eV n a w <-> ∃z,iter (so C c p aQ os) n z=some y/\eu O Y X ds M (cn c) (aQ.st z) a w:=⟨_,fun _ _ _=>Iff.rfl⟩
 obtain⟨eV,mj⟩:=asT;classical
 refine wpIn_loop (I:=fun a w=>∃n,eV n a w) (μ:=fun a w=>if h:∃n,eV n a w then Classical.choose (least h) else 0) ⟨n0,(mj _ _ _).2 ⟨dw,qO,eu.of oi fun _ _=>rfl⟩⟩ ?_
 intro a w' dq;have alR:=(Classical.choose_spec (least dq)).1;obtain⟨z,hz,aN,dF,c7,gz,dG,b1,b2,b3,dr,w1⟩:=(mj _ _ _).1 alR;obtain⟨hM,Le⟩:=a;obtain⟨b3,aq1⟩:=b3;have b3:Le=dG.map mark++ds:=b3;subst b3;have join:∀{B:Out} {e:Exit} {a2:Act} {w2:World},e6 aN dF c7 (dG.map mark++ds) hM (cn c) B e a2 w2->e6 O Y X ds M (cn c) B e a2 w2:=fun hl=>
  (e6.trans b1 b2 aq1 w1 hl).mono fun t aq=>(List.mem_append.1 aq).elim id id
 cases iq:Classical.choose (least dq) with
 |zero=>rw[iq] at hz;cases hz
 |succ n=>
  rw[iq] at hz;simp only[iter] at hz;have go:∀s,so C c p aQ os z=some s->fY rn P c (fun e a w=>match s with
    |.inl eQ=>e6 O Y X ds M (cn c) (.norm (aQ.st eQ)) e a w
    |.inr b=>e6 O Y X ds M (cn c) (lo os b) e a w/\e≠.normal) ⟨hM,dG.map mark++ds⟩ w':=by
   intro s hs;refine js H c (2*p) hn ef aN dF c7 (aQ.st z) gz hM w' _ _ _ hs dr ?_
   intro B e a w2 hk hl;have hl:=join hl;cases B with
   |norm vU=>
    obtain⟨eQ,q1,q2⟩:=Option.map_eq_some_iff.1 hk;subst q2;exact Kind.EY (k:=.norm) rfl q1 hl
   |exit id vU=>
    obtain⟨eQ,q1,q2⟩:=Option.map_eq_some_iff.1 hk;subst q2;exact⟨ui q1 hl,by rintro rfl;exact hl⟩
   |ret vU=>
    obtain⟨eQ,q1,q2⟩:=Option.map_eq_some_iff.1 hk;subst q2;exact⟨ui q1 hl,by rintro rfl;exact hl⟩
  cases hr:so C c p aQ os z with
  |none=>rw[hr] at hz;cases hz
  |some s=>
   cases s with
   |inl eQ=>
    rw[hr] at hz;refine wpIn_mono (go _ hr) fun e a2 w2 hl=>?_
    cases e<;>try exact hl.elim
    have Ko:eV n a2 w2:=(mj _ _ _).2 ⟨eQ,hz,hl⟩;refine⟨⟨n,Ko⟩,?_⟩;have hex:∃n,eV n a2 w2:=⟨n,Ko⟩;simp only[dif_pos hex,dif_pos dq,iq];have:Classical.choose (least hex)<=n:=(Classical.choose_spec (least hex)).2 n Ko;omega
   |inr b=>
    rw[hr] at hz;simp only[Option.some.injEq] at hz;subst hz;refine wpIn_mono (go _ hr) fun e a2 w2 hl=>?_
    cases e<;>first|exact absurd rfl hl.2|exact hl.1
noncomputable def QM(C:hJ)(c:Code)(p:Nat)(aQ:Shape)(os:List aO)(y:aQ.J):Option (aD os):=exec C c p (aQ.st y) (gY os)
theorem aa4(H:a_ P C.toCtx){c:Code}{p:Nat}{aQ:Shape}{os:List aO}(ef:ga P C c p){g:aQ.J->Option (aD os)}(hg:∀y,g y=QM C c p aQ os y):aY P c (a' aQ os g):=by
 intro rn hn O Y X st y hy D M w ds S;simp only[a'] at hy y ⊢;obtain⟨dw,h1,h2⟩:=Option.bind_eq_some_iff.1 hy;obtain⟨l2,oi,_⟩:=Shape.f' S h1;rw[hg] at h2;exact js H c p hn ef O Y X (aQ.st dw) l2 M w _ _ _ h2 oi fun B e a w' hk hl=>ui hk hl
end
def aF.PV:aF->Bool
 |.fresh _ _=>false
 |_=>true
def lE:List aF->Bool
 |[]=>true
 |l::ad=>l.PV&&lE ad
def pX(i:Nat):List Arg->Option (List (Nat×aJ))
 |[]=>some []
 |.av a::r=>bif lE a.cells then(pX (i+1) r).map fun l=>(i,.av a)::l else none
 |.fj _::r=>(pX (i+1) r).map fun l=>(i,bZ (.ptr (500000+i) 0 0))::l
def jQ(i:Nat):List Arg->List (Nat×Nat)
 |[]=>[]
 |.av _::r=>jQ (i+1) r
 |.fj _::r=>(500000+i,0)::jQ (i+1) r
def AQ:List Arg->List (List aF)
 |[]=>[]
 |.av _::r=>AQ r
 |.fj cs::r=>cs::AQ r
def nq(i:Nat):List Arg->List Nat
 |[]=>[]
 |.av _::r=>nq (i+1) r
 |.fj _::r=>i::nq (i+1) r
def lc:List (Nat×Nat)->List (Nat×Site)
 |[]=>[]
 |(o,s)::r=>(o,.dead s)::lc r
def AM(nt:Nat)(as:List Arg)(l:List (Nat×aJ)):ah:=⟨l,lc (jQ 0 as),nt⟩
def HK(nt:Nat)(as:List Arg)(l:List (Nat×aJ)):List (Nat×Site):=gN (AM nt as l) (jQ 0 as) (AQ as)
def entry(nt:Nat)(as:List Arg):Option ah:=bif Nat.ble as.length nt then(match pX 0 as with
 |some l=>bif fA (keys (HK nt as l)) then some ⟨l,bm (lc (jQ 0 as)) (HK nt as l),nt⟩ else none
 |none=>none) else none
def nn(st:ah):List Nat->Option (List (List aF)×List (Nat×Site))
 |[]=>some ([],[])
 |t::b'=>match st.get t with
  |.av (.ak (.ptr o s 0))=>match fD st o s,nn st b' with
   |some cells,some (cK,us)=>match ku st cells with
    |some (cs,gone)=>some (cs::cK,(o,.dead s)::(gone++us))
    |none=>none
   |_,_=>none
  |_=>none
def tD:List Nat->List Nat->Bool
 |[],[]=>true
 |n::r,m::s=>n.beq m&&tD r s
 |_,_=>false
def ajV(st:ah):bL->Option (bL×List (Nat×Site))
 |.ak l=>(nK st l).map fun p=>(.ak p.1,p.2)
 |.agg ad=>(ku st ad).map fun p=>(.agg p.1,p.2)
def HS(tt:TypeId->b_)(st:ah):ResultVar->Option bL
 |.tmp t=>l1 (st.get t)
 |.cell a T=>match tt T with
  |.arr _ t n=>match st.get a with
   |.av (.ak (.eT o s u 0 0))=>match rowOf st o s with
    |some ⟨bj,xs⟩=>if bj=t/\bj=u then(long n xs).map fun xs=>.agg (By bj xs n) else none
    |none=>none
   |_=>none
  |ti=>match st.get a with
   |.av (.ak (.ptr o s off))=>bif ti.known then(match fD st o s with
    |some cells=>(cut ti.agg off ti.size cells).bind l1
    |none=>none) else none
   |_=>none
def nz(tt:TypeId->b_)(st:ah):List ResultVar->Option (List bL×List (Nat×Site))
 |[]=>some ([],[])
 |t::b'=>match HS tt st t with
  |some a=>match ajV st a,nz tt st b' with
   |some (cM,us),some (as,vs)=>some (cM::as,us++vs)
   |_,_=>none
  |none=>none
def alE(aQ:Shape):Out->Option aQ.J
 |.ret st=>aQ.ex st
 |.norm st=>aQ.ex st
 |.exit _ _=>none
noncomputable def H2(C:hJ)(c:Code)(kp fr:Shape)(a:kp.J):Option fr.J:=exec C c 1 (kp.st a) (alE fr)
noncomputable def oC(tt:TypeId->b_)(nt:Nat)(kp fr:Shape)(outs:List ResultVar)(fg:List Nat)(f:kp.J->Option fr.J):aH:=fun as=>
 match entry nt as with
 |some st=>bif tD (nq 0 as) fg then⟨fr.J,(kp.ex st).bind f,fun y=>(match nn (fr.st y) fg with|some r=>r.1|none=>[]),fun y=>match nz tt (fr.st y) outs with|some r=>r.1|none=>[]⟩ else vJ.fail
 |none=>vJ.fail
section
variable {w:World}{av:Nat->Prop}
theorem ZZ:∀{ad:List aF} {vs:List Value} {bs:List Nat},lE ad=true->lf w av ad vs bs->bs=[]/\cr lV [] w av ad vs:=by
 intro ad;induction ad with
 |nil=>
  intro vs bs _ h;match vs,h with
  |[],h=>exact⟨h,.nil⟩
 |cons l ad ih=>
  intro vs bs hn h;simp only[lE,Bool.and_eq_true] at hn;match vs,h with
  |v::vs,⟨b1,b2,h1,h2,h3⟩=>
   obtain⟨aB,aA⟩:=ih hn.2 h3;have:b1=[]/\dQ lV [] w av l v:=by
    cases l<;>first|exact h2|cases hn.1
   exact⟨by rw[h1,this.1,aB];rfl,.cons this.2 aA⟩
theorem Z0{a:bL}{v:Value}{bs:List Nat}(hn:lE a.cells=true)(h:Be w av a v bs):bs=[]/\gU lV [] w av a v:=by
 cases a with
 |ak l=>
  simp only[bL.cells,lE,Bool.and_true] at hn;cases l<;>first|exact h|cases hn
 |agg ad=>
  obtain⟨vs,h1,h2⟩:=h;obtain⟨aB,aA⟩:=ZZ hn h2;exact⟨aB,vs,h1,aA.1,aA.2⟩
def nP:Value->Nat
 |.pointer (some a)=>a.block
 |_=>0
theorem _m{ad:List aF}(h:lE ad=true){l:aF}(hl:l∈ad):l.PV=true:=by
 induction ad with
 |nil=>cases hl
 |cons a ad ih=>
  simp only[lE,Bool.and_eq_true] at h;rcases List.mem_cons.1 hl with rfl|hl
  ·exact h.1
  ·exact ih h.2 hl
theorem afy{D:Nat->Value}{cd:Nat->Prop}{a:bL}{v:Value}{sites:List (Nat×Site)}(hn:lE a.cells=true)(h:gU lV [] w av a v)(hle:∀b,cd b->av b)(hlt:∀b,cd b->b<w.heap.size):gU D sites w cd a v:=by
 cases a with
 |ak l=>exact Dj (fun t xs e=>by subst e;cases hn) h hle hlt
 |agg ad=>
  obtain⟨vs,h1,h2,h3⟩:=h;exact⟨vs,h1,h2,fun j g1 g2=>Dj (fun t xs e=>by have:=_m hn (List.getElem_mem g1);rw[e] at this;cases this) (h3 j g1 g2) hle hlt⟩
theorem C3:∀{as:List Arg} {i o s:Nat},(o,s)∈jQ i as->s=0:=by
 intro as;induction as with
 |nil=>intro i o s h;cases h
 |cons a as ih=>
  intro i o s h;cases a with
  |av a=>exact ih h
  |fj c=>
   rcases List.mem_cons.1 h with h|h
   ·cases h;rfl
   ·exact ih h
theorem MS{L:List (Nat×Nat)}(h:∀o s,(o,s)∈L->s=0){o s:Nat}(hm:(o,s)∈L):look (lc L) o=some (.dead 0):=by
 induction L with
 |nil=>cases hm
 |cons p L ih=>
  obtain⟨k,r⟩:=p;simp only[lc,look];cases hb:k.beq o with
  |true=>simp only[cond_true];rw[h k r List.mem_cons_self]
  |false=>
   simp only[cond_false];refine ih (fun o s hm=>h o s (List.mem_cons_of_mem _ hm)) ?_
   rcases List.mem_cons.1 hm with e|e
   ·cases e;rw[Nat.beq_refl] at hb;cases hb
   ·exact e
theorem MY{L:List (Nat×Nat)}{o:Nat}{ab:Site}(h:look (lc L) o=some ab):∃s,ab=.dead s:=by
 induction L with
 |nil=>cases h
 |cons p L ih=>
  obtain⟨k,r⟩:=p;simp only[lc,look] at h;cases hb:k.beq o with
  |true=>simp only[hb,cond_true,Option.some.injEq] at h;exact⟨r,h.symm⟩
  |false=>simp only[hb,cond_false] at h;exact ih h
theorem aas{D:Nat->Value}:∀{as:List Arg} {i:Nat} {l:List (Nat×aJ)} {vs:List Value} {bs:List Nat},pX i as=some l->iW w av as vs bs->(∀j,D (500000+i+j)=vs.getD j undef)->
  i_ w av (dN as vs) (AQ as) bs/\mY D (jQ i as) (dN as vs)/\dN as vs=(nq i as).map (fun t=>nP (vs.getD (t-i) undef))/\(∀t,t∈nq i as->i<=t)/\
  ∀t v,look l t=some v->i<=t/\((∃a,v=.av a/\lE a.cells=true/\gU lV [] w av a (vs.getD (t-i) undef))\/(v=bZ (.ptr (500000+t) 0 0)/\(500000+t,0)∈jQ i as/\∃b,vs.getD (t-i) undef=.pointer (some ⟨b,0,none⟩))):=by
 intro as;induction as with
 |nil=>
  intro i l vs bs h bP cO;simp only[pX] at h;cases h;match vs,bP with
  |[],bP=>exact⟨bP,trivial,rfl,fun t h=>(by cases h),fun t v h=>(by cases h)⟩
 |cons a as ih=>
  intro i l vs bs h bP cO;match vs,bP with
  |v::vs,⟨b1,b2,e,h2,h3⟩=>
  have j1:∀j,D (500000+(i+1)+j)=vs.getD j undef:=fun j=>by
   have:=cO (j+1);rw[List.getD_cons_succ] at this;rw[<-this];congr 1;omega
  have shift:∀t,i+1<=t->(v::vs).getD (t-i) undef=vs.getD (t-(i+1)) undef:=fun t aq=>by
   obtain⟨m,hm⟩:∃m,t-i=m+1:=⟨t-i-1,by omega⟩
   have l9:t-(i+1)=m:=by omega
   rw[hm,List.getD_cons_succ,l9]
  have T6:∀{L:List Nat},(∀t,t∈L->i+1<=t)->L.map (fun t=>nP (vs.getD (t-(i+1)) undef))=L.map (fun t=>nP ((v::vs).getD (t-i) undef)):=fun dY=>List.map_congr_left fun t aq=>by rw[shift t (dY t aq)]
  cases a with
  |fj c=>
   simp only[pX] at h;obtain⟨gp,h1,aw⟩:=Option.map_eq_some_iff.1 h;subst aw;obtain⟨b,hv,Kj⟩:=h2;obtain⟨aB,aA,bC,cL,fK⟩:=ih h1 h3 j1;have eO:dN (.fj c::as) (v::vs)=b::dN as vs:=by subst hv;rfl
   refine⟨by rw[eO];exact⟨b1,b2,e,Kj,aB⟩,by rw[eO];exact⟨by have:=cO 0;rw[Nat.add_zero] at this;rw[this];exact hv,aA⟩,?_,fun t aq=>?_,fun t u hl=>?_⟩
   ·rw[eO,bC,T6 cL];simp only[nq,List.map_cons,Nat.sub_self,List.getD_cons_zero,hv,nP]
   ·rcases List.mem_cons.1 aq with rfl|aq
    ·exact Nat.le_refl _
    ·exact Nat.le_trans (Nat.le_succ _) (cL t aq)
   ·simp only[look] at hl;cases hb:i.beq t with
    |true=>
     have:=Nat.eq_of_beq_eq_true hb;subst this;simp only[hb,cond_true,Option.some.injEq] at hl;subst hl;exact⟨Nat.le_refl _,.inr ⟨rfl,List.mem_cons_self,b,by simp only[Nat.sub_self,List.getD_cons_zero];exact hv⟩⟩
    |false=>
     simp only[hb,cond_false] at hl;obtain⟨q1,q2⟩:=fK t u hl;refine⟨by omega,?_⟩
     rw[shift t q1];rcases q2 with q2|⟨r1,r2,is⟩
     ·exact .inl q2
     ·exact .inr ⟨r1,List.mem_cons_of_mem _ r2,is⟩
  |av a=>
   simp only[pX] at h;cases hn:lE a.cells with
   |false=>simp[hn] at h
   |true=>
    simp only[hn,cond_true] at h;obtain⟨gp,h1,aw⟩:=Option.map_eq_some_iff.1 h;subst aw;obtain⟨g1,g2⟩:=Z0 hn h2;obtain⟨aB,aA,bC,cL,fK⟩:=ih h1 h3 j1;have eO:dN (.av a::as) (v::vs)=dN as vs:=by cases v<;>rfl
    refine⟨by rw[eO,e,g1];exact aB,by rw[eO];exact aA,by rw[eO,bC,T6 cL];rfl,fun t aq=>Nat.le_trans (Nat.le_succ _) (cL t aq),fun t u hl=>?_⟩
    simp only[look] at hl;cases hb:i.beq t with
    |true=>
     have:=Nat.eq_of_beq_eq_true hb;subst this;simp only[hb,cond_true,Option.some.injEq] at hl;subst hl;exact⟨Nat.le_refl _,.inl ⟨a,rfl,hn,by simp only[Nat.sub_self,List.getD_cons_zero];exact g2⟩⟩
    |false=>
     simp only[hb,cond_false] at hl;obtain⟨q1,q2⟩:=fK t u hl;refine⟨by omega,?_⟩
     rw[shift t q1];exact q2
theorem aiG:∀{l m:List Nat},tD l m=true->l=m:=by
 intro l;induction l with
 |nil=>intro m h;cases m<;>first|rfl|cases h
 |cons n l ih=>
  intro m h;cases m with
  |nil=>cases h
  |cons k m=>
   simp only[tD,Bool.and_eq_true] at h;rw[Nat.eq_of_beq_eq_true h.1,ih h.2]
end
section
variable {P:Program}{O:World}{Y:List Nat}{X:Nat->Prop}{D:Nat->Value}{st:ah}{M:Array Value}{w:World}{df:List (Nat×Site)}{eU:List Nat}{av:Nat->Prop}
def qd(M:Array Value)(r:ResultVar):Sem Value:=
 match r with
 |.tmp t=>pure (M.getD t undef)
 |.cell a t=>do loadVar t (<-asAddr (M.getD a undef))
theorem aeQ(S:am O Y X D st M w){C:Ctx}(H:CtxOk P C){r:ResultVar}{a:bL}(h:HS C.tt st r=some a):∃v,(qd M r).run P w=.ok v w/\gU D st.sites w (ay X D st.sites) a v:=by
 cases r with
 |tmp t=>
  have hs:=S.cF t;rw[pI h] at hs;exact⟨_,by simp only[qd,Sem.run_pure],hs⟩
 |cell x T=>
  simp only[HS] at h;split at h
  ·rename_i e t n be;split at h
   ·rename_i o s u hx;have hs:=S.cF x;rw[hx] at hs;split at h
    ·rename_i bj xs hrow;split at h
     ·rename_i ji;obtain⟨rfl,rfl⟩:=ji;obtain⟨bd,hy,apD⟩:=Option.map_eq_some_iff.1 h;obtain⟨rfl,hlen⟩:=ud hy;subst apD;have bF:=H.tt T;rw[be] at bF;obtain⟨he,_,_,eQ,_,mQ,_⟩:=ni bF.2.2;obtain⟨b,c,cs,hv,_,hc,hr⟩:=S.arr hrow hs;have hcl:cs.length=n:=by rw[hr.1,eW,he,hlen,Nat.mul_one]
      have dm:=tU (P:=P) (w:=w) bF (by rintro h;cases h) ⟨b,0,none⟩ cs hcl (fun j u hu=>by rw[gM];exact hc j u hu)
      refine⟨.agg cs.toArray,?_,?_⟩
      ·simp only[qd,hv,asAddr,Sem.run_bind,Sem.run_pure,Result.andThen_ok,dm];rfl
      ·subst hlen;have:=hA (D:=D) (sites:=st.sites) hr.1 hr.2;rw[<-Qi mQ] at this;exact⟨cs,rfl,this.1,this.2⟩
     ·cases h
    ·cases h
   ·cases h
  split at h
  ·rename_i o s off hx;have hs:=S.cF x;rw[hx] at hs;cases hk:(C.tt T).known with
   |false=>simp[hk] at h
   |true=>
    simp only[hk,cond_true] at h;split at h
    ·rename_i cells hb;obtain⟨v,hc,hv⟩:=Option.bind_eq_some_iff.1 h;have hv:=pI hv;subst hv;obtain⟨b,gr,cur,h1,h2,h3,aw,bk⟩:=S.box (gF hb) hs;obtain⟨aB,aA⟩:=Ri hc Fc bk;refine⟨_,?_,aA⟩;have hl:(loadVar T ⟨b,off,none⟩).run P w=.ok (sD (C.tt T).agg ((cur.drop off).take (C.tt T).size)) w:=by
      refine tU (H.tt T) (EW hk) _ _ (by simp;omega) fun j u hu=>?_
      rw[gM];have:=((hV.row h3).drop off).take (C.tt T).size j u hu;simpa using this
     simp only[qd,h2,asAddr,Sem.run_bind,Sem.run_pure,Result.andThen_ok,hl]
    ·cases h
  ·cases h
theorem MV{C:Ctx}(H:CtxOk P C)(L:fs O Y X D st M w df eU av):∀{outs:List ResultVar} {as:List bL} {us:List (Nat×Site)},nz C.tt st outs=some (as,us)->
  ∃rv,(outs.mapM (qd M)).run P w=.ok rv w/\k6 w av as rv (db D (keys us))/\gP st.sites us:=by
 intro outs;induction outs with
 |nil=>intro as us h;simp only[nz] at h;cases h;exact⟨[],by simp,rfl,.nil⟩
 |cons t outs ih=>
  intro as us h;simp only[nz] at h;split at h
  ·rename_i a ha;split at h
   ·rename_i cM u1 ob u2 h1 h2;cases h;obtain⟨rv,lw,aB,aA⟩:=ih h2;obtain⟨v,q0,hs⟩:=aeQ L.fz.old H ha;have:Be w av cM v (db D (keys u1))/\gP st.sites u1:=by
     cases a with
     |ak l=>
      obtain⟨p,q1,q2⟩:=Option.map_eq_some_iff.1 h1;cases q2;exact yn L q1 hs
     |agg ad=>
      obtain⟨p,q1,q2⟩:=Option.map_eq_some_iff.1 h1;cases q2;obtain⟨vs,e1,e2,bp⟩:=hs;obtain⟨r1,r2⟩:=Gv L q1 ⟨e2,bp⟩;exact⟨⟨vs,e1,r1⟩,r2⟩
    refine⟨v::rv,?_,⟨_,_,by rw[jN,om],this.1,aB⟩,this.2.append aA⟩
    simp only[List.mapM_cons,Sem.run_bind,q0,Result.andThen_ok,lw,Sem.run_pure]
   ·cases h
  ·cases h
theorem Ms(L:fs O Y X D st M w df eU av):∀{b':List Nat} {cK:List (List aF)} {us:List (Nat×Site)},nn st b'=some (cK,us)->
  i_ w av (b'.map fun t=>nP (M.getD t undef)) cK (db D (keys us))/\gP st.sites us:=by
 intro b';induction b' with
 |nil=>intro cK us h;simp only[nn] at h;cases h;exact⟨rfl,.nil⟩
 |cons t b' ih=>
  intro cK us h;have hs:=L.fz.old.cF t;simp only[nn] at h;split at h
  ·rename_i o s hx;rw[hx] at hs;split at h
   ·rename_i cells at4 mM lY hr;split at h
    ·rename_i cs gone hg;cases h;obtain⟨aB,aA⟩:=ih hr;have jx:=gF lY;obtain⟨b,T,cur,e1,e2,bp,c_,fp⟩:=L.fz.old.box jx hs;obtain⟨g1,g2⟩:=Gv L hg fp;have Ix:mE cells T cur b:=by
      obtain⟨b2,et,Uz,q1,q2,_,_,cU,_⟩:=L.fz.old.sites o _ jx;rw[e1] at q1;cases q1;rw[bp] at q2;cases q2;exact cU
     have wY:nP (M.getD t undef)=b:=by rw[e2];rfl
     have aqN:bH (D o)=some b:=by rw[e1];rfl
     refine⟨⟨b::db D (keys gone),db D (keys mM),?_,?_,aB⟩,?_⟩
     ·simp only[keys,jN,om,List.cons_append];simp[db,aqN]
     ·show GV w av (nP (M.getD t undef)) cs _;rw[wY];exact⟨T,cur,_,rfl,bp,c_,fun bP=>Ix (NV hg bP),g1⟩
     ·intro aa aC hm;rcases List.mem_cons.1 hm with hm|hm
      ·cases hm;exact⟨_,jx,rfl,rfl⟩
      ·exact(gP.append g2 aA) aa aC hm
    ·cases h
   ·cases h
  ·cases h
theorem Mm{fn:Func}{outs:List ResultVar}(h:fn.results=outs.toArray){M:Array Value}{w:World}{rv:List Value}(k:(outs.mapM (qd M)).run P w=.ok rv w):(results fn M).run P w=.ok (nD rv) w:=by
 have e:(results fn M)=(do let vs <-fn.results.mapM (qd M);pure (if h:vs.size=1 then vs[0] else .tuple vs)):=by
  unfold results;congr 2
 rw[e,h];simp only[List.mapM_toArray,Sem.run_bind,Sem.run_map];rw[k];match rv with
 |[]=>simp[nD]
 |[t]=>simp[nD]
 |t::t2::r=>simp[nD]
theorem am.alz(S:am O Y X D st M w){aZ:Nat}(gq:X aZ)(fo:O.heap.size<=aZ)(B:Obj):am O Y X D st M (w.putObj aZ B):=by
 have hsz:(w.putObj aZ B).heap.size=w.heap.size:=by simp[World.putObj]
 have IA:∀b,b≠aZ->(w.putObj aZ B).heap[b]? =w.heap[b]? :=fun b hb=>World.putObj_heap_other hb
 have G:h6 D D st.sites st.sites w (w.putObj aZ B) (ay X D st.sites) (ay X D st.sites):=
  ⟨fun o ab h=>⟨ab,h,Nat.le_refl _,fun _=>rfl⟩,fun b hb _=>IA b fun e=>hb (.inl (e▸gq)),fun _ h _=>h⟩
 have hlt:∀b,ay X D st.sites b->b<(w.putObj aZ B).heap.size:=fun b hb=>by rw[hsz];exact S.lt hb
 refine⟨S.nt,fun t=>(S.cF t).goes G (by rw[hsz];exact Nat.le_refl _) hlt,fun o ab h=>?_,S.dV,S.ci,?_,fun b hb=>by rw[hsz];exact S.old b hb,S.eY⟩
 ·exact(S.sites o ab h).goes G (by rw[hsz];exact Nat.le_refl _) hlt rfl fun hl b hb=>IA b fun e=>(S.ci o b ⟨ab,h,hl⟩ hb).1 (e▸gq)
 ·exact⟨S.frame.os,S.frame.tape,S.frame.output,by rw[hsz];exact S.frame.size,fun b hb hn=>(IA b (by omega)).trans (S.frame.block b hb hn)⟩
theorem _o{fn:Func}{R:Ending->World->Prop}:∀(dG:List Nat) (w:World),am O Y X D st M w->dG.Nodup->(∀aZ,aZ∈dG->O.heap.size<=aZ/\X aZ/\w.heap[aZ]? =some (.deferred (some [])))->
  (∀w',am O Y X D st M w'->∃v,(results fn M).run P w'=.ok v w'/\R (.returned v) w')->LeavesInM Fence.wide 0 P fn M R (dG.map mark) .returning w:=by
 intro dG;induction dG with
 |nil=>intro w S _ _ hR;exact hR w S
 |cons aZ dG ih=>
  intro w S hn fo hR;obtain⟨h1,h2,h3⟩:=fo aZ List.mem_cons_self;have hn:=List.nodup_cons.1 hn;refine⟨by simp,.inl ⟨aZ,w.putObj aZ (.deferred none),rfl,run_takeDeferred h3,ih _ (S.alz h2 h1 _) hn.2 (fun LC XR=>?_) hR⟩⟩
  obtain⟨g1,g2,g3⟩:=fo LC (List.mem_cons_of_mem _ XR);exact⟨g1,g2,(World.putObj_heap_other (fun e=>hn.1 (by rw[<-e];exact XR))).trans g3⟩
def PN(dS:Value->World->Prop):Ending->World->Prop
 |.returned v,w=>dS v w
 |_,_=>False
theorem afi{nt:Nat}{as:List Arg}{st:ah}{vs:List Value}{dt:List Nat}(he:entry nt as=some st)(bP:iW w (fun b=>X b\/b∈dt) as vs dt)(kD:dt.Nodup)(gq:∀b,b∈dt->¬X b)(hlt:∀b,X b->b<w.heap.size)(hG:iz w dt X):
  (∃D,am w dt X D st (vs.toArray++Array.replicate (nt-vs.toArray.size) undef) w)/\dN as vs=(nq 0 as).map (fun t=>nP (vs.getD t undef))/\(∀t,(vs.toArray++Array.replicate (nt-vs.toArray.size) undef).getD t undef=vs.getD t undef):=by
 unfold entry at he;cases hle:Nat.ble as.length nt with
 |false=>simp[hle] at he
 |true=>
  simp only[hle,cond_true] at he;split at he
  ·rename_i l hl;cases hn:fA (keys (HK nt as l)) with
   |false=>simp[hn] at he
   |true=>
    simp only[hn,cond_true,Option.some.injEq] at he;subst he;rw[rA] at hn;have hlen:=bP.length;have hle:=Nat.le_of_ble_eq_true hle;obtain⟨l2,Ub⟩:∃l2:Nat->Value,∀j,l2 (500000+0+j)=vs.getD j undef:=⟨fun o=>vs.getD (o-500000) undef,fun j=>by simp⟩
    obtain⟨aB,aA,bC,_,fK⟩:=aas hl bP Ub;have s3:∀t,(vs.toArray++Array.replicate (nt-vs.toArray.size) undef).getD t undef=vs.getD t undef:=fun t=>by
     simp only[Array.getD_eq_getD_getElem?,List.getD_eq_getElem?_getD,Array.getElem?_append,List.size_toArray];by_cases h:t<vs.length
     ·simp[h]
     ·simp only[h,if_false];rw[List.getElem?_eq_none (Nat.le_of_not_lt h)];rw[Array.getElem?_replicate];split<;>rfl
    have lQ:∀o,¬cg (lc (jQ 0 as)) o:=fun o ⟨ab,h1,h2⟩=>by obtain⟨s,rfl⟩:=MY h1;cases h2
    have Cn:∀b,b∈dt->b<w.heap.size:=NU aB;have b9:∀b,ay (fun b=>X b\/b∈dt++[]) l2 (lc (jQ 0 as)) b->X b\/b∈dt:=by
     rintro b (h|⟨o,h,_⟩)
     ·simpa using h
     ·exact(lQ o h).elim
    have alT:∀b,ay (fun b=>X b\/b∈dt++[]) l2 (lc (jQ 0 as)) b->b<w.heap.size:=fun b h=>(b9 b h).elim (hlt b) (Cn b)
    have oi:am w dt (fun b=>X b\/b∈dt++[]) l2 (AM nt as l) (vs.toArray++Array.replicate (nt-vs.toArray.size) undef) w:=by
     refine⟨?_,fun t=>?_,fun o ab h=>?_,fun o aa b h=>(lQ o h).elim,fun o b h=>(lQ o h).elim,Fr.refl _ _,fun b hb=>?_,hG.ajB fun b h=>by simpa using h⟩
     ·show(vs.toArray++_).size=nt;simp;omega
     ·rw[s3];unfold ah.get;show cc l2 (lc (jQ 0 as)) w _ (match look l t with|some v=>v|none=>.av (.ak .any)) _
      cases aq:look l t with
      |none=>simp only;trivial
      |some v=>
       simp only;obtain⟨_,k⟩:=fK t v aq;rw[Nat.sub_zero] at k;rcases k with⟨a,rfl,q1,q2⟩|⟨rfl,q1,b,q2⟩
       ·exact afy q1 q2 b9 alT
       ·refine⟨b,q2,.dead 0,MS (fun _ _ h=>C3 h) q1,Nat.le_refl _,fun _=>?_⟩
        have:=Ub t;rw[Nat.add_zero] at this;rw[this,q2]
     ·obtain⟨s,rfl⟩:=MY h;trivial
     ·exact(show X b\/b∈dt by simpa using hb).elim (hlt b) (Cn b)
    obtain⟨gz,T,_⟩:=Oi (av:=fun b=>X b\/b∈dt) (rest:=[]) (AM nt as l) (jQ 0 as) oi aA aB (fun o s hm=>by
      have:=C3 hm;subst this;exact MS (fun _ _ h=>C3 h) hm)
     ⟨by simpa using kD,fun b hb=>⟨gq b (by simpa using hb),.inl (by simpa using hb)⟩,b9⟩
     (fun m _ ab hs=>by
      have hs:look (lc (jQ 0 as)) m=some ab:=hs;have:(AM nt as l).ab m=some ab:=hs;unfold bn;rw[this];exact Nat.lt_succ_self _) hn
    exact⟨⟨gz,T.jf.shrink fun b hb=>.inl hb⟩,by simpa using bC,s3⟩
  ·cases he
theorem afO{C:hJ}(H:a_ P C.toCtx){g:FuncId}{fn:Func}{c:Code}{kp fr:Shape}{outs:List ResultVar}{fg:List Nat}{f:kp.J->Option fr.J}(mV:P.funcs[g]? =some fn)(sN:fn.body=some c)(qi:(fn.name== "runtime.NumGoroutine")=false)
  (j2:fn.results=outs.toArray) (ef:ga P C c 1) (ph:eX fg (cn c)=true) (qu:∀y,∃r oe,nz C.tt (fr.st y) outs=some r/\nn (fr.st y) fg=some oe/\fA (keys (oe.2++r.2))=true) (hf:∀a,f a=H2 C c kp fr a):aG P g (oC C.tt fn.ntmps kp fr outs fg f):=by
 intro as;unfold oC;cases he:entry fn.ntmps as with
 |none=>intro y hy;cases hy
 |some st=>
  simp only;cases n8:tD (nq 0 as) fg with
  |false=>intro y hy;cases hy
  |true=>
  simp only[cond_true];have n8:=aiG n8;rw[N2] at ph;intro y hy w X vs dt bP kD gq hlt hG;obtain⟨a,Kk,XN⟩:=Option.bind_eq_some_iff.1 hy;obtain⟨⟨l2,oi⟩,eO,s3⟩:=afi he bP kD gq hlt hG;obtain⟨gz,dr,_⟩:=Shape.f' oi Kk;rw[hf] at XN;refine .inl ⟨?_,Calls.mono (R:=PN _) ((callsIn_wide (n:=0)).1 (callsIn_of_wp_marks mV sN trivial (js (rn:=none) H c 1 (.inl rfl) ef w dt X _ gz _ w [] _ _ XN dr fun B e cM w' hk hl=>?_) rfl)) fun e w' h=>by cases e<;>first|exact h|exact h.elim⟩
  ·have aix:¬fn.name= "runtime.NumGoroutine" :=by simpa using qi
   simp[callFunc,mV,aix,sN]
  ·-- where it ends
   have fin:∀al,fr.ex al=some y->eu w dt X [] (vs.toArray++Array.replicate (fn.ntmps-vs.toArray.size) undef) (cn c) al cM w'->LeavesInM Fence.wide 0 P fn cM.tmps (PN fun v w'=>∃ek ej rv,Fr dt w w'/\
     i_ w' (fun b=>X b\/b∈ek++ej) (dN as vs) (match nn (fr.st y) fg with|some r=>r.1|none=>[]) ek/\
     k6 w' (fun b=>X b\/b∈ek++ej) (match nz C.tt (fr.st y) outs with|some r=>r.1|none=>[]) rv ej/\v=nD rv/\(ek++ej).Nodup/\∀b,b∈ek++ej->¬X b/\(b∈dt\/w.heap.size<=b)) cM.defers .returning w':=by
    rintro al wm ⟨aN,dF,c7,h9,dG,b1,b2,b3,hT,kept⟩;obtain⟨hL,jk,_⟩:=Shape.f' hT wm;rw[b3.1,List.append_nil];have iS:am w dt c7 hL (fr.st y) cM.tmps w':=⟨jk.nt,jk.cF,jk.sites,jk.dV,fun o b h1 h2=>⟨(jk.ci o b h1 h2).1,b1.ci b (jk.ci o b h1 h2).2⟩,b1.cD _ jk.frame,jk.old,⟨hG.ok,hG.Y,jk.eY.X,hG.lt⟩⟩
    refine _o dG w' iS b2.nodup (fun aZ fo=>⟨b2.new aZ fo,(b2.hd aZ fo).2.2,(jk.frame.block aZ (b2.lt fo) (b2.hd aZ fo).2.1).trans (b2.hd aZ fo).1⟩) fun BS arj=>?_
    have jK:=arj.shrink b1.x;obtain⟨⟨kK,us⟩,⟨cK,q_⟩,hr,JY,hn⟩:=qu y;rw[rA] at hn;have hn:(keys (q_++us)).Nodup:=hn;have Cl:fs w dt X hL (fr.st y) cM.tmps BS [] [] (fun _=>False):=⟨⟨jK,.nil⟩,fun b h=>h.elim,fun _ _ _ _ h=>h⟩
    obtain⟨_,_,_,Co⟩:=MV H.toCtxOk Cl hr;have aqG:=(Ms Cl JY).2;have m':=gP.append aqG Co;have K7:∀o,o∈keys (q_++us)->cg (fr.st y).sites o:=fun o bo=>by
     obtain⟨s,hs⟩:=ym bo;obtain⟨ab,h1,h2,_⟩:=m' o s hs;exact⟨ab,h1,h2⟩
    have dY:fs w dt X hL (fr.st y) cM.tmps BS [] [] (fun b=>X b\/b∈db hL (keys q_)++db hL (keys us)):=by
     refine⟨⟨jK,.nil⟩,fun b hb=>?_,fun _ h=>by simp at h⟩
     rcases hb with hb|hb
     ·exact .inl hb
     ·rw[<-om,<-jN] at hb;obtain⟨o,h1,h2⟩:=ng.1 hb;exact .inr ⟨o,K7 o h1,h2⟩
    obtain⟨rv,dm,dZ,_⟩:=MV H.toCtxOk dY hr;have hB:=(Ms dY JY).1;have ap6:(fg.map fun t=>nP (cM.tmps.getD t undef))=dN as vs:=by
     rw[eO,n8];exact List.map_congr_left fun t aq=>by rw[kept t (ph t aq),s3]
    rw[ap6] at hB;refine⟨_,Mm j2 dm,db hL (keys q_),db hL (keys us),rv,jK.frame,?_,?_,rfl,?_,fun b hb=>?_⟩
    ·rw[JY];exact hB
    ·rw[hr];exact dZ
    ·rw[<-om,<-jN];exact L5 jK hn K7
    ·rw[<-om,<-jN] at hb;obtain⟨o,h1,h2⟩:=ng.1 hb;exact jK.ci o b (K7 o h1) h2
   cases B with
   |norm al=>
    cases e<;>try exact hl.elim
    exact fin al hk hl
   |ret al=>
    cases e<;>try exact hl.elim
    exact fin al hk hl
   |exit id al=>cases hk
end
def an(c:Code)(q p:Nat):Code:=match look (fO c q) p with|some c=>c|none=>.skip
def da:Code->Code
 |.loop c=>c
 |_=>.skip
def codeOf(f:Func):Code:=match f.body with|some c=>c|none=>.skip
def Q0:Code->Bool
 |.loop _=>true
 |_=>false
def sG:List (Nat×hO)->Nat->Option hO
 |[],_=>none
 |(k,v)::r,n=>bif k.beq n then some v else sG r n
def gK(C:Ctx)(cD:List (Nat×hO)):hJ:={C with nW:=sG cD}
def lg(P:Program)(c:Code)(q:Nat):List (Nat×hO)->Prop
 |[]=>True
 |(p,f)::r=>aY P (an c q p) f/\lg P c q r
theorem aeX{ax:Type}{l:List (Nat×ax)}{n:Nat}{v:ax}(h:look l n=some v):(n,v)∈l:=by
 induction l with
 |nil=>cases h
 |cons p l ih=>
  obtain⟨m,u⟩:=p;simp only[look] at h;cases hb:m.beq n with
  |true=>
   simp only[hb,cond_true,Option.some.injEq] at h;rw[<-Nat.eq_of_beq_eq_true hb,h];exact List.mem_cons_self
  |false=>simp only[hb,cond_false] at h;exact List.mem_cons_of_mem _ (ih h)
theorem aeW{ax:Type}{l:List (Nat×ax)}{n:Nat}{v:ax}(hn:(keys l).Nodup)(h:(n,v)∈l):look l n=some v:=by
 induction l with
 |nil=>simp at h
 |cons p l ih=>
  obtain⟨m,u⟩:=p;simp only[keys,List.nodup_cons] at hn;simp only[look];rcases List.mem_cons.1 h with h|h
  ·cases h;simp
  ·have:¬m=n:=by rintro rfl;exact hn.1 (acZ h)
   rw[jB this];exact ih hn.2 h
where
 acZ {ax:Type} {us:List (Nat×ax)} {o:Nat} {s:ax} (h:(o,s)∈us):o∈keys us:=by
  induction us with
  |nil=>simp at h
  |cons p us ih=>
   rcases List.mem_cons.1 h with rfl|h
   ·exact List.mem_cons_self
   ·exact List.mem_cons_of_mem _ (ih h)
theorem kX{P:Program}{C:Ctx}{c:Code}{q:Nat}{cD:List (Nat×hO)}(hu:fA (keys (fO c q))=true)(h:lg P c q cD):ga P (gK C cD) c q:=by
 rw[rA] at hu;refine PU c q fun p fi hm f wv=>?_
 have hl:=aeW hu hm;have hf:sG cD p=some f:=wv;clear wv;clear hm;induction cD with
 |nil=>cases hf
 |cons x cD ih=>
  obtain⟨k,g⟩:=x;simp only[sG] at hf;cases hb:k.beq p with
  |true=>
   simp only[hb,cond_true,Option.some.injEq] at hf;have:=Nat.eq_of_beq_eq_true hb;subst this hf;have:=h.1;unfold an at this;rw[hl] at this;exact this
  |false=>simp only[hb,cond_false] at hf;exact ih h.2 hf
theorem ag{P:Program}{c:Code}{q:Nat}:lg P c q []:=trivial
theorem agT{P:Program}{C:Ctx}(H:a_ P C){c:Code}{q p:Nat}{aQ:Shape}{os:List aO}{cD:List (Nat×hO)}{g:aQ.J->Option (aD os)}(hl:Q0 (an c q p)=true)
  (hu:fA (keys (fO (da (an c q p)) (2*p)))=true) (fm:lg P (da (an c q p)) (2*p) cD)
  (hg:∀y,g y=bv (so (gK C cD) (da (an c q p)) p aQ os) y):aY P (an c q p) (a' aQ os g):=by
 have:an c q p=.loop (da (an c q p)):=by
  generalize an c q p=d at hl;cases d<;>first|rfl|cases hl
 rw[this];exact ac3 (C:=gK C cD) H (kX hu fm) hg
theorem cW{P:Program}{C:Ctx}(H:a_ P C){c:Code}{q p:Nat}{aQ:Shape}{os:List aO}{cD:List (Nat×hO)}{g:aQ.J->Option (aD os)}
  (hu:fA (keys (fO (an c q p) p))=true) (fm:lg P (an c q p) p cD)
  (hg:∀y,g y=QM (gK C cD) (an c q p) p aQ os y):aY P (an c q p) (a' aQ os g):=
 aa4 (C:=gK C cD) H (kX hu fm) hg
theorem aiC{P:Program}{C:Ctx}(H:a_ P C){g:FuncId}{fn:Func}{kp fr:Shape}{outs:List ResultVar}{fg:List Nat}{cD:List (Nat×hO)}{f:kp.J->Option fr.J}(mV:P.funcs[g]? =some fn)(sN:fn.body=some (codeOf fn))
  (qi:(fn.name== "runtime.NumGoroutine")=false) (j2:fn.results=outs.toArray) (hu:fA (keys (fO (codeOf fn) 1))=true) (fm:lg P (codeOf fn) 1 cD) (hk:eX fg (cn (codeOf fn))=true)
  (qu:∀y,∃r oe,nz C.tt (fr.st y) outs=some r/\nn (fr.st y) fg=some oe/\fA (keys (oe.2++r.2))=true) (hf:∀a,f a=H2 (gK C cD) (codeOf fn) kp fr a):aG P g (oC C.tt fn.ntmps kp fr outs fg f):=
 afO (C:=gK C cD) H mV sN qi j2 (kX hu fm) hk qu hf
def sJ{A bh:Type}(ff:(A->Option bh)->A->Option bh):Nat->A->Option bh
 |0=>fun _=>none
 |n+1=>ff (sJ ff n)
def A7:Nat:=4611686018427387904
theorem ahT{P:Program}{g:FuncId}{tt:TypeId->b_}{nt:Nat}{lv kJ:Shape}{outs:List ResultVar}{fg:List Nat}{ff:(lv.J->Option kJ.J)->lv.J->Option kJ.J}
  (h:∀aX,aG P g (oC tt nt lv kJ outs fg aX)->aG P g (oC tt nt lv kJ outs fg (ff aX))):∀n,aG P g (oC tt nt lv kJ outs fg (sJ ff n)):=by
 intro n;induction n with
 |zero=>
  intro as;unfold oC;cases entry nt as with
  |none=>intro y hy;cases hy
  |some st=>
   simp only;cases tD (nq 0 as) fg with
   |false=>intro y hy;cases hy
   |true=>
    intro y hy;simp only[cond_true,sJ] at hy;obtain⟨a,_,h2⟩:=Option.bind_eq_some_iff.1 hy;cases h2
 |succ n ih=>exact h _ ih
def Bk:List (Nat×b_)->TypeId->b_
 |[],_=>.none
 |(k,v)::r,n=>bif Nat.beq k n then v else Bk r n
def H3(P:Program):List (Nat×b_)->Prop
 |[]=>True
 |(k,v)::r=>v.ok P k/\H3 P r
theorem afN{P:Program}:∀{l:List (Nat×b_)},H3 P l->∀T,(Bk l T).ok P T:=by
 intro l;induction l with
 |nil=>intro _ T;trivial
 |cons p l ih=>
  obtain⟨k,v⟩:=p;intro h T;simp only[Bk];cases hb:Nat.beq k T with
  |true=>have:=Nat.eq_of_beq_eq_true hb;subst this;exact h.1
  |false=>exact ih h.2 T
theorem abi{J bh:Type}{f g:J->Option (Sum J bh)}(h:∀y,f y=g y):∀y,bv f y=bv g y:=by
 have:f=g:=funext h;rw[this];exact fun _=>rfl
def r4:List Arg->Option (F×Int)
 |[.av (.ak (.d (.str s))),.av (.ak (.d (.int .u8 c)))]=>some (s,c)
 |_=>none
def DZ:aH:=fun as=>match r4 as with
 |some (s,c)=>⟨Unit,some (),fun _=>[],fun _=>[.ak (.d (.int .i64 (Lib.indexByte s c.toNat.toUInt8)))]⟩
 |none=>.fail
theorem Mq{as:List Arg}{s:F}{c:Int}(h:r4 as=some (s,c)):as=[.av (.ak (.d (.str s))),.av (.ak (.d (.int .u8 c)))]:=by
 unfold r4 at h;split at h
 ·cases h;rfl
 ·cases h
theorem _t{P:Program}{g:FuncId}{fn:Func}(hf:P.funcs[g]? =some fn)(qi:(fn.name== "runtime.NumGoroutine")=false)(hb:fn.body.isNone=true)(hn:Extern.findNext fn=none)
  (he:Extern.find fn=some Extern.BytealgIndexByte.indexByte):aG P g DZ:=by
 intro as;unfold DZ;cases ar:r4 as with
 |none=>intro y hy;cases hy
 |some q=>
  obtain⟨s,c⟩:=q;have has:=Mq ar;subst has;intro y hy w X vs dt bP _ _ _ _;match vs,bP with
  |[v1,v2],⟨a1,a2,e1,h1,c1,c2,e2,h2,bp⟩=>
   obtain⟨fH,r1⟩:=h1;obtain⟨z2,r2⟩:=h2;subst fH z2 bp;simp only[List.append_nil] at e2;subst e2;simp only[List.append_nil] at e1;subst e1;obtain⟨b,rfl,dR⟩:=gv r1;have e:=ic r2;subst e;refine .inr ⟨.int .i64 (Lib.indexByte b.data.toList c.toNat.toUInt8),w,?_,[],[],[.int .i64 (Lib.indexByte s c.toNat.toUInt8)],Fr.refl _ _,?_,?_,?_,by simp,fun b hb=>by simp at hb⟩
   ·rw[run_callFunc_extern hf qi hb hn he];show((Extern.BytealgIndexByte.indexByte #[.string b,.int .u8 c]).run P w).andThen _=_;rw[Lib.run_indexByteString];rfl
   ·simp[dN,i_]
   ·exact⟨[],[],rfl,⟨rfl,.int _ _⟩,rfl⟩
   ·rw[dR];rfl
end Go.Jk
namespace Go.Jk
open Go.RowKit Go.Sort
theorem ad6{P:Program}{w:World}{g:Nat}{name:String}{k:IntKind}{zs:List Int}(hg:P.globalNamed name=some g)(h:nN w g k zs):Lib.TabIs P w name k zs:=by
 obtain⟨T,fz,h⟩:=h;simp[Lib.TabIs,World.var?,hg,h]
theorem ad7{P:Program}{w:World}{g:Nat}{name:String}{k:IntKind}{zs:List Int}(hg:P.globalNamed name=some g)(h:Lib.TabIs P w name k zs):nN w g k zs:=by
 simp only[Lib.TabIs,World.var?,hg,Option.bind_some] at h;split at h
 ·rename_i cs T fz hc;cases h;exact⟨_,_,hc⟩
 ·cases h
def A1:List Arg->Option Int
 |[.av (.ak (.d (.int .i64 n)))]=>some n
 |_=>none
theorem ac8{as:List Arg}{n:Int}(h:A1 as=some n):as=[.av (.ak (.d (.int .i64 n)))]:=by
 unfold A1 at h;split at h
 ·cases h;rfl
 ·cases h
def EX:aH:=fun as=>match A1 as with
 |some n=>⟨Unit,if-9223372036854775808<=n/\n<=9223372036854775807 then some () else none,fun _=>[],fun _=>[.ak (.d (.str (Lib.itoa n)))]⟩
 |none=>.fail
theorem ag5(w:World)(k:Nat)(os:Array Obj):Fr [] w (grow (w.drewN k) os):=
 ⟨rfl,rfl,rfl,by simp[grow,World.drewN],fun b hb _=>by
  show(w.heap++os)[b]? =w.heap[b]?;rw[Array.getElem?_append_left hb]⟩
theorem agZ{P:Program}{g:FuncId}(he:∀args w,(callFunc g args).run P w=.ok (.enter g args) w)
  (h:∀n:Int,-9223372036854775808<=n->n<=9223372036854775807->∀w,mW w->Calls P g #[.int .i64 n] w fun e w'=>e=.returned (.string ⟨(Lib.itoa n).toArray⟩)/\∃k os,w'=grow (w.drewN k) os):aG P g EX:=by
 intro as;unfold EX;cases ar:A1 as with
 |some n=>
  have has:=ac8 ar;subst has;intro y hy w X vs dt bP _ gq hlt hG;have hy:(if-9223372036854775808<=n/\n<=9223372036854775807 then some () else none)=some y:=hy
  split at hy
  ·rename_i hn;match vs,bP with
   |[v1],⟨a1,a2,e1,h1,e2⟩=>
    obtain⟨fH,r1⟩:=h1;subst fH e2;simp only[List.append_nil] at e1;subst e1;have e:=ic r1;subst e;refine .inl ⟨he _ _,(h n hn.1 hn.2 w hG.ok).mono fun e w' hw=>?_⟩
    obtain⟨rfl,k,os,rfl⟩:=hw;exact⟨[],[],[.string ⟨(Lib.itoa n).toArray⟩],ag5 w k os,rfl,⟨[],[],rfl,⟨rfl,.str _ _ rfl⟩,rfl⟩,rfl,by simp,fun b hb=>by simp at hb⟩
  ·cases hy
 |none=>intro y hy;cases hy
end Go.Jk
namespace Go.Jk
open Go.ChangeShapes Go.WideShapes Go.RowKit
def H_:a6->List dy
 |.i64=>[.int .i64]
 |.u8=>[.int .u8]
 |.u32=>[.int .u32]
 |.bool=>[.bool]
 |.str=>[.str]
 |.entry=>[.str,.int .i64,.int .i64,.str]
 |.need=>[.str,.int .i64,.str]
 |.pack=>[.str,.str,.sl .need,.sl .entry]
 |.file|.lt|.source|.piece=>[.str,.str]
 |.recipe=>[.str,.str,.sl .lt,.sl .need,.sl .need,.sl .source,.sl .piece,.sl .str]
 |.hunk=>[.int .i64,.sl .str]
 |.sQ=>[.sl .bool]
inductive jj:aZ->Prop where
 |int (k:IntKind) (n:Int):(Lit.int k n).wf=true->jj (.int k n)
 |bool (b:Bool):jj (.bool b)
 |str (s:F):s.length<=maxLen->jj (.str s)
 |sl (t:a6) (xs:List (den t)):xs.length<=maxLen->(∀x,x∈xs->∀d,d∈enc t x->jj d)->jj (.sl t xs)
theorem ag9:∀(t:a6) (y:kH (H_ t)),∃x,enc t x=e9 (H_ t) y:=by
 intro t y;cases t;case recipe=>obtain⟨a,b,c,d,e,f,g,h,_⟩:=y;exact⟨⟨a,b,c,d,e,f,g,h⟩,rfl⟩
 case entry=>obtain⟨a,b,c,d,_⟩:=y;exact⟨⟨a,b,c,d⟩,rfl⟩
 case pack=>obtain⟨a,b,c,d,_⟩:=y;exact⟨⟨a,b,c,d⟩,rfl⟩
 case need=>obtain⟨a,b,c,_⟩:=y;exact⟨⟨a,b,c⟩,rfl⟩
 case file=>obtain⟨a,b,_⟩:=y;exact⟨⟨a,b⟩,rfl⟩
 case lt=>obtain⟨a,b,_⟩:=y;exact⟨⟨a,b⟩,rfl⟩
 case source=>obtain⟨a,b,_⟩:=y;exact⟨⟨a,b⟩,rfl⟩
 case piece=>obtain⟨a,b,_⟩:=y;exact⟨⟨a,b⟩,rfl⟩
 case hunk=>obtain⟨a,b,_⟩:=y;exact⟨⟨a,b⟩,rfl⟩
 all_goals(obtain⟨a,_⟩:=y;exact⟨a,rfl⟩)
instance:DecidableEq dy:=fun a b=>by
 cases a<;>cases b<;>first|exact isTrue rfl|(rename_i x y;exact if h:x=y then isTrue (by rw[h]) else isFalse (fun e=>h (by cases e;rfl)))|exact isFalse (fun e=>by cases e)
def uB(P:Program)(r:TypeId->Option (List dy)):List Field->Nat->Option (List dy)
 |[],_=>some []
 |f::bK,B=>match r f.type,uB P r bK (B+P.cellsOf f.type) with
  |some a,some b=>if f.offset=B/\P.cellsOf f.type=a.length then some (a++b) else none
  |_,_=>none
def p1(tt:TypeId->b_)(P:Program):Nat->TypeId->Option (List dy)
 |0,_=>none
 |n+1,T=>match P.underlying T with
  |some (.int k)=>some [.int k]
  |some .bool=>some [.bool]
  |some .string=>some [.str]
  |some (.slice e)=>match tt T,p1 tt P n e with
   |.slice _ t _,some aR=>if aR=H_ t/\P.cellsOf e=aT t then some [.sl t] else none
   |_,_=>none
  |some (.struct bK)=>match uB P (p1 tt P n) bK.toList 0 with
   |some aR=>if P.cellsOf T=aR.length then some aR else none
   |none=>none
  |_=>none
def u3(w:World)(av:Nat->Prop)(aR:List dy)(cs:List Value):Prop:=∃y:kH aR,cX w av (e9 aR y) cs/\∀d,d∈e9 aR y->jj d
theorem aeV:∀(aR nV:List dy) (y:kH aR) (y':kH nV),∃z:kH (aR++nV),e9 (aR++nV) z=e9 aR y++e9 nV y':=by
 intro aR;induction aR with
 |nil=>intro nV y y';exact⟨y',rfl⟩
 |cons s aR ih=>
  intro nV y y';obtain⟨a,b⟩:=y;obtain⟨z,hz⟩:=ih nV b y';exact⟨(a,z),by simp[e9,hz]⟩
theorem cX.bY{w:World}{av:Nat->Prop}{ds kG:List aZ}{vs ck:List Value}(h:cX w av ds vs)(af:cX w av kG ck):cX w av (ds++kG) (vs++ck):=by
 refine⟨by rw[List.length_append,List.length_append,h.1,af.1],fun j g1 g2=>?_⟩
 rw[List.getElem_append,List.getElem_append];have:=h.1;simp only[List.length_append] at g1 g2;by_cases hj:j<ds.length
 ·rw[dif_pos hj,dif_pos (by omega)]
  exact h.2 j hj (by omega)
 ·rw[dif_neg hj,dif_neg (by omega)]
  have:=af.2 (j-ds.length) (by omega) (by omega)
  simpa[h.1] using this
theorem u3.one{w:World}{av:Nat->Prop}{s:dy}{d:aZ}{v:Value}(y:s.J)(Z:s.mk y=d)(h:bD w av d v)(hw:jj d):u3 w av [s] [v]:=
 ⟨(y,()),⟨rfl,fun j h1 h2=>by
  simp only[e9,List.length_cons,List.length_nil] at h1;obtain rfl:j=0:=by omega
  simpa[e9,Z] using h⟩,fun Y9 af=>by simp only[e9,List.mem_singleton] at af;rw[af,Z];exact hw⟩
section
variable {H:Type}{j4:TypeId×Value->H}{P:Program}{w:World}{base:Nat}{spare:Nat->Bool}{held:Bool}{av:Nat->Prop}{tt:TypeId->b_}
theorem _l{r:TypeId->Option (List dy)}{n:Nat}{cs:List Value}(ih:∀{T:TypeId} {aR:List dy} {cs:List Value} {x:DataW H×List MemPlace},r T=some aR->DataW.trod j4 P w base spare held n T cs=some x->u3 w av aR cs):
  ∀(bK:List Field) (B:Nat) (aR:List dy),uB P r bK B=some aR->B+aR.length<=cs.length->(∀(i:Nat) (f:Field),bK[i]? =some f->∃x,DataW.trod j4 P w base spare held n f.type ((cs.drop f.offset).take (P.cellsOf f.type))=some x)->
   u3 w av aR ((cs.drop B).take aR.length):=by
 intro bK;induction bK with
 |nil=>
  intro B aR h hl _;simp only[uB] at h;cases h;exact⟨(),⟨by simp[e9],fun j g=>by simp[e9] at g⟩,fun d Z=>by simp[e9] at Z⟩
 |cons f bK apw=>
  intro B aR h hl hx;simp only[uB] at h;split at h
  ·rename_i a b h1 h2;split at h
   ·rename_i hc;cases h;obtain⟨x,nY⟩:=hx 0 f rfl;have gj:B+a.length+b.length<=cs.length:=by simp only[List.length_append] at hl;omega
    rw[hc.1,hc.2] at nY;rw[hc.2] at h2;obtain⟨eD,aB,aA⟩:=ih h1 nY;obtain⟨fh,bC,cL⟩:=apw (B+a.length) b h2 gj (fun i g hg=>hx (i+1) g (by simpa using hg))
    obtain⟨z,hz⟩:=aeV a b eD fh;have fF:(cs.drop B).take (a++b).length=(cs.drop B).take a.length++(cs.drop (B+a.length)).take b.length:=by
     rw[List.length_append,List.take_add,List.drop_drop]
    refine⟨z,?_,?_⟩
    ·rw[hz,fF];exact aB.bY bC
    ·rw[hz];intro d Z;rcases List.mem_append.1 Z with Z|Z
     ·exact aA d Z
     ·exact cL d Z
   ·cases h
  ·cases h
theorem aa3(b9:∀b,¬av b):∀(m:Nat) {T:TypeId} {aR:List dy} {n:Nat} {cs:List Value} {x:DataW H×List MemPlace},p1 tt P m T=some aR->DataW.trod j4 P w base spare held n T cs=some x->u3 w av aR cs:=by
 intro m;induction m with
 |zero=>intro T aR n cs x h;cases h
 |succ m ih=>
  intro T aR n cs x h hx;simp only[p1] at h;split at h
  ·rename_i k hu;cases h;obtain⟨z,rfl,_,hw⟩:=DataW.trod_int hu hx;exact .one (s:=.int k) z rfl (.int k z) (.int k z hw)
  ·rename_i hu;cases h;obtain⟨b,rfl,_⟩:=DataW.trod_bool hu hx;exact .one (s:=.bool) b rfl (.bool b) (.bool b)
  ·rename_i hu;cases h;obtain⟨s,rfl,_,hl⟩:=DataW.trod_string hu hx;exact .one (s:=.str) s.data.toList rfl (.str _ _ rfl) (.str _ (by rw[Array.length_toList];exact hl))
  ·rename_i e hu;split at h
   ·rename_i cz t bytes nV ji lp;split at h
    ·rename_i hc;cases h;rcases DataW.trod_slice hu hx with⟨rfl,_⟩|⟨a,len,cap,atH,rest,tN,rfl,rfl,_,hb,tp,hcm,l_,bu,_⟩
     ·exact .one (s:=.sl t) [] rfl (.nil t) (.sl t [] (Nat.zero_le _) (fun x h=>by cases h))
     ·have key:∀j,j<=len->∃xs:List (den t),∃cs:List Value,xs.length=j/\cs.length=j*aT t/\(∀i u,cs[i]? =some u->w.cell? (a.add i)=some u)/\cX w av (flat t xs) cs/\∀x,x∈xs->∀d,d∈enc t x->jj d:=by
       intro j;induction j with
       |zero=>intro _;exact⟨[],[],rfl,by simp,fun i u h=>by simp at h,⟨rfl,fun i h=>by simp[flat] at h⟩,fun x h=>by cases h⟩
       |succ j apv=>
        intro hj;obtain⟨xs,cs,h1,h2,h3,aw,bk⟩:=apv (by omega)
        have jH:=bu j (by omega)
        rw[List.getElem?_eq_getElem (by omega)] at jH
        obtain⟨n',aB,aA⟩:=Option.bind_eq_some_iff.1 jH;obtain⟨bC,cL,fK⟩:=World.cells?_some aB;obtain⟨y,ia,wW⟩:=ih lp aA;obtain⟨hc1,qV⟩:=hc;subst hc1;obtain⟨wN,hxe⟩:=ag9 t y;rw[<-hxe] at ia wW;have gj:n'.length=aT t:=by rw[cL,qV]
        refine⟨xs++[wN],cs++n',by simp[h1],by rw[List.length_append,h2,gj,Nat.succ_mul],fun i u hi=>?_,?_,fun x hx=>?_⟩
        ·by_cases hlt:i<cs.length
         ·rw[List.getElem?_append_left hlt] at hi;exact h3 i u hi
         ·rw[List.getElem?_append_right (by omega)] at hi
          have o4:i-cs.length<aT t:=by rw[<-gj];exact(List.getElem?_eq_some_iff.1 hi).1
          have:=fK (i-cs.length) (by rw[qV];exact o4)
          rw[Deep.add_add,qV,hi,show j*aT t+(i-cs.length)=i by omega] at this
          exact this
        ·rw[ru,show flat t [wN]=enc t wN by simp[flat]]
         exact aw.bY ia
        ·rcases List.mem_append.1 hx with hx|hx
         ·exact bk x hx
         ·rw[List.mem_singleton.1 hx];exact wW
      obtain⟨xs,cs,h1,h2,h3,aw,bk⟩:=key len (Nat.le_refl _);exact .one (s:=.sl t) xs rfl (.sl t xs a cap cs len h1.symm tp (fun _=>b9 _) (by rw[h2,eW,h1]) h3 aw.2) (.sl t xs (by omega) bk)
    ·cases h
   ·cases h
  ·rename_i bK hu;split at h
   ·rename_i nV aqf;split at h
    ·rename_i hc;cases h;obtain⟨xs,tN,_,_,hl,hlen,hf⟩:=DataW.trod_struct hu hx;have:=_l (cs:=cs) (fun h1 h2=>ih h1 h2) bK.toList 0 aR aqf (by omega) (fun i f XA=>by
      have:=hf i f (by simpa using XA)
      have hi:i<xs.length:=by
       rw[hlen];have:=(List.getElem?_eq_some_iff.1 XA).1;simpa using this
      exact⟨xs[i],by rw[this,List.getElem?_eq_getElem hi]⟩)
     rw[List.drop_zero,List.take_of_length_le (by omega)] at this
     exact this
    ·cases h
   ·cases h
  ·cases h
theorem uy{w:World}{av:Nat->Prop}{d:aZ}{ds:List aZ}{vs:List Value}(h:cX w av (d::ds) vs):∃v ck,vs=v::ck/\bD w av d v/\cX w av ds ck:=by
 obtain⟨h1,h2⟩:=h;match vs,h1 with
 |v::vs,h1=>
  refine⟨v,vs,rfl,?_,by simpa using h1,fun j g1 g2=>?_⟩
  ·have:=h2 0 (by simp) (by simp)
   simpa using this
  ·have:=h2 (j+1) (by simp only[List.length_cons];omega) (by simp only[List.length_cons];omega)
   simpa using this
theorem aej{w:World}{av:Nat->Prop}:∀{ds:List aZ} {vs:List Value},cX w av ds vs->lf w av (cx ds) vs []:=by
 intro ds;induction ds with
 |nil=>
  intro vs h;match vs,h.1 with
  |[],_=>rfl
 |cons d ds ih=>
  intro vs h;obtain⟨v,ck,rfl,h1,h2⟩:=uy h;exact⟨[],[],rfl,⟨rfl,h1⟩,ih h2⟩
def vw(P:Program)(T:TypeId):Bool:=match P.underlying T with
 |some (.struct _)=>true
 |_=>false
def vj(b:Bool)(ds:List aZ):Arg:=match b,ds with
 |true,ds=>.av (.agg (cx ds))
 |false,[d]=>.av (.ak (.d d))
 |false,_=>.av (.ak .any)
theorem aiN(b9:∀b,¬av b){m:Nat}{T:TypeId}{aR:List dy}{v:Value}{d:DataW H}{p:List MemPlace}{r:Reach}{rh:Nat}(hp:p1 tt P m T=some aR)(iG:Value.okWide P w r rh T v)
  (Z:DataW.Trod j4 P w base spare held T v d p):∃y:kH aR,Qk w av (vj (vw P T) (e9 aR y)) v []/\dN [vj (vw P T) (e9 aR y)] [v]=[]/\∀d,d∈e9 aR y->jj d:=by
 obtain⟨n,hn⟩:=Z;obtain⟨y,h1,h2⟩:=aa3 b9 m hp hn;refine⟨y,?_,?_,h2⟩
 ·cases m with
  |zero=>cases hp
  |succ m=>
   simp only[p1] at hp;unfold vw;split at hp
   ·rename_i k hu;cases hp;rw[hu];obtain⟨z,rfl⟩:=okWide_int hu iG;obtain⟨v',ck,e,h3,aw⟩:=uy h1;cases e;exact⟨rfl,h3⟩
   ·rename_i hu;cases hp;rw[hu];obtain⟨z,rfl⟩:=okWide_bool hu iG;obtain⟨v',ck,e,h3,aw⟩:=uy h1;cases e;exact⟨rfl,h3⟩
   ·rename_i hu;cases hp;rw[hu];obtain⟨z,rfl⟩:=okWide_string hu iG;obtain⟨v',ck,e,h3,aw⟩:=uy h1;cases e;exact⟨rfl,h3⟩
   ·rename_i e hu;split at hp
    ·split at hp
     ·cases hp;rw[hu];obtain⟨a,len,cap,rfl⟩:=okWide_slice hu iG;obtain⟨v',ck,e,h3,aw⟩:=uy h1;cases e;exact⟨rfl,h3⟩
     ·cases hp
    ·cases hp
   ·rename_i bK hu;rw[hu];obtain⟨cs,rfl,_⟩:=okWide_struct hu iG;exact⟨cs.toList,rfl,aej h1⟩
   ·cases hp
 ·unfold vj;split<;>cases v<;>rfl
def uA(tt:TypeId->b_)(P:Program)(m:Nat):List TypeId->Option (List (Bool×List dy))
 |[]=>some []
 |T::cV=>match p1 tt P m T,uA tt P m cV with
  |some aR,some r=>some ((vw P T,aR)::r)
  |_,_=>none
@[reducible] def wE:List (Bool×List dy)->Type
 |[]=>Unit
 |p::r=>kH p.2×wE r
def sx:(ps:List (Bool×List dy))->wE ps->List Arg
 |[],_=>[]
 |p::r,(y,z)=>vj p.1 (e9 p.2 y)::sx r z
def IU:(ps:List (Bool×List dy))->wE ps->Prop
 |[],_=>True
 |p::r,(y,z)=>(∀d,d∈e9 p.2 y->jj d)/\IU r z
theorem ahn(b9:∀b,¬av b){m:Nat}{r:Reach}{rh:Nat}:∀{cV:List TypeId} {ps:List (Bool×List dy)} {vs:List Value} {ds:List (DataW H)} {p:List MemPlace},uA tt P m cV=some ps->
  (∀(j:Nat) (t:TypeId) (v:Value),cV[j]? =some t->vs[j]? =some v->Value.okWide P w r rh t v)->DataW.TrodAll j4 P w base spare held cV vs ds p->
  ∃y:wE ps,iW w av (sx ps y) vs []/\dN (sx ps y) vs=[]/\IU ps y:=by
 intro cV;induction cV with
 |nil=>
  intro ps vs ds p hp _ Z;simp only[uA] at hp;cases hp;obtain⟨rfl,rfl,rfl⟩:=trodAll_nil Z;exact⟨(),rfl,rfl,trivial⟩
 |cons T cV ih=>
  intro ps vs ds p hp iG Z;simp only[uA] at hp;split at hp
  ·rename_i aR ez h1 h2;cases hp;obtain⟨v,ck,d,kG,iP,iu,rfl,rfl,rfl,hd1,hd2⟩:=trodAll_cons Z;obtain⟨y,aB,aA,bC⟩:=aiN b9 h1 (iG 0 T v rfl rfl) hd1;obtain⟨z,cL,fK,ia⟩:=ih h2 (fun j t u g1 g2=>iG (j+1) t u (by simpa using g1) (by simpa using g2)) hd2
   refine⟨(y,z),⟨[],[],rfl,aB,cL⟩,?_,bC,ia⟩;have:=L4 (as:=[vj (vw P T) (e9 aR y)]) (vs:=[v]) (ob:=sx ez z) (ck:=ck) rfl;rw[aA,fK] at this;exact this
  ·cases hp
theorem _r{P:Program}{w:World}:∀{laid:List (String×DataW Unit)} {ps:List MemPlace} {n:String} {d:DataW Unit},DataW.LaidVars P w laid ps->(n,d)∈laid->∃b0,DataW.LaidVars P w [(n,d)] b0:=by
 intro laid;induction laid with
 |nil=>intro ps n d _ hm;cases hm
 |cons x laid ih=>
  obtain⟨n0,d0⟩:=x;intro ps n d h hm;obtain⟨g,t,cs,lZ,p,q,h1,h2,h3,aw,bk,cp⟩:=h;rcases List.mem_cons.1 hm with e|hm
  ·cases e;exact⟨_,g,t,cs,lZ,p,[],h1,h2,h3,aw,rfl,rfl⟩
  ·exact ih bk hm
theorem OR{P:Program}{W:World}{laid:List (String×DataW Unit)}{name:String}{k:IntKind}{zs:List Int}{g:Nat}{t e:TypeId}{n i:Nat}(hg:P.globalNamed name=some g)(apL:(P.globals[g]?).map (·.type)=some t)(aq:P.underlying t=some (.array n e))
  (he:P.underlying e=some (.int k)) (tw:P.cellsOf e=1) (aqi:P.cellsOf t=n) (hm:laid[i]? =some (name,Lib.tabData k zs)) (h:laidMet P laid W):nN W g k zs:=by
 obtain⟨ps,h,_⟩:=h;obtain⟨b0,ct,bj,cs,lZ,p,q,hg',qK,alJ,Z,_,_⟩:=_r h (List.mem_of_getElem? hm);obtain rfl:=Option.some.inj (hg.symm.trans hg');obtain rfl:=Option.some.inj (apL.symm.trans qK);have hc:=Lib.cells_of_tab aq he tw aqi Z;refine ad7 hg ?_
 show W.var? P name=_;rw[alJ,<-hc]
def LawOk(S:aH)(ps:List (Bool×List dy)):Prop:=∀y:wE ps,IU ps y->∃r,(S (sx ps y)).comp=some r/\(S (sx ps y)).fa r=[.ak (.d (.bool true))]
theorem ZQ{W c8:World}(hl:laidOutB P=true){sp':Nat->Bool}(kA:∀b,b<W.heap.size->sp' b=true)(hb:Below W.heap.size W c8):∀{cV:List TypeId} {vs:List Value} {ds:List (DataW H)} {p:List MemPlace},
  (∀t,t∈cV->P.readableRec t=true/\t<P.types.size)->(∀x∈p,x.block<W.heap.size)->DataW.TrodAll j4 P W 0 (fun _=>true) true cV vs ds p->DataW.TrodAll j4 P c8 0 sp' true cV vs ds p:=by
 intro cV;induction cV with
 |nil=>intro vs ds p _ _ Z;obtain⟨rfl,rfl,rfl⟩:=trodAll_nil Z;rfl
 |cons T cV ih=>
  intro vs ds p hr hlt Z;obtain⟨v,ck,d,kG,iP,iu,rfl,rfl,rfl,hd1,hd2⟩:=trodAll_cons Z;refine⟨iP,iu,?_,ih (fun t aq=>hr t (List.mem_cons_of_mem _ aq)) (fun x hx=>hlt x (List.mem_append.2 (.inr hx))) hd2,rfl⟩
  exact WideElems.Trod_stays hl (hr T List.mem_cons_self).1 (hr T List.mem_cons_self).2 hd1 (fun x hx=>hb.same (hlt x (List.mem_append.2 (.inl hx)))) (fun x hx=>kA _ (hlt x (List.mem_append.2 (.inl hx))))
theorem _b{cV:List TypeId}{vs:List Value}{ds:List (DataW H)}{p:List MemPlace}(h:DataW.TrodAll j4 P w base spare held cV vs ds p):ds.length=cV.length:=by
 induction cV generalizing vs ds p with
 |nil=>obtain⟨rfl,rfl,rfl⟩:=trodAll_nil h;rfl
 |cons T cV ih=>
  obtain⟨v,ck,d,kG,iP,iu,rfl,rfl,rfl,_,hd2⟩:=trodAll_cons h;simp[ih hd2]
def Bj(P:Program):List String->Bool
 |[]=>true
 |n::ns=>(match P.globalNamed n with
  |some g=>match(P.globals[g]?).map (·.type) with
   |some t=>P.readableRec t&&decide (t<P.types.size)
   |none=>true
  |none=>true)&&Bj P ns
theorem ZI{W c8:World}(hl:laidOutB P=true){sp':Nat->Bool}(kA:∀b,b<W.heap.size->sp' b=true)(hb:Below W.heap.size W c8):∀{ns:List String} {gs:List (DataW H)} {q:List MemPlace},
  Bj P ns=true->(∀x∈q,x.block<W.heap.size)->DataW.TrodVars j4 P W (fun _=>true) ns gs q->DataW.TrodVars j4 P c8 sp' ns gs q:=by
 intro ns;induction ns with
 |nil=>intro gs q _ _ h;obtain⟨rfl,rfl⟩:=trodVars_none h;rfl
 |cons n ns ih=>
  intro gs q hr hlt h;cases gs with
  |nil=>exact h.elim
  |cons d ds=>
   obtain⟨g,t,cs,lZ,p,fl,h1,h2,h3,aw,hs,rfl⟩:=h;simp only[Bj,h1,h2,Bool.and_eq_true,decide_eq_true_eq] at hr;have hg:g<W.heap.size:=by
    have Kq:=h3;simp only[World.var?,h1,Option.bind_some] at Kq;split at Kq
    ·rename_i hc;exact(Array.getElem?_eq_some_iff.1 hc).1
    ·cases Kq
   have Z:DataW.Trod j4 P W 0 (fun _=>true) true t (.agg cs) d p:=⟨lZ,aw⟩
   have hx:∀x∈p,x.block<W.heap.size:=fun x hx=>hlt x (List.mem_append.2 (.inl (List.mem_append.2 (.inr hx))))
   obtain⟨ajX,n9⟩:=WideElems.Trod_stays (sp':=sp') hl hr.1.1 hr.1.2 Z (fun x h=>hb.same (hx x h)) (fun x h=>kA _ (hx x h))
   refine⟨g,t,cs,ajX,p,fl,h1,h2,?_,n9,ih hr.2 (fun x h=>hlt x (List.mem_append.2 (.inr h))) hs,rfl⟩
   simp only[World.var?,h1,Option.bind_some] at h3 ⊢;rw[hb.block g hg];exact h3
theorem _a{lu:Nat->Bool}:∀{ns:List String} {gs:List (DataW H)} {q:List MemPlace},DataW.TrodVars j4 P w lu ns gs q->gs.length=ns.length:=by
 intro ns;induction ns with
 |nil=>intro gs q h;obtain⟨rfl,rfl⟩:=trodVars_none h;rfl
 |cons n ns ih=>
  intro gs q h;cases gs with
  |nil=>exact h.elim
  |cons d ds=>
   obtain⟨g,t,cs,lZ,p,fl,h1,h2,h3,aw,hs,rfl⟩:=h;simp[ih hs]
theorem _q{f:FuncId}{fn:Func}{S:aH}{s:ChangeSpec}{K2:TypeId}{m:Nat}{ps:List (Bool×List dy)}(eA:aG P f S)(he:∀vs w,(callFunc f vs).run P w=.ok (.enter f vs) w)(hl:laidOutB P=true)
  (ajM:∀t,t∈fn.params.toList->P.readableRec t=true/\t<P.types.size) (j2:fn.resultTypes=#[K2]) (apO:P.underlying K2=some .bool) (ajI:Bj P s.vars=true)
  (mV:∀ds gs:List (DataW H),ds.length=fn.params.toList.length->gs.length=s.vars.length->s.fn H (ds++gs)={results:=[.lit (.bool true)],args:=ds,vars:=gs}) (n5:uA tt P m fn.params.toList=some ps) (IE:LawOk S ps)
  (W:World) (hG:mW W) (rh:Nat) (args:Array Value) (ds gs:List (DataW H)) (before:List MemPlace) (iG:∀(j:Nat) t v,fn.params[j]? =some t->args[j]? =some v->Value.okWide P W .any rh t v)
  (hW:DataW.Whole j4 P fn.params.toList s.vars false W args.toList ds gs before):
  Calls P f args W fun e c8=>∃v,e=.returned v/\s.post j4 P fn false true false false W args v c8:=by
 have hlt:=hW.lt;have Kn:=hW;obtain⟨p,q,dZ,Y2,rfl,_,_⟩:=hW;obtain⟨y,h1,h2,h3⟩:=ahn (av:=fun b=>False\/b∈([]:List Nat)) (fun b hb=>by simp at hb) n5 (fun j t v g1 g2=>iG j t v (by simpa using g1) (by simpa using g2)) dZ
 obtain⟨r,aw,bk⟩:=IE y h3;have key:=eA _ r aw W (fun _=>False) args.toList [] h1 List.nodup_nil (fun b hb=>by simp at hb) (fun b hb=>hb.elim) ⟨hG,fun b _ h=>(by cases h),fun _ _ h=>h,aqL hG⟩
 rcases key with⟨_,hc⟩|⟨v,w',hv,_⟩
 ·have e:args.toList.toArray=args:=by simp
  rw[e] at hc;refine hc.mono fun CJ c8 h=>?_
  cases CJ with
  |returned v=>
   obtain⟨ek,ej,rv,fm,hB,hR,hv,_,_⟩:=h;refine⟨v,rfl,?_⟩;rw[bk] at hR;match rv,hR with
   |[v1],⟨c1,c2,e1,⟨_,hr⟩,_⟩=>
    have hr:bD c8 _ (.bool true) v1:=hr;have pd:v1=.bool true:=by cases hr;rfl
    subst pd;have hv:v=.bool true:=hv;subst hv;have IK:Below W.heap.size W c8:=⟨fm.os,fm.tape,fm.output,fm.size,fun k hk=>fm.block k hk (by simp)⟩
    have gA:=mV ds gs (_b dZ) (_a Y2);refine⟨ds,gs,p++q,[],p,q,Kn,?_,?_,?_,IK.frame _,fun h=>by cases h⟩
    ·rw[gA,j2];exact trodAll_mk1 (shut_bool apO _)
    ·rw[gA];exact ZQ hl (fun b hb=>by simpa using hb) IK ajM (fun x hx=>hlt x (List.mem_append.2 (.inl hx))) dZ
    ·rw[gA];exact ZI hl (fun b hb=>by simpa using hb) IK ajI (fun x hx=>hlt x (List.mem_append.2 (.inr hx))) Y2
  |panicked c=>exact h.elim
  |outgrown=>exact h.elim
 ·rw[he] at hv;cases hv
end
end Go.Jk
namespace Go.Jk
def bJ(c:UInt8):F->List F
 |[]=>[[]]
 |b::r=>bif b==c then []::bJ c r else match bJ c r with
  |x::xs=>(b::x)::xs
  |[]=>[[b]]
def FS(st:ah)(ct:FuncId):aJ->Option ((F×UInt8)×List (Nat×Site))
 |.av (.ak (.clo g [(gf,s1),(gd,s2),(hK,g_)]))=>bif Nat.beq g ct&&fA [gf,gd,hK] then
   match fD st gf s1,fD st gd s2,fD st hK g_ with
   |some [.d (.str [c])],some [.d (.str s)],some [.d (.int .i64 (.ofNat 0))]=>some ((s,c),[(gf,.dead s1),(gd,.dead s2),(hK,.dead g_)])
   |_,_,_=>none
  else none
 |_=>none
def Ea(st:ah):List Nat->List (Nat×aJ)
 |[]=>[]
 |t::r=>(t,st.get t)::Ea st r
def ah.back(st:ah)(b':List Nat):ah:=⟨Ea st b',st.sites,st.nt⟩
def Out.back(b':List Nat):Out->Out
 |.norm st=>.norm (st.back b')
 |.exit id st=>.exit id (st.back b')
 |.ret st=>.ret (st.back b')
def ij{J bh:Type}(aX:F->J->Option (Sum J bh))(fin:J->Option bh):List F->J->Option bh
 |[],y=>fin y
 |x::xs,y=>match aX x y with
  |none=>none
  |some (.inl y')=>ij aX fin xs y'
  |some (.inr b)=>some b
noncomputable def G'(C:hJ)(assign body:Code)(p eN:Nat)(aQ:Shape)(os:List aO)(x:F)(y:aQ.J):Option (Sum aQ.J (aD os)):=
 exec C assign (2*p) ((aQ.st y).set eN (one (.str x))) fun
  |.norm st=>exec C body (2*p+1) st fun
   |.norm st=>(aQ.ex (st.back (keys aQ.cF))).map .inl
   |B=>(gY os (B.back (keys aQ.cF))).map .inr
  |_=>none
def kk:Nat:=4611686018427387904
noncomputable def rO(ct:FuncId)(t:Nat)(aQ:Shape)(os:List aO)(aX:F->aQ.J->Option (Sum aQ.J (aD os)))(fin:aQ.J->Option (aD os)):hO:=fun st=>
 ⟨aD os,(FS st ct (st.get t)).bind fun q=>(aQ.ex (st.h4 q.2)).bind fun y=>bif Nat.ble q.1.1.length kk then ij aX fin (bJ q.1.2 q.1.1) y else none,lo os,Bb os,O5 os⟩
def u4(P:Program)(ct:FuncId):Prop:=
 (∀args w,(callFunc ct args).run P w=.ok (.enter ct args) w)/\
 ∀(l b1 b2 b3:Nat) (p s:ByteArray) (c:UInt8) (c' et fL:TypeId) (W:World) (eV:List F->World->Prop) (jL:World->Prop),p.data.toList=[c]->s.data.toList.length<=kk->b1≠b2->b1≠b3->b2≠b3->
  W.heap[b1]? =some (.cells #[.string p] c')->W.heap[b2]? =some (.cells #[.string s] et)->W.heap[b3]? =some (.cells #[.int .i64 0] fL)->
  (∀r W c8,eV r W->Fr [b2] W c8->eV r c8)->(∀W c8,jL W->Fr [b2] W c8->jL c8)->(∀r W,eV r W->iz W [b2] fun _=>False)->(∀W,jL W->iz W [b2] fun _=>False)->
  (∀x rest W ir,eV (x::rest) W->b1<W.heap.size->b2<W.heap.size->b3<W.heap.size->ir.data.toList=x->YieldAt (eE none) 0 P l #[.string ir] W fun e c8=>
   (e=.returned (.bool true)/\eV rest c8/\W.heap.size<=c8.heap.size/\c8.heap[b1]? =W.heap[b1]? /\c8.heap[b2]? =W.heap[b2]? /\c8.heap[b3]? =W.heap[b3]?)\/(e=.returned (.bool false)/\jL c8))->
  eV (bJ c s.data.toList) W->
  CallsIn (eE none) 0 P ct (#[.func (.yield l) #[] #[]]++#[.pointer (some ⟨b1,0,none⟩),.pointer (some ⟨b2,0,none⟩),.pointer (some ⟨b3,0,none⟩)]) W fun e c8=>(∃v,e=.returned v)/\(eV [] c8\/jL c8)
section
variable {P:Program}{O:World}{Y:List Nat}{X:Nat->Prop}{D:Nat->Value}{st:ah}{M:Array Value}{w:World}
theorem afx(st:ah)(b':List Nat)(t:Nat):(st.back b').get t=st.get t/\t∈b'\/(st.back b').get t=.av (.ak .any):=by
 unfold ah.back ah.get;induction b' with
 |nil=>exact .inr rfl
 |cons u b' ih=>
  simp only[Ea,look];cases hb:u.beq t with
  |true=>
   have:=Nat.eq_of_beq_eq_true hb;subst this;left;simp only[cond_true,ah.get];exact⟨trivial,List.mem_cons_self⟩
  |false=>
   simp only[cond_false];rcases ih with⟨h1,h2⟩|h
   ·exact .inl ⟨h1,List.mem_cons_of_mem _ h2⟩
   ·exact .inr h
theorem am.back(S:am O Y X D st M w){bW:Array Value}{b':List Nat}(aq:∀t,t∈b'->M.getD t undef=bW.getD t undef)(hs:bW.size=M.size):am O Y X D (st.back b') bW w:=by
 refine⟨hs.trans S.nt,fun t=>?_,S.sites,S.dV,S.ci,S.frame,S.old,S.eY⟩
 rcases afx st b' t with⟨h,hm⟩|h
 ·rw[h,<-aq t hm];exact S.cF t
 ·rw[h];trivial
theorem am.other(S:am O Y X D st M w){w':World}{L:List Nat}(aX:Fr L w w')(dY:∀b,b∈L->X b/\(b∈Y\/O.heap.size<=b)):am O Y X D st M w':=by
 have Ce:∀b,¬ay X D st.sites b->b∉L:=fun b hb h=>hb (.inl (dY b h).1)
 have G:h6 D D st.sites st.sites w w' (ay X D st.sites) (ay X D st.sites):=
  ⟨fun o ab h=>⟨ab,h,Nat.le_refl _,fun _=>rfl⟩,fun b hb hlt=>aX.block b hlt (Ce b hb),fun _ h _=>h⟩
 have hlt:∀b,ay X D st.sites b->b<w'.heap.size:=fun b hb=>Nat.lt_of_lt_of_le (S.lt hb) aX.size
 refine⟨S.nt,fun t=>(S.cF t).goes G aX.size hlt,fun o ab h=>?_,S.dV,S.ci,?_,fun b hb=>Nat.lt_of_lt_of_le (S.old b hb) aX.size,S.eY⟩
 ·exact(S.sites o ab h).goes G aX.size hlt rfl fun hl b hb=>aX.block b (S.fy ⟨ab,h,hl⟩ hb) fun hm=>(S.ci o b ⟨ab,h,hl⟩ hb).1 (dY b hm).1
 ·refine⟨aX.os.trans S.frame.os,aX.tape.trans S.frame.tape,aX.output.trans S.frame.output,Nat.le_trans S.frame.size aX.size,fun b hb hn=>?_⟩
  have h1:b∉L:=fun h=>by
   rcases(dY b h).2 with h2|h2
   ·exact hn h2
   ·omega
  rw[aX.block b (Nat.lt_of_lt_of_le hb S.frame.size) h1];exact S.frame.block b hb hn
theorem Fr.putObj(w:World)(l:Nat)(B:Obj):Fr [l] w (w.putObj l B):=
 ⟨rfl,rfl,rfl,by simp,fun b _ hn=>World.putObj_heap_other fun e=>hn (by simp[e])⟩
theorem Fr.mono{Y me:List Nat}{O w:World}(aX:Fr Y O w)(h:∀b,b∈Y->b∈me):Fr me O w:=⟨aX.os,aX.tape,aX.output,aX.size,fun b hb hn=>aX.block b hb fun af=>hn (h b af)⟩
theorem am.Aj(S:am O Y X D st M w){me:List Nat}(h:∀o b,cg st.sites o->bH (D o)=some b->b∈me)(hg:∀b,b∈me->b∈Y\/O.heap.size<=b):am w me X D st M w:=
 ⟨S.nt,S.cF,S.sites,S.dV,fun o b h1 h2=>⟨(S.ci o b h1 h2).1,.inl (h o b h1 h2)⟩,Fr.refl _ _,S.old,⟨S.kM.1,fun b hb hm=>(hg b hm).elim (S.eY.Y b hb) fun h=>by have:=S.eY.lt b hb;omega,S.eY.X,fun b hb=>(S.kM.2 b hb).2⟩⟩
theorem am.base(S:am O Y X D st M w){me:List Nat}(h:∀b,b∈me->b∈Y\/O.heap.size<=b):h7 O Y X w me X:=by
 refine⟨fun w' aX=>?_,fun b hb=>?_,fun b hb=>hb⟩
 ·refine⟨aX.os.trans S.frame.os,aX.tape.trans S.frame.tape,aX.output.trans S.frame.output,Nat.le_trans S.frame.size aX.size,fun b hb hn=>?_⟩
  have h1:b∉me:=fun af=>by
   rcases h b af with h2|h2
   ·exact hn h2
   ·omega
  rw[aX.block b (Nat.lt_of_lt_of_le hb S.frame.size) h1];exact S.frame.block b hb hn
 ·rcases hb with hb|hb
  ·exact h b hb
  ·exact .inr (Nat.le_trans S.frame.size hb)
theorem am.zW{aN:World}{dF:List Nat}{c7:Nat->Prop}(bh:h7 O Y X aN dF c7)(G:iz O Y X)(S:am aN dF c7 D st M w):am O Y c7 D st M w:=
 ⟨S.nt,S.cF,S.sites,S.dV,fun o b h1 h2=>⟨(S.ci o b h1 h2).1,bh.ci b (S.ci o b h1 h2).2⟩,bh.cD _ S.frame,S.old,⟨G.ok,G.Y,S.eY.X,G.lt⟩⟩
def EH(sites:List (Nat×Site)):List Nat:=(keys sites).filter fun o=>match look sites o with|some s=>s.live|none=>false
theorem L0{sites:List (Nat×Site)}{o:Nat}:o∈EH sites <-> cg sites o:=by
 unfold EH cg;rw[List.mem_filter];constructor
 ·rintro⟨_,h⟩;split at h
  ·rename_i s hs;exact⟨s,hs,h⟩
  ·cases h
 ·rintro⟨s,hs,hl⟩;refine⟨?_,by simp only[hs];exact hl⟩
  have:=P1 hs;clear hl hs;induction sites with
  |nil=>cases this
  |cons p sites ih=>
   rcases List.mem_cons.1 this with h|h
   ·simp only[keys];rw[<-h];exact List.mem_cons_self
   ·simp only[keys];exact List.mem_cons_of_mem _ (ih h)
def iB(D:Nat->Value)(sites:List (Nat×Site)):List Nat:=db D (EH sites)
theorem nl{sites:List (Nat×Site)}{b:Nat}:b∈iB D sites <-> ∃o,cg sites o/\bH (D o)=some b:=by
 unfold iB;rw[ng];constructor
 ·rintro⟨o,h1,h2⟩;exact⟨o,L0.1 h1,h2⟩
 ·rintro⟨o,h1,h2⟩;exact⟨o,L0.2 h1,h2⟩
def lN(dS:ah->Prop):Out->Exit->Prop
 |.norm st,.normal=>dS st
 |.exit id st,.exit iM=>id=iM/\dS st
 |.ret st,.ret=>dS st
 |_,_=>False
theorem lN.some{dS:ah->Prop}{B:Out}{e:Exit}(h:lN dS B e):∃st,dS st:=by
 cases B<;>cases e<;>first|exact⟨_,h⟩|exact⟨_,h.2⟩|exact h.elim
theorem Qe{dS:ah->Prop}(JK:∀(aQ:Shape) st y,aQ.ex st=some y->dS st->dS (aQ.st y)):∀{os:List aO} {x:Out} {y:aD os} {e:Exit},gY os x=some y->lN dS x e->lN dS (lo os y) e:=by
 have one:∀{k:Kind} {x:Out} {st:ah} {aQ:Shape} {y:aQ.J} {e:Exit},k.hd x=some st->aQ.ex st=some y->lN dS x e->lN dS (k.mk (aQ.st y)) e:=by
  intro k x st aQ y e h hy hl;cases k<;>cases x<;>simp only[Kind.hd] at h<;>try(cases h;done)
  ·cases h;cases e<;>try exact hl.elim
   exact JK aQ _ y hy hl
  ·rename_i id iM al;cases hb:Nat.beq id iM with
   |false=>simp[hb] at h
   |true=>
    simp only[hb,cond_true,Option.some.injEq] at h;subst h;cases e<;>try exact hl.elim
    exact⟨(Nat.eq_of_beq_eq_true hb).trans hl.1,JK aQ _ y hy hl.2⟩
  ·cases h;cases e<;>try exact hl.elim
   exact JK aQ _ y hy hl
 intro os;induction os with
 |nil=>intro x y;exact y.elim
 |cons B os ih=>
  intro x y e h hl;cases os with
  |nil=>
   simp only[gY] at h;split at h
   ·rename_i st hk;exact one hk h hl
   ·cases h
  |cons cY r=>
   simp only[gY] at h;split at h
   ·rename_i st hk;obtain⟨eD,aB,aA⟩:=Option.map_eq_some_iff.1 h;subst aA;exact one hk aB hl
   ·obtain⟨eD,aB,aA⟩:=Option.map_eq_some_iff.1 h;subst aA;exact ih aB hl
theorem _T{ct:FuncId}{v:aJ}{q:(F×UInt8)×List (Nat×Site)}(h:FS st ct v=some q):∃gf s1 gd s2 hK g_ c s,v=.av (.ak (.clo ct [(gf,s1),(gd,s2),(hK,g_)]))/\(gf≠gd/\gf≠hK/\gd≠hK)/\
  fD st gf s1=some [.d (.str [c])]/\fD st gd s2=some [.d (.str s)]/\fD st hK g_=some [.d (.int .i64 0)]/\q=((s,c),[(gf,.dead s1),(gd,.dead s2),(hK,.dead g_)]):=by
 unfold FS at h;split at h
 ·rename_i g gf s1 gd s2 hK g_;cases hb:Nat.beq g ct&&fA [gf,gd,hK] with
  |false=>simp[hb] at h
  |true=>
   simp only[hb,cond_true] at h;simp only[Bool.and_eq_true] at hb;have hg:=Nat.eq_of_beq_eq_true hb.1;subst hg;have hn:=(rA _).1 hb.2;simp only[List.nodup_cons,List.mem_cons,List.not_mem_nil,or_false,not_or,not_false_eq_true,List.nodup_nil,and_true] at hn;split at h
   ·rename_i c s h1 h2 h3;cases h;exact⟨gf,s1,gd,s2,hK,g_,c,s,rfl,⟨hn.1.1,hn.1.2,hn.2⟩,h1,h2,h3,rfl⟩
   ·cases h
 ·cases h
theorem Dl{J bh:Type}{aX:F->J->Option (Sum J bh)}{fin:J->Option bh}{x:F}{xs:List F}{y:J}{b:bh}(h:ij aX fin (x::xs) y=some b):(∃y',aX x y=some (.inl y')/\ij aX fin xs y'=some b)\/aX x y=some (.inr b):=by
 simp only[ij] at h;split at h
 ·cases h
 ·rename_i y' hy;exact .inl ⟨y',hy,h⟩
 ·rename_i bI hy;cases h;exact .inr hy
end
theorem H0{aQ:Shape}{st:ah}{y:aQ.J}(h:aQ.ex st=some y):st.nt=aQ.nt:=by
 unfold Shape.ex at h;simp only at h;cases hb:(st.h4 (pU st aQ.cF++pV st aQ.sites)).nt.beq aQ.nt with
 |false=>rw[hb] at h;cases h
 |true=>rw[<-Pb (pU st aQ.cF++pV st aQ.sites) st];exact Nat.eq_of_beq_eq_true hb
def sR(n:Nat):List aO->Bool
 |[]=>true
 |B::r=>Nat.beq B.2.nt n&&sR n r
def Out.st:Out->ah
 |.norm st|.exit _ st|.ret st=>st
theorem P4{k:Kind}{x:Out}{st:ah}(h:k.hd x=some st):x.st=st:=by
 cases k<;>cases x<;>simp only[Kind.hd] at h<;>try(cases h;done)
 ·cases h;rfl
 ·rename_i id iM al;cases hb:Nat.beq id iM with
  |false=>simp[hb] at h
  |true=>simp only[hb,cond_true,Option.some.injEq] at h;exact h
 ·cases h;rfl
theorem aiD{n:Nat}:∀{os:List aO} {x:Out} {y:aD os},gY os x=some y->sR n os=true->x.st.nt=n:=by
 intro os;induction os with
 |nil=>intro x y;exact y.elim
 |cons B os ih=>
  intro x y h hn;simp only[sR,Bool.and_eq_true] at hn;have hno:=Nat.eq_of_beq_eq_true hn.1;cases os with
  |nil=>
   simp only[gY] at h;split at h
   ·rename_i st hk;rw[P4 hk,H0 h,hno]
   ·cases h
  |cons cY r=>
   simp only[gY] at h;split at h
   ·rename_i st hk;obtain⟨eD,aB,_⟩:=Option.map_eq_some_iff.1 h;rw[P4 hk,H0 aB,hno]
   ·obtain⟨eD,aB,_⟩:=Option.map_eq_some_iff.1 h;exact ih aB hn.2
section
variable {P:Program}{C:hJ}
theorem aaY(H:a_ P C.toCtx){ct:FuncId}(tS:u4 P ct){t eN p:Nat}{assign body:Code}{aQ:Shape}{os:List aO}(aqs:ga P C assign (2*p))(aqr:ga P C body (2*p+1))
  {aX:F->aQ.J->Option (Sum aQ.J (aD os))} {fin:aQ.J->Option (aD os)} (fm:∀x y,aX x y=G' C assign body p eN aQ os x y) (vz:∀y,fin y=gY os (.norm (aQ.st y)))
  (II:eX (keys aQ.cF) (eN::(cn assign++cn body))=true) (IC:gJ assign=true) (IB:gJ body=true) (Iy:eN<aQ.nt) (qN:sR aQ.nt os=true):
  aY P (.rangeFunc (.tmp t) #[eN] assign body) (rO ct t aQ os aX fin):=by
 intro rn hn O Y X st y hy D M w ds S;have apV:rn=none:=hn.elim id fun h=>by cases h
 subst apV;simp only[rO] at hy y ⊢;obtain⟨q,ar,hy⟩:=Option.bind_eq_some_iff.1 hy;obtain⟨dw,JL,oT⟩:=Option.bind_eq_some_iff.1 hy;obtain⟨gf,s1,gd,s2,hK,g_,c,s,hv,⟨iK,JB,iJ⟩,hb1,hb2,hb3,rfl⟩:=_T ar;obtain⟨hlen,oT⟩:s.length<=kk/\ij aX fin (bJ c s) dw=some y:=by
  cases hb:Nat.ble s.length kk with
  |false=>rw[hb] at oT;cases oT
  |true=>rw[hb] at oT;exact⟨Nat.le_of_ble_eq_true hb,oT⟩
 have i':=S.cF t;rw[hv] at i';obtain⟨vs,iG,l6,qv⟩:=i';match vs,l6 with
 |[v1,v2,v3],_=>
 have r1:v1=D gf:=Ref.at (qv 0 (by simp) (by simp)) (gF hb1) rfl
 have r2:v2=D gd:=Ref.at (qv 1 (by simp) (by simp)) (gF hb2) rfl
 have is:v3=D hK:=Ref.at (qv 2 (by simp) (by simp)) (gF hb3) rfl
 have H1:∀{o k:Nat} {d:aZ},fD st o k=some [.d d]->∃b T u,D o=.pointer (some ⟨b,0,none⟩)/\w.heap[b]? =some (.cells #[u] T)/\bD w (ay X D st.sites) d u:=by
  intro o k d h;obtain⟨b,T,cur,g1,g2,g3,g4,_,g5⟩:=S.sites o _ (gF h);match cur,g3 with
  |[u],_=>exact⟨b,T,u,g1,g2,g5 0 (by simp) (by simp)⟩
 obtain⟨b1,c',u1,i1,h1,d1⟩:=H1 hb1;obtain⟨b2,et,u2,i2,h2,d2⟩:=H1 hb2;obtain⟨b3,fL,YT,i3,h3,d3⟩:=H1 hb3;obtain⟨kd,rfl,Cd⟩:=gv d1;obtain⟨aC,rfl,fG⟩:=gv d2;have bp:YT=.int .i64 0:=ic d3;subst bp;have JE:cg st.sites gf:=⟨_,gF hb1,rfl⟩;have B3:cg st.sites gd:=⟨_,gF hb2,rfl⟩;have JD:cg st.sites hK:=⟨_,gF hb3,rfl⟩;have aB:bH (D gf)=some b1:=by rw[i1];rfl
 have aA:bH (D gd)=some b2:=by rw[i2];rfl
 have bC:bH (D hK)=some b3:=by rw[i3];rfl
 have m12:b1≠b2:=fun e=>iK (S.dV gf gd b1 JE B3 aB (e▸aA))
 have m13:b1≠b3:=fun e=>JB (S.dV gf hK b1 JE JD aB (e▸bC))
 have m23:b2≠b3:=fun e=>iJ (S.dV gd hK b2 B3 JD aA (e▸bC))
 have v8:=S.fy JE aB;have Xi:=S.fy B3 aA;have v7:=S.fy JD bC;have ajz:=(S.ci gd b2 B3 aA).2;obtain⟨c7,aqn,dr,JH,Xl,Xk⟩:∃c7:Nat->Prop,(∀b,X b->c7 b)/\am O Y c7 D (st.h4 [(gf,.dead s1),(gd,.dead s2),(hK,.dead g_)]) M w/\c7 b1/\c7 b2/\c7 b3:=by
  have A:=S.kill (gF hb1) rfl;have gB:look (cl st.sites gf (.dead s1)) gd=some (.box s2 [.d (.str s)]):=by rw[cZ,if_neg iK];exact gF hb2
  have bh:=A.kill (st:={st with sites:=cl st.sites gf (.dead s1)}) gB rfl
  have wQ:look (cl (cl st.sites gf (.dead s1)) gd (.dead s2)) hK=some (.box g_ [.d (.int .i64 0)]):=by rw[cZ,if_neg iJ,cZ,if_neg JB];exact gF hb3
  have aZ:=bh.kill (st:={st with sites:=cl (cl st.sites gf (.dead s1)) gd (.dead s2)}) wQ rfl
  exact⟨_,fun b hb=>.inl (.inl (.inl hb)),aZ,.inl (.inl (.inr aB)),.inl (.inr aA),.inr bC⟩
 obtain⟨h9,hT,_⟩:=Shape.f' dr JL;have auk:M.size=aQ.nt:=hT.nt;refine fY.of (n:=0) (wpIn_rangeFunc ?_);intro fn _;obtain⟨rec,nR⟩:∃rec:LoopState->Option Code->Loop,rec=fun st asF=>{state:=st,pending:=asF,fn,tmps:=M,params:=#[eN],assign,body,defers:=w.heap.size}:=⟨_,rfl⟩
 obtain⟨W1,hW1⟩:∃W1,(w.alloc (.deferred (some []))).alloc (.loop (rec .ready none))=W1:=⟨_,rfl⟩;obtain⟨l,hl⟩:∃l,l=w.heap.size+1:=⟨_,rfl⟩;obtain⟨aZ,fo⟩:∃aZ,aZ=w.heap.size:=⟨_,rfl⟩;have hsz:W1.heap.size=w.heap.size+2:=by rw[<-hW1];simp
 have aqu:W1.heap[l]? =some (.loop (rec .ready none)):=by
  rw[<-hW1,hl];have:=World.alloc_heap_new (w.alloc (.deferred (some []))) (.loop (rec .ready none));rwa[World.size_alloc] at this
 have XQ:W1.heap[aZ]? =some (.deferred (some [])):=by
  rw[<-hW1,fo];exact(RowKit.Below.heap_alloc _ _ _ (by simp only[World.size_alloc];omega)).trans (World.alloc_heap_new w _)
 have hold:∀b,b<w.heap.size->W1.heap[b]? =w.heap[b]? :=fun b hb=>by
  rw[<-hW1,RowKit.Below.heap_alloc _ _ _ (by simp only[World.size_alloc];omega),RowKit.Below.heap_alloc _ _ _ hb]
 have al4:Fr Y O W1:=⟨by rw[<-hW1];exact S.frame.os,by rw[<-hW1];exact S.frame.tape,by rw[<-hW1];exact S.frame.output,by have:=S.frame.size;omega,fun b hb hn=>by
  have:=S.frame.size;rw[hold b (by omega)];exact S.frame.block b hb hn⟩
 have oR:=S.frame.size;have iS:=hT.jump (w':=W1) (fun b _ hb=>hold b hb) (by omega) al4
 obtain⟨cu,mb⟩:∃cu:Nat->Prop,cu=fun b=>c7 b\/(w.heap.size<=b/\b<W1.heap.size):=⟨_,rfl⟩
 rw[<-mb] at iS;have KX:cu l:=by rw[mb];exact .inr ⟨by omega,by omega⟩
 have KY:cu aZ:=by rw[mb];exact .inr ⟨by omega,by omega⟩
 have dX:cu b1:=by rw[mb];exact .inl JH
 have fI:cu b2:=by rw[mb];exact .inl Xl
 have jl:cu b3:=by rw[mb];exact .inl Xk
 have Kl:∀b,X b->cu b:=fun b hb=>by rw[mb];exact .inl (aqn b hb)
 obtain⟨fe,vA⟩:∃fe,fe=l::b2::iB h9 (aQ.st dw).sites:=⟨_,rfl⟩;have QN:∀b,b∈iB h9 (aQ.st dw).sites->¬cu b/\(b∈Y\/O.heap.size<=b):=fun b hb=>by
  obtain⟨o,g1,g2⟩:=nl.1 hb;exact iS.ci o b g1 g2
 have asL:l∈fe:=by rw[vA];exact List.mem_cons_self
 have XW:b2∈fe:=by rw[vA];exact List.mem_cons_of_mem _ List.mem_cons_self
 have atn:aZ∉fe:=by
  rw[vA];intro h;rcases List.mem_cons.1 h with h|h
  ·omega
  ·rcases List.mem_cons.1 h with h|h
   ·omega
   ·exact(QN aZ h).1 KY
 have Re:∀b,b∈fe->b∈Y\/O.heap.size<=b:=fun b hb=>by
  rw[vA] at hb;rcases List.mem_cons.1 hb with h|h
  ·exact .inr (by omega)
  ·rcases List.mem_cons.1 h with h|h
   ·rw[h];exact ajz
   ·exact(QN b h).2
 have jK:am W1 fe cu h9 (aQ.st dw) M W1:=iS.Aj (fun o b g1 g2=>by rw[vA];exact List.mem_cons_of_mem _ (List.mem_cons_of_mem _ (nl.2 ⟨o,g1,g2⟩))) Re
 have asn:h7 O Y X W1 fe cu:=by
  have:=iS.base Re;exact⟨this.cD,this.ci,Kl⟩
 obtain⟨eV,mj⟩:∃eV:List F->World->Prop,∀r W,eV r W <-> ∃D z,am W1 fe cu D (aQ.st z) M W/\ij aX fin r z=some y/\W.heap[l]? =some (.loop (rec .ready none))/\W.heap[aZ]? =some (.deferred (some [])):=⟨_,fun _ _=>Iff.rfl⟩
 obtain⟨jL,wz⟩:∃jL:World->Prop,∀W,jL W <-> ∃j e,((j=.ret/\e=.ret)\/∃id,j=.exit id/\e=.exit id)/\lN (fun st=>∃D,am W1 fe cu D st M W) (lo os y) e/\
   W.heap[l]? =some (.loop (rec .done (some j)))/\W.heap[aZ]? =some (.deferred (some [])):=⟨_,fun _=>Iff.rfl⟩
 have R4:∀{D:Nat->Value} {st:ah} {W:World},am W1 fe cu D st M W->iz W [b2] fun _=>False:=fun S=>
  ⟨S.kM.1,fun b hb h=>S.eY.Y b hb (by rw[List.mem_singleton.1 h];exact XW),fun _ _ h=>h,fun b hb=>(S.kM.2 b hb).2⟩
 have asK:l<W1.heap.size:=by omega
 have asM:aZ<W1.heap.size:=by omega
 have T7:l≠b2:=by omega
 have Wk:aZ≠b2:=by omega
 have agP:∀{dS YL:ah->Prop} {B:Out} {e:Exit},(∀st,dS st->YL st)->lN dS B e->lN YL B e:=fun h k=>by
  rename_i B e;cases B<;>cases e<;>first|exact h _ k|exact⟨k.1,h _ k.2⟩|exact k.elim
 have RE:∀{D:Nat->Value} {st:ah} {W c8:World},am W1 fe cu D st M W->Fr [b2] W c8->am W1 fe cu D st M c8:=fun S aX=>S.other aX fun b hb=>by
  rw[List.mem_singleton.1 hb];exact⟨fI,.inl XW⟩
 have HQ:∀{D:Nat->Value} {st:ah} {M:Array Value} {W:World} {X':Nat->Prop} (B:Obj),(∀b,cu b->X' b)->am W1 fe X' D st M W->am W1 fe X' D st M (W.putObj l B):=fun B hx S=>S.other (Fr.putObj _ l B) fun b hb=>by
  rw[List.mem_singleton.1 hb];exact⟨hx _ KX,.inl asL⟩
 refine⟨l,[mark aZ],W1,{target:=.fn (.func ct) #[.pointer (some ⟨b1,0,none⟩),.pointer (some ⟨b2,0,none⟩),.pointer (some ⟨b3,0,none⟩)],args:=#[.func (.yield l) #[] #[]]},W1,ct,
  #[.func (.yield l) #[] #[]]++#[.pointer (some ⟨b1,0,none⟩),.pointer (some ⟨b2,0,none⟩),.pointer (some ⟨b3,0,none⟩)],W1,?_,?_,fun _ _=>trivial,?_,fun h=>by simp[eE,Fence.wide] at h,?_⟩
 ·rw[<-hW1,nR,hl,fo];exact run_enterLoop_outer _ _ _ _ _
 ·have ajJ:Act.eval ⟨M,ds⟩ (.tmp t)=.func (.func ct) #[] #[.pointer (some ⟨b1,0,none⟩),.pointer (some ⟨b2,0,none⟩),.pointer (some ⟨b3,0,none⟩)]:=by
   show M.getD t undef=_;rw[iG,r1,r2,is,i1,i2,i3]
  simp only[rangeCall,resolve,ajJ];simp[Deferred.ofValue,Act.eval]
 ·simp[invoke,tS.1]
 ·refine CallsIn.mono (tS.2 l b1 b2 b3 kd aC c c' et fL W1 eV jL Cd (by rw[fG];exact hlen) m12 m13 m23 ((hold b1 v8).trans h1) ((hold b2 Xi).trans h2) ((hold b3 v7).trans h3) ?_ ?_ ?_ ?_ ?_ ?_) ?_
  ·-- ahj two rounds td atq turns apu atx box
   intro r W c8 hj aX;obtain⟨D,z,g1,g2,g3,g4⟩:=(mj _ _).1 hj;have qQ:=Nat.lt_of_lt_of_le asK g1.frame.size;have tB:=Nat.lt_of_lt_of_le asM g1.frame.size;exact(mj _ _).2 ⟨D,z,RE g1 aX,g2,(aX.block l qQ (by simpa using T7)).trans g3,(aX.block aZ tB (by simpa using Wk)).trans g4⟩
  ·intro W c8 hj aX;obtain⟨j,e,g1,g2,g3,g4⟩:=(wz _).1 hj;have qQ:l<W.heap.size:=(Array.getElem?_eq_some_iff.1 g3).1;have tB:aZ<W.heap.size:=(Array.getElem?_eq_some_iff.1 g4).1;exact(wz _).2 ⟨j,e,g1,agP (fun st ⟨D,h⟩=>⟨D,RE h aX⟩) g2,(aX.block l qQ (by simpa using T7)).trans g3,(aX.block aZ tB (by simpa using Wk)).trans g4⟩
  ·intro r W hj;obtain⟨D,z,g1,_⟩:=(mj _ _).1 hj;exact R4 g1
  ·intro W hj;obtain⟨j,e,_,g2,_⟩:=(wz _).1 hj;obtain⟨st,D,g1⟩:=g2.some;exact R4 g1
  ·-- auw atI
   intro x rest W ir hj q1 q2 cU wb;obtain⟨D,z,hS,hz,qQ,tB⟩:=(mj _ _).1 hj;have hlt:l<W.heap.size:=(Array.getElem?_eq_some_iff.1 qQ).1;have alU:aZ<W.heap.size:=(Array.getElem?_eq_some_iff.1 tB).1;refine⟨fn,M.setIfInBounds eN (.string ir),assign,body,?_,?_⟩
   ·have:=run_yield (P:=P) (args:=#[.string ir]) qQ (by rw[nR];rfl)
    rw[nR] at this;simpa using this
   refine roundIn_of_wpIn (n:=0) trivial ?_
   show fY (some l) P assign _ _ _;obtain⟨s,hs⟩:∃s,aX x z=some s:=by
    rcases Dl hz with⟨eQ,h,_⟩|h
    ·exact⟨_,h⟩
    ·exact⟨_,h⟩
   have Ca:=hs;rw[fm] at hs;have tQ:am W1 fe cu D ((aQ.st z).set eN (one (.str x))) (M.setIfInBounds eN (.string ir)) W:=hS.put (t:=eN) Iy (bD.str _ _ wb);have alB:∀o b,cg ((aQ.st z).set eN (one (.str x))).sites o->bH (D o)=some b->b∈iB D (aQ.st z).sites:=fun o b g1 g2=>nl.2 ⟨o,g1,g2⟩
   have w6:=tQ.Aj alB fun b hb=>by
    obtain⟨o,g1,g2⟩:=nl.1 hb;exact(hS.ci o b g1 g2).2
   have Sx:∀b,b∈iB D (aQ.st z).sites->¬cu b/\(b∈fe\/W1.heap.size<=b):=fun b hb=>by
    obtain⟨o,g1,g2⟩:=nl.1 hb;exact hS.ci o b g1 g2
   have LG:h7 W1 fe cu W (iB D (aQ.st z).sites) cu:=tQ.base fun b hb=>(Sx b hb).2
   refine js (rn:=some l) H assign (2*p) (.inr IC) aqs W _ cu _ D _ W [] _ _ hs w6 ?_
   intro o1 e1 a1 aN qR gX;cases o1 with
   |exit id eC=>cases qR
   |ret eC=>cases qR
   |norm eC=>
   cases e1<;>try exact gX.elim
   obtain⟨CE,Lb,kP,kv,Zi,pz,_,_,X1,ajF⟩:=gX;have tT:Fr (iB D (aQ.st z).sites) W aN:=pz.cD _ X1.frame;have YY:∀b,cu b->b∉iB D (aQ.st z).sites:=fun b hb h=>(Sx b h).1 hb
   have gX:aN.heap[l]? =some (.loop (rec .ready none)):=(tT.block l hlt (YY l KX)).trans qQ;refine⟨aN.putObj l (.loop {rec .ready none with state:=.busy}),run_beginRound gX (by rw[nR]),?_⟩
   obtain⟨w2,wc⟩:∃w2,w2=aN.putObj l (.loop {rec .ready none with state:=.busy}):=⟨_,rfl⟩
   rw[<-wc];have arh:am W1 fe kP kv eC a1.tmps aN:=am.zW (LG.trans pz) jK.eY X1;have oh:am W1 fe kP kv eC a1.tmps w2:=by rw[wc];exact HQ _ pz.x arh
   have Ie:∀b,b∈iB kv eC.sites->¬kP b/\(b∈fe\/W1.heap.size<=b):=fun b hb=>by
    obtain⟨o,g1,g2⟩:=nl.1 hb;exact oh.ci o b g1 g2
   have CO:=oh.Aj (me:=iB kv eC.sites) (fun o b g1 g2=>nl.2 ⟨o,g1,g2⟩) fun b hb=>(Ie b hb).2
   have cR:h7 W1 fe kP w2 (iB kv eC.sites) kP:=oh.base fun b hb=>(Ie b hb).2
   have n6:w2.heap[l]? =some (.loop {rec .ready none with state:=.busy}):=by rw[wc];exact World.putObj_heap_same (Nat.lt_of_lt_of_le hlt tT.size)
   have ao4:w2.heap.size=aN.heap.size:=by rw[wc];simp
   show fY (some l) P body _ a1 _;have Kk:a1=⟨a1.tmps,a1.defers⟩:=rfl;rw[Kk];refine js (rn:=some l) H body (2*p+1) (.inr IB) aqr w2 _ kP eC kv a1.tmps w2 a1.defers _ _ qR CO ?_
   intro B e a cm hk fU;have Xg:∀b,kP b->b∉iB kv eC.sites:=fun b hb h=>(Ie b h).1 hb
   have T9:∀{tK eP w5},h7 w2 (iB kv eC.sites) kP tK eP w5->Fr eP tK cm->∀b,cu b->b<W.heap.size->b≠l->cm.heap[b]? =W.heap[b]? :=fun bh aX b hb o4 hne=>by
    have w8:=bh.cD _ aX;have hb1:b<aN.heap.size:=Nat.lt_of_lt_of_le o4 tT.size;rw[w8.block b (by omega) (Xg b (pz.x b hb)),wc,World.putObj_heap_other hne,tT.block b o4 (YY b hb)]
   have fin:∀(gg:ah),gg.nt=aQ.nt->eu w2 (iB kv eC.sites) kP a1.defers a1.tmps (cn body) gg a cm->∀(jump:Option Code),
     (Instr.endRound l jump).run P cm=.ok (.bool jump.isNone) (cm.putObj l (.loop (rec (if jump.isNone then .ready else .done) jump)))/\
     (∃hL,am W1 fe cu hL (gg.back (keys aQ.cF)) M (cm.putObj l (.loop (rec (if jump.isNone then .ready else .done) jump))))/\
     (cm.putObj l (.loop (rec (if jump.isNone then .ready else .done) jump))).heap[l]? =some (.loop (rec (if jump.isNone then .ready else .done) jump))/\
     (cm.putObj l (.loop (rec (if jump.isNone then .ready else .done) jump))).heap[aZ]? =some (.deferred (some []))/\
     W.heap.size<=(cm.putObj l (.loop (rec (if jump.isNone then .ready else .done) jump))).heap.size/\
     (∀b,cu b->b<W.heap.size->b≠l->(cm.putObj l (.loop (rec (if jump.isNone then .ready else .done) jump))).heap[b]? =W.heap[b]?):=by
    rintro gg at0 ⟨tK,eP,w5,hL,Zh,wK,_,_,jk,ajE⟩ jump;have w8:=wK.cD _ jk.frame;have hlt2:l<w2.heap.size:=by rw[ao4];exact Nat.lt_of_lt_of_le hlt tT.size
    have Cf:cm.heap[l]? =some (.loop {rec .ready none with state:=.busy}):=(w8.block l hlt2 (Xg l (pz.x l KX))).trans n6
    have alV:=Nat.lt_of_lt_of_le hlt2 w8.size;have Uo:=run_endRound (P:=P) jump Cf;have ame:({({rec .ready none with state:=.busy}:Loop) with state:=if jump.isNone then .ready else .done,pending:=jump}:Loop)=rec (if jump.isNone then .ready else .done) jump:=by rw[nR]
    rw[ame] at Uo;have arf:am W1 fe w5 hL gg a.tmps cm:=am.zW ((cR.trans wK)) oh.eY jk;have are:am W1 fe cu hL gg a.tmps cm:=arf.shrink fun b hb=>wK.x b (pz.x b hb)
    have ard:=HQ (.loop (rec (if jump.isNone then .ready else .done) jump)) (fun _ h=>h) are
    have jg:∀bj,bj∈keys aQ.cF->bj≠eN/\bj∉cn assign/\bj∉cn body:=fun bj qK=>by
     have hm:bj∉(eN::(cn assign++cn body)):=fun h=>by
      have:=rK qK h;rw[II] at this;cases this
     simp only[List.mem_cons,List.mem_append,not_or] at hm;exact⟨hm.1,hm.2.1,hm.2.2⟩
    refine⟨Uo,⟨hL,ard.back (fun bj qK=>?_) ?_⟩,World.putObj_heap_same alV,?_,?_,fun b hb o4 hne=>?_⟩
    ·obtain⟨g1,g2,g3⟩:=jg bj qK;rw[ajE bj g3,ajF bj g2];simp only[Array.getD_eq_getD_getElem?,Array.getElem?_setIfInBounds_ne (show eN≠bj from fun e=>g1 e.symm)]
    ·have e1:a.tmps.size=gg.nt:=jk.nt;omega
    ·rw[World.putObj_heap_other (by omega)]
     exact(T9 wK jk.frame aZ KY alU (by omega)).trans tB
    ·simp only[World.putObj_size];have:=tT.size;have:=w8.size;omega
    ·rw[World.putObj_heap_other hne];exact T9 wK jk.frame b hb o4 hne
   have A0:∀(gg:ah) (jl:Out) (j:Code) (bp:Exit),((j=.ret/\bp=.ret)\/∃id,j=.exit id/\bp=.exit id)->jl.st=gg->(∀dS:ah->Prop,dS (gg.back (keys aQ.cF))->lN dS (jl.back (keys aQ.cF)) bp)->
     (gY os (jl.back (keys aQ.cF))).map Sum.inr=some s->eu w2 (iB kv eC.sites) kP a1.defers a1.tmps (cn body) gg a cm->
     ∃v w',(Instr.endRound l (some j)).run P cm=.ok v w'/\((Ending.returned v=.returned (.bool true)/\eV rest w'/\W.heap.size<=w'.heap.size/\w'.heap[b1]? =W.heap[b1]? /\w'.heap[b2]? =W.heap[b2]? /\w'.heap[b3]? =W.heap[b3]?)\/(Ending.returned v=.returned (.bool false)/\jL w')):=by
    intro gg jl j bp J' apF Iz hex ma;obtain⟨b,hb,ep⟩:=Option.map_eq_some_iff.1 hex;have ap3:gg.nt=aQ.nt:=by
     have:=aiD hb qN;have e:(jl.back (keys aQ.cF)).st.nt=jl.st.nt:=by cases jl<;>rfl
     rw[e,apF] at this;exact this
    obtain⟨f1,⟨hL,f2⟩,f3,f4,f5,f6⟩:=fin gg ap3 ma (some j);refine⟨_,_,f1,.inr ⟨rfl,(wz _).2 ⟨j,bp,J',?_,f3,f4⟩⟩⟩;have jI:b=y:=by
     rcases Dl hz with⟨eQ,h,_⟩|h
     ·rw[Ca] at h;cases h;cases ep
     ·rw[Ca] at h;cases h;cases ep;rfl
    subst jI;refine Qe (fun ao7 al y' IH ⟨aI,ce⟩=>?_) hb (Iz _ ⟨hL,f2⟩)
    obtain⟨H4,KM,_⟩:=Shape.f' ce IH;exact⟨H4,KM⟩
   cases B with
   |norm gg=>
    cases e<;>try exact fU.elim
    obtain⟨eQ,mQ,hzs⟩:=Option.map_eq_some_iff.1 hk;obtain⟨f1,⟨hL,f2⟩,f3,f4,f5,f6⟩:=fin gg (show(gg.back (keys aQ.cF)).nt=aQ.nt from H0 mQ) fU none
    obtain⟨aoe,f7,_⟩:=Shape.f' f2 mQ;refine⟨_,_,f1,.inl ⟨rfl,(mj _ _).2 ⟨aoe,eQ,f7,?_,f3,f4⟩,f5,f6 b1 dX q1 (by omega),f6 b2 fI q2 (by omega),f6 b3 jl cU (by omega)⟩⟩
    rcases Dl hz with⟨z2,h,h2⟩|h
    ·rw[Ca] at h;cases h;cases hzs;exact h2
    ·rw[Ca] at h;cases h;cases hzs
   |exit id gg=>
    cases e<;>try exact fU.elim
    obtain⟨rfl,fU⟩:=fU;exact A0 gg (.exit id gg) (.exit id) (.exit id) (.inr ⟨id,rfl,rfl⟩) rfl (fun dS h=>⟨rfl,h⟩) hk fU
   |ret gg=>
    cases e<;>try exact fU.elim
    exact A0 gg (.ret gg) .ret .ret (.inl ⟨rfl,rfl⟩) rfl (fun dS h=>h) hk fU
  ·exact(mj _ _).2 ⟨h9,dw,jK,by rw[fG];exact oT,aqu,XQ⟩
  ·-- atB auu atr
   have land:∀{jo:World} {e:Exit} (cY:Obj),lN (fun st=>∃D,am W1 fe cu D st M jo) (lo os y) e->jo.heap[l]? ≠none->jo.heap[aZ]? =some (.deferred (some []))->
     e6 O Y X ds M (cn (.rangeFunc (.tmp t) #[eN] assign body)) (lo os y) e ⟨M,[mark aZ]++ds⟩ (jo.putObj l cY):=by
    intro jo e cY h _ aur;have mk:∀st,(∃D,am W1 fe cu D st M jo)->eu O Y X ds M (cn (.rangeFunc (.tmp t) #[eN] assign body)) st ⟨M,[mark aZ]++ds⟩ (jo.putObj l cY):=by
     rintro st ⟨D,S⟩;refine⟨W1,fe,cu,D,[aZ],asn,⟨by simp,fun LC h=>by rw[List.mem_singleton.1 h];omega,fun LC h=>by rw[List.mem_singleton.1 h];exact⟨XQ,atn,KY⟩⟩,⟨rfl,fun h=>absurd List.mem_cons_self h⟩,HQ _ (fun _ h=>h) S,fun _ _=>rfl⟩
    cases hm:lo os y<;>rw[hm] at h<;>cases e<;>first|exact mk _ h|exact⟨h.1,mk _ h.2⟩|exact h.elim
   rintro e jo ⟨⟨v,rfl⟩,hj|hj⟩
   ·obtain⟨D,z,g1,g2,g3,g4⟩:=(mj _ _).1 hj;refine⟨none,jo.putObj l (.loop {rec .ready none with state:=.exhausted}),?_,?_⟩
    ·have:=run_endLoop (P:=P) g3 (by rw[nR];simp)
     rw[nR] at this ⊢;exact this
    ·simp only[ij,vz] at g2;refine land _ ?_ (by rw[g3];simp) g4
     refine Qe (fun ao7 al y' IH ⟨aI,ce⟩=>?_) g2 ⟨D,g1⟩
     obtain⟨H4,KM,_⟩:=Shape.f' ce IH;exact⟨H4,KM⟩
   ·obtain⟨j,e,J',g1,g3,g4⟩:=(wz _).1 hj;refine⟨some j,jo.putObj l (.loop {rec .done (some j) with state:=.exhausted}),?_,?_⟩
    ·have:=run_endLoop (P:=P) g3 (by rw[nR];simp)
     rw[nR] at this ⊢;exact this
    ·have:=land (.loop {rec .done (some j) with state:=.exhausted}) g1 (by rw[g3];simp) g4
     rcases J' with⟨rfl,rfl⟩|⟨id,rfl,rfl⟩
     ·exact wpIn_ret this
     ·exact wpIn_exit this
end
def opsOf:Code->Array Oper
 |.region _ B _=>B
 |_=>#[]
section
variable {P:Program}
theorem N_{B:Oper}{M:Array Value}{ds:List Deferred}{W:World}{a b:Nat}{ty:Array TypeId}{l:Nat}{ir:ByteArray}{K:Act->World->Prop}{Q:Exit->Act->World->Prop}{R:Ending->World->Prop}
  (aE:B.op=.call {callee:=.value (.tmp a),args:=#[.tmp b],argTypes:=ty}) (ha:M.getD a undef=.func (.yield l) #[] #[]) (hb:M.getD b undef=.string ir)
  (asO:YieldAt (eE none) 0 P l #[.string ir] W R) (hR:∀e c8,R e c8->∃v,e=.returned v/\K ⟨cv M B.dst v,ds⟩ c8):B.wpIn (eE none) 0 P ⟨M,ds⟩ W K Q:=by
 obtain⟨fn,tmps,assign,body,hy,aqq⟩:=asO;refine⟨fun f _=>Bf none f,?_⟩
 have dm:(B.semAt none (Act.eval ⟨M,ds⟩)).run P W=.ok (.round l fn tmps assign body) W:=by
  rw[Oper.semAt_none];have wZ:Act.eval ⟨M,ds⟩ (.tmp a)=.func (.yield l) #[] #[]:=ha;have wY:Act.eval ⟨M,ds⟩ (.tmp b)=.string ir:=hb;unfold execOp;simp only[aE,resolve,wZ,Deferred.ofValue,Sem.run_bind,Sem.run_pure,Result.andThen_ok,invoke,List.map_toArray,List.map_cons,List.map_nil,wY];simpa using hy
 show B.uponIn (eE none) 0 P _ K Q ((B.semAt none (Act.eval ⟨M,ds⟩)).run P W);rw[dm];refine⟨fun h=>by simp[eE,Fence.wide] at h,RoundIn.mono aqq fun e c8 he=>?_⟩
 obtain⟨v,rfl,hk⟩:=hR e c8 he;rw[<-um] at hk;exact hk
def e_(k:Nat)(more:List (Nat×e0)):Shape:=⟨[(1,.ak (.ev [.str] 0)),(2,.ak (.ptr 1001 0)),(3,.ak (.ev [.int .i64] 0))]++more,[(1001,.box [.d .str],.same)],k⟩
structure jd(b1 b2 b3:Nat)(p:ByteArray)(c' fL:TypeId)(l k:Nat)(r:F)(M:Array Value)(W:World):Prop where
 size:M.size=k
 dw:M.getD 0 undef=.func (.yield l) #[] #[]
 eD:M.getD 1 undef=.pointer (some ⟨b1,0,none⟩)
 fh:M.getD 2 undef=.pointer (some ⟨b2,0,none⟩)
 mi:M.getD 3 undef=.pointer (some ⟨b3,0,none⟩)
 h1:W.heap[b1]? =some (.cells #[.string p] c')
 h2:∃s et,W.heap[b2]? =some (.cells #[.string s] et)/\s.data.toList=r
 h3:W.heap[b3]? =some (.cells #[.int .i64 0] fL)
 kM:iz W [b2] fun _=>False
theorem jd.jf{b1 b2 b3:Nat}{p:ByteArray}{c' fL:TypeId}{l k:Nat}{r:F}{M:Array Value}{W:World}(I:jd b1 b2 b3 p c' fL l k r M W)(iK:b1≠b2)(iJ:b2≠b3){c:UInt8}(hp:p.data.toList=[c]):
  am W [b2] (fun _=>False) (fun _=>.pointer (some ⟨b2,0,none⟩)) ((e_ k []).st ((([c],()),((),(((0,()),())))),(((r,()),())))) M W:=by
 obtain⟨s,et,h2,hs⟩:=I.h2;have v8:b1<W.heap.size:=(Array.getElem?_eq_some_iff.1 I.h1).1;have Xi:b2<W.heap.size:=(Array.getElem?_eq_some_iff.1 h2).1;have v7:b3<W.heap.size:=(Array.getElem?_eq_some_iff.1 I.h3).1;have uX:((e_ k []).st ((([c],()),((),(((0,()),())))),(((r,()),())))).sites=[(1001,.box 0 [.d (.str r)])]:=rfl;have cJ:∀o,cg [(1001,Site.box 0 [.d (.str r)])] o->o=1001:=fun o ⟨s,h,_⟩=>by
  simp only[look] at h;cases hb:Nat.beq 1001 o with
  |true=>exact(Nat.eq_of_beq_eq_true hb).symm
  |false=>simp[hb] at h
 have b9:∀b,ay (fun _=>False) (fun _=>Value.pointer (some ⟨b2,0,none⟩)) [(1001,Site.box 0 [.d (.str r)])] b->b=b2:=by
  rintro b (h|⟨o,_,h⟩)
  ·exact h.elim
  ·simp only[bH,Option.some.injEq] at h;exact h.symm
 refine⟨I.size,fun t=>?_,fun o ab h=>?_,fun o aa b h1 h2 _ _=>?_,fun o b h1 h2=>?_,Fr.refl _ _,fun b h=>h.elim,I.kM⟩
 ·rw[uX];show cc _ _ _ _ (match look [(1,bZ (.ev [.str [c]] 0)),(2,bZ (.ptr 1001 0 0)),(3,bZ (.ev [.int .i64 0] 0))] t with|some v=>v|none=>.av (.ak .any)) _
  simp only[look];by_cases e1:t=1
  ·subst e1;refine⟨b1,0,I.eD,fun h=>iK (b9 _ h),v8,[.string p],rfl,fun j u hu=>?_,fun j h af=>?_⟩
   ·match j,hu with
    |0,hu=>cases hu;simp[World.cell?,I.h1]
   ·match j,h,af with
    |0,_,_=>exact .str _ _ hp
  ·by_cases e2:t=2
   ·subst e2;exact⟨b2,I.fh,_,rfl,Nat.le_refl _,fun _=>rfl⟩
   ·by_cases bp:t=3
    ·subst bp;refine⟨b3,0,I.mi,fun h=>iJ (b9 _ h).symm,v7,[.int .i64 0],rfl,fun j u hu=>?_,fun j h af=>?_⟩
     ·match j,hu with
      |0,hu=>cases hu;simp[World.cell?,I.h3]
     ·match j,h,af with
      |0,_,_=>exact .int _ _
    ·rw[jB (fun e=>e1 e.symm),jB (fun e=>e2 e.symm),jB (fun e=>bp e.symm)]
     trivial
 ·rw[uX] at h ⊢;simp only[look] at h;cases hb:Nat.beq 1001 o with
  |false=>simp[hb] at h
  |true=>
   simp only[hb,cond_true,Option.some.injEq] at h;subst h;refine⟨b2,et,[.string s],rfl,h2,rfl,fun u hu=>?_,(fun h=>by cases h),fun j h af=>?_⟩
   ·rw[List.mem_singleton.1 hu];rfl
   ·match j,h,af with
    |0,_,_=>exact bD.str _ _ hs
 ·rw[cJ o h1,cJ aa h2]
 ·simp only[bH,Option.some.injEq] at h2;exact⟨fun h=>h,.inl (by simp[h2])⟩
theorem jd.of{b1 b2 b3:Nat}{p:ByteArray}{c' fL:TypeId}{l k:Nat}{r ez:F}{M bW:Array Value}{W c8:World}(I:jd b1 b2 b3 p c' fL l k r M W)(iK:b1≠b2)(iJ:b2≠b3){more:List (Nat×e0)}{y:(e_ k more).J}{D:Nat->Value}
  {X:Nat->Prop} (S:am W [b2] X D ((e_ k more).st y) bW c8) (aq:∀t,t<4->bW.getD t undef=M.getD t undef) (hy:y.2=((ez,()),())):jd b1 b2 b3 p c' fL l k ez bW c8:=by
 have v8:b1<W.heap.size:=(Array.getElem?_eq_some_iff.1 I.h1).1;have v7:b3<W.heap.size:=(Array.getElem?_eq_some_iff.1 I.h3).1;refine⟨S.nt,(aq 0 (by omega)).trans I.dw,(aq 1 (by omega)).trans I.eD,(aq 2 (by omega)).trans I.fh,(aq 3 (by omega)).trans I.mi,(S.frame.block b1 v8 (by simp[iK])).trans I.h1,?_,(S.frame.block b3 v7 (by simp[iJ.symm])).trans I.h3,⟨S.kM.1,S.eY.Y,fun _ _ h=>h,fun b hb=>(S.kM.2 b hb).2⟩⟩
 have gx:look ((e_ k more).st y).sites 1001=some (.box 0 [.d (.str ez)]):=by
  show look (kg (e_ k more).sites y.2) 1001=_;rw[hy];rfl
 have i':=S.cF 2;have hg:((e_ k more).st y).get 2=bZ (.ptr 1001 0 0):=rfl;rw[hg] at i';obtain⟨b,hb,hr⟩:=i';have cO:=Ref.at hr gx rfl;rw[aq 2 (by omega),I.fh] at hb
 simp only[Value.pointer.injEq,Option.some.injEq,Addr.mk.injEq,and_true] at hb;obtain⟨bI,T,cur,g1,g2,g3,g4,_,g5⟩:=S.sites 1001 _ gx;rw[cO] at g1;simp only[Value.pointer.injEq,Option.some.injEq,Addr.mk.injEq,and_true] at g1;match cur,g3 with
 |[u],_=>
  obtain⟨s,kB,qL⟩:=gv (g5 0 (by simp) (by simp))
  simp only[List.getElem_cons_zero] at kB;subst kB;exact⟨s,T,by rw[hb,g1];exact g2,qL⟩
end
theorem pG(c:UInt8)(s:F):bJ c s≠[]:=by
 cases s with
 |nil=>simp[bJ]
 |cons b r=>
  simp only[bJ];cases b==c
  ·simp only[cond_false];split<;>simp
  ·simp
theorem _V{c:UInt8}{s:F}(h:Lib.indexByte s c<0):bJ c s=[s]:=by
 induction s with
 |nil=>rfl
 |cons b r ih=>
  simp only[Lib.indexByte] at h;split at h
  ·omega
  ·rename_i hb;split at h
   ·rename_i h1;have h1:Lib.indexByte r c=-1:=by simpa using h1
    have:=ih (by omega)
    have hb:(b==c)=false:=by simpa using hb
    simp only[bJ,hb,cond_false,this]
   ·rename_i h1;have:=Lib.indexByte_ge r c;have h1:¬Lib.indexByte r c=-1:=by simpa using h1
    omega
theorem _U{c:UInt8}{s:F}(h:0<=Lib.indexByte s c):bJ c s=s.take (Lib.indexByte s c).toNat::bJ c (s.drop ((Lib.indexByte s c).toNat+1))/\(Lib.indexByte s c).toNat<s.length:=by
 induction s with
 |nil=>simp[Lib.indexByte] at h
 |cons b r ih=>
  simp only[Lib.indexByte] at h ⊢;by_cases hb:(b==c)=true
  ·simp only[hb,if_true] at h ⊢;simp[bJ,hb]
  ·have dR:(b==c)=false:=by simpa using hb
   simp only[dR,Bool.false_eq_true,if_false] at h ⊢;by_cases h1:(Lib.indexByte r c==-1)=true
   ·simp only[h1,if_true] at h;omega
   ·have h1':(Lib.indexByte r c==-1)=false:=by simpa using h1
    simp only[h1',Bool.false_eq_true,if_false] at h ⊢;have hge:=Lib.indexByte_ge r c;have h1:¬Lib.indexByte r c=-1:=by simpa using h1
    obtain⟨g1,g2⟩:=ih (by omega)
    have e:(Lib.indexByte r c+1).toNat=(Lib.indexByte r c).toNat+1:=by omega
    rw[e];refine⟨?_,by simp;omega⟩
    simp only[bJ,dR,cond_false,g1,List.take_succ_cons,List.drop_succ_cons]
def kL(k:Nat)(c:UInt8)(r:F):(e_ k []).J:=((([c],()),((),((0,()),()))),((r,()),()))
def mP(k:Nat)(c:UInt8)(r:F):ah:=(e_ k []).st (kL k c r)
def Bq(k:Nat):Out->Option (e_ k []).J
 |.norm st=>(e_ k []).ex st
 |_=>none
def Iu(k t7 t8:Nat):Out->Option (Sum (e_ k []).J ((Int×F)×(e_ k []).J))
 |.norm st=>match st.get t7,st.get t8 with
  |.av (.ak (.d (.int .i64 i))),.av (.ak (.d (.str x)))=>((e_ k []).ex st).map fun y=>.inr ((i,x),y)
  |_,_=>none
 |_=>none
noncomputable def v_(C:hJ)(k t7 t8:Nat)(r7:Code)(p7:Nat):Out->Option (Sum (e_ k []).J ((Int×F)×(e_ k []).J))
 |.exit id st=>bif Nat.beq id 2 then((e_ k []).ex st).map .inl else none
 |.norm st=>exec C r7 p7 st (Iu k t7 t8)
 |_=>none
noncomputable def Bp(C:hJ)(k t7 t8:Nat)(c6 r7:Code)(p6 p7:Nat):Out->Option (Sum (e_ k []).J ((Int×F)×(e_ k []).J))
 |.norm st=>exec C c6 p6 st (v_ C k t7 t8 r7 p7)
 |_=>none
noncomputable def two(k:Nat)(C:Ctx)(st:ah)(o0 o1:Oper)(a b:Nat):Option ((Value×F)×(e_ k []).J):=
 ki C st o0 fun st=>ki C st o1 fun st=>match st.get a,st.get b with
  |.av (.ak (.cP v)),.av (.ak (.d (.str x)))=>((e_ k []).ex st).map fun y=>((v,x),y)
  |_,_=>none
noncomputable def sV(k:Nat)(C:Ctx)(st:ah)(o3:Oper)(t42:Nat):Option (Bool×(e_ k []).J):=
 ki C st o3 fun st=>match st.get t42 with
  |.av (.ak (.d (.bool b)))=>((e_ k []).ex st).map fun y=>(b,y)
  |_=>none
section
variable {P:Program}{O:World}{Y:List Nat}{X:Nat->Prop}{D:Nat->Value}{st:ah}{M:Array Value}{w:World}
theorem Oy(S:am O Y X D st M w){t:Nat}{k:IntKind}{n:Int}(h:st.get t=.av (.ak (.d (.int k n)))):M.getD t undef=.int k n:=by
 have:=S.cF t;rw[h] at this;exact ic this
theorem Ox(S:am O Y X D st M w){t:Nat}{x:F}(h:st.get t=.av (.ak (.d (.str x)))):∃b,M.getD t undef=.string b/\b.data.toList=x:=by
 have:=S.cF t;rw[h] at this;exact gv this
theorem DF(S:am O Y X D st M w){t:Nat}{x:Bool}(h:st.get t=.av (.ak (.d (.bool x)))):M.getD t undef=.bool x:=by
 have:=S.cF t;rw[h] at this;exact jt this
theorem aed(S:am O Y X D st M w){t:Nat}{x:Value}(h:st.get t=.av (.ak (.cP x))):M.getD t undef=x:=by
 have:=S.cF t;rw[h] at this;exact this
theorem Qq{C:Ctx}(H:a_ P C){k:Nat}{o0 o1:Oper}{a b:Nat}{v:Value}{x:F}{y:(e_ k []).J}(h:two k C st o0 o1 a b=some ((v,x),y))(S:am O Y X D st M w){ds:List Deferred}{K:Act->World->Prop}{Q:Exit->Act->World->Prop}
  (bM:∀bW w' ir aI,bW.getD a undef=v->bW.getD b undef=.string ir->ir.data.toList=x->(∀t,t∉o0.dst.toList++o1.dst.toList->bW.getD t undef=M.getD t undef)->
   am O Y X aI ((e_ k []).st y) bW w'->K ⟨bW,ds⟩ w'):o0.wpIn (eE none) 0 P ⟨M,ds⟩ w (fun cM w'=>o1.wpIn (eE none) 0 P cM w' K Q) Q:=by
 refine nk S H h fun eC gz hM aN e1 dr JW=>?_
 refine nk dr H e1 fun vU h9 pa w2 e2 hT JV=>?_
 split at e2
 ·rename_i v' h' ha hb;obtain⟨y',hy,he⟩:=Option.map_eq_some_iff.1 e2;cases he;obtain⟨ir,g1,g2⟩:=Ox hT hb;obtain⟨hL,iS,_⟩:=Shape.f' hT hy;refine bM pa w2 ir hL (aed hT ha) g1 g2 (fun t aq=>?_) iS
  simp only[List.mem_append,not_or] at aq;rw[JV t aq.2,JW t aq.1]
 ·cases e2
theorem agQ{C:Ctx}(H:a_ P C){k:Nat}{o3:Oper}{t42:Nat}{b:Bool}{y:(e_ k []).J}(h:sV k C st o3 t42=some (b,y))(S:am O Y X D st M w){ds:List Deferred}{K:Act->World->Prop}{Q:Exit->Act->World->Prop}
  (bM:∀bW w' aI,bW.getD t42 undef=.bool b->(∀t,t∉o3.dst.toList->bW.getD t undef=M.getD t undef)->am O Y X aI ((e_ k []).st y) bW w'->K ⟨bW,ds⟩ w'):o3.wpIn (eE none) 0 P ⟨M,ds⟩ w K Q:=by
 refine nk S H h fun eC gz hM aN e1 dr JW=>?_
 split at e1
 ·rename_i bI hb;obtain⟨y',hy,he⟩:=Option.map_eq_some_iff.1 e1;cases he;obtain⟨hL,iS,_⟩:=Shape.f' dr hy;exact bM hM aN hL (DF dr hb) JW iS
 ·cases e1
structure afB(P:Program)(C:hJ)(ct:FuncId)(fn:Func)(k:Nat)(A r5 c6 r7 r9:Code)(o0 o1 o2 o3 q0 q1 q2:Oper)(pA p5 p6 p7 p9 t7 t8 a1 a2 t41 t42 u1 u2:Nat)(ty BU:Array TypeId):Prop where
 T':P.funcs[ct]? =some fn
 nt:fn.ntmps=k
 cL:4<=k
 fa:fn.results=#[]
 XV:∀args w,(callFunc ct args).run P w=.ok (.enter ct args) w
 body:∃i8 i10,fn.body=some (.seq A (.seq (.block 2 (.loop (.block 3 (.seq r5 (.seq c6 (.seq r7 (.seq (.seq (.region i8 #[o0,o1,o2,o3] false) (.cond (.tmp t42) .ret .skip)) r9))))))) (.region i10 #[q0,q1,q2] false)))
 wP:(gJ A&&(gJ r5&&(gJ c6&&(gJ r7&&gJ r9))))=true
 wr:eX [0,1,2,3] (cn A++(cn r5++(cn c6++(cn r7++cn r9))))=true
 bf:o0.guard=none/\o1.guard=none/\o2.guard=none/\o3.guard=none/\q0.guard=none/\q1.guard=none/\q2.guard=none
 YP:eX [0,1,2,3,t7] (o0.dst.toList++(o1.dst.toList++(o3.dst.toList++[t41])))=true
 YO:eX [0,1,2,3] (q0.dst.toList++q1.dst.toList)=true
 d2:o2.dst=some t41
 Ip:t41<k
 c2:o2.op=.call {callee:=.value (.tmp a1),args:=#[.tmp a2],argTypes:=ty}
 d5:q2.op=.call {callee:=.value (.tmp u1),args:=#[.tmp u2],argTypes:=BU}
 kr:ga P C A pA/\ga P C r5 p5/\ga P C c6 p6/\ga P C r7 p7/\ga P C r9 p9
 dZ:∀c r,exec C A pA (mP k c r) (Bq k)=some (kL k c r)
 hB:∀c r,exec C r5 p5 (mP k c r) (Bp C k t7 t8 c6 r7 p6 p7)=bif decide (Lib.indexByte r c<0) then some (.inl (kL k c r)) else(br r 0 (IntKind.i64.wrap (Lib.indexByte r c+0))).bind fun x=>some (.inr ((Lib.indexByte r c,x),kL k c r))
 be:∀c r i x v,two k C.toCtx ((((mP k c r).set t7 (one (.int .i64 i))).set t8 (one (.str x))).set 0 (bZ (.cP v))) o0 o1 a1 a2=some ((v,x),kL k c r)
 h3:∀c r b,sV k C.toCtx ((mP k c r).set t41 (one (.bool b))) o3 t42=some (!b,kL k c r)
 XS:(ki C.toCtx ⟨[(t41,one (.bool false))],[],k⟩ o3 fun st=>match st.get t42 with|.av (.ak (.d (.bool b)))=>some b|_=>none)=some true
 wX:∀c r i,exec C r9 p9 ((mP k c r).set t7 (one (.int .i64 i))) (Bq k)=(br r (IntKind.i64.wrap (i+(([c]:F).length:Int))) r.length).bind fun x=>some (kL k c x)
 CH:∀c r v,two k C.toCtx ((mP k c r).set 0 (bZ (.cP v))) q0 q1 u1 u2=some ((v,r),kL k c r)
end
end Go.Jk
