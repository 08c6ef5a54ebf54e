/- FnExactFarmOk: the program's FarmOk returns what the reference's returns, for all arguments. (part 2 of 7: JkCall3, JkCall4, JkCall5, JkBld, JkCall6, JkDraw1, JkLogic, JkWalk0, JkDraw2, JkDraw3, JkWalk1, JkShape, JkShape2, JkWalk2, JkWalk3, JkWalk4, JkHand, JkHand2, JkLaw0, JkRange, JkRange2, JkIter, JkIte) Conditions: none beyond the statement. -/
import Derived.Test.YthhecoidfjkmeaaGreatDoorZFnExactFarmOk0
import Derived.RangeFuncRecord
import Derived.Below
import Derived.RangeFuncSeq
import Derived.Orders
import Derived.OrdersIn
import Derived.ControlIn
import Derived.LoopIn
import Derived.RangeFuncCalls
import Derived.RangeFuncLeaves
import Derived.Lib.Bytealg
import Derived.Laws.Externs
import Derived.Lib.LaidTab
import Derived.Lib.ItoaNum
import Derived.Deep.Draws
import Derived.Sort.Grow
import Derived.Deep.Slices
import Derived.ChangeSame
import Derived.Carry
import Derived.ProofKit
import Derived.OpenShut
set_option linter.unusedVariables false
set_option linter.unusedSimpArgs false
namespace Go.Jk
theorem uy(n:Nat)(l:List Nat):fP n l=true <-> n∈l:=by
 induction l with
 |nil=>simp[fP]
 |cons m l ih=>
  simp only[fP,Bool.or_eq_true,ih,List.mem_cons];constructor
  ·rintro(h|h)
   ·exact .inl (Nat.eq_of_beq_eq_true h)
   ·exact .inr h
  ·rintro(rfl|h)
   ·exact .inl (Nat.beq_refl n)
   ·exact .inr h
theorem rz(l:List Nat):fB l=true <-> l.Nodup:=by
 induction l with
 |nil=>simp[fB]
 |cons n l ih=>
  simp only[fB,Bool.and_eq_true,ih,List.nodup_cons,Bool.not_eq_true'];constructor
  ·rintro⟨h1,h2⟩;exact⟨fun h=>(by rw[(uy n l).2 h] at h1;cases h1),h2⟩
  ·rintro⟨h1,h2⟩;refine⟨?_,h2⟩;cases h:fP n l with
   |false=>rfl
   |true=>exact absurd ((uy n l).1 h) h1
theorem OW(l m:List Nat):eX l m=true <-> ∀n,n∈l->n∉m:=by
 induction l with
 |nil=>simp[eX]
 |cons n l ih=>
  simp only[eX,Bool.and_eq_true,ih,Bool.not_eq_true',List.mem_cons];constructor
  ·rintro⟨h1,h2⟩ k (rfl|hk)
   ·intro h;rw[(uy k m).2 h] at h1;cases h1
   ·exact h2 k hk
  ·intro h;refine⟨?_,fun k hk=>h k (.inr hk)⟩
   cases ai:fP n m with
   |false=>rfl
   |true=>exact absurd ((uy n m).1 ai) (h n (.inl rfl))
theorem nb{sites us:List (Nat×Site)}{o:Nat}(h:o∉keys us):look (bl sites us) o=look sites o:=by
 induction us generalizing sites with
 |nil=>rfl
 |cons p us ih=>
  obtain⟨n,s⟩:=p;simp only[keys,List.mem_cons,not_or] at h;simp only[bl];rw[ih h.2,c4];have:¬n=o:=fun e=>h.1 e.symm
  simp[this]
theorem E5{ax:Type}{us:List (Nat×ax)}{o:Nat}{s:ax}(h:(o,s)∈us):o∈keys us:=by
 induction us with
 |nil=>simp at h
 |cons p us ih=>
  rcases List.mem_cons.1 h with rfl|h
  ·exact List.mem_cons_self
  ·exact List.mem_cons_of_mem _ (ih h)
theorem yz{ax:Type}{us:List (Nat×ax)}{o:Nat}(h:o∈keys us):∃s,(o,s)∈us:=by
 induction us with
 |nil=>simp[keys] at h
 |cons p us ih=>
  obtain⟨n,s⟩:=p;rcases List.mem_cons.1 h with h|h
  ·exact⟨s,by rw[h];exact List.mem_cons_self⟩
  ·obtain⟨aD,ai⟩:=ih h;exact⟨aD,List.mem_cons_of_mem _ ai⟩
section
variable {O:World}{Y:List Nat}{X:Nat->Prop}{D:Nat->Value}{st:aj}{M:Array Value}{w:World}
theorem ao.alw:∀{us:List (Nat×Site)} {st:aj} {X:Nat->Prop},ao O Y X D st M w->gO st.sites us->(keys us).Nodup->
  ao O Y (fun b=>X b\/b∈db D (keys us)) D {st with sites:=bl st.sites us} M w:=by
 intro us;induction us with
 |nil=>intro st X S _ _;exact S.shrink fun b h=>by rcases h with h|h;exact h;simp[keys,db] at h
 |cons p us ih=>
  obtain⟨o,aD⟩:=p;intro st X S hg hn;obtain⟨ab,h1,h2,rfl⟩:=hg o aD List.mem_cons_self;simp only[keys,List.nodup_cons] at hn;have dr:=S.kill h1 h2;have hS:=ih dr (fun aa s hm=>by
   obtain⟨t,aB,aA,bC⟩:=hg aa s (List.mem_cons_of_mem _ hm);have:¬o=aa:=fun e=>hn.1 (by rw[e];exact E5 hm)
   exact⟨t,by simp[c4,this,aB],aA,bC⟩) hn.2
  refine hS.shrink fun b h=>?_
  rcases h with h|h
  ·exact .inl (.inl h)
  ·simp only[keys,db,List.filterMap_cons] at h;cases hb:bH (D o) with
   |none=>simp only[hb] at h;exact .inr h
   |some c=>
    simp only[hb,List.mem_cons] at h;rcases h with rfl|h
    ·exact .inl (.inr rfl)
    ·exact .inr h
structure jE(O:World)(Y:List Nat)(X X':Nat->Prop)(D aQ:Nat->Value)(st:aj)(M:Array Value)(w:World)(us:List (Nat×Site)):Prop where
 ji:ao O Y X' aQ {st with sites:=bl st.sites us} M w
 le:∀c,az X' aQ (bl st.sites us) c->az X D st.sites c
 go:∀{a v},cf D st.sites w (az X D st.sites) a v->cf aQ (bl st.sites us) w (az X' aQ (bl st.sites us)) a v
 same:∀o,o∉keys us->aQ o=D o
theorem jE.nil{X':Nat->Prop}(S:ao O Y X D st M w)(h:∀b,X' b->X b):jE O Y X X' D D st M w []:=
 ⟨S.shrink h,fun c hc=>by
  rcases hc with hc|hc
  ·exact .inl (h c hc)
  ·exact .inr hc,fun k=>k.gT (fun c hc=>by
   rcases hc with hc|hc
   ·exact .inl (h c hc)
   ·exact .inr hc) (fun c hc=>(S.shrink h).lt hc),fun _ _=>rfl⟩
theorem jE.trans{c7 cA:Nat->Prop}{gA h_:Nat->Value}{us vs:List (Nat×Site)}(A:jE O Y X c7 D gA st M w us)(bm:jE O Y c7 cA gA h_ {st with sites:=bl st.sites us} M w vs):
  jE O Y X cA D h_ st M w (us++vs):=by
 refine⟨?_,?_,?_,fun o h=>?_⟩
 ·rw[kU];exact bm.ji
 ·rw[kU];exact fun c hc=>A.le c (bm.le c hc)
 ·rw[kU];exact fun h=>bm.go (A.go h)
 ·rw[jO,List.mem_append,not_or] at h;rw[bm.same o h.2,A.same o h.1]
theorem jE.one{X':Nat->Prop}{n:Nat}{bW:Site}{nv:Value}(S:ao O Y X D st M w)(gn:∀b,X' b->X b)
  (dH:(∀ab,look st.sites n=some ab->ab.cw<bW.cw)\/(D n=nv/\∀ab,look st.sites n=some ab->ab.cw=bW.cw/\ab.live=false))
  (hb:∀b,bH nv=some b->X b/\¬X' b/\(b∈Y\/O.heap.size<=b))
  (fy:∀{bV:List (Nat×Site)} {aQ:Nat->Value},bV=cp st.sites n bW->aQ n=nv->(∀{a v},cf D st.sites w (az X D st.sites) a v->cf aQ bV w (az X' aQ bV) a v)->
   (∀b,az X' aQ bV b->az X D st.sites b)->jX aQ bV w (az X' aQ bV) n bW):
  jE O Y X X' D (fun aa=>if aa=n then nv else D aa) st M w [(n,bW)]:=by
 obtain⟨h1,h2,h3⟩:=S.vw gn dH hb fy;exact⟨h1,h2,h3,fun o h=>by
  simp only[keys,List.mem_singleton] at h;simp[h]⟩
theorem DN{av cg:Nat->Prop}{l:aI}{v:Value}{sites:List (Nat×Site)}(hf:∀t xs,l≠.fresh t xs)(h:dO lX [] w av l v)(hle:∀b,cg b->av b)(hlt:∀b,cg b->b<w.heap.size):dO D sites w cg l v:=by
 have gT:∀{d:a'} {v:Value},bD w av d v->bD w cg d v:=fun h=>cf.gT (D:=D) (sites:=[]) (a:=one _) hle hlt h
 cases l with
 |d x=>exact gT h
 |nil t=>exact h
 |own o s=>obtain⟨_,_,h,_⟩:=h;cases h
 |ptr o s off=>obtain⟨_,_,_,h,_⟩:=h;cases h
 |en cells off=>
  obtain⟨b,B,h1,h2,h3,cs,ay,bo,cc⟩:=h;exact⟨b,B,h1,fun hx=>h2 (hle b hx),h3,cs,ay,bo,fun j g1 g2=>gT (cc j g1 g2)⟩
 |eS o s t k off=>obtain⟨_,_,_,h,_⟩:=h;cases h
 |clo g bA=>
  obtain⟨vs,h1,h2,h3⟩:=h;match bA,vs,h2 with
  |[],[],_=>exact⟨[],h1,rfl,fun i h=>by simp at h⟩
  |c::bA,v::vs,_=>obtain⟨_,h,_⟩:=h3 0 (by simp) (by simp);cases h
 |cS u=>exact h
 |fresh t xs=>exact absurd rfl (hf t xs)
 |dn=>trivial
 |any=>trivial
theorem cx.go{aQ:Nat->Value}{sites bV:List (Nat×Site)}{w':World}{av cg:Nat->Prop}(go:∀{a:aR} {v:Value},cf D sites w av a v->cf aQ bV w' cg a v){ag:List aI}{vs:List Value}
  (h:cx D sites w av ag vs):cx aQ bV w' cg ag vs:=AL go h
structure Left(O:World)(Y:List Nat)(X:Nat->Prop)(D:Nat->Value)(st:aj)(av:Nat->Prop)(bs:List Nat):Prop where
 nodup:bs.Nodup
 cl:∀b,b∈bs->¬X b/\(b∈Y\/O.heap.size<=b)
 le:∀c,az (fun b=>X b\/b∈bs) D st.sites c->av c
def ld(bx:aj)(sites:List (Nat×Site))(fV:List Nat):Prop:=∀m,m∈fV->∀ab,look sites m=some ab->ab.cw<bp bx m
theorem ld.step{bx:aj}{sites us:List (Nat×Site)}{fV:List Nat}(h:ld bx sites fV)(Z:∀n,n∈keys us->n∉fV):ld bx (bl sites us) fV:=by
 intro m hm ab hs;rw[nb (fun ai=>Z m ai hm)] at hs
 exact h m hm ab hs
theorem abM{u:Bool}{e:TypeId}{s:Nat}{v:Value}{n:Nat}{cs:List Value}(h:rowAt w u e s v n cs):v.oneCell'=true:=by
 rcases h.2 with⟨h,_⟩|⟨g,cap,cur,fz,h,_⟩<;>rw[h]<;>rfl
theorem Qb{av:Nat->Prop}(bx:aj):∀(ag:List aI) (n:Nat) {D:Nat->Value} {st:aj} {vs:List Value} {bs rest:List Nat},ao O Y (fun b=>X b\/b∈bs++rest) D st M w->lf w av ag vs bs->
  Left O Y X D st av (bs++rest)->ld bx st.sites (keys (take bx n ag).2)->(keys (take bx n ag).2).Nodup->
  ∃aQ,jE O Y (fun b=>X b\/b∈bs++rest) (fun b=>X b\/b∈rest) D aQ st M w (take bx n ag).2/\cx aQ (bl st.sites (take bx n ag).2) w (az (fun b=>X b\/b∈rest) aQ (bl st.sites (take bx n ag).2)) (take bx n ag).1 vs/\
   Left O Y X aQ {st with sites:=bl st.sites (take bx n ag).2} av rest:=by
 intro ag;induction ag with
 |nil=>
  intro n D st vs bs rest S h L eQ Z;match vs,h with
  |[],h=>
   have h:bs=[]:=h;subst h;exact⟨D,.nil S (fun b hb=>hb),.nil,L⟩
 |cons l ag ih=>
  intro n D st vs bs rest S h L eQ Z;match vs,h with
  |v::vs,⟨b1,b2,ep,h1,h2⟩=>
   subst ep;by_cases hf:∃t xs,l=.fresh t xs
   ·obtain⟨t,xs,rfl⟩:=hf;obtain⟨hb1,e,cs,aG,hr⟩:=h1;simp only[take,keys,List.nodup_cons] at Z eQ;have kD:=L.nodup;rw[List.append_assoc,hb1] at kD;have c':jE O Y (fun b=>X b\/b∈b1++b2++rest) (fun b=>X b\/b∈b2++rest) D (fun aa=>if aa=n then v else D aa) st M w [(n,.row (bp bx n) t xs)]:=by
     refine .one S (fun b hb=>?_) (.inl fun ab hs=>eQ n List.mem_cons_self ab hs) (fun b hb=>?_) (fun fH j2 go le=>?_)
     ·rcases hb with hb|hb
      ·exact .inl hb
      ·exact .inr (by rw[List.append_assoc];exact List.mem_append.2 (.inr hb))
     ·have hm:b∈b1:=by rw[hb1,hb];simp
      have l_:b∈b1++b2++rest:=by rw[List.append_assoc];exact List.mem_append.2 (.inl hm)
      refine⟨.inr l_,?_,(L.cl b l_).2⟩;rintro(hx|hx)
      ·exact(L.cl b l_).1 hx
      ·rw[hb] at kD;simp only[Option.toList_some,List.singleton_append,List.nodup_cons] at kD;exact kD.1 hx
     ·refine⟨e,cs,by rw[j2];exact aG,fun j g1 g2=>?_⟩
      have k:=hr.2 j g1 g2;have hle:∀b,az (fun b=>X b\/b∈b2++rest) _ _ b->av b:=fun b hb=>L.le b (le b hb)
      exact cf.gT (D:=D) (sites:=[]) (a:=one _) hle (fun b hb=>S.lt (le b hb)) k
    have rm:Left O Y X (fun aa=>if aa=n then v else D aa) {st with sites:=bl st.sites [(n,.row (bp bx n) t xs)]} av (b2++rest):=by
     refine⟨(List.nodup_append.1 (by rw[List.append_assoc] at L;exact L.nodup)).2.1,fun b hb=>L.cl b (by rw[List.append_assoc];exact List.mem_append.2 (.inr hb)),fun c hc=>L.le c (c'.le c hc)⟩
    obtain⟨aQ,et,h3,ay⟩:=ih (n+1) (st:={st with sites:=bl st.sites [(n,.row (bp bx n) t xs)]}) c'.ji h2 rm
     (ld.step (us:=[(n,.row (bp bx n) t xs)]) (fun m hm=>eQ m (List.mem_cons_of_mem _ hm)) (fun m hm=>by simp only[keys,List.mem_singleton] at hm;subst hm;exact Z.1)) Z.2
    refine⟨aQ,c'.trans et,?_,ay⟩;refine cx.cons ?_ h3;have:dO (fun aa=>if aa=n then v else D aa) (bl st.sites [(n,.row (bp bx n) t xs)]) w (az (fun b=>X b\/b∈b2++rest) (fun aa=>if aa=n then v else D aa) (bl st.sites [(n,.row (bp bx n) t xs)])) (.own n (bp bx n)) v:=
     ⟨abM aG,Ref.mk (ab:=.row (bp bx n) t xs) (by simp[bl,c4]) rfl (by simp)⟩
    exact et.go (a:=b0 (.own n (bp bx n))) (v:=v) this
   ·have KG:∀t xs,l≠.fresh t xs:=fun t xs h=>hf ⟨t,xs,h⟩
    have alS:take bx n (l::ag)=(l::(take bx (n+1) ag).1,(take bx (n+1) ag).2):=by
     cases l<;>first|rfl|exact absurd rfl (KG _ _)
    have h1':b1=[]/\dO lX [] w av l v:=by
     cases l<;>first|exact h1|exact absurd rfl (KG _ _)
    obtain⟨rfl,h1'⟩:=h1';rw[alS] at Z eQ ⊢;simp only[List.nil_append] at S L ⊢;obtain⟨aQ,et,h3,ay⟩:=ih (n+1) S h2 L eQ Z;refine⟨aQ,et,?_,ay⟩;refine cx.cons ?_ h3;exact DN KG h1' (fun b hb=>L.le b (et.le b hb)) (fun b hb=>et.ji.lt hb)
end
section
variable {O:World}{Y:List Nat}{X:Nat->Prop}{D:Nat->Value}{st:aj}{M:Array Value}{w:World}
def oP(D:Nat->Value)(sites:List (Nat×Site))(w:World)(av:Nat->Prop)(as:List bP)(vs:List Value):Prop:=
 vs.length=as.length/\∀j (h:j<as.length) (ai:j<vs.length),gU D sites w av (as[j]) (vs[j])
theorem oP.cons{sites:List (Nat×Site)}{av:Nat->Prop}{a:bP}{as:List bP}{v:Value}{vs:List Value}(h:gU D sites w av a v)(hs:oP D sites w av as vs):oP D sites w av (a::as) (v::vs):=
 ⟨by simp[hs.1],fun j h1 h2=>by
  cases j with
  |zero=>exact h
  |succ j=>exact hs.2 j (by simpa using h1) (by simpa using h2)⟩
theorem Left.rest{av:Nat->Prop}{a b:List Nat}(L:Left O Y X D st av (a++b)){aQ:Nat->Value}{al:aj}(h:∀c,az (fun c=>X c\/c∈b) aQ al.sites c->az (fun c=>X c\/c∈a++b) D st.sites c):Left O Y X aQ al av b:=
 ⟨(List.nodup_append.1 L.nodup).2.1,fun c hc=>L.cl c (List.mem_append.2 (.inr hc)),fun c hc=>L.le c (h c hc)⟩
theorem adW{bx:aj}{n:Nat}{ag:List aI}(h:(take bx n ag).1.head?=some .dn):ag.head?=some .dn:=by
 cases ag with
 |nil=>cases h
 |cons l ag=>cases l<;>first|exact h|cases h
theorem take_one(bx:aj)(n:Nat)(l:aI):∃gm,(take bx n [l]).1=[gm]:=by cases l<;>exact⟨_,rfl⟩
theorem afM{av:Nat->Prop}(bx:aj):∀(as:List bP) (n:Nat) {D:Nat->Value} {st:aj} {vs:List Value} {bs rest:List Nat},ao O Y (fun b=>X b\/b∈bs++rest) D st M w->k6 w av as vs bs->
  Left O Y X D st av (bs++rest)->ld bx st.sites (keys (dT bx n as).2)->(keys (dT bx n as).2).Nodup->
  ∃aQ,jE O Y (fun b=>X b\/b∈bs++rest) (fun b=>X b\/b∈rest) D aQ st M w (dT bx n as).2/\oP aQ (bl st.sites (dT bx n as).2) w (az (fun b=>X b\/b∈rest) aQ (bl st.sites (dT bx n as).2)) (dT bx n as).1 vs/\
   Left O Y X aQ {st with sites:=bl st.sites (dT bx n as).2} av rest:=by
 intro as;induction as with
 |nil=>
  intro n D st vs bs rest S h L eQ Z;match vs,h with
  |[],h=>
   have h:bs=[]:=h;subst h;exact⟨D,.nil S (fun b hb=>hb),⟨rfl,fun j h=>by simp[dT] at h⟩,L⟩
 |cons a as ih=>
  intro n D st vs bs rest S h L eQ Z;match vs,h with
  |v::vs,⟨b1,b2,ep,h1,h2⟩=>
   subst ep;have go:∀(ag:List aI) (us:List Value),lf w av ag us b1->(dT bx n (a::as)).2=(take bx n ag).2++(dT bx (n+100) as).2->
     ∃aQ,jE O Y (fun b=>X b\/b∈b1++b2++rest) (fun b=>X b\/b∈rest) D aQ st M w (dT bx n (a::as)).2/\cx aQ (bl st.sites (dT bx n (a::as)).2) w (az (fun b=>X b\/b∈rest) aQ (bl st.sites (dT bx n (a::as)).2)) (take bx n ag).1 us/\
      oP aQ (bl st.sites (dT bx n (a::as)).2) w (az (fun b=>X b\/b∈rest) aQ (bl st.sites (dT bx n (a::as)).2)) (dT bx (n+100) as).1 vs/\Left O Y X aQ {st with sites:=bl st.sites (dT bx n (a::as)).2} av rest:=by
    intro ag us bU e;rw[e] at eQ Z ⊢;rw[jO] at eQ Z;obtain⟨d1,d2,d3⟩:=List.nodup_append.1 Z;rw[List.append_assoc] at S L ⊢;obtain⟨gA,c',aB,rm⟩:=Qb bx ag n S bU L (fun m hm=>eQ m (List.mem_append.2 (.inl hm))) d1
    obtain⟨h_,et,aA,t_⟩:=ih (n+100) (st:={st with sites:=bl st.sites (take bx n ag).2}) c'.ji h2 rm
     (ld.step (fun m hm=>eQ m (List.mem_append.2 (.inr hm))) (fun m hm l_=>d3 m hm m l_ rfl)) d2
    refine⟨h_,c'.trans et,?_,?_,?_⟩
    ·rw[kU];exact aB.go et.go
    ·rw[kU];exact aA
    ·rw[kU];exact t_
   cases a with
   |ak l=>
    have h1:mF w av l v b1:=h1;obtain⟨aQ,T,aB,aA,bC⟩:=go [l] [v] ⟨b1,[],by simp,h1,rfl⟩ rfl
    refine⟨aQ,T,?_,bC⟩;obtain⟨gm,gh⟩:=take_one bx n l;have:(dT bx n (bP.ak l::as)).1=bP.ak gm::(dT bx (n+100) as).1:=by simp only[dT,gh]
    rw[this];refine oP.cons ?_ aA;rw[gh] at aB;exact aB.2 0 (by simp) (by simp)
   |agg ag=>
    obtain⟨us,e,h1⟩:=h1;obtain⟨aQ,T,aB,aA,bC⟩:=go ag us h1 rfl;refine⟨aQ,T,?_,bC⟩;have:(dT bx n (bP.agg ag::as)).1=bP.agg (take bx n ag).1::(dT bx (n+100) as).1:=rfl;rw[this];exact oP.cons ⟨us,e,aB.1,aB.2⟩ aA
def mY(D:Nat->Value):List (Nat×Nat)->List Nat->Prop
 |[],[]=>True
 |p::r,b::dx=>D p.1=.pointer (some ⟨b,0,none⟩)/\mY D r dx
 |_,_=>False
theorem mY.of:∀{boxes:List (Nat×Nat)},(∀o s,(o,s)∈boxes->∃b,D o=.pointer (some ⟨b,0,none⟩))->mY D boxes (db D (keys boxes)):=by
 intro boxes;induction boxes with
 |nil=>intro _;trivial
 |cons q boxes ih=>
  obtain⟨ρ,r⟩:=q;intro h;obtain⟨c,hc⟩:=h ρ r List.mem_cons_self;have:=ih fun o s hm=>h o s (List.mem_cons_of_mem _ hm)
  have e:db D (keys ((ρ,r)::boxes))=c::db D (keys boxes):=by simp[db,keys,hc,bH]
  rw[e];exact⟨hc,this⟩
theorem mY.congr{aQ:Nat->Value}:∀{boxes:List (Nat×Nat)} {dx:List Nat},mY D boxes dx->(∀aa,aa∈keys boxes->aQ aa=D aa)->mY aQ boxes dx:=by
 intro boxes;induction boxes with
 |nil=>
  intro dx h _;match dx,h with
  |[],_=>trivial
 |cons q boxes ih=>
  intro dx h ai;match dx,h with
  |b::dx,⟨h1,h2⟩=>exact⟨by rw[ai q.1 List.mem_cons_self];exact h1,ih h2 fun aa bS=>ai aa (List.mem_cons_of_mem _ bS)⟩
theorem Nu{av:Nat->Prop}{bx:aj}{aa:Nat}:∀{boxes:List (Nat×Nat)} {cN:List (List aI)} {dx bs:List Nat},mY D boxes dx->i' w av dx cN bs->aa∈keys boxes->aa∈keys (gM bx boxes cN):=by
 intro boxes;induction boxes with
 |nil=>intro cN dx bs _ _ h;simp[keys] at h
 |cons q boxes ih=>
  obtain⟨ρ,r⟩:=q;intro cN dx bs hl bU hm;match dx,cN,hl,bU with
  |c::dx,cs::cN,⟨_,hl⟩,⟨_,_,_,_,bU⟩=>
   simp only[gM,jO,keys,List.mem_append,List.mem_cons];rcases List.mem_cons.1 hm with rfl|hm
   ·exact .inr (.inl rfl)
   ·exact .inr (.inr (ih hl bU hm))
theorem Pg{av:Nat->Prop}(bx:aj):∀(boxes:List (Nat×Nat)) {cN:List (List aI)} {D:Nat->Value} {st:aj} {dx bs rest:List Nat},ao O Y (fun b=>X b\/b∈bs++rest) D st M w->mY D boxes dx->i' w av dx cN bs->
  (∀o s,(o,s)∈boxes->look st.sites o=some (.dead s))->
  Left O Y X D st av (bs++rest)->ld bx st.sites (keys (gM bx boxes cN))->(keys (gM bx boxes cN)).Nodup->
  ∃aQ,jE O Y (fun b=>X b\/b∈bs++rest) (fun b=>X b\/b∈rest) D aQ st M w (gM bx boxes cN)/\Left O Y X aQ {st with sites:=bl st.sites (gM bx boxes cN)} av rest:=by
 intro boxes;induction boxes with
 |nil=>
  intro cN D st dx bs rest S eN h hB L eQ Z;match dx,cN,eN,h with
  |[],[],_,h=>
   have h:bs=[]:=h;subst h;exact⟨D,.nil S (fun b hb=>hb),L⟩
 |cons p boxes ih=>
  obtain⟨o,s⟩:=p;intro cN D st dx bs rest S eN h hB L eQ Z;have bq:=hB o s List.mem_cons_self;match dx,cN,eN,h with
  |b::dx,cs::cN,⟨hb,eN⟩,⟨b1,b2,ep,⟨T,cur,ph,e1,e2,bz,da⟩,h2⟩=>
   subst ep e1;have hb:D o=.pointer (some ⟨b,0,none⟩):=hb;have rb:gM bx ((o,s)::boxes) (cs::cN)=(take bx (1000000+o*100) cs).2++([(o,Site.box s (take bx (1000000+o*100) cs).1)]++gM bx boxes cN):=rfl;rw[rb] at eQ Z ⊢;rw[jO,jO] at eQ Z;obtain⟨d1,d2,d3⟩:=List.nodup_append.1 Z;obtain⟨d4,d5,d6⟩:=List.nodup_append.1 d2;have Bu:∀c,c∈b::ph++b2++rest <-> c∈ph++(b::(b2++rest)):=by intro c;simp[or_assoc,or_left_comm]
   have atj:=L.nodup;have dr:ao O Y (fun c=>X c\/c∈ph++(b::(b2++rest))) D st M w:=S.shrink fun c hc=>hc.imp id (Bu c).2
   have rm:Left O Y X D st av (ph++(b::(b2++rest))):=by
    refine⟨?_,fun c hc=>L.cl c ((Bu c).2 hc),fun c hc=>L.le c ?_⟩
    ·have:List.Perm (b::ph++b2++rest) (ph++(b::(b2++rest))):=by
      simp only[List.cons_append,List.append_assoc];exact List.perm_middle.symm
     exact this.nodup_iff.1 atj
    ·rcases hc with hc|hc
     ·exact .inl (hc.imp id (Bu c).2)
     ·exact .inr hc
   obtain⟨gA,c',aB,t_⟩:=Qb bx cs (1000000+o*100) dr da.2 rm (fun m hm=>eQ m (List.mem_append.2 (.inl hm))) d1
   have Vu:o∉keys (take bx (1000000+o*100) cs).2:=fun h=>d3 o h o (by simp[keys]) rfl
   have I1:gA o=D o:=c'.same o Vu;have ia:look (bl st.sites (take bx (1000000+o*100) cs).2) o=some (.dead s):=by rw[nb Vu,bq]
   have Zh:=t_.nodup;simp only[List.nodup_cons] at Zh;have et:jE O Y (fun c=>X c\/c∈b::(b2++rest)) (fun c=>X c\/c∈b2++rest) gA (fun aa=>if aa=o then D o else gA aa) {st with sites:=bl st.sites (take bx (1000000+o*100) cs).2} M w [(o,Site.box s (take bx (1000000+o*100) cs).1)]:=by
    refine .one c'.ji (fun c hc=>hc.imp id (List.mem_cons_of_mem _)) (.inr ⟨I1,fun ab hs=>?_⟩) (fun c hc=>?_) (fun fH j2 go le=>?_)
    ·have hs:look (bl st.sites (take bx (1000000+o*100) cs).2) o=some ab:=hs;rw[ia] at hs;cases hs;exact⟨rfl,rfl⟩
    ·rw[hb] at hc;cases hc;refine⟨.inr List.mem_cons_self,?_,(t_.cl b List.mem_cons_self).2⟩;rintro(hx|hx)
     ·exact(t_.cl b List.mem_cons_self).1 hx
     ·exact Zh.1 hx
    ·have:=AL go aB;exact⟨b,T,cur,by rw[j2,hb],e2,this.1,bz,fun bU=>da.1 (adW bU),this.2⟩
   have Mi:Left O Y X (fun aa=>if aa=o then D o else gA aa) {st with sites:=bl (bl st.sites (take bx (1000000+o*100) cs).2) [(o,Site.box s (take bx (1000000+o*100) cs).1)]} av (b2++rest):=
    Left.rest (a:=[b]) (st:={st with sites:=bl st.sites (take bx (1000000+o*100) cs).2}) t_ et.le
   have hbk:∀aa,aa∈keys boxes->(fun aa=>if aa=o then D o else gA aa) aa=D aa:=by
    intro aa bS;have hk:=Nu (bx:=bx) eN h2 bS;by_cases e:aa=o
    ·subst e;simp
    ·simp only[e,if_false];exact c'.same aa fun hm=>d3 aa hm aa (List.mem_append.2 (.inr hk)) rfl
   obtain⟨aQ,fL,Mh⟩:=ih (st:={st with sites:=bl (bl st.sites (take bx (1000000+o*100) cs).2) [(o,Site.box s (take bx (1000000+o*100) cs).1)]}) et.ji (eN.congr hbk) h2
    (fun aa r hm=>by
     have hk:=Nu (bx:=bx) eN h2 (E5 hm);show look (bl (bl st.sites _) _) aa=_;rw[nb (fun h=>d6 aa h aa hk rfl),nb (fun h=>d3 aa h aa (List.mem_append.2 (.inr hk)) rfl)]
     exact hB aa r (List.mem_cons_of_mem _ hm))
    Mi
    (ld.step (ld.step (fun m hm=>eQ m (List.mem_append.2 (.inr (List.mem_append.2 (.inr hm))))) (fun m hm l_=>d3 m hm m (List.mem_append.2 (.inr l_)) rfl)) (fun m hm l_=>d6 m hm m l_ rfl)) d5
   refine⟨aQ,?_,?_⟩
   ·have ata:=c'.trans et;have Mc:jE O Y (fun c=>X c\/c∈b::ph++b2++rest) (fun c=>X c\/c∈ph++(b::(b2++rest))) D D st M w []:=.nil S fun c hc=>hc.imp id (Bu c).2
    have aoj:=Mc.trans (vs:=(take bx (1000000+o*100) cs).2++[(o,Site.box s (take bx (1000000+o*100) cs).1)]) ata;have:=aoj.trans (vs:=gM bx boxes cN) (by simpa only[List.nil_append,kU] using fL)
    simpa only[List.nil_append,List.append_assoc] using this
   ·simpa only[kU] using Mh
end
theorem Dq{us:List (Nat×Site)}:∀{sites:List (Nat×Site)} {o:Nat} {s:Site},(keys us).Nodup->(o,s)∈us->look (bl sites us) o=some s:=by
 induction us with
 |nil=>intro sites o s _ h;simp at h
 |cons p us ih=>
  obtain⟨n,aD⟩:=p;intro sites o s hn hm;simp only[keys,List.nodup_cons] at hn;simp only[bl];rcases List.mem_cons.1 hm with hm|hm
  ·cases hm;rw[nb hn.1,c4];simp
  ·exact ih hn.2 hm
section plain
variable {w:World}{av cg:Nat->Prop}
theorem PI{d:a'}{v:Value}(h:aI.oB (.d d)=false)(r:bD w av d v):bD w cg d v:=by
 cases r with
 |int k n=>exact .int k n
 |bool b=>exact .bool b
 |str l s hs=>exact .str l s hs
 |nil t=>cases h
 |sl=>cases h
 |fn=>cases h
 |vF=>cases h
 |map=>cases h
 |vQ T=>exact .vQ T
 |err T n=>exact .err T n
theorem ae9{t:a7}(h:t.oB=false)(x:den t):∀d,d∈enc t x->aI.oB (.d d)=false:=by
 cases t<;>first|(cases h;done)|(intro d Z;simp only[enc,List.mem_cons,List.not_mem_nil,or_false] at Z;(rcases Z with rfl|rfl|rfl|rfl|rfl);all_goals rfl)|skip
 all_goals(intro d Z;simp only[enc,List.mem_cons,List.not_mem_nil,or_false] at Z)
 all_goals first|(subst Z;rfl)|(rcases Z with rfl|rfl<;>rfl)|(rcases Z with rfl|rfl|rfl<;>rfl)|(rcases Z with rfl|rfl|rfl|rfl<;>rfl)
theorem aee{t:a7}{xs:List (den t)}{cs:List Value}(h:t.oB=false)(r:cY w av (flat t xs) cs):cY w cg (flat t xs) cs:=by
 refine⟨r.1,fun j g1 g2=>PI ?_ (r.2 j g1 g2)⟩
 have hm:(flat t xs)[j]∈flat t xs:=List.getElem_mem g1;simp only[flat,List.mem_flatMap] at hm;obtain⟨x,_,hx⟩:=hm;exact ae9 h x _ hx
theorem Ng{l:aI}{v:Value}{bs:List Nat}(h:l.oB=false)(k:mF w av l v bs):mF w cg l v bs:=by
 cases l with
 |d x=>exact⟨k.1,PI h k.2⟩
 |fresh t xs=>
  obtain⟨h1,e,cs,h2,h3⟩:=k;exact⟨h1,e,cs,h2,aee h h3⟩
 |cS v=>exact k
 |dn=>exact k
 |_=>cases h
theorem Nd:∀{ag:List aI} {vs:List Value} {bs:List Nat},rM ag=false->lf w av ag vs bs->lf w cg ag vs bs:=by
 intro ag;induction ag with
 |nil=>
  intro vs bs _ k;match vs,k with
  |[],k=>exact k
 |cons l ag ih=>
  intro vs bs h k;simp only[rM,Bool.or_eq_false_iff] at h;match vs,k with
  |v::vs,⟨b1,b2,aB,aA,bC⟩=>exact⟨b1,b2,aB,Ng h.1 aA,ih h.2 bC⟩
theorem abf:∀{as:List bP} {vs:List Value} {bs:List Nat},rD as=false->k6 w av as vs bs->k6 w cg as vs bs:=by
 intro as;induction as with
 |nil=>
  intro vs bs _ k;match vs,k with
  |[],k=>exact k
 |cons a as ih=>
  intro vs bs h k;simp only[rD,Bool.or_eq_false_iff] at h;match vs,k with
  |v::vs,⟨b1,b2,aB,aA,bC⟩=>
   refine⟨b1,b2,aB,?_,ih h.2 bC⟩;cases a with
   |ak l=>
    have h1:=h.1;simp only[bP.cells,rM,Bool.or_false] at h1;exact Ng h1 aA
   |agg ag=>
    obtain⟨us,e,aA⟩:=aA;exact⟨us,e,Nd h.1 aA⟩
theorem abe:∀{cN:List (List aI)} {dx bs:List Nat},rC cN=false->i' w av dx cN bs->i' w cg dx cN bs:=by
 intro cN;induction cN with
 |nil=>
  intro dx bs _ k;match dx,k with
  |[],k=>exact k
 |cons a as ih=>
  intro dx bs h k;simp only[rC,Bool.or_eq_false_iff] at h;match dx,k with
  |b::dx,⟨b1,b2,aB,⟨T,cur,n_,e1,e2,bz,da,gp⟩,bC⟩=>
   exact⟨b1,b2,aB,⟨T,cur,n_,e1,e2,bz,da,Nd h.1 gp⟩,ih h.2 bC⟩
theorem PS{l:aI}{v:Value}{bs:List Nat}(k:mF w av l v bs):∀b,b∈bs->b<w.heap.size:=by
 cases l with
 |fresh t xs=>
  obtain⟨h1,e,cs,h2,h3⟩:=k;intro b hb;rw[h1] at hb;rcases h2.2 with⟨h,_⟩|⟨g,cap,cur,fz,h,_,hg,_⟩
  ·rw[h] at hb;simp[bH] at hb
  ·rw[h] at hb;simp[bH] at hb;subst hb;exact(Array.getElem?_eq_some_iff.1 hg).1
 |_=>intro b hb;rw[k.1] at hb;simp at hb
theorem PR:∀{ag:List aI} {vs:List Value} {bs:List Nat},lf w av ag vs bs->∀b,b∈bs->b<w.heap.size:=by
 intro ag;induction ag with
 |nil=>
  intro vs bs k;match vs,k with
  |[],k=>have k:bs=[]:=k;intro b hb;rw[k] at hb;simp at hb
 |cons l ag ih=>
  intro vs bs k;match vs,k with
  |v::vs,⟨b1,b2,aB,aA,bC⟩=>
   intro b hb;rw[aB] at hb;rcases List.mem_append.1 hb with hb|hb
   ·exact PS aA b hb
   ·exact ih bC b hb
theorem ae1:∀{as:List bP} {vs:List Value} {bs:List Nat},k6 w av as vs bs->∀b,b∈bs->b<w.heap.size:=by
 intro as;induction as with
 |nil=>
  intro vs bs k;match vs,k with
  |[],k=>have k:bs=[]:=k;intro b hb;rw[k] at hb;simp at hb
 |cons a as ih=>
  intro vs bs k;match vs,k with
  |v::vs,⟨b1,b2,aB,aA,bC⟩=>
   intro b hb;rw[aB] at hb;rcases List.mem_append.1 hb with hb|hb
   ·cases a with
    |ak l=>exact PS (show mF w av l v b1 from aA) b hb
    |agg ag=>obtain⟨us,e,aA⟩:=aA;exact PR aA b hb
   ·exact ih bC b hb
theorem OO:∀{cN:List (List aI)} {dx bs:List Nat},i' w av dx cN bs->∀b,b∈bs->b<w.heap.size:=by
 intro cN;induction cN with
 |nil=>
  intro dx bs k;match dx,k with
  |[],k=>have k:bs=[]:=k;intro b hb;rw[k] at hb;simp at hb
 |cons a as ih=>
  intro dx bs k;match dx,k with
  |c::dx,⟨b1,b2,aB,⟨T,cur,n_,e1,e2,bz,_,da⟩,bC⟩=>
   intro b hb;rw[aB] at hb;rcases List.mem_append.1 hb with hb|hb
   ·rw[e1] at hb;rcases List.mem_cons.1 hb with rfl|hb
    ·exact(Array.getElem?_eq_some_iff.1 e2).1
    ·exact PR da b hb
   ·exact ih bC b hb
end plain
section
variable {P:Program}{O:World}{Y:List Nat}{X:Nat->Prop}{D:Nat->Value}{st:aj}{M:Array Value}{w:World}{B:Oper}
theorem nc{fV:List Nat}{b:Nat}:b∈db D fV <-> ∃o,o∈fV/\bH (D o)=some b:=by simp[db]
theorem MS(S:ao O Y X D st M w):∀{fV:List Nat},fV.Nodup->(∀o,o∈fV->cj st.sites o)->(db D fV).Nodup:=by
 intro fV;induction fV with
 |nil=>intro _ _;exact List.nodup_nil
 |cons o fV ih=>
  intro hn hl;rw[List.nodup_cons] at hn;have:=ih hn.2 fun aa bS=>hl aa (List.mem_cons_of_mem _ bS)
  simp only[db,List.filterMap_cons] at this ⊢;cases hb:bH (D o) with
  |none=>simpa using this
  |some b=>
   simp only[List.nodup_cons];refine⟨fun hm=>?_,this⟩
   obtain⟨aa,h1,h2⟩:=nc.1 hm;have:=S.dV o aa b (hl o List.mem_cons_self) (hl aa (List.mem_cons_of_mem _ h1)) hb h2;subst this;exact hn.1 h1
structure aok(O:World)(Y:List Nat)(X:Nat->Prop)(D:Nat->Value)(st:aj)(M:Array Value)(w:World)(a:j6)(vs:List Value):Prop where
 fz:dF st.sites a.eL
 lb:∀o,o∈a.fN->cj st.sites o
 m':gO st.sites a.gone
 arg:∀av,fv O Y X D st M w a.eL a.fN av->iX w av a.as vs (db D (keys a.gone))
 dx:dL a.as vs=db D (keys a.boxes)
 fk:∀o s,(o,s)∈a.boxes->(o,.dead s)∈a.gone/\∃b,D o=.pointer (some ⟨b,0,none⟩)
theorem Ni{us:List (Nat×Site)}{sites:List (Nat×Site)}(aZ:dF sites us){o:Nat}(h:cj (bl sites us) o):cj sites o:=by
 obtain⟨ab,h1,h2⟩:=h;rcases lD aZ o with h|⟨s,t,xs,ay,bo⟩
 ·exact⟨ab,h▸h1,h2⟩
 ·rw[bo] at h1;cases h1;cases h2
theorem ahb(S:ao O Y X D st M w){g:FuncId}{am:aF}(ez:aE P g am){a:j6}{vs:List Value}(A:aok O Y X D st M w a vs){d:Nat}(Z:ck st B.dst=true)
  (dm:(execOp (Act.eval ⟨M,[]⟩) B).run P w=(callFunc g vs.toArray).run P w):Holds (oO d st am a) (cH P O Y X st M w B):=by
 intro y hy hc;simp only[oO] at y hy hc ⊢;simp only[Bool.and_eq_true] at hc;obtain⟨⟨⟨⟨c1,c2⟩,c3⟩,c5⟩,gE⟩:=hc;rw[rz] at c1 c3;rw[OW] at c2 c5;have rG:∀o,o∈keys a.gone->cj st.sites o:=fun o bq=>by
  obtain⟨s,hs⟩:=yz bq;obtain⟨ab,h1,h2,_⟩:=A.m' o s hs;exact⟨ab,h1,h2⟩
 have OJ:∀o,o∈keys a.gone->o∉keys a.eL:=fun o h1 h2=>c2 o (List.mem_append.2 (.inl h2)) h1
 have au8:∃X':Nat->Prop,∀b,X' b <-> (az X D (bl st.sites a.eL) b/\b∉db D (keys a.gone)/\∀o,o∈a.fN->bH (D o)≠some b):=⟨_,fun b=>Iff.rfl⟩
 obtain⟨X',tG⟩:=au8;have dY:fv O Y X D st M w a.eL a.fN (fun b=>X' b\/b∈db D (keys a.gone)):=by
  refine⟨⟨S,A.fz⟩,fun b hb=>?_,fun o bq b hb hx=>?_⟩
  ·rcases hb with hb|hb
   ·exact((tG b).1 hb).1
   ·obtain⟨o,h1,h2⟩:=nc.1 hb;obtain⟨ab,h3,ay⟩:=rG o h1;exact .inr ⟨o,⟨ab,by rw[nb (OJ o h1)];exact h3,ay⟩,h2⟩
  ·rcases hx with hx|hx
   ·exact((tG b).1 hx).2.2 o bq hb
   ·obtain⟨aa,h1,h2⟩:=nc.1 hx;have:=S.dV o aa b (A.lb o bq) (rG aa h1) hb h2;subst this;exact c2 o (List.mem_append.2 (.inr bq)) h1
 have CQ:(db D (keys a.gone)).Nodup:=MS S c1 rG;have Fq:∀b,b∈db D (keys a.gone)->¬X b/\(b∈Y\/O.heap.size<=b):=fun b hb=>by
  obtain⟨o,h1,h2⟩:=nc.1 hb;exact S.cl o b (rG o h1) h2
 have Zr:∀b,X b->X' b:=fun b hb=>(tG b).2 ⟨.inl hb,fun h=>(Fq b h).1 hb,fun o bq h=>(S.cl o b (A.lb o bq) h).1 hb⟩
 have hG:iB w (db D (keys a.gone)) X':=by
  obtain⟨g1,g2⟩:=S.kM;refine⟨g1,fun b hb h=>?_,fun b hb h=>?_,fun b hb=>(g2 b hb).2⟩
  ·obtain⟨o,h1,h2⟩:=nc.1 h;exact(g2 b hb).1 (.inr ⟨o,rG o h1,h2⟩)
  ·rcases((tG b).1 h).1 with h|⟨o,h1,h2⟩
   ·exact(g2 b hb).1 (.inl h)
   ·exact(g2 b hb).1 (.inr ⟨o,Ni A.fz h1,h2⟩)
 have E:=ez a.as y hy w X' vs (db D (keys a.gone)) (A.arg _ dY) CQ (fun b hb hx=>((tG b).1 hx).2.1 hb) (fun b hb=>dY.lt (.inl hb)) hG
 intro K Q bR;have core:∀v w',(∃ej ei rv,Fr (db D (keys a.gone)) w w'/\i' w' (fun b=>X' b\/b∈ej++ei) (dL a.as vs) ((am a.as).fk y) ej/\k6 w' (fun b=>X' b\/b∈ej++ei) ((am a.as).fb y) rv ei/\
   v=nB rv/\(ej++ei).Nodup/\∀b,b∈ej++ei->¬X' b/\(b∈db D (keys a.gone)\/w.heap.size<=b))->K ⟨cB M B.dst v,[]⟩ w':=by
  rintro v w' ⟨ej,ei,rv,aZ,hB,dR,rfl,kD,hm⟩;obtain⟨sl,iP⟩:∃sl,(rD ((am a.as).fb y)||rC ((am a.as).fk y))=sl:=⟨_,rfl⟩;rw[iP] at gE bR;obtain⟨df,CN⟩:∃df,(bif sl then a.eL else [])=df:=⟨_,rfl⟩
  rw[CN] at bR;have VO:dF st.sites df:=by rw[<-CN];cases sl;exact .nil;exact A.fz
  have alx:∀o,o∈keys df->o∈keys a.eL:=by rw[<-CN];cases sl;intro o h;simp[keys] at h;exact fun o h=>h
  have dr:ao O Y X D {st with sites:=bl st.sites df} M w:=S.z_ VO
  have CR:gO (bl st.sites df) a.gone:=fun o s hs=>by
   obtain⟨ab,h1,h2,h3⟩:=A.m' o s hs;exact⟨ab,by rw[nb (fun h=>OJ o (E5 hs) (alx o h))];exact h1,h2,h3⟩
  have hS:=dr.alw CR c1;have iU:=hS.jump (w':=w') (fun b hb hlt=>aZ.block b hlt (fun h=>hb (.inr h))) aZ.size
   ⟨aZ.os.trans S.frame.os,aZ.tape.trans S.frame.tape,aZ.output.trans S.frame.output,Nat.le_trans S.frame.size aZ.size,fun b hlt hb=>by
    rw[aZ.block b (Nat.lt_of_lt_of_le hlt S.frame.size) (fun h=>by rcases(Fq b h).2 with ai|ai;exact hb ai;omega)]
    exact S.frame.block b hlt hb⟩
  have arj:∀b,b∈ej++ei->b<w'.heap.size:=fun b hb=>by
   rcases List.mem_append.1 hb with hb|hb
   ·exact OO hB b hb
   ·exact ae1 dR b hb
  have lC:ao O Y (fun b=>X b\/b∈ej++(ei++[])) D {st with sites:=bl (bl st.sites df) a.gone} M w':=iU.shrink fun b hb=>by
   rcases hb with hb|hb
   ·exact .inl (.inl hb)
   ·rw[List.append_nil] at hb;rcases(hm b hb).2 with h|h
    ·exact .inl (.inr h)
    ·exact .inr ⟨h,arj b hb⟩
  obtain⟨av,VM,an4,an3⟩:∃av:Nat->Prop,i' w' av (dL a.as vs) ((am a.as).fk y) ej/\k6 w' av ((am a.as).fb y) rv ei/\
    ∀c,az (fun b=>X b\/b∈ej++(ei++[])) D (bl (bl st.sites df) a.gone) c->av c:=by
   cases sl with
   |false=>
    rw[Bool.or_eq_false_iff] at iP;exact⟨_,abe iP.2 hB,abf iP.1 dR,fun c hc=>hc⟩
   |true=>
    refine⟨_,hB,dR,fun c hc=>?_⟩
    rcases hc with(hc|hc)|⟨o,⟨ab,h1,h2⟩,h3⟩
    ·exact .inl (Zr c hc)
    ·rw[List.append_nil] at hc;exact .inr hc
    ·refine .inl ((tG c).2 ?_);have bq:o∉keys a.gone:=fun h=>by
      obtain⟨s,hs⟩:=yz h;rw[Dq c1 hs] at h1;obtain⟨_,_,_,e⟩:=A.m' o s hs;cases h1;rw[e] at h2;cases h2
     rw[nb bq] at h1;have an6:a.eL=df:=CN;rw[<-an6] at h1;have live:cj st.sites o:=Ni A.fz ⟨ab,h1,h2⟩;refine⟨.inr ⟨o,⟨ab,h1,h2⟩,h3⟩,fun h=>?_,fun aa bS h=>?_⟩
     ·obtain⟨aa,aB,aA⟩:=nc.1 h;have:=S.dV o aa c live (rG aa aB) h3 aA;subst this;exact bq aB
     ·simp only[Bool.not_true,Bool.false_or,List.isEmpty_iff] at gE;rw[gE] at bS;simp at bS
  have L:Left O Y X D {st with sites:=bl (bl st.sites df) a.gone} av (ej++(ei++[])):=by
   refine⟨by simpa using kD,fun b hb=>?_,an3⟩
   rw[List.append_nil] at hb;obtain⟨h1,h2⟩:=hm b hb;refine⟨fun hx=>h1 (Zr b hx),?_⟩
   rcases h2 with h2|h2
   ·exact(Fq b h2).2
   ·exact .inr (Nat.le_trans S.frame.size h2)
  have S2:∀fV,ld st (bl (bl st.sites df) a.gone) fV:=fun fV m _ ab hs=>by
   have h1:∀ab,look (bl st.sites df) m=some ab->ab.cw<bp st m:=fun ab hs=>by
    rcases lD VO m with h|⟨s,t,xs,ay,bo⟩
    ·rw[h] at hs;exact lE hs
    ·rw[bo] at hs;cases hs;rcases ay with ay|ay<;>(have q:=lE ay;exact q)
   by_cases hk:m∈keys a.gone
   ·obtain⟨s,fH⟩:=yz hk;rw[Dq c1 fH] at hs;obtain⟨bW,e1,_,bz⟩:=CR m s fH;rw[bz] at hs;cases hs;exact h1 bW e1
   ·rw[nb hk] at hs;exact h1 ab hs
  rw[jO] at c3;obtain⟨d1,d2,d3⟩:=List.nodup_append.1 c3;rw[A.dx] at VM;obtain⟨gA,c',rm⟩:=Pg st a.boxes (st:={st with sites:=bl (bl st.sites df) a.gone}) lC (mY.of fun o s hs=>(A.fk o s hs).2) VM
   (fun o s hs=>Dq c1 (A.fk o s hs).1) L (S2 _) d1
  obtain⟨h_,et,j3,_⟩:=afM st ((am a.as).fb y) (2000000+d*10000) (st:={st with sites:=bl (bl (bl st.sites df) a.gone) (gM st a.boxes ((am a.as).fk y))}) c'.ji an4 rm
   (ld.step (S2 _) (fun n h1 h2=>d3 n h1 n h2 rfl)) d2
  have po:ao O Y X h_ {st with sites:=bl st.sites (df++a.gone++gM st a.boxes ((am a.as).fk y)++(dT st (2000000+d*10000) ((am a.as).fb y)).2)} M w':=by
   have:=et.ji.shrink (X':=X) fun b hb=>.inl hb
   simpa only[kU] using this
  refine bR h_ _ w' (ao.cU po Z (v:=SU (dT st (2000000+d*10000) ((am a.as).fb y)).1) ?_);have Tb:oP h_ (bl st.sites (df++a.gone++gM st a.boxes ((am a.as).fk y)++(dT st (2000000+d*10000) ((am a.as).fb y)).2)) w'
    (az X h_ (bl st.sites (df++a.gone++gM st a.boxes ((am a.as).fk y)++(dT st (2000000+d*10000) ((am a.as).fb y)).2))) (dT st (2000000+d*10000) ((am a.as).fb y)).1 rv:=by
   have e:(fun b=>X b\/b∈([]:List Nat))=X:=by funext b;simp
   rw[e] at j3;simpa only[kU] using j3
  generalize(dT st (2000000+d*10000) ((am a.as).fb y)).1=ark at Tb;match ark,rv,Tb with
  |[],[],h=>exact⟨[],rfl,rfl,fun j h=>by simp at h⟩
  |[l],[v],h=>exact h.2 0 (by simp) (by simp)
  |l::gC::ag,v::v2::cn,h=>exact⟨v::v2::cn,rfl,h.1,h.2⟩
 rcases E with⟨h1,h2⟩|⟨v,w',h1,h2⟩
 ·unfold Oper.wp;rw[dm,h1,Oper.upon_enter];refine h2.mono fun e w' he=>?_
  cases e with
  |returned v=>
   have:=core v w' he;cases dz:B.dst with
   |none=>rw[dz] at this;simpa[Act.put,cB] using this
   |some t=>rw[dz] at this;simpa[Act.put,cB] using this
  |panicked c=>exact he.elim
  |outgrown=>exact he.elim
 ·exact oz (dm.trans h1) (core v w' h2)
end
def Bj(P:Program)(g:FuncId):Prop:=
 ∀(b:Nat) (p v:Value) (w:World),w.heap[b]? =some (.cells #[p,v] qW (0,0))->(p=.pointer none\/p=.pointer (some ⟨b,0,none⟩))->
  Enters P g #[.pointer (some ⟨b,0,none⟩)] w fun r w'=>r=.tuple #[]/\w'=w.setRow b #[.pointer (some ⟨b,0,none⟩),v]
def BH(P:Program)(g:FuncId):Prop:=
 ∀(b:Nat) (p v:Value) (T:TypeId) (xs:List Int) (w:World),w.heap[b]? =some (.cells #[p,v] T (0,0))->rowAt w true me 1 v xs.length (xs.map (Value.int .u8))->
  Enters P g #[.pointer (some ⟨b,0,none⟩)] w fun r w'=>r=.string ⟨(strOf xs).toArray⟩/\w'.os=w.os/\w'.tape=w.tape/\w'.output=w.output/\w.heap.size<=w'.heap.size/\
   (∀c,c<w.heap.size->bH v≠some c->w'.heap[c]? =w.heap[c]?)/\∀c cur e fz,bH v=some c->w.heap[c]? =some (.cells cur e fz)->∃fz',w'.heap[c]? =some (.cells cur e fz')
section
variable {P:Program}{O:World}{Y:List Nat}{X:Nat->Prop}{D:Nat->Value}{st:aj}{M:Array Value}{w:World}{B:Oper}
theorem ao.agX(S:ao O Y X D st M w){o s:Nat}{t:a7}{xs:List (den t)}(hl:look st.sites o=some (.row s t xs)){w':World}(h1:w'.os=w.os)(h2:w'.tape=w.tape)(h3:w'.output=w.output)(ay:w.heap.size<=w'.heap.size)
  (bo:∀c,c<w.heap.size->bH (D o)≠some c->w'.heap[c]? =w.heap[c]?) (cc:∀c cur e fz,bH (D o)=some c->w.heap[c]? =some (.cells cur e fz)->∃fz',w'.heap[c]? =some (.cells cur e fz')):
  ao O Y X D {st with sites:=cp st.sites o (.dh s t xs)} M w':=by
 have cM:cj st.sites o:=⟨_,hl,rfl⟩;have d':∀aa,cj (cp st.sites o (.dh s t xs)) aa->cj st.sites aa/\aa≠o:=by
  rintro aa ⟨ab,h1,h2⟩;rw[c4] at h1;by_cases e:o=aa
  ·subst e;simp at h1;subst h1;cases h2
  ·simp only[e,if_false] at h1;exact⟨⟨ab,h1,h2⟩,fun h=>e h.symm⟩
 have b':∀bI,az X D (cp st.sites o (.dh s t xs)) bI->az X D st.sites bI:=by
  rintro bI (h|⟨aa,h1,h2⟩)
  ·exact .inl h
  ·exact .inr ⟨aa,(d' aa h1).1,h2⟩
 have aZ:=S.frame;refine S.qj (fun aa ab bS=>?_) (fun bI h hb=>bo bI hb (fun ai=>h (.inr ⟨o,cM,ai⟩))) (fun bI h _ ai=>h (b' bI ai)) (fun go aa ab bS=>?_) (fun aa ρ bI h1 h2=>S.dV aa ρ bI (d' aa h1).1 (d' ρ h2).1)
  (fun aa bI h=>S.cl aa bI (d' aa h).1) (fun aa bI h hb=>Nat.lt_of_lt_of_le (S.fA (d' aa h).1 hb) ay)
  ⟨h1.trans aZ.os,h2.trans aZ.tape,h3.trans aZ.output,Nat.le_trans aZ.size ay,fun b hb hn=>by
   have hs:=aZ.size;rw[bo b (by omega) (fun ai=>by
    rcases(S.cl o b cM ai).2 with ai|ai
    ·exact hn ai
    ·omega)]
   exact aZ.block b hb hn⟩ ay
 ·rw[c4];by_cases e:o=aa
  ·subst e;rw[hl] at bS;cases bS;exact⟨.dh s t xs,by simp,Nat.le_refl _,fun _=>rfl⟩
  ·exact⟨ab,by simp[e,bS],Nat.le_refl _,fun _=>rfl⟩
 ·rw[c4] at bS;by_cases e:o=aa
  ·subst e;simp only[if_true,Option.some.injEq] at bS;subst bS;refine .inr ?_
   show bD _ _ (.sl t xs) (D o)/\B' (D o);obtain⟨cE,cs,aB,aA⟩:=S.sites o _ hl;rcases aB.2 with⟨hn,h0⟩|⟨g,cap,cur,fz,hv,_,hg,hnc,_,_,htk⟩
   ·have:xs=[]:=List.eq_nil_of_length_eq_zero h0;subst this;rw[hn];exact⟨.nil t,.inl rfl⟩
   ·obtain⟨fz',hg'⟩:=cc g cur cE fz (by rw[hv];rfl) hg
    rw[hv];refine⟨?_,.inr ⟨_,_,_,rfl⟩⟩;have hlen:cs.length=(flat t xs).length:=by rw[eW];exact aB.1
    refine .sl t xs _ cap cs xs.length rfl hnc (fun _=>?_) hlen (fun j u hu=>?_) (fun j g1 g2=>oJ go (aA j g1 g2))
    ·rintro(hx|⟨aa,g1,g2⟩)
     ·exact(S.cl o g cM (by rw[hv];rfl)).1 hx
     ·obtain⟨g3,g4⟩:=d' aa g1;exact g4 (S.dV aa o g g3 cM g2 (by rw[hv];rfl))
    ·rw[gL,Nat.zero_add,cell_of_row w' g j cur cE fz' hg'];rw[<-htk,List.getElem?_take] at hu;split at hu
     ·simpa using hu
     ·cases hu
  ·simp only[e,if_false] at bS;refine .inl ⟨bS,rfl,fun s6 b hb=>bo b (S.fA ⟨_,bS,s6⟩ hb) fun h=>e (S.dV o aa b cM ⟨_,bS,s6⟩ h hb)⟩
theorem EA{g:FuncId}{vs:List Value}{post:Value->World->Prop}(dm:(execOp (Act.eval ⟨M,[]⟩) B).run P w=(callFunc g vs.toArray).run P w)(ez:Enters P g vs.toArray w post){K:Act->World->Prop}{Q:Exit->Act->World->Prop}
  (core:∀v w',post v w'->K ⟨cB M B.dst v,[]⟩ w'):B.wp P ⟨M,[]⟩ w K Q:=by
 rcases ez with⟨h1,h2⟩|⟨v,w',h1,h2⟩
 ·unfold Oper.wp;rw[dm,h1,Oper.upon_enter];refine h2.mono fun e w' he=>?_
  cases e with
  |returned v=>
   have:=core v w' he;cases dz:B.dst with
   |none=>rw[dz] at this;simpa[Act.put,cB] using this
   |some t=>rw[dz] at this;simpa[Act.put,cB] using this
  |panicked c=>exact he.elim
  |outgrown=>exact he.elim
 ·exact oz (dm.trans h1) (core v w' h2)
theorem ag8(S:ao O Y X D st M w){g:FuncId}(ez:Bj P g){cC:List aR}{vs:List Value}(hl:cC.length=vs.length)
  (hv:∀i (h:i<cC.length) (ai:i<vs.length),cf D st.sites w (az X D st.sites) (cC[i]) (vs[i])) (Z:ck st B.dst=true) (dm:(execOp (Act.eval ⟨M,[]⟩) B).run P w=(callFunc g vs.toArray).run P w):
  Holds (copyV st cC) (cH P O Y X st M w B):=by
 unfold copyV;split
 ·rename_i o s;split
  ·rename_i aD l gx;have gx:look st.sites o=some (.box aD [.dn,l]):=gx;cases lr:aD.beq s with
   |false=>exact .fail
   |true=>
    have:=Nat.eq_of_beq_eq_true lr;subst this;refine Holds.fx ?_
    intro K Q bR;match vs,hl,hv,dm with
    |[q6],_,hv,dm=>
    obtain⟨re,hb0,ls⟩:dO D st.sites w (az X D st.sites) (.ptr o aD 0) q6:=hv 0 (by simp) (by simp)
    have ls:=Ref.at ls gx rfl;obtain⟨b,T,cur,e1,e2,bz,da,gp,tW⟩:=S.sites o _ gx;rw[e1] at ls;have ls:b=re:=by cases ls;rfl
    subst ls;subst hb0;match cur,e2,bz,da,gp,tW with
    |[p,v],e2,_,da,gp,tW=>
     obtain⟨rfl,hp⟩:=gp rfl;have hp:p=.pointer none\/p=.pointer (some ⟨b,0,none⟩):=by simpa using hp
     refine EA dm (ez b p v w e2 hp) ?_
     rintro r w' ⟨rfl,rfl⟩;have ch:ao O Y X D {st with sites:=cp st.sites o (.box aD [.dn,l])} M (w.setRow b #[.pointer (some ⟨b,0,none⟩),v]):=by
      refine S.write gx rfl rfl rfl (by rw[e1];rfl) e2 (fun hs hw hg' go=>⟨b,qW,[.pointer (some ⟨b,0,none⟩),v],e1,hg',rfl,fun u hu=>?_,fun _=>⟨rfl,.inr rfl⟩,fun j h ai=>?_⟩)
      ·rcases List.mem_cons.1 hu with rfl|hu
       ·rfl
       ·exact da u (List.mem_cons_of_mem _ hu)
      ·match j,h,ai with
       |0,_,_=>trivial
       |1,_,_=>exact go (a:=b0 l) (tW 1 (by simp) (by simp))
     exact bR _ _ _ (ao.cU (us:=[(o,.box aD [.dn,l])]) ch Z (v:=.jF []) ⟨[],rfl,rfl,fun j h=>by simp at h⟩)
  ·exact .fail
 ·exact .fail
theorem afL{av:Nat->Prop}{xs:List Int}{cs:List Value}(h0:cs.length=xs.length)(h:∀j (h:j<(flat .u8 (xs:List (den .u8))).length) (ai:j<cs.length),bD w av ((flat .u8 (xs:List (den .u8)))[j]) (cs[j])):cs=xs.map (Value.int .u8):=by
 refine List.ext_getElem (by rw[List.length_map];exact h0) fun j g1 g2=>?_
 have Zn:j<xs.length:=by simpa using g2
 have:=h j (by rw[eW];simpa[aY] using Zn) g1
 rw[List.getElem_map];generalize Z:(flat .u8 (xs:List (den .u8)))[j]'(by rw[eW];simpa[aY] using Zn)=d at this
 have hd2:d=.int .u8 xs[j]:=by
  rw[<-Z];simp only[sd,List.getElem_map]
 subst hd2;generalize cs[j]=v at this;cases this;rfl
theorem acx(S:ao O Y X D st M w){g:FuncId}(ez:BH P g){cC:List aR}{vs:List Value}(hl:cC.length=vs.length)
  (hv:∀i (h:i<cC.length) (ai:i<vs.length),cf D st.sites w (az X D st.sites) (cC[i]) (vs[i])) (Z:ck st B.dst=true) (dm:(execOp (Act.eval ⟨M,[]⟩) B).run P w=(callFunc g vs.toArray).run P w):
  Holds (rX st cC) (cH P O Y X st M w B):=by
 unfold rX;split
 ·rename_i o s;match vs,hl,hv,dm with
  |[q6],_,hv,dm=>
  have mR:dO D st.sites w (az X D st.sites) (.ptr o s 0) q6:=hv 0 (by simp) (by simp)
  split
  ·rename_i _F l0;have gx:=gG l0;obtain⟨b,T,cur,cR,rfl,hg,_,hc⟩:=S.box gx mR;refine Holds.ok ?_
   intro K Q bR;obtain⟨p,r1,rfl,_,hc⟩:=hc.inv;obtain⟨v,r2,rfl,wv,hc⟩:=hc.inv;have:r2=[]:=List.eq_nil_of_length_eq_zero hc.1;subst this;have wv:v=.slice none 0 0:=wv;subst wv;refine EA dm (ez b p _ T [] w hg (D_ w true me 1)) ?_
   rintro r w' ⟨rfl,aB,aA,bC,cO,fK,ie⟩;have dr:=S.jump (w':=w') (fun c _ hc=>fK c hc (by simp[bH])) cO ⟨aB.trans S.frame.os,aA.trans S.frame.tape,bC.trans S.frame.output,Nat.le_trans S.frame.size cO,fun c hc hn=>by
    rw[fK c (Nat.lt_of_lt_of_le hc S.frame.size) (by simp[bH])]
    exact S.frame.block c hc hn⟩
   have hS:ao O Y X D {st with sites:=bl st.sites []} M w':=dr.shrink fun b hb=>.inl hb
   exact bR _ _ _ (ao.cU (us:=[]) hS Z (v:=one (.str [])) (bD.str _ _ rfl))
  ·rename_i _F aa u l0;have gx:=gG l0;obtain⟨b,T,cur,cR,rfl,hg,_,hc⟩:=S.box gx mR;split
   ·rename_i b7 xs hrow;have hrow:look st.sites aa=some (.row b7 .u8 xs):=hrow;cases arH:b7.beq u with
    |false=>exact .fail
    |true=>
     have:=Nat.eq_of_beq_eq_true arH;subst this;refine Holds.fx ?_
     intro K Q bR;obtain⟨p,r1,rfl,_,hc⟩:=hc.inv;obtain⟨v,r2,rfl,wv,hc⟩:=hc.inv;have:r2=[]:=List.eq_nil_of_length_eq_zero hc.1;subst this;have Vx:v=D aa:=Ref.at wv.2 hrow rfl;obtain⟨e,cs,h1,h2⟩:=S.sites aa _ hrow;have hlen:cs.length=xs.length:=by have:=h1.1;simpa[aY] using this
     have hcs:cs=List.map (Value.int .u8) xs:=afL hlen h2;have lj:rowAt w true me 1 v xs.length (List.map (Value.int .u8) xs):=by
      rw[<-hcs,Vx];refine⟨h1.1,?_⟩;rcases h1.2 with h|⟨cz,cap,cur',fz,q1,q2,cV⟩
      ·exact .inl h
      ·have:=q2.1 rfl;subst this;exact .inr ⟨cz,cap,cur',fz,q1,q2,cV⟩
     refine EA dm (ez b p v T xs w hg lj) ?_
     rintro r w' ⟨rfl,aB,aA,bC,cO,fK,ie⟩;rw[Vx] at fK ie;have hS:=S.agX hrow aB aA bC cO fK ie;exact bR _ _ _ (ao.cU (us:=[(aa,.dh b7 .u8 xs)]) hS Z (v:=one (.str (strOf xs))) (bD.str _ _ (by simp)))
   ·exact .fail
  ·exact .fail
 ·exact .fail
end
def Ae(P:Program)(g cz:FuncId):Prop:=
 ∀(a b:ByteArray) (w:World),Enters P g #[.string a,.string b] w fun v w'=>∃c' et,v=.func (.func cz) #[] #[.pointer (some ⟨w.heap.size+1,0,none⟩),.pointer (some ⟨w.heap.size,0,none⟩),.pointer (some ⟨w.heap.size+2,0,none⟩)]/\
  w'=((w.alloc (.cells #[.string a] c')).alloc (.cells #[.string b] c')).alloc (.cells #[.int .i64 0] et)
def Bi(P:Program)(g:FuncId):Prop:=
 ∀(xs:List Int) (v:Value) (w:World) (av:Nat->Prop),bD w av (.sl .u8 xs) v->Enters P g #[v] w fun v' w'=>∃u T,bD w av (.sl .u8 (xs.take 2000)) u/\v'=.pointer (some ⟨w.heap.size,0,none⟩)/\w'=w.alloc (.cells #[u,.int .i64 0] T)
structure aW(P:Program)(C:Ctx):Prop extends CtxOk P C where
 aJ:∀g S,C.aJ g=some S->aE P g S
 LR:P.follows .mixedOrders=true
 lx:∀g cz,C.lx g=some cz->Ae P g cz
 op:∀g,C.op g=true->Bi P g
 kc:∀g,C.kc g=true->Bj P g
 bs:∀g,C.bs g=true->BH P g
section
variable {P:Program}{O:World}{Y:List Nat}{X:Nat->Prop}{D:Nat->Value}{st:aj}{M:Array Value}{w:World}{B:Oper}
theorem OZ:∀{bA:List (Nat×Nat)} {cs:List (List a')} {us:List (Nat×Site)} {bs:List Nat},k5 st bA=some (cs,us,bs)->dF st.sites us/\∀o,o∈bs->cj st.sites o:=by
 intro bA;induction bA with
 |nil=>intro cs us bs h;simp only[k5] at h;cases h;exact⟨.nil,fun o h=>by simp at h⟩
 |cons c bA ih=>
  obtain⟨o,s⟩:=c;intro cs us bs h;simp only[k5] at h;split at h
  ·rename_i cells l0;split at h
   ·rename_i ds u1 rest u2 b2 gB oM;cases h;obtain⟨aB,aA⟩:=ih oM;refine⟨(Hg gB).append aB,fun aa bS=>?_⟩
    rcases List.mem_cons.1 bS with rfl|bS
    ·exact⟨_,gG l0,rfl⟩
    ·exact aA aa bS
   ·cases h
  ·cases h
theorem Gp{l gm:aI}{us:List (Nat×Site)}{bs:List Nat}(h:mG st l=some (gm,us,bs)):dF st.sites us/\∀o,o∈bs->cj st.sites o:=by
 unfold mG at h;split at h
 ·cases h;exact⟨.nil,fun o h=>by simp at h⟩
 ·split at h
  ·rename_i hc;cases h;exact OZ hc
  ·cases h
 ·split at h
  ·rename_i Z;cases h;exact⟨Sr Z,fun o h=>by simp at h⟩
  ·cases h
theorem agM:∀{ag gg:List aI} {us:List (Nat×Site)} {bs:List Nat},lQ st ag=some (gg,us,bs)->dF st.sites us/\∀o,o∈bs->cj st.sites o:=by
 intro ag;induction ag with
 |nil=>intro gg us bs h;simp only[lQ] at h;cases h;exact⟨.nil,fun o h=>by simp at h⟩
 |cons l ag ih=>
  intro gg us bs h;simp only[lQ] at h;split at h
  ·rename_i a u1 b1 as u2 b2 h1 h2;cases h;obtain⟨aB,aA⟩:=Gp h1;obtain⟨bC,cO⟩:=ih h2;refine⟨aB.append bC,fun o bq=>?_⟩
   rcases List.mem_append.1 bq with h|h
   ·exact aA o h
   ·exact cO o h
  ·cases h
theorem aeK:∀{cC:List aR} {a:j6},i_ st cC=some a->dF st.sites a.eL/\∀o,o∈a.fN->cj st.sites o:=by
 intro cC;induction cC with
 |nil=>intro a h;simp only[i_] at h;cases h;exact⟨.nil,fun o h=>by simp at h⟩
 |cons q9 cC ih=>
  intro a h;unfold i_ at h;split at h
  ·cases ‹q9::cC=[]›
  ·rename_i b5;cases b5;split at h
   ·rename_i hr;split at h
    ·cases h;have q:=ih hr;exact q
    ·cases h
   ·cases h
  ·rename_i b5;cases b5;split at h
   ·rename_i h1 hr;cases h;obtain⟨aB,aA⟩:=Gp h1;obtain⟨bC,cO⟩:=ih hr;refine⟨aB.append bC,fun o bq=>?_⟩
    rcases List.mem_append.1 bq with h|h
    ·exact aA o h
    ·exact cO o h
   ·cases h
  ·rename_i b5;cases b5;split at h
   ·rename_i h1 hr;cases h;obtain⟨aB,aA⟩:=agM h1;obtain⟨bC,cO⟩:=ih hr;refine⟨aB.append bC,fun o bq=>?_⟩
    rcases List.mem_append.1 bq with h|h
    ·exact aA o h
    ·exact cO o h
   ·cases h
  ·cases h
theorem ae3{l gm:aI}{gs us:List (Nat×Site)}{bs:List Nat}(h:oE st l=some (gm,gs,us,bs)):dF st.sites us/\∀o,o∈bs->cj st.sites o:=by
 unfold oE at h;split at h
 ·split at h
  ·cases h;exact⟨.nil,fun o h=>by simp at h⟩
  ·cases h
 ·cases h;exact⟨.nil,fun o h=>by simp at h⟩
 ·split at h
  ·rename_i hl;cases h;exact Gp hl
  ·cases h
theorem acV:∀{cC:List aR} {a:j6},lK st cC=some a->dF st.sites a.eL/\∀o,o∈a.fN->cj st.sites o:=by
 intro cC;induction cC with
 |nil=>intro a h;simp only[lK] at h;cases h;exact⟨.nil,fun o h=>by simp at h⟩
 |cons q9 cC ih=>
  intro a h;unfold lK at h;split at h
  ·cases ‹q9::cC=[]›
  ·rename_i b5;cases b5;split at h
   ·rename_i h1 hr;cases h;obtain⟨aB,aA⟩:=ae3 h1;obtain⟨bC,cO⟩:=ih hr;refine⟨aB.append bC,fun o bq=>?_⟩
    rcases List.mem_append.1 bq with h|h
    ·exact aA o h
    ·exact cO o h
   ·cases h
  ·cases h
theorem acT{b:Bool}{cC:List aR}{a:j6}(h:rZ b st cC=some a):dF st.sites a.eL/\∀o,o∈a.fN->cj st.sites o:=by
 cases b
 ·exact aeK h
 ·exact acV h
theorem akw(S:ao O Y X D st M w)(C:Ctx):∀(xs:List Operand) (cW:List TypeId),(gi C st xs cW).length=(xs.map (Act.eval ⟨M,[]⟩)).length/\
  ∀i (h:i<(gi C st xs cW).length) (ai:i<(xs.map (Act.eval ⟨M,[]⟩)).length),cf D st.sites w (az X D st.sites) ((gi C st xs cW)[i]) ((xs.map (Act.eval ⟨M,[]⟩))[i]):=by
 intro xs;induction xs with
 |nil=>intro cW;cases cW<;>exact⟨rfl,fun i h=>by simp[gi] at h⟩
 |cons x xs ih=>
  intro cW;have key:∀(T:TypeId) (Ld:List TypeId),gi C st (x::xs) cW=a8 C st T x::gi C st xs Ld->(gi C st (x::xs) cW).length=((x::xs).map (Act.eval ⟨M,[]⟩)).length/\
    ∀i (h:i<(gi C st (x::xs) cW).length) (ai:i<((x::xs).map (Act.eval ⟨M,[]⟩)).length),cf D st.sites w (az X D st.sites) ((gi C st (x::xs) cW)[i]) (((x::xs).map (Act.eval ⟨M,[]⟩))[i]):=by
   intro T Ld e;obtain⟨aB,aA⟩:=ih Ld;refine⟨by rw[e];simp[aB],fun i h ai=>?_⟩
   simp only[e];cases i with
   |zero=>exact dy S C T x
   |succ i=>
    simp only[List.getElem_cons_succ,List.map_cons];exact aA i (by simpa[e] using h) (by simpa using ai)
  cases cW with
  |nil=>exact key 0 [] rfl
  |cons T cW=>exact key T cW rfl
theorem adZ(S:ao O Y X D st M w){g cz:FuncId}(ez:Ae P g cz){n:Nat}{cC:List aR}{vs:List Value}(hl:cC.length=vs.length)
  (hv:∀i (h:i<cC.length) (ai:i<vs.length),cf D st.sites w (az X D st.sites) (cC[i]) (vs[i])) (Z:ck st B.dst=true) (dm:(execOp (Act.eval ⟨M,[]⟩) B).run P w=(callFunc g vs.toArray).run P w):
  Holds (sj cz n st cC) (cH P O Y X st M w B):=by
 unfold sj;split
 ·rename_i s p;refine Holds.fx ?_
  intro K Q bR;match vs,hl,hv,dm with
  |[q6,vb],_,hv,dm=>
  obtain⟨a,ha,fe⟩:=gv (hv 0 (by simp) (by simp))
  obtain⟨b,hb,dP⟩:=gv (hv 1 (by simp) (by simp))
  simp only[List.getElem_cons_zero,List.getElem_cons_succ] at ha hb;subst ha hb;have core:∀v w',(∃c' et,v=.func (.func cz) #[] #[.pointer (some ⟨w.heap.size+1,0,none⟩),.pointer (some ⟨w.heap.size,0,none⟩),.pointer (some ⟨w.heap.size+2,0,none⟩)]/\
    w'=((w.alloc (.cells #[.string a] c')).alloc (.cells #[.string b] c')).alloc (.cells #[.int .i64 0] et))->K ⟨cB M B.dst v,[]⟩ w':=by
   rintro v w' ⟨c',et,rfl,hw⟩;have hsz:w'.heap.size=w.heap.size+3:=by rw[hw];simp
   have hold:∀b,b<w.heap.size->w'.heap[b]? =w.heap[b]? :=fun b hb=>by
    rw[hw];rw[RowKit.Below.heap_alloc _ _ _ (by simp;omega),RowKit.Below.heap_alloc _ _ _ (by simp;omega),RowKit.Below.heap_alloc _ _ _ hb]
   have h0:w'.heap[w.heap.size]? =some (.cells #[.string a] c'):=by
    rw[hw,RowKit.Below.heap_alloc _ _ _ (by simp only[World.size_alloc];omega),RowKit.Below.heap_alloc _ _ _ (by simp only[World.size_alloc];omega)];exact World.alloc_heap_new w _
   have h1:w'.heap[w.heap.size+1]? =some (.cells #[.string b] c'):=by
    rw[hw,RowKit.Below.heap_alloc _ _ _ (by simp only[World.size_alloc];omega)]
    have:=World.alloc_heap_new (w.alloc (.cells #[.string a] c')) (.cells #[.string b] c');rwa[World.size_alloc] at this
   have h2:w'.heap[w.heap.size+2]? =some (.cells #[.int .i64 0] et):=by
    rw[hw];have:=World.alloc_heap_new ((w.alloc (.cells #[.string a] c')).alloc (.cells #[.string b] c')) (.cells #[.int .i64 0] et);rwa[World.size_alloc,World.size_alloc] at this
   have KS:Fr Y O w':=⟨by rw[hw];exact S.frame.os,by rw[hw];exact S.frame.tape,by rw[hw];exact S.frame.output,by have:=S.frame.size;omega,fun b hb hn=>by
    have:=S.frame.size;rw[hold b (by omega)];exact S.frame.block b hb hn⟩
   have oL:=S.frame.size;have dr:=S.jump (w':=w') (fun b _ hb=>hold b hb) (by omega) KS
   have mk:∀{D:Nat->Value} {sites:List (Nat×Site)} {av:Nat->Prop} {m k:Nat} {T:TypeId} {x:Value} {d:a'},D m=.pointer (some ⟨k,0,none⟩)->w'.heap[k]? =some (.cells #[x] T)->bD w' av d x->
     jX D sites w' av m (.box (bp st m) [.d d]):=by
    intro D sites av m k T x d e1 e2 bz;refine⟨k,T,[x],e1,e2,rfl,fun u hu=>?_,(fun h=>by cases h),fun j h ai=>?_⟩
    ·rw[List.mem_singleton.1 hu];exact bz.jv
    ·match j,h,ai with
     |0,_,_=>exact bz
   obtain⟨Mw,_,_⟩:=dr.vw (X':=fun b=>(X b\/(w.heap.size<=b/\b<w'.heap.size))/\b≠w.heap.size+1) (n:=n) (bW:=.box (bp st n) [.d (.str p)]) (nv:=.pointer (some ⟨w.heap.size+1,0,none⟩)) (fun b h=>h.1)
    (.inl fun ab h=>lE h) (fun b h=>by simp only[bH,Option.some.injEq] at h;subst h;exact⟨.inr ⟨by omega,by omega⟩,fun h=>h.2 rfl,.inr (by omega)⟩) (fun _ e _ _=>mk e h1 (.str _ _ dP))
   obtain⟨Mv,_,_⟩:=Mw.vw (X':=fun b=>((X b\/(w.heap.size<=b/\b<w'.heap.size))/\b≠w.heap.size+1)/\b≠w.heap.size) (n:=n+1) (bW:=.box (bp st (n+1)) [.d (.str s)]) (nv:=.pointer (some ⟨w.heap.size,0,none⟩)) (fun b h=>h.1)
    (.inl fun ab h=>by
     have h:look (cp st.sites n _) (n+1)=some ab:=h;rw[c4,if_neg (by omega)] at h
     exact lE h) (fun b h=>by simp only[bH,Option.some.injEq] at h;subst h;exact⟨⟨.inr ⟨by omega,by omega⟩,by omega⟩,fun h=>h.2 rfl,.inr (by omega)⟩) (fun _ e _ _=>mk e h0 (.str _ _ fe))
   obtain⟨Mu,_,_⟩:=Mv.vw (X':=X) (n:=n+2) (bW:=.box (bp st (n+2)) [.d (.int .i64 0)]) (nv:=.pointer (some ⟨w.heap.size+2,0,none⟩)) (fun b h=>by have:=S.old b h;exact⟨⟨.inl h,by omega⟩,by omega⟩)
    (.inl fun ab h=>by
     have h:look (cp (cp st.sites n _) (n+1) _) (n+2)=some ab:=h;rw[c4,if_neg (by omega),c4,if_neg (by omega)] at h
     exact lE h) (fun b h=>by simp only[bH,Option.some.injEq] at h;subst h;exact⟨⟨⟨.inr ⟨by omega,by omega⟩,by omega⟩,by omega⟩,fun h=>by have:=S.old _ h;omega,.inr (by omega)⟩) (fun _ e _ _=>mk e h2 (.int _ _))
   refine bR _ _ w' (ao.cU (us:=[(n,.box (bp st n) [.d (.str p)]),(n+1,.box (bp st (n+1)) [.d (.str s)]),(n+2,.box (bp st (n+2)) [.d (.int .i64 0)])]) Mu Z (v:=b0 (.clo cz _)) ?_);refine⟨[.pointer (some ⟨w.heap.size+1,0,none⟩),.pointer (some ⟨w.heap.size,0,none⟩),.pointer (some ⟨w.heap.size+2,0,none⟩)],rfl,rfl,fun i hi jn=>?_⟩
   match i,hi,jn with
   |0,_,_=>exact⟨.box (bp st n) [.d (.str p)],by simp[bl,c4],Nat.le_refl _,fun _=>by simp⟩
   |1,_,_=>exact⟨.box (bp st (n+1)) [.d (.str s)],by simp[bl,c4],Nat.le_refl _,fun _=>by simp⟩
   |2,_,_=>exact⟨.box (bp st (n+2)) [.d (.int .i64 0)],by simp[bl,c4],Nat.le_refl _,fun _=>by simp⟩
  rcases ez a b w with⟨h1,h2⟩|⟨v,w',h1,h2⟩
  ·unfold Oper.wp;rw[dm,h1,Oper.upon_enter];refine h2.mono fun e w' he=>?_
   cases e with
   |returned v=>
    have:=core v w' he;cases dz:B.dst with
    |none=>rw[dz] at this;simpa[Act.put,cB] using this
    |some t=>rw[dz] at this;simpa[Act.put,cB] using this
   |panicked c=>exact he.elim
   |outgrown=>exact he.elim
  ·exact oz (dm.trans h1) (core v w' h2)
 ·exact .fail
theorem agC(S:ao O Y X D st M w){g:FuncId}(ez:Bi P g){n:Nat}{cC:List aR}{vs:List Value}(hl:cC.length=vs.length)
  (hv:∀i (h:i<cC.length) (ai:i<vs.length),cf D st.sites w (az X D st.sites) (cC[i]) (vs[i])) (Z:ck st B.dst=true) (dm:(execOp (Act.eval ⟨M,[]⟩) B).run P w=(callFunc g vs.toArray).run P w):
  Holds (sH n st cC) (cH P O Y X st M w B):=by
 unfold sH;split
 ·rename_i xs;refine Holds.fx ?_
  intro K Q bR;match vs,hl,hv,dm with
  |[q6],_,hv,dm=>
  have dI:bD w (az X D st.sites) (.sl .u8 xs) q6:=hv 0 (by simp) (by simp)
  have core:∀v w',(∃u T,bD w (az X D st.sites) (.sl .u8 (xs.take 2000)) u/\v=.pointer (some ⟨w.heap.size,0,none⟩)/\w'=w.alloc (.cells #[u,.int .i64 0] T))->K ⟨cB M B.dst v,[]⟩ w':=by
   rintro v w' ⟨u,T,hu,rfl,hw⟩;have hsz:w'.heap.size=w.heap.size+1:=by rw[hw];simp
   have hold:∀b,b<w.heap.size->w'.heap[b]? =w.heap[b]? :=fun b hb=>by
    rw[hw,RowKit.Below.heap_alloc _ _ _ hb]
   have h0:w'.heap[w.heap.size]? =some (.cells #[u,.int .i64 0] T):=by rw[hw];exact World.alloc_heap_new w _
   have KS:Fr Y O w':=⟨by rw[hw];exact S.frame.os,by rw[hw];exact S.frame.tape,by rw[hw];exact S.frame.output,by have:=S.frame.size;omega,fun b hb hn=>by
    have:=S.frame.size;rw[hold b (by omega)];exact S.frame.block b hb hn⟩
   have oL:=S.frame.size;have dr:=S.jump (w':=w') (fun b _ hb=>hold b hb) (by omega) KS
   have gn:∀b,X b->b<w.heap.size:=S.old;have anR:∀b,az (fun b=>X b\/(w.heap.size<=b/\b<w'.heap.size)) D st.sites b->b<w'.heap.size:=fun b hb=>dr.lt hb
   have Ku:cf D st.sites w' (az (fun b=>X b\/(w.heap.size<=b/\b<w'.heap.size)) D st.sites) (one (.sl .u8 (xs.take 2000))) u:=by
    have G:h7 D D st.sites st.sites w w' (az X D st.sites) (az (fun b=>X b\/(w.heap.size<=b/\b<w'.heap.size)) D st.sites):=
     ⟨fun aa s h=>⟨s,h,Nat.le_refl _,fun _=>rfl⟩,fun b _ dP=>hold b dP,fun b hb dP ai=>by
      rcases ai with(ai|ai)|ai
      ·exact hb (.inl ai)
      ·omega
      ·exact hb (.inr ai)⟩
    exact cf.goes (a:=one (.sl .u8 (xs.take 2000))) G (by omega) anR hu
   obtain⟨Mw,awt,awE⟩:=dr.vw (X':=X) (n:=n) (bW:=.box (bp st n) [.d (.sl .u8 (xs.take 2000)),.d (.int .i64 0)]) (nv:=.pointer (some ⟨w.heap.size,0,none⟩)) (fun b h=>.inl h)
    (.inl fun ab h=>lE h) (fun b h=>by simp only[bH,Option.some.injEq] at h;subst h;exact⟨.inr ⟨by omega,by omega⟩,fun h=>by have:=gn _ h;omega,.inr (by omega)⟩) (fun hs e go _=>by
     have Kt:=go Ku;refine⟨w.heap.size,T,[u,.int .i64 0],e,h0,rfl,fun x hx=>?_,(fun h=>by cases h),fun j h ai=>?_⟩
     ·rcases List.mem_cons.1 hx with rfl|hx
      ·exact bD.jv hu
      ·rw[List.mem_singleton.1 hx];rfl
     ·match j,h,ai with
      |0,_,_=>exact Kt
      |1,_,_=>exact bD.int .i64 0)
   refine bR _ _ w' (ao.cU (us:=[(n,.box (bp st n) [.d (.sl .u8 (xs.take 2000)),.d (.int .i64 0)])]) Mw Z (v:=b0 (.ptr n (bp st n) 0)) ?_);exact⟨w.heap.size,rfl,.box (bp st n) [.d (.sl .u8 (xs.take 2000)),.d (.int .i64 0)],by simp[bl,c4],Nat.le_refl _,fun _=>by simp⟩
  rcases ez xs q6 w _ dI with⟨h1,h2⟩|⟨v,w',h1,h2⟩
  ·unfold Oper.wp;rw[dm,h1,Oper.upon_enter];refine h2.mono fun e w' he=>?_
   cases e with
   |returned v=>
    have:=core v w' he;cases dz:B.dst with
    |none=>rw[dz] at this;simpa[Act.put,cB] using this
    |some t=>rw[dz] at this;simpa[Act.put,cB] using this
   |panicked c=>exact he.elim
   |outgrown=>exact he.elim
  ·exact oz (dm.trans h1) (core v w' h2)
 ·exact .fail
theorem Nn(S:ao O Y X D st M w){C:Ctx}(H:aW P C){c:Go.Call}{f:Operand}(aG:B.op=.call c)(hf:c.callee=.value f)(Z:ck st B.dst=true)(d:Nat)(T:TypeId):
  Holds (lJ C d st (a8 C st T f) (gi C st c.args.toList c.argTypes.toList)) (cH P O Y X st M w B):=by
 have bu:=dy S C T f;obtain⟨e1,e2⟩:=akw S C c.args.toList c.argTypes.toList;have run:∀{g:FuncId} {e0:List Value},Act.eval ⟨M,[]⟩ f=.func (.func g) #[] e0.toArray->
   (execOp (Act.eval ⟨M,[]⟩) B).run P w=(callFunc g (c.args.toList.map (Act.eval ⟨M,[]⟩)++e0).toArray).run P w:=by
  intro g e0 hv;have w8:(#[]++c.args.map (Act.eval ⟨M,[]⟩))++e0.toArray=(c.args.toList.map (Act.eval ⟨M,[]⟩)++e0).toArray:=by apply Array.ext';simp
  unfold execOp;simp only[aG,resolve,hf,hv,Deferred.ofValue,Sem.run_bind,Sem.run_pure,Result.andThen_ok,invoke,w8]
 have go:∀{g:FuncId} {am:aF} {a:j6} {cs:List (List a')} {us:List (Nat×Site)} {bs:List Nat} {e0:List Value} {gb:Bool},C.aJ g=some am->rZ gb st (gi C st c.args.toList c.argTypes.toList)=some a->
   Act.eval ⟨M,[]⟩ f=.func (.func g) #[] e0.toArray->(dF st.sites us/\∀o,o∈bs->cj st.sites o)->
   (∀{df eU av},fv O Y X D st M w df eU av->(∀p,p∈us->p∈df)->(∀o,o∈bs->o∈eU)->kk w av cs e0)->
   Holds (oO d st am {a with as:=a.as++nz cs,eL:=a.eL++us,fN:=a.fN++bs}) (cH P O Y X st M w B):=by
  intro g am a cs us bs e0 gb hg ha hv hz hcap;obtain⟨fI,z2⟩:=acT ha;have hfz:dF st.sites (a.eL++us):=fI.append hz.1;have CO:fv O Y X D st M w (a.eL++us) (a.fN++bs) (fun _=>False):=⟨⟨S,hfz⟩,fun b h=>h.elim,fun _ _ _ _ h=>h⟩
  obtain⟨m1,m2,m3,m4⟩:=NH CO ha e1 e2 (fun p hp=>List.mem_append.2 (.inl hp)) (fun p hp=>List.mem_append.2 (.inl hp))
  refine ahb (a:={a with as:=a.as++nz cs,eL:=a.eL++us,fN:=a.fN++bs}) S (H.aJ g am hg) (vs:=c.args.toList.map (Act.eval ⟨M,[]⟩)++e0) ⟨hfz,fun o bq=>?_,m2,fun av dY=>?_,?_,m4⟩ Z (run hv)
  ·rcases List.mem_append.1 bq with h|h
   ·exact z2 o h
   ·exact hz.2 o h
  ·obtain⟨n1,_,_,_⟩:=NH dY ha e1 e2 (fun p hp=>List.mem_append.2 (.inl hp)) (fun p hp=>List.mem_append.2 (.inl hp))
   have n2:=ade (hcap dY (fun p hp=>List.mem_append.2 (.inr hp)) (fun p hp=>List.mem_append.2 (.inr hp)))
   have:=n1.append n2;rwa[List.append_nil] at this
  ·show dL (a.as++nz cs) _=_;rw[MR m1.length,m3,adg,List.append_nil]
 unfold lJ;split
 ·rename_i g bA KT;rw[KT] at bu;obtain⟨e0,h1,h2,h3⟩:=bu;split
  ·rename_i cz kA;split
   ·have hcv:e0=[]:=List.eq_nil_of_length_eq_zero (by simpa using h2)
    subst hcv;have r:=run h1;rw[List.append_nil] at r;exact adZ S (H.lx g cz kA) e1 e2 Z r
   ·exact .fail
  ·cases KE:C.op g with
   |true=>
    simp only[cond_true];split
    ·have hcv:e0=[]:=List.eq_nil_of_length_eq_zero (by simpa using h2)
     subst hcv;have r:=run h1;rw[List.append_nil] at r;exact agC S (H.op g KE) e1 e2 Z r
    ·exact .fail
   |false=>
    simp only[cond_false];have S1:bA=[]->(execOp (Act.eval ⟨M,[]⟩) B).run P w=(callFunc g (c.args.toList.map (Act.eval ⟨M,[]⟩)).toArray).run P w:=by
     rintro rfl;have hcv:e0=[]:=List.eq_nil_of_length_eq_zero (by simpa using h2)
     subst hcv;have r:=run h1;rwa[List.append_nil] at r
    cases Zc:C.kc g with
    |true=>
     simp only[cond_true];split
     ·exact ag8 S (H.kc g Zc) e1 e2 Z (S1 rfl)
     ·exact .fail
    |false=>
     simp only[cond_false];cases ep:C.bs g with
     |true=>
      simp only[cond_true];split
      ·exact acx S (H.bs g ep) e1 e2 Z (S1 rfl)
      ·exact .fail
     |false=>
      simp only[cond_false];split
      ·rename_i am a cs us bs hg ha hc;exact go hg ha h1 (OZ hc) (fun dY hu hb=>OY dY hc hu hb h2 h3)
      ·exact .fail
 ·rename_i g bA KT;rw[KT] at bu;obtain⟨e0,h1,_⟩:=kk.SW bu;split
  ·rename_i am a hg ha;have:=go (us:=[]) (bs:=[]) (cs:=bA) (gb:=false) hg ha h1 ⟨.nil,fun o h=>by simp at h⟩ (fun {df eU av} dY _ _=>by
    obtain⟨awh,aB,aA⟩:=kk.SW (dY.wb (bu:bD w (az X D st.sites) (.fn g bA) _));rw[h1] at aB;simp only[Value.func.injEq,Fn.func.injEq,true_and] at aB;have e:=congrArg Array.toList aB;simp only at e;rw[e];exact aA)
   simpa only[List.append_nil] using this
  ·exact .fail
 ·exact .fail
theorem ahB(S:ao O Y X D st M w){C:Ctx}(H:aW P C)(Z:ck st B.dst=true):Holds (step C st B) (cH P O Y X st M w B):=by
 unfold step;split
 ·rename_i x aG;exact Holds.ok (QZ S (.inl aG) Z _)
 ·rename_i x aG;exact Holds.ok (QZ S (.inr aG) Z _)
 ·rename_i c a b aG;split
  ·rename_i hc;exact Holds.ok (QR S aG Z hc)
  ·rename_i hc;exact Holds.ok (QR S aG Z hc)
  ·exact .fail
 ·rename_i elem aG;split
  ·rename_i o e t n dz bi;exact afj S H.toCtxOk bi aG Z
  ·rename_i o dz _;split
   ·rename_i z hz;exact Holds.fx (ahj S H.toCtxOk aG dz hz Z)
   ·exact .fail
  ·exact .fail
 ·rename_i elem x aG;split
  ·rename_i o e t n dz bi;exact ai1 S H.toCtxOk bi aG Z
  ·rename_i o dz _;split
   ·rename_i a ha;cases dH:hd a.cells with
    |false=>exact .fail
    |true=>
     have bu:=dy S C elem x;rw[pD ha] at bu;exact Holds.fx (akC S aG dz bu dH Z)
   ·exact .fail
  ·exact .fail
 ·rename_i t parts aG;split
  ·rename_i aJ n z eq bi;exact ahc S H.toCtxOk bi aG Z
  ·rename_i e ty n bi;split
   ·rename_i z hz;exact afg S H.toCtxOk bi hz aG Z
   ·exact .fail
  ·exact .fail
 ·rename_i t len parts aG;split
  ·rename_i o e ty bytes dz bi;cases hb:(parts.toList.length.beq len&&r4 0 parts.toList&&Nat.ble (len*aY ty) 1000) with
   |false=>exact .fail
   |true=>
    simp only[Bool.and_eq_true] at hb;obtain⟨⟨b1,b2⟩,b3⟩:=hb;simp only[cond_true];split
    ·rename_i as has;split
     ·rename_i xs us j4;exact Holds.fx (aaH S H.toCtxOk bi aG dz Z (Nat.eq_of_beq_eq_true b1) b2 (Nat.le_of_ble_eq_true b3) has j4)
     ·exact .fail
    ·exact .fail
  ·exact .fail
 ·rename_i t a aG;split
  ·rename_i e ty n bi;exact agI S H.toCtxOk bi aG Z
  ·cases hk:(C.tt t).known with
   |false=>exact .fail
   |true=>exact aiF S H.toCtxOk aG Z hk
 ·rename_i t a x aG;split
  ·rename_i v hv;split
   ·rename_i e ty n bi;exact adX S H.toCtxOk bi aG Z hv
   ·cases hk:(C.tt t).known with
    |false=>exact .fail
    |true=>exact afQ S H.toCtxOk aG Z hk hv
  ·exact .fail
 ·rename_i x aG;split
  ·rename_i hx;exact Holds.ok (DA S aG Z hx fun vv h=>by obtain⟨b,h,_⟩:=h;exact⟨_,h⟩)
  ·rename_i hx;exact Holds.ok (DA S aG Z hx fun vv h=>by obtain⟨b,B,h,_⟩:=h;exact⟨_,h⟩)
  ·rename_i hx;exact Holds.ok (DA S aG Z hx fun vv h=>by obtain⟨b,h,_⟩:=h;exact⟨_,h⟩)
  ·exact .fail
 ·rename_i op t x y mZ aG;cases hn:AO y with
  |true=>exact ae7 S H.toCtxOk aG Z hn
  |false=>exact ai4 S H.toCtxOk aG Z
 ·rename_i op t x aG;split
  ·rename_i b hx;exact Holds.ok (abv S aG Z hx)
  ·rename_i k n hx;exact Holds.ok (abw S aG Z hx)
  ·rename_i k n hx;exact Holds.ok (abu (T:=B.type) S aG Z hx)
  ·exact .fail
 ·rename_i src dst x aG;split
  ·rename_i o dz;exact ag9 S H.toCtxOk aG dz Z
  ·exact .fail
 ·rename_i fn first captured aG
  split
  ·rename_i g;cases hf:first.toList.isEmpty with
   |false=>exact .fail
   |true=>
    simp only[cond_true];split
    ·rename_i bA hc;exact Holds.ok (abS S aG Z hf hc)
    ·exact .fail
  ·exact .fail
 ·rename_i t l c aG;split
  ·rename_i o e ty bytes w0 n w1 m dz bi hl hc;split
   ·rename_i z hz;split
    ·rename_i ds us gB;split
     ·rename_i eP mQ;exact Holds.hF fun r hr=>aa5 S H.toCtxOk bi aG dz Z hl hc hz gB mQ r hr
     ·exact .fail
    ·exact .fail
   ·exact .fail
  ·exact .fail
 ·rename_i t x cT hi C_ aG;split
  ·split
   ·rename_i e ty n bi;exact ad1 S H.toCtxOk bi aG Z
   ·exact afV S H.toCtxOk aG Z
  ·exact .fail
 ·rename_i s x f aG;split
  ·rename_i aJ n z eq bi;split
   ·rename_i off LO hf;exact abh S H.toCtxOk bi aG Z hf
   ·exact .fail
  ·exact .fail
 ·rename_i t x i aG;split
  ·rename_i e ty bytes k n bi hi;exact abd S H.toCtxOk bi hi aG Z
  ·rename_i e ty m k n bi hi;exact aaD S H.toCtxOk bi hi aG Z
  ·exact .fail
 ·rename_i t x i aG;split
  ·rename_i s k n bi hx hi;exact agR S H.toCtxOk aG Z bi hx hi
  ·rename_i e ty m k n bi hi;exact aeZ S H.toCtxOk bi hi aG Z
  ·exact .fail
 ·rename_i t i aG;split
  ·rename_i as hx;split
   ·rename_i a ha;exact Holds.ok (ac3 S aG Z hx ha)
   ·exact .fail
  ·exact .fail
 ·rename_i c aG;split
  ·rename_i f hf;split
   ·exact Nn S H aG hf Z _ _
   ·exact Nn S H aG hf Z _ _
  ·rename_i b hb;obtain⟨callee,args,argTypes⟩:=c;simp only at hb aG ⊢;subst hb;split
   ·rename_i x t nG I2;have e1:args=#[x]:=Array.ext' nG;have e2:argTypes=#[t]:=Array.ext' I2;subst e1 e2;exact aki S H.toCtxOk aG Z
   ·rename_i o s x t u dz nG I2;have e1:args=#[s,x]:=Array.ext' nG;have e2:argTypes=#[t,u]:=Array.ext' I2;subst e1 e2;split
    ·rename_i bi gD;exact afi S H.toCtxOk bi gD aG dz Z
    ·rename_i bi gD;exact adk S H.toCtxOk bi gD aG dz Z
    ·exact .fail
   ·rename_i x y nG;have e1:args=#[x,y]:=Array.ext' nG;subst e1;split
    ·rename_i hx hy;exact Holds.ok (OF (sN:=true) S aG Z hx hy)
    ·exact .fail
   ·rename_i x y z u v nG;have e1:args=#[x,y,z,u,v]:=Array.ext' nG;subst e1;split
    ·rename_i hx hy hz hu hv;exact Holds.ok (aiD S aG Z hx hy hz hu hv)
    ·exact .fail
   ·rename_i x y nG;have e1:args=#[x,y]:=Array.ext' nG;subst e1;split
    ·rename_i hx hy;exact Holds.ok (OF (sN:=false) S aG Z hx hy)
    ·exact .fail
   ·exact .fail
  ·exact .fail
 ·exact acW S H.toCtxOk Z
end
section
variable {st al:aj}
theorem mn{o:Nat}(h:st.ab o=al.ab o)(s:Nat):rowOf st o s=rowOf al o s:=by unfold rowOf;rw[h]
theorem uf{o:Nat}(h:st.ab o=al.ab o)(s:Nat):fE st o s=fE al o s:=by unfold fE;rw[h]
theorem mm{o:Nat}(h:st.ab o=al.ab o):bp st o=bp al o:=by unfold bp;rw[h]
abbrev cF(st al:aj)(N:List Nat):Prop:=∀o,o∈N->st.ab o=al.ab o
theorem cF.left{N e7:List Nat}(h:cF st al (N++e7)):cF st al N:=fun o bq=>h o (List.mem_append.2 (.inl bq))
theorem cF.right{N e7:List Nat}(h:cF st al (N++e7)):cF st al e7:=fun o bq=>h o (List.mem_append.2 (.inr bq))
theorem cF.head{n:Nat}{e7:List Nat}(h:cF st al (n::e7)):st.ab n=al.ab n:=h n List.mem_cons_self
theorem cF.tail{n:Nat}{e7:List Nat}(h:cF st al (n::e7)):cF st al e7:=fun o bq=>h o (List.mem_cons_of_mem _ bq)
theorem rK{N:List Nat}(h:cF st al (eR st N)):cF st al N:=by
 induction N with
 |nil=>intro o bq;cases bq
 |cons n N ih=>
  intro o bq;rcases List.mem_cons.1 bq with rfl|bq
  ·exact h.head
  ·exact ih h.tail.right o bq
theorem PY{N:List Nat}(h:cF st al (eR st N)){o:Nat}(bq:o∈N):cF st al (xK st o):=by
 induction N with
 |nil=>cases bq
 |cons n N ih=>
  rcases List.mem_cons.1 bq with rfl|bq
  ·exact h.tail.left
  ·exact ih h.tail.right bq
theorem EB{N e7:List Nat}:eR st (N++e7)=eR st N++eR st e7:=by
 induction N with
 |nil=>rfl
 |cons n N ih=>simp[eR,ih]
theorem OX{l:aI}(h:cF st al l.names):jK st l=jK al l:=by
 cases l<;>try rfl
 case own o s=>simp only[jK,l2];rw[mn (h.head) s,h.head]
 case clo g bA=>cases bA<;>rfl
theorem xC{ag:List aI}(h:cF st al (dA ag)):fQ st ag=fQ al ag:=by
 induction ag with
 |nil=>rfl
 |cons l ag ih=>
  simp only[dA] at h;simp only[fQ,OX h.left,ih h.right]
theorem DF{o s:Nat}{cells:List aI}(h:fE st o s=some cells):xK st o=dA cells:=by
 unfold fE at h;cases hs:st.ab o with
 |none=>rw[hs] at h;cases h
 |some x=>
  rw[hs] at h;cases x with
  |box aD cs=>
   have h:(bif aD.beq s then some cs else none)=some cells:=h
   unfold xK;rw[hs];cases hb:aD.beq s with
   |true=>simp only[hb,cond_true,Option.some.injEq] at h;subst h;rfl
   |false=>simp[hb] at h
  |row _ _ _=>cases h
  |dh _ _ _=>cases h
  |map _ _ _=>cases h
  |dead _=>cases h
theorem abT{agg:Bool}{n:Nat}{a:aR}(h:cF st al a.names):sK agg n st a=sK agg n al a:=by
 unfold sK;split
 ·rename_i o s off;rw[uf (show st.ab o=al.ab o from h o (by simp[aR.names,bP.cells,dA,aI.names]))]
 ·rfl
 ·rename_i o s u k off;rw[mn (show st.ab o=al.ab o from h o (by simp[aR.names,bP.cells,dA,aI.names]))]
 ·rfl
theorem aaU{n:Nat}{a:aR}{v:bP}(h:cF st al a.names)(hv:cF st al (dA v.cells)):sh n st a v=sh n al a v:=by
 unfold sh;congr 1
 split
 ·rename_i o s off;rw[uf (show st.ab o=al.ab o from h o (by simp[aR.names,bP.cells,dA,aI.names]))]
 ·rename_i o s u k off;rw[show st.ab o=al.ab o from h o (by simp[aR.names,bP.cells,dA,aI.names]),xC hv]
 ·rfl
theorem _'{u:a7}{x:aR}{i:Int}(h:cF st al x.names):rA u st x i=rA u al x i:=by
 unfold rA;split
 ·rfl
 ·rename_i o s;rw[mn (show st.ab o=al.ab o from h o (by simp[aR.names,bP.cells,dA,aI.names]))]
 ·rfl
theorem aaX{ti:cd}{x:aR}{cT hi:Option aR}(h:cF st al x.names):sk ti st x cT hi=sk ti al x cT hi:=by
 unfold sk;split
 ·rfl
 ·rfl
 ·rfl
 ·rename_i o s;simp only[l2];rw[mn (show st.ab o=al.ab o from h o (by simp[aR.names,bP.cells,dA,aI.names])),show st.ab o=al.ab o from h o (by simp[aR.names,bP.cells,dA,aI.names])]
 ·rfl
theorem Nb{l:aI}(h:cF st al l.names):mapOf st l=mapOf al l:=by
 cases l<;>try rfl
 case own o s=>simp only[mapOf];rw[h.head]
 case d v=>cases v<;>rfl
theorem acY{ti:cd}{x:aR}(h:cF st al x.names):s3 ti st x=s3 ti al x:=by
 unfold s3;split<;>try rfl
 rotate_left
 ·rename_i l;rw[Nb (l:=l) (fun o bq=>h o (by simp[aR.names,bP.cells,dA,bq]))]
 rename_i o s;rw[mn (show st.ab o=al.ab o from h o (by simp[aR.names,bP.cells,dA,aI.names]))]
theorem abA{x:aR}(h:cF st al x.names):sE st x=sE al x:=by
 unfold sE;split<;>try rfl
 rename_i o s;rw[mn (show st.ab o=al.ab o from h o (by simp[aR.names,bP.cells,dA,aI.names]))]
theorem _5{o dst s:Nat}(Z:st.ab dst=al.ab dst):bp (st.ig o (.dead s)) dst=bp (al.ig o (.dead s)) dst:=by
 apply mm;rw[aj.xh,aj.xh,Z]
theorem MF{bytes:Nat}{t:a7}{dst:Nat}{s:aR}{bh:List (den t)}(h:cF st al s.names)(Z:st.ab dst=al.ab dst):p1 bytes t dst st s bh=p1 bytes t dst al s bh:=by
 unfold p1;split
 ·simp only[mm Z]
 ·rename_i o s;simp only[show st.ab o=al.ab o from h o (by simp[aR.names,bP.cells,dA,aI.names]),_5 Z]
 ·rfl
theorem aaI{bytes:Nat}{t:a7}{dst:Nat}{s x:aR}(h:cF st al s.names)(hx:cF st al x.names)(Z:st.ab dst=al.ab dst):sf bytes t dst st s x=sf bytes t dst al s x:=by
 unfold sf;rw[abA hx];split
 ·rfl
 ·split
  ·split
   ·exact MF h Z
   ·rfl
  ·rfl
theorem aaJ{bytes:Nat}{t:a7}{dst:Nat}{s x:aR}(h:cF st al s.names)(Z:st.ab dst=al.ab dst):sg bytes t dst st s x=sg bytes t dst al s x:=by
 unfold sg;split
 ·split
  ·exact MF h Z
  ·rfl
 ·rfl
theorem NG{o:Nat}{t:a7}{n:Nat}{xs:List (den t)}(Z:st.ab o=al.ab o):qn o st t n xs=qn o al t n xs:=by
 unfold qn;rw[mm Z]
theorem abk{o:Nat}{t:a7}{n:Nat}(Z:st.ab o=al.ab o):sB o st t n=sB o al t n:=by
 unfold sB;split<;>first|exact NG Z|rfl
theorem adh{o:Nat}{t:a7}{n:Nat}{v:aR}(Z:st.ab o=al.ab o):ta o st t n v=ta o al t n v:=by
 unfold ta;split
 ·split<;>first|exact NG Z|rfl
 ·rfl
theorem abU{t:a7}{n:Nat}{a:aR}(h:cF st al a.names):sL st t n a=sL al t n a:=by
 unfold sL;split
 ·rename_i o s u;rw[mn (show st.ab o=al.ab o from h o (by simp[aR.names,bP.cells,dA,aI.names]))]
 ·rfl
theorem aaV{t:a7}{n:Nat}{a:aR}{v:bP}(h:cF st al a.names):si st t n a v=si al t n a v:=by
 unfold si;split
 ·rename_i o s u ag;rw[show st.ab o=al.ab o from h o (by simp[aR.names,bP.cells,dA,aI.names])]
 ·rfl
theorem aaa{C:Ctx}{t:a7}{n:Nat}{x:aR}{i:Int}(h:cF st al x.names):rB C st t n x i=rB C al t n x i:=by
 unfold rB;split
 ·rename_i o s u;rw[mn (show st.ab o=al.ab o from h o (by simp[aR.names,bP.cells,dA,aI.names]))]
 ·rfl
 ·rfl
theorem aaY{t:a7}{n:Nat}{x:aR}{cT hi:Option aR}(h:cF st al x.names):sn st t n x cT hi=sn al t n x cT hi:=by
 unfold sn;split
 ·rename_i o s u;simp only[l2];rw[mn (show st.ab o=al.ab o from h o (by simp[aR.names,bP.cells,dA,aI.names])),show st.ab o=al.ab o from h o (by simp[aR.names,bP.cells,dA,aI.names])]
 ·rfl
theorem ada{t:a7}{as:List bP}(h:cF st al (rU as)):lm t st as=lm t al as:=by
 induction as with
 |nil=>rfl
 |cons a as ih=>
  simp only[rU] at h;simp only[lm,xC h.left,ih h.right]
theorem ab7{C:Ctx}{src dst:TypeId}{o:Nat}{x:aR}(h:cF st al x.names)(Z:st.ab o=al.ab o):sT C src dst o st x=sT C src dst o al x:=by
 unfold sT;split<;>try rfl
 ·rename_i aa s _ _;rw[mn (show st.ab aa=al.ab aa from h aa (by simp[aR.names,bP.cells,dA,aI.names]))]
 ·rw[mm Z]
theorem MQ{bA:List (Nat×Nat)}(h:cF st al (eR st (keys bA))):k5 st bA=k5 al bA:=by
 induction bA with
 |nil=>rfl
 |cons p bA ih=>
  obtain⟨o,s⟩:=p;simp only[keys,eR] at h;simp only[k5];rw[<-uf h.head,<-ih h.tail.right];cases hb:fE st o s with
  |none=>rfl
  |some cells=>
   have:=h.tail.left;rw[DF hb] at this;simp only[xC this]
theorem DJ{l:aI}(h:cF st al (eR st l.names)):mG st l=mG al l:=by
 have Z:=OX (rK h);unfold mG;split
 ·rfl
 ·rename_i g c cs;simp only[aI.names] at h;rw[MQ h]
 ·rw[Z]
theorem abW{ag:List aI}(h:cF st al (eR st (dA ag))):lQ st ag=lQ al ag:=by
 induction ag with
 |nil=>rfl
 |cons l ag ih=>
  simp only[dA,EB] at h;simp only[lQ,DJ h.left,ih h.right]
theorem Nh{l:aI}(h:cF st al l.names):nH st l=nH al l:=by
 unfold nH;split<;>try rfl
 rename_i o s;rw[show st.ab o=al.ab o from h.head]
theorem ac2{ag:List aI}(h:cF st al (dA ag)):ku st ag=ku al ag:=by
 induction ag with
 |nil=>rfl
 |cons l ag ih=>
  simp only[dA] at h;simp only[ku,Nh h.left,ih h.right]
def gH:List aR->List Nat
 |[]=>[]
 |v::vs=>v.names++gH vs
theorem MM{vs:List aR}(h:cF st al (eR st (gH vs))):i_ st vs=i_ al vs:=by
 induction vs with
 |nil=>rfl
 |cons v vs ih=>
  simp only[gH,EB] at h;have ih:=ih h.right;have h:=h.left;cases v with
  |jF as=>rfl
  |av a=>
   cases a with
   |agg ag=>
    simp only[i_];rw[abW (by simpa[aR.names,bP.cells] using h),ih]
   |ak l=>
    have hl:cF st al (eR st l.names):=by simpa[aR.names,bP.cells,dA] using h
    unfold i_;split
    ·rfl
    ·rename_i o s aqQ b5;cases b5;have hl:cF st al (eR st [o]):=by simpa[aR.names,bP.cells,dA,aI.names] using h
     simp only[eR] at hl;rw[<-uf hl.head,<-ih];cases hb:fE st o s with
     |none=>rfl
     |some cells=>
      have:=hl.tail.left;rw[DF hb] at this;cases i_ st vs with
      |none=>rfl
      |some r=>simp only[ac2 this]
    ·rename_i gm aqQ _ b5;cases b5;rw[DJ hl,ih]
    ·rename_i b5;cases b5
    ·rfl
theorem abg{l:aI}(h:cF st al (eR st l.names)):oE st l=oE al l:=by
 unfold oE;split
 ·rw[Nh (rK h)]
 ·rfl
 ·rw[DJ h]
theorem aaA{vs:List aR}(h:cF st al (eR st (gH vs))):lK st vs=lK al vs:=by
 induction vs with
 |nil=>rfl
 |cons v vs ih=>
  simp only[gH,EB] at h;have ih:=ih h.right;have h:=h.left;cases v with
  |jF as=>rfl
  |av a=>
   cases a with
   |agg ag=>rfl
   |ak l=>
    have hl:cF st al (eR st l.names):=by simpa[aR.names,bP.cells,dA] using h
    simp only[lK,abg hl,ih]
theorem aaz{b:Bool}{vs:List aR}(h:cF st al (eR st (gH vs))):rZ b st vs=rZ b al vs:=by
 cases b
 ·exact MM h
 ·exact aaA h
theorem ue(hb:∀o,1000000<=o->st.ab o=al.ab o){o:Nat}(h:1000000<=o):bp st o=bp al o:=mm (hb o h)
theorem DG(hb:∀o,1000000<=o->st.ab o=al.ab o):∀{ag:List aI} {n:Nat},1000000<=n->take st n ag=take al n ag:=by
 intro ag;induction ag with
 |nil=>intro n _;rfl
 |cons l ag ih=>
  intro n hn;cases l<;>simp only[take,ih (show 1000000<=n+1 by omega),ue hb hn]
theorem aby(hb:∀o,1000000<=o->st.ab o=al.ab o):∀{as:List bP} {n:Nat},1000000<=n->dT st n as=dT al n as:=by
 intro as;induction as with
 |nil=>intro n _;rfl
 |cons a as ih=>
  intro n hn;cases a with
  |ak l=>simp only[dT];rw[DG hb hn,ih (show 1000000<=n+100 by omega)]
  |agg ag=>simp only[dT];rw[DG hb hn,ih (show 1000000<=n+100 by omega)]
theorem abx(hb:∀o,1000000<=o->st.ab o=al.ab o):∀{bs:List (Nat×Nat)} {cN:List (List aI)},gM st bs cN=gM al bs cN:=by
 intro bs;induction bs with
 |nil=>intro cN;cases cN<;>rfl
 |cons p bs ih=>
  obtain⟨o,s⟩:=p;intro cN;cases cN with
  |nil=>rfl
  |cons cs cN=>simp only[gM];rw[DG hb (by omega),ih]
theorem Nl(hb:∀o,1000000<=o->st.ab o=al.ab o){dst:Nat}{S:aF}{a:j6}:oO dst st S a=oO dst al S a:=by
 unfold oO;simp only[abx hb,aby hb (show 1000000<=2000000+dst*10000 by omega)]
theorem aaW{g:FuncId}{n:Nat}{vs:List aR}(hb:∀o,1000000<=o->st.ab o=al.ab o)(hn:1000000<=n):sj g n st vs=sj g n al vs:=by
 unfold sj;rw[ue hb hn,ue hb (show 1000000<=n+1 by omega),ue hb (show 1000000<=n+2 by omega)]
theorem abN{n:Nat}{vs:List aR}(hb:∀o,1000000<=o->st.ab o=al.ab o)(hn:1000000<=n):sH n st vs=sH n al vs:=by
 unfold sH;rw[ue hb hn]
theorem ab6{vs:List aR}(h:cF st al (eR st (gH vs))):copyV st vs=copyV al vs:=by
 unfold copyV;split
 ·rename_i o s;rw[show st.ab o=al.ab o from rK h o (by simp[gH,aR.names,bP.cells,dA,aI.names])]
 ·rfl
theorem aaw{vs:List aR}(h:cF st al (eR st (gH vs))):rX st vs=rX al vs:=by
 unfold rX;split
 ·rename_i o s;have h0:o∈gH [aR.av (.ak (.ptr o s 0))]:=by simp[gH,aR.names,bP.cells,dA,aI.names]
  rw[<-uf (rK h o h0)];split
  ·rfl
  ·rename_i _F aa u hb;have:=PY h h0;rw[DF hb] at this;rw[show st.ab aa=al.ab aa from this aa (by simp[dA,aI.names])]
  ·rfl
 ·rfl
theorem MC{C:Ctx}(hb:∀o,1000000<=o->st.ab o=al.ab o){dst:Nat}{f:aR}{vs:List aR}(hf:cF st al (eR st f.names))(h:cF st al (eR st (gH vs))):lJ C dst st f vs=lJ C dst al f vs:=by
 unfold lJ;split
 ·rename_i g bA;have:cF st al (eR st (keys bA)):=by simpa[aR.names,bP.cells,dA,aI.names] using hf
  simp only[aaz h,MQ this,Nl hb,aaW hb (show 1000000<=3000000+dst*10 by omega),abN hb (show 1000000<=4000000+dst by omega),ab6 h,aaw h]
 ·simp only[MM h,Nl hb]
 ·rfl
theorem ag0{C:Ctx}{x:Operand}{T:TypeId}(h:∀t,x=.tmp t->st.get t=al.get t):a8 C st T x=a8 C al T x:=by
 cases x with
 |tmp t=>exact h t rfl
 |_=>rfl
theorem aaG{ti:cd}{v:Value}:(uU ti v).names=[]:=by
 unfold uU;split<;>try rfl
 all_goals(split<;>rfl)
theorem yM{C:Ctx}{x:Operand}{T:TypeId}:∀{xs:List Operand},x∈xs->∀o,o∈(a8 C st T x).names->o∈nr st xs:=by
 intro xs;induction xs with
 |nil=>intro h;cases h
 |cons y xs ih=>
  intro h o bq;rcases List.mem_cons.1 h with rfl|h
  ·cases x with
   |tmp t=>simp only[nr];exact List.mem_append.2 (.inl bq)
   |const v=>simp only[a8,aaG] at bq;cases bq
   |global g=>simp[a8,aR.names,bP.cells,dA,aI.names,b0] at bq
   |func g=>simp[a8,aR.names,bP.cells,dA,aI.names,b0,keys] at bq
  ·have:=ih h o bq;cases y<;>simp only[nr]<;>first|exact List.mem_append.2 (.inr this)|exact this
theorem abO{t:Nat}:∀{xs:List Operand},.tmp t∈xs->t∈ou xs:=by
 intro xs;induction xs with
 |nil=>intro h;cases h
 |cons y xs ih=>
  intro h;rcases List.mem_cons.1 h with h|h
  ·subst h;simp only[ou];exact List.mem_cons_self
  ·have:=ih h;cases y<;>simp only[ou]<;>first|exact List.mem_cons_of_mem _ this|exact this
theorem NQ{v:aR}{a:bP}(h:l3 v=some a):dA a.cells=v.names:=by
 cases v with
 |av b=>simp only[l3,Option.some.injEq] at h;subst h;rfl
 |jF _=>cases h
theorem aca{vs:List aR}:∀{as:List bP},nJ vs=some as->∀o,o∈rU as->o∈gH vs:=by
 induction vs with
 |nil=>intro as h;simp only[nJ,Option.some.injEq] at h;subst h;intro o bq;cases bq
 |cons v vs ih=>
  intro as h o bq;simp only[nJ] at h;split at h
  ·rename_i a n' h1 h2;simp only[Option.some.injEq] at h;subst h;simp only[rU,List.mem_append] at bq;simp only[gH,List.mem_append];rcases bq with bq|bq
   ·exact .inl (by rw[NQ h1] at bq;exact bq)
   ·exact .inr (ih h2 o bq)
  ·cases h
end
theorem acy{C:Ctx}{st al:aj}{B:Oper}(hs:∀t,t∈ou (k8 B.op)->st.get t=al.get t)(hn:cF st al (It C st B))(hb:AP B.op=true->∀o,1000000<=o->st.ab o=al.ab o):
  step C st B=step C al B:=by
 have he:∀x,x∈k8 B.op->∀T,a8 C st T x=a8 C al T x:=fun x hx T=>ag0 fun t aq=>hs t (abO (aq▸hx))
 have VK:looks B.op=true->cF st al (eR st (nr st (k8 B.op))):=fun h=>by have:=hn.left.left;rw[h] at this;exact this
 have VB:looks B.op=true->∀x,x∈k8 B.op->∀T,cF st al (a8 C st T x).names:=fun hl x hx T o bq=>rK (VK hl) o (yM hx o bq)
 have Si:looks B.op=true->∀N:List Nat,(∀o,o∈N->o∈nr st (k8 B.op))->cF st al (eR st N):=by
  intro hl N;have Za:=VK hl;induction N with
  |nil=>intro _ o bq;cases bq
  |cons n N ih=>
   intro h o bq;simp only[eR,List.mem_cons,List.mem_append] at bq;rcases bq with rfl|bq|bq
   ·exact rK Za o (h o List.mem_cons_self)
   ·exact PY Za (h n List.mem_cons_self) o bq
   ·exact ih (fun aa bS=>h aa (List.mem_cons_of_mem _ bS)) o bq
 have Z:∀d,B.dst=some d->st.ab d=al.ab d:=fun d h=>hn.left.right d (by simp[h])
 have hz:cF st al (Ih C B.op):=hn.right;obtain⟨dst,op,type,pos,after,guard⟩:=B;simp only at he VB Si Z hb hz;cases op<;>(try have gW:=VB rfl)<;>(try have Ir:=Si rfl)<;>(try simp only[k8,List.mem_cons,List.not_mem_nil,or_false,forall_eq_or_imp,forall_eq] at he)<;>
  (try simp only[k8,List.mem_cons,List.not_mem_nil,or_false,forall_eq_or_imp,forall_eq] at gW)<;>simp only[step]<;>try rfl
 case move x=>rw[he]
 case assign x=>rw[he]
 case makeMap t r=>
  simp only[k3];cases dst with
  |none=>rfl
  |some o=>
   have e:=mm (Z o rfl);cases C.tt t<;>try rfl
   cases r with
   |none=>simp only[e]
   |some x=>simp only[he x (by simp[k8]),e]
 case lookup t m k c=>
  simp only[k3];rw[he.1,he.2];have h1:=gW.1 t;rw[he.1] at h1;generalize a8 C al t m=_v at h1 ⊢;split
  ·rename_i l n _ _;rw[Nb (l:=l) (fun o bq=>h1 o (by simp[aR.names,bP.cells,dA,bq]))]
  ·rfl
 case mapUpdate t m k x=>
  simp only[k3,k3.ss];rw[he.1,he.2.1,he.2.2];have h1:=gW.1 t;rw[he.1] at h1;generalize a8 C al t m=_v at h1 ⊢;split
  ·rename_i o s n d _ _ _;rw[show st.ab o=al.ab o from h1 o (by simp[aR.names,bP.cells,dA,aI.names])]
  ·rfl
 case insert t m k x=>
  simp only[k3,k3.ss];rw[he.1,he.2.1,he.2.2];have h1:=gW.1 t;rw[he.1] at h1;generalize a8 C al t m=_v at h1 ⊢;split
  ·rename_i o s n d _ _ _;rw[show st.ab o=al.ab o from h1 o (by simp[aR.names,bP.cells,dA,aI.names])]
  ·rfl
 case pick c a b=>rw[he.1,he.2.1,he.2.2]
 case alloc elem=>
  cases dst with
  |none=>rfl
  |some o=>
   have e:=mm (Z o rfl);cases bi:C.tt elem with
   |arr _ t n=>exact abk (Z o rfl)
   |_=>simp only[e]
 case box elem x=>
  rw[he];cases dst with
  |none=>rfl
  |some o=>
   have e:=mm (Z o rfl);cases bi:C.tt elem with
   |arr _ t n=>exact adh (Z o rfl)
   |_=>simp only[e]
 case build t ps=>
  have go:∀(aJ:List (Nat×Nat)) (r:List (Nat×Operand)) (z:List aI),(∀x,x∈r.map (·.2)->∀T,a8 C st T x=a8 C al T x)->step.mz C st aJ z r=step.mz C al aJ z r:=by
    intro aJ r;induction r with
    |nil=>intro z _;rfl
    |cons p r ih=>
     obtain⟨i,x⟩:=p;intro z h;simp only[step.mz];rw[h x (by simp)]
     split
     ·rw[ih _ fun x hx=>h x (by simp only[List.map_cons,List.mem_cons];exact .inr hx)]
     ·rfl
  split
  ·exact go _ _ _ he
  ·split
   ·exact go _ _ _ he
   ·rfl
  ·rfl
 case buildSlice t len ps=>
  cases dst with
  |none=>rfl
  |some o=>
   cases h2:C.tt t<;>try rfl
   rename_i e ty bytes;simp only;have h1:some o=some o:=rfl;have em:(ps.toList.map fun p=>a8 C st e p.2)=ps.toList.map fun p=>a8 C al e p.2:=by
    apply List.map_congr_left;intro p hp;exact he _ (List.mem_map.2 ⟨p,hp,rfl⟩) e
   have kC:cF st al (gH (ps.toList.map fun p=>a8 C st e p.2)):=by
    have:∀l:List (Nat×Operand),(∀p,p∈l->p∈ps.toList)->cF st al (gH (l.map fun p=>a8 C st e p.2)):=by
     intro l;induction l with
     |nil=>intro _ o bq;cases bq
     |cons p l ih=>
      intro h o bq;simp only[List.map_cons,gH,List.mem_append] at bq;rcases bq with bq|bq
      ·exact gW _ (List.mem_map.2 ⟨p,h p List.mem_cons_self,rfl⟩) e o bq
      ·exact ih (fun q au=>h q (List.mem_cons_of_mem _ au)) o bq
    exact this _ fun _ h=>h
   rw[<-em,mm (Z o h1)];congr 1
   split
   ·rename_i as has;rw[ada fun aa bS=>kC aa (aca has aa bS)]
   ·rfl
 case load t a=>
  rw[<-he];split
  ·exact abU (gW _)
  ·rw[abT (gW _)]
 case store t a x=>
  rw[<-he.1,<-he.2];split
  ·rename_i v hv;split
   ·exact aaV (gW.1 _)
   ·rw[aaU (gW.1 _) (by rw[NQ hv];exact gW.2 _)]
  ·rfl
 case nilCheck x=>rw[he]
 case makeInterface t x=>simp only[k3];rw[he]
 case binOp op t x y ty=>rw[he.1,he.2]
 case unOp op t x=>rw[he]
 case convert src awW x=>
  cases dst with
  |none=>rfl
  |some o=>simp only;rw[<-he,ab7 (gW _) (Z o rfl)]
 case makeFunc fn first captured=>
  split
  ·rename_i g;have go:∀(r:List Operand),(∀x,x∈r->∀T,a8 C st T x=a8 C al T x)->step.nI C st r=step.nI C al r:=by
    intro r;induction r with
    |nil=>intro _;rfl
    |cons x r ih=>
     intro h;simp only[step.nI];rw[h x (by simp),ih fun x hx=>h x (List.mem_cons_of_mem _ hx)]
   rw[go _ he]
  ·rfl
 case makeSlice t l c=>
  rw[<-he.1,<-he.2];cases dst with
  |none=>rfl
  |some o=>
   cases h2:C.tt t<;>try rfl
   rename_i e ty bytes;simp only[Ih,h2] at hz;have e1:=mm (Z o rfl);have e2:∀z,(C.tt e).zero=some z->fQ st z=fQ al z:=fun z hzz=>by
    simp only[hzz] at hz;exact xC hz
   generalize a8 C st 0 l=dX;generalize a8 C st 0 c=fJ;have da:∀n m aB aA,dX=.av (.ak (.d (.int aB n)))->fJ=.av (.ak (.d (.int aA m)))->
     (match(C.tt e).zero with
      |some z=>match fQ st z with
       |some (ds,_)=>match dec ty ds with
        |some eP=>de.hF (jj bytes n m eP) (fun _=>b0 (.own o (bp st o))) fun r=>[(o,.row (bp st o) ty r)]
        |none=>.fail
       |none=>.fail
      |none=>.fail)=(match(C.tt e).zero with
      |some z=>match fQ al z with
       |some (ds,_)=>match dec ty ds with
        |some eP=>de.hF (jj bytes n m eP) (fun _=>b0 (.own o (bp al o))) fun r=>[(o,.row (bp al o) ty r)]
        |none=>.fail
       |none=>.fail
      |none=>.fail):=by
    intro n m aB aA _ _;cases hzz:(C.tt e).zero with
    |none=>rfl
    |some z=>simp only[e2 z hzz,e1]
   rcases dX with(ec|_)|_<;>try rfl
   cases ec<;>try rfl
   rename_i d1;cases d1<;>try rfl
   rcases fJ with(gC|_)|_<;>try rfl
   cases gC<;>try rfl
   rename_i d2;cases d2<;>try rfl
   exact da _ _ _ _ rfl rfl
 case slice t x cT hi C_=>
  cases C_ with
  |some _=>rfl
  |none=>
   simp only;have e1:cT.map (a8 C st 0)=cT.map (a8 C al 0):=by
    cases cT with
    |none=>rfl
    |some y=>simp only[Option.map_some];rw[he.2 y (by simp)]
   have e2:hi.map (a8 C st 0)=hi.map (a8 C al 0):=by
    cases hi with
    |none=>rfl
    |some y=>simp only[Option.map_some];rw[he.2 y (by simp)]
   rw[<-he.1,e1,e2];split
   ·exact aaY (gW.1 _)
   ·exact aaX (gW.1 _)
 case fieldAddr s x f=>rw[he]
 case indexAddr t x i=>
  rw[<-he.1,<-he.2];split
  ·rw[_' (gW.1 _)]
  ·rw[aaa (gW.1 _)]
  ·rfl
 case index t x i=>rw[he.1,he.2]
 case extract t i=>rw[he]
 case call c=>
  obtain⟨asY,args,J8⟩:=c;simp only;cases asY with
  |invoke r m=>rfl
  |value f=>
   simp only[k8,List.mem_append,List.mem_cons,List.not_mem_nil,or_false] at Ir;simp only[AP,forall_const] at hb;simp only[List.mem_append,List.mem_cons,List.not_mem_nil,or_false] at he;have em:∀(xs:List Operand) (cW:List TypeId),(∀x,x∈xs->∀T,a8 C st T x=a8 C al T x)->gi C st xs cW=gi C al xs cW:=by
    intro xs;induction xs with
    |nil=>intro cW _;cases cW<;>rfl
    |cons x xs ih=>
     intro cW h;cases cW with
     |nil=>simp only[gi];rw[h x (by simp),ih [] fun y hy=>h y (List.mem_cons_of_mem _ hy)]
     |cons T cW=>simp only[gi];rw[h x (by simp),ih cW fun y hy=>h y (List.mem_cons_of_mem _ hy)]
   have Dc:∀(xs bh:List Operand) (cW:List TypeId),(∀x,x∈xs->x∈bh)->∀o,o∈gH (gi C st xs cW)->o∈nr st bh:=by
    intro xs bh;induction xs with
    |nil=>intro cW _ o bq;cases cW<;>cases bq
    |cons x xs ih=>
     intro cW h o bq;cases cW with
     |nil=>
      simp only[gi,gH,List.mem_append] at bq;rcases bq with bq|bq
      ·exact yM (h x List.mem_cons_self) o bq
      ·exact ih [] (fun y hy=>h y (List.mem_cons_of_mem _ hy)) o bq
     |cons T cW=>
      simp only[gi,gH,List.mem_append] at bq;rcases bq with bq|bq
      ·exact yM (h x List.mem_cons_self) o bq
      ·exact ih cW (fun y hy=>h y (List.mem_cons_of_mem _ hy)) o bq
   have h1:cF st al (eR st (a8 C st 0 f).names):=Ir _ fun o bq=>yM (List.mem_append.2 (.inl (by simp))) o bq
   have h2:cF st al (eR st (gH (gi C st args.toList J8.toList))):=Ir _ fun o bq=>Dc _ _ _ (fun x hx=>List.mem_append.2 (.inr hx)) o bq
   have h3:=he f (.inl rfl) 0;have ay:=em args.toList J8.toList fun x hx=>he x (.inr hx)
   cases dst with
   |none=>show lJ C 0 st _ _=lJ C 0 al _ _;rw[<-h3,<-ay];exact MC hb h1 h2
   |some d=>show lJ C d st _ _=lJ C d al _ _;rw[<-h3,<-ay];exact MC hb h1 h2
  |builtin b=>
   simp only[List.nil_append] at he gW;generalize args.toList=xs at he gW;generalize J8.toList=ce;cases b<;>try rfl
   case append=>
    rcases dst with _|o
    ·rfl
    rcases xs with _|⟨s,_|⟨x,_|_⟩⟩<;>try rfl
    rcases ce with _|⟨t,_|⟨u,_|_⟩⟩<;>try rfl
    have e1:=he s (by simp) t
    have e2:=he x (by simp) u
    dsimp only;cases C.tt t<;>try rfl
    cases C.tt u<;>try rfl
    all_goals dsimp only
    all_goals rw[<-e1,<-e2]
    all_goals first|exact aaI (gW s (by simp) _) (gW x (by simp) _) (Z o rfl)|exact aaJ (gW s (by simp) _) (Z o rfl)
   case len=>
    rcases xs with _|⟨s,_|⟨x,_|_⟩⟩<;>try rfl
    rcases ce with _|⟨t,_|⟨u,_|_⟩⟩<;>try rfl
    have e1:=he s (by simp) t
    dsimp only;rw[<-e1];exact acY (gW s (by simp) _)
   case max=>
    rcases xs with _|⟨s,_|⟨x,_|⟨z,_|⟨u,_|⟨v,_|_⟩⟩⟩⟩⟩<;>try rfl
    ·have e1:=he s (by simp) type
     have e2:=he x (by simp) type
     dsimp only;rw[<-e1,<-e2]
    ·have e1:=he s (by simp) type
     have e2:=he x (by simp) type
     have bz:=he z (by simp) type
     have da:=he u (by simp) type
     have gp:=he v (by simp) type
     dsimp only;rw[<-e1,<-e2,<-bz,<-da,<-gp]
   case min=>
    rcases xs with _|⟨s,_|⟨x,_|_⟩⟩<;>try rfl
    have e1:=he s (by simp) type
    have e2:=he x (by simp) type
    dsimp only;rw[<-e1,<-e2]
def eE(r:Option Nat):Fence:={Fence.wide with round:=r}
abbrev fW(r:Option Nat)(P:Program)(c:Code)(Q:Exit->Act->World->Prop)(a:Act)(w:World):Prop:=c.wpIn (eE r) 0 P Q a w
theorem BK(r:Option Nat)(f:FuncId):(eE r).fn f:=trivial
theorem Ro(r:Option Nat)(n:Nat):(eE r).room n:=fun _ h=>by simp[eE,Fence.wide] at h
theorem fW.any{r:Option Nat}{P:Program}{c:Code}{Q:Exit->Act->World->Prop}{a:Act}{w:World}(h:fW r P c Q a w)(n:Nat):c.wpIn (eE r) n P Q a w:=
 fun b k cs KA hb _=>h b k cs KA hb (Ro r _)
theorem fW.of{r:Option Nat}{P:Program}{c:Code}{Q:Exit->Act->World->Prop}{a:Act}{w:World}{n:Nat}(h:c.wpIn (eE r) n P Q a w):fW r P c Q a w:=
 fun b k cs KA hb _=>h b k cs KA hb (Ro r _)
theorem fW.wp{P:Program}{c:Code}{Q:Exit->Act->World->Prop}{a:Act}{w:World}(h:fW none P c Q a w):c.wp P Q a w:=(wpIn_wide (n:=0)).1 h
theorem adf{r:Option Nat}{n:Nat}{P:Program}{f:FuncId}{args:Array Value}{w:World}{R:Ending->World->Prop}(h:Calls P f args w R):CallsIn (eE r) n P f args w R:=by
 cases r with
 |none=>exact callsIn_wide.2 h
 |some l=>exact CallsIn.inRound l (callsIn_wide.2 h)
theorem ad9{r:Option Nat}{n:Nat}{P:Program}{row:String}{args:Array Value}{w:World}{R:Value->World->Prop}(h:Rows P row args w R):RowsIn (eE r) n P row args w R:=by
 intro c cs _;obtain⟨v,w',hr,hs⟩:=h c cs;exact⟨v,w',hr,stepsIn_wide.2 hs⟩
theorem ux(M:Array Value)(ds:List Deferred)(dst:Option Nat)(v:Value):(⟨M,ds⟩:Act).put dst v=⟨cB M dst v,ds⟩:=by cases dst<;>rfl
theorem Io{P:Program}{B:Oper}{M:Array Value}{w:World}{K:Act->World->Prop}(bR:∀a w,K a w->a.defers=[])(h:B.wp P ⟨M,[]⟩ w K (fun _ _ _=>False))(r:Option Nat)(ds:List Deferred){Q:Exit->Act->World->Prop}:
  B.wpIn (eE r) 0 P ⟨M,ds⟩ w (fun cP w'=>∃v,cP=⟨cB M B.dst v,ds⟩/\K ⟨cB M B.dst v,[]⟩ w') Q:=by
 refine⟨fun f _=>BK r f,?_⟩
 have bu:(⟨M,ds⟩:Act).eval=(⟨M,[]⟩:Act).eval:=by funext x;cases x<;>rfl
 rw[bu];unfold Oper.wp at h;have Z:∀c,B.op≠.defer c:=by
  intro c aG;have:(execOp (Act.eval ⟨M,[]⟩) B)=(do let d <-resolve (Act.eval ⟨M,[]⟩) c B.type;pure (.defer d)):=by
   unfold execOp;simp only[aG]
  rw[this] at h;simp only[Sem.run_bind] at h;cases hr:(resolve (Act.eval ⟨M,[]⟩) c B.type).run P w with
  |ok d w'=>
   rw[hr] at h;simp only[Result.andThen_ok,Sem.run_pure,Oper.upon] at h;have:=bR _ _ h;cases dz:B.dst<;>rw[dz] at this<;>simp[Act.put] at this
  |halt x w'=>
   rw[hr] at h;cases x<;>simp[Result.andThen,Oper.upon] at h
 rw[Oper.semAt_eq _ _ _ Z];generalize(execOp (Act.eval ⟨M,[]⟩) B).run P w=fb at h;have hp:∀v,(⟨M,ds⟩:Act).put B.dst v=⟨cB M B.dst v,ds⟩:=ux M ds B.dst;have qK:∀v,(⟨M,[]⟩:Act).put B.dst v=⟨cB M B.dst v,[]⟩:=ux M [] B.dst;cases fb with
 |ok x w'=>
  cases x with
  |value v=>simp only[Oper.upon,Oper.uponIn,qK] at h ⊢;exact⟨v,hp v,h⟩
  |skip=>simp only[Oper.upon,Oper.uponIn,qK] at h ⊢;exact⟨undef,hp _,h⟩
  |defer d=>
   simp only[Oper.upon] at h;have:=bR _ _ h;cases dz:B.dst<;>rw[dz] at this<;>simp[Act.put] at this
  |enter f args=>
   simp only[Oper.upon,Oper.uponIn] at h ⊢;refine⟨fun h=>by simp[eE,Fence.wide] at h,(adf h).mono fun e Ck he=>?_⟩
   cases e with
   |returned v=>simp only[qK] at he;exact⟨v,hp v,he⟩
   |panicked c=>exact he.elim
   |outgrown=>obtain⟨a0,O,au⟩:=he;exact au.elim
  |row row args=>
   simp only[Oper.upon,Oper.uponIn] at h ⊢;refine⟨fun h=>by simp[eE,Fence.wide] at h,(ad9 h).mono fun v Ck he=>?_⟩
   simp only[qK] at he;exact⟨v,hp v,he⟩
  |_=>simp only[Oper.upon] at h
 |halt x w'=>
  cases x<;>simp only[Oper.upon] at h
def io:List Oper->List Nat
 |[]=>[]
 |B::r=>B.dst.toList++io r
def hh:Nat:=1000000000
def cr:Code->List Nat
 |.region _ ops _=>io ops.toList
 |.seq a b|.cond _ a b=>cr a++cr b
 |.block _ a|.loop a=>cr a
 |.rangeFunc _ ps a b=>hh::(ps.toList++(cr a++cr b))
 |_=>[]
def gI:Code->Bool
 |.seq a b|.cond _ a b=>gI a&&gI b
 |.block _ a|.loop a=>gI a
 |.rangeFunc _ _ _ _=>false
 |_=>true
def mark(a':Nat):Deferred:={target:=.collected a',args:=#[]}
structure h9(O:World)(Y:List Nat)(X:Nat->Prop)(aS:World)(dC:List Nat)(c7:Nat->Prop):Prop where
 cG:∀w,Fr dC aS w->Fr Y O w
 cl:∀b,(b∈dC\/aS.heap.size<=b)->(b∈Y\/O.heap.size<=b)
 x:∀b,X b->c7 b
structure Marks(O:World)(dD:List Nat)(aS:World)(dC:List Nat)(c7:Nat->Prop):Prop where
 nodup:dD.Nodup
 new:∀a',a'∈dD->O.heap.size<=a'
 g':∀a',a'∈dD->aS.heap[a']? =some (.deferred (some []))/\a'∉dC/\c7 a'
def eu(O:World)(Y:List Nat)(X:Nat->Prop)(ds:List Deferred)(eH:Array Value)(W:List Nat)(st:aj)(a:Act)(w:World):Prop:=
 ∃aS dC c7 D dD,h9 O Y X aS dC c7/\Marks O dD aS dC c7/\(a.defers=dD.map mark++ds/\(hh∉W->dD=[]))/\ao aS dC c7 D st a.tmps w/\∀t,t∉W->a.tmps.getD t undef=eH.getD t undef
def e8(O:World)(Y:List Nat)(X:Nat->Prop)(ds:List Deferred)(eH:Array Value)(W:List Nat):Out->Exit->Act->World->Prop
 |.norm st,.normal,a,w=>eu O Y X ds eH W st a w
 |.exit id st,.exit iO,a,w=>id=iO/\eu O Y X ds eH W st a w
 |.ret st,.ret,a,w=>eu O Y X ds eH W st a w
 |_,_,_,_=>False
theorem h9.refl(O:World)(Y:List Nat)(X:Nat->Prop):h9 O Y X O Y X:=⟨fun _ h=>h,fun _ h=>h,fun _ h=>h⟩
theorem h9.trans{O aS w2:World}{Y dC eO:List Nat}{X c7 cA:Nat->Prop}(h:h9 O Y X aS dC c7)(k:h9 aS dC c7 w2 eO cA):h9 O Y X w2 eO cA:=
 ⟨fun w hw=>h.cG w (k.cG w hw),fun b hb=>h.cl b (k.cl b hb),fun b hb=>k.x b (h.x b hb)⟩
theorem Marks.nil(O aS:World)(Y:List Nat)(X:Nat->Prop):Marks O [] aS Y X:=⟨List.nodup_nil,fun _ h=>by simp at h,fun _ h=>by simp at h⟩
theorem Marks.lt{O aS:World}{Y:List Nat}{X:Nat->Prop}{dD:List Nat}(h:Marks O dD aS Y X){a':Nat}(ft:a'∈dD):a'<aS.heap.size:=by
 have:=(h.g' a' ft).1;exact(Array.getElem?_eq_some_iff.1 this).1
theorem Marks.trans{O aS w2:World}{Y dC eO:List Nat}{X c7 cA:Nat->Prop}{dD C6:List Nat}(hb:h9 O Y X aS dC c7)(h:Marks O dD aS dC c7)(k:h9 aS dC c7 w2 eO cA)(m:Marks aS C6 w2 eO cA):
  Marks O (C6++dD) w2 eO cA:=by
 have hf:Fr dC aS w2:=k.cG w2 (Fr.refl _ _);refine⟨List.nodup_append.2 ⟨m.nodup,h.nodup,fun a ha b hb e=>?_⟩,fun a' ft=>?_,fun a' ft=>?_⟩
 ·subst e;have h1:=m.new a ha;have h2:=h.lt hb;omega
 ·rcases List.mem_append.1 ft with ft|ft
  ·have h1:=m.new a' ft;have h2:Fr Y O aS:=hb.cG aS (Fr.refl _ _);have:=h2.size;omega
  ·exact h.new a' ft
 ·rcases List.mem_append.1 ft with ft|ft
  ·exact m.g' a' ft
  ·obtain⟨h1,h2,h3⟩:=h.g' a' ft;have hlt:=h.lt ft;refine⟨(hf.block a' hlt h2).trans h1,fun ay=>?_,k.x a' h3⟩
   rcases k.cl a' (.inl ay) with bo|bo
   ·exact h2 bo
   ·omega
section
variable {O:World}{Y:List Nat}{X:Nat->Prop}{ds:List Deferred}{eH:Array Value}{W:List Nat}
theorem eu.of{D:Nat->Value}{st:aj}{M:Array Value}{w:World}(S:ao O Y X D st M w)(aq:∀t,t∉W->M.getD t undef=eH.getD t undef):eu O Y X ds eH W st ⟨M,ds⟩ w:=
 ⟨O,Y,X,D,[],h9.refl _ _ _,Marks.nil _ _ _ _,⟨rfl,fun _=>rfl⟩,S,aq⟩
theorem eu.mono{c9:List Nat}(h:∀t,t∈W->t∈c9){st:aj}{a:Act}{w:World}(k:eu O Y X ds eH W st a w):eu O Y X ds eH c9 st a w:=by
 obtain⟨aS,dC,c7,D,dD,h1,h2,h3,ay,bo⟩:=k;exact⟨aS,dC,c7,D,dD,h1,h2,⟨h3.1,fun hn=>h3.2 fun ai=>hn (h _ ai)⟩,ay,fun t aq=>bo t fun ai=>aq (h t ai)⟩
theorem e8.mono{c9:List Nat}(h:∀t,t∈W->t∈c9):∀{B:Out} {e:Exit} {a:Act} {w:World},e8 O Y X ds eH W B e a w->e8 O Y X ds eH c9 B e a w:=by
 intro B e a w k;cases B<;>cases e<;>first|exact eu.mono h k|exact⟨k.1,eu.mono h k.2⟩|exact k.elim
theorem eu.trans{aS:World}{dC:List Nat}{c7:Nat->Prop}{dD:List Nat}{W1 jr:List Nat}{hL:Array Value}(hb:h9 O Y X aS dC c7)(hm:Marks O dD aS dC c7)(hr:hh∉W1->dD=[])(aq:∀t,t∉W1->hL.getD t undef=eH.getD t undef)
  {st:aj} {a:Act} {w:World} (k:eu aS dC c7 (dD.map mark++ds) hL jr st a w):eu O Y X ds eH (W1++jr) st a w:=by
 obtain⟨w2,eO,cA,D,C6,h1,h2,h3,ay,bo⟩:=k;refine⟨w2,eO,cA,D,C6++dD,hb.trans h1,hm.trans hb h1 h2,⟨by rw[h3.1,List.map_append,List.append_assoc],fun hn=>by
  simp only[List.mem_append,not_or] at hn;rw[h3.2 hn.2,hr hn.1];rfl⟩,ay,fun t Kv=>?_⟩
 simp only[List.mem_append,not_or] at Kv;rw[bo t Kv.2,aq t Kv.1]
theorem e8.trans{aS:World}{dC:List Nat}{c7:Nat->Prop}{dD:List Nat}{W1 jr:List Nat}{hL:Array Value}(hb:h9 O Y X aS dC c7)(hm:Marks O dD aS dC c7)(hr:hh∉W1->dD=[])(aq:∀t,t∉W1->hL.getD t undef=eH.getD t undef)
  {B:Out} {e:Exit} {a:Act} {w:World} (k:e8 aS dC c7 (dD.map mark++ds) hL jr B e a w):e8 O Y X ds eH (W1++jr) B e a w:=by
 cases B<;>cases e<;>first|exact eu.trans hb hm hr aq k|exact⟨k.1,eu.trans hb hm hr aq k.2⟩|exact k.elim
end
def aT(P:Program)(c:Code)(f:hN):Prop:=
 ∀r,r=none\/gI c=true->∀O Y X st y,(f st).comp=some y->∀D M w ds,ao O Y X D st M w->fW r P c (e8 O Y X ds M (cr c) ((f st).out y)) ⟨M,ds⟩ w
def f_(P:Program)(C:hI):Code->Nat->Prop
 |.seq a b,p=>(∀f,C.nT p=some f->aT P (.seq a b) f)/\f_ P C a (2*p)/\f_ P C b (2*p+1)
 |.cond c a b,p=>(∀f,C.nT p=some f->aT P (.cond c a b) f)/\f_ P C a (2*p)/\f_ P C b (2*p+1)
 |.block id a,p=>(∀f,C.nT p=some f->aT P (.block id a) f)/\f_ P C a (2*p)
 |c,p=>∀f,C.nT p=some f->aT P c f
def fO:Code->Nat->List (Nat×Code)
 |.seq a b,p=>(p,.seq a b)::(fO a (2*p)++fO b (2*p+1))
 |.cond c a b,p=>(p,.cond c a b)::(fO a (2*p)++fO b (2*p+1))
 |.block id a,p=>(p,.block id a)::fO a (2*p)
 |c,p=>[(p,c)]
theorem QV{P:Program}{C:hI}:∀(c:Code) (p:Nat),(∀q fj,(q,fj)∈fO c p->∀f,C.nT q=some f->aT P fj f)->f_ P C c p:=by
 intro c;induction c with
 |seq a b l6 qC=>
  intro p h;simp only[fO] at h;exact⟨h p _ List.mem_cons_self,l6 _ fun q fj hm=>h q fj (List.mem_cons_of_mem _ (List.mem_append.2 (.inl hm))),qC _ fun q fj hm=>h q fj (List.mem_cons_of_mem _ (List.mem_append.2 (.inr hm)))⟩
 |cond B a b l6 qC=>
  intro p h;simp only[fO] at h;exact⟨h p _ List.mem_cons_self,l6 _ fun q fj hm=>h q fj (List.mem_cons_of_mem _ (List.mem_append.2 (.inl hm))),qC _ fun q fj hm=>h q fj (List.mem_cons_of_mem _ (List.mem_append.2 (.inr hm)))⟩
 |block id a l6=>
  intro p h;simp only[fO] at h;exact⟨h p _ List.mem_cons_self,l6 _ fun q fj hm=>h q fj (List.mem_cons_of_mem _ hm)⟩
 |_=>intro p h;exact h p _ (by simp[fO])
section
variable {P:Program}{O:World}{Y:List Nat}{X:Nat->Prop}{D:Nat->Value}{st:aj}{M:Array Value}{w:World}
theorem ao.mx(S:ao O Y X D st M w){t:Nat}{v:aR}(hv:cf D st.sites w (az X D st.sites) v (M.getD t undef)):ao O Y X D (st.set t v) M w:=by
 refine⟨S.nt,fun u=>?_,S.sites,S.dV,S.cl,S.frame,S.old,S.eZ⟩
 rw[aj.GX];by_cases h:t=u
 ·subst h;simp only[if_true];exact hv
 ·simp only[h,if_false];exact S.cI u
variable {R:Type}{C:Ctx}{ops:Array Oper}
theorem Oz(S:ao O Y X D st M w)(H:aW P C){B:Oper}{K:aj->Option R}{r:R}(h:kh C st B K=some r){N:Act->World->Prop}{Q:Exit->Act->World->Prop}
  (bR:∀al aQ bX w',K al=some r->ao O Y X aQ al bX w'->N ⟨bX,[]⟩ w'):B.wp P ⟨M,[]⟩ w N Q:=by
 unfold kh at h;cases Z:ck st B.dst with
 |false=>simp[Z] at h
 |true=>
  simp only[Z,cond_true] at h;have hs:=ahB S H Z;cases hc:(step C st B).comp with
  |none=>simp[hc] at h
  |some y=>
   simp only[hc,Option.bind_some] at h;cases hk:(step C st B).qX y with
   |false=>simp[hk] at h
   |true=>
    simp only[hk,cond_true] at h;exact hs y hc hk N Q fun aQ bX w' ch=>bR _ aQ bX w' h ch
theorem acC{T e:TypeId}(h:P.underlying T=some (.slice e))(a:Option Addr)(n c:Nat)(neg:Bool):
  (binOp (if neg then .neq else .eql) T (.slice a n c) (.slice none 0 0)).run P w=.ok (.bool (if neg then !a.isNone else a.isNone)) w:=by
 have e:(Op.equal T (.slice a n c) (.slice none 0 0)).run P w=.ok a.isNone w:=by
  have key:∀d:Nat,(Op.equalIn (d+1) T (.slice a n c) (.slice none 0 0)).run P w=.ok a.isNone w:=fun d=>by cases a<;>simp[Op.equalIn,run_underlying h]
  exact key 9999
 cases neg
 ·show((do pure (.bool (<-Op.equal T (.slice a n c) (.slice none 0 0)))):Sem Value).run P w=_
  simp only[Sem.run_bind,e,Result.andThen_ok,Sem.run_pure];rfl
 ·show((do pure (.bool (!(<-Op.equal T (.slice a n c) (.slice none 0 0))))):Sem Value).run P w=_
  simp only[Sem.run_bind,e,Result.andThen_ok,Sem.run_pure];rfl
theorem _7{op:BinOp}{T:TypeId}{x y:Operand}{a b:Option Addr}{n c tV fj:Nat}:(eqGuard op T x y (.slice a n c) (.slice b tV fj)).run P w=.ok () w:=by
 unfold eqGuard;cases op<;>rfl
theorem acP{B:Oper}{t:a7}{xs:List (den t)}{neg:Bool}(h:HM C st B=some (⟨t,xs⟩,neg)):∃T x mZ e ty bytes,B.op=.binOp (if neg then .neq else .eql) T x (.const (.slice none 0 0)) mZ/\C.tt T=.slice e ty bytes/\a8 C st T x=.av (.ak (.d (.sl t xs))):=by
 unfold HM at h;split at h
 ·rename_i op T x mZ aG;split at h
  ·rename_i e ty bytes bi;split at h
   ·split at h
    ·rename_i bk iK hx;cases h;exact⟨T,x,mZ,e,ty,bytes,aG,bi,hx⟩
    ·cases h
   ·split at h
    ·rename_i bk iK hx;cases h;exact⟨T,x,mZ,e,ty,bytes,aG,bi,hx⟩
    ·cases h
   ·cases h
  ·cases h
 ·cases h
theorem aau{t:a7}{xs:List (den t)}{a b:Option R}{r:R}(h:pG xs a b=some r):b=some r/\(xs=[]->a=some r):=by
 unfold pG at h;split at h
 ·rename_i Zf;exact⟨h,fun he=>(Zf he).trans h⟩
 ·cases h
theorem afZ(S:ao O Y X D st M w)(H:aW P C){B:Oper}{K:aj->Option R}{r:R}(h:vi C st B K=some r){N:Act->World->Prop}{Q:Exit->Act->World->Prop}
  (bR:∀al aQ bX w',K al=some r->ao O Y X aQ al bX w'->N ⟨bX,[]⟩ w'):B.wp P ⟨M,[]⟩ w N Q:=by
 unfold vi at h;split at h
 ·rename_i t xs neg hn;cases Z:ck st B.dst with
  |false=>simp[Z] at h
  |true=>
   simp only[Z,cond_true] at h;obtain⟨h2,h1⟩:=aau h;obtain⟨T,x,mZ,e,ty,bytes,aG,bi,hx⟩:=acP hn;have hs:=dy S C T x;rw[hx] at hs;have bF:=H.tt T;rw[bi] at bF;have run:∀{a:Option Addr} {n c:Nat},Act.eval ⟨M,[]⟩ x=.slice a n c->(execOp (Act.eval ⟨M,[]⟩) B).run P w=.ok (.value (.bool (if neg then !a.isNone else a.isNone))) w:=by
    intro a n c hv;unfold execOp;have hc:Act.eval ⟨M,[]⟩ (.const (.slice none 0 0))=.slice none 0 0:=rfl;simp only[aG,hv,hc,Sem.run_bind,_7,acC bF.1.1,Result.andThen_ok,Sem.run_pure]
   have fin:∀b:Bool,(execOp (Act.eval ⟨M,[]⟩) B).run P w=.ok (.value (.bool b)) w->K (st.cU B.dst (one (.bool b)) [])=some r->B.wp P ⟨M,[]⟩ w N Q:=by
    intro b hr hk;refine oz hr (bR _ _ _ _ hk (ao.cU (us:=[]) S Z ?_));exact bD.bool b
   have hs:bD w (az X D st.sites) (.sl t xs) (Act.eval ⟨M,[]⟩ x):=hs;generalize iI:Act.eval ⟨M,[]⟩ x=v at hs;cases hs with
   |nil=>
    have:=run iI;cases neg
    ·exact fin true this (h1 rfl)
    ·exact fin false this (h1 rfl)
   |sl t xs a cap cs n iu hcap hb hl hc hr=>
    have:=run iI;cases neg
    ·exact fin false this h2
    ·exact fin true this h2
 ·exact Oz S H h bR
theorem ad2(S:ao O Y X D st M w){B:Oper}{K:aj->Option R}{r:R}(h:so st B K=some r){N:Act->World->Prop}
  (bR:∀al aQ bX w',K al=some r->ao O Y X aQ al bX w'->N ⟨bX,[]⟩ w'):N ((⟨M,[]⟩:Act).put B.dst undef) w:=by
 unfold so at h;cases Z:ck st B.dst with
 |false=>simp[Z] at h
 |true=>
  simp only[Z,cond_true] at h;have:(⟨M,[]⟩:Act).put B.dst undef=⟨cB M B.dst undef,[]⟩:=by cases B.dst<;>rfl
  rw[this];exact bR _ _ _ _ h (ao.cU (us:=[]) S Z rfl)
theorem iY{M:Array Value}{dst:Option Nat}{v:Value}{t:Nat}(h:t∉dst.toList):(cB M dst v).getD t undef=M.getD t undef:=by
 cases dst with
 |none=>rfl
 |some d=>
  have:d≠t:=fun e=>h (by simp[e])
  simp[cB,Array.getD_eq_getD_getElem?,Array.getElem?_setIfInBounds_ne this]
variable {rn:Option Nat}{ds:List Deferred}
theorem E0(S:ao O Y X D st M w)(H:aW P C){B:Oper}{K:aj->Option R}{r:R}(h:vi C st B K=some r){N:Act->World->Prop}{Q:Exit->Act->World->Prop}
  (bR:∀al aQ bX w',K al=some r->ao O Y X aQ al bX w'->(∀t,t∉B.dst.toList->bX.getD t undef=M.getD t undef)->N ⟨bX,ds⟩ w'):B.wpIn (eE rn) 0 P ⟨M,ds⟩ w N Q:=by
 refine Oper.wpIn_mono ?_ (Io (K:=fun a w=>a.defers=[]/\∃al aQ,K al=some r/\ao O Y X aQ al a.tmps w) (fun _ _ h=>h.1) (afZ S H h fun al aQ bX w' hk ch=>⟨rfl,al,aQ,hk,ch⟩) rn ds)
 rintro a w' ⟨v,rfl,_,al,aQ,hk,ch⟩;exact bR al aQ _ w' hk ch fun t aq=>iY aq
theorem nh(S:ao O Y X D st M w)(H:aW P C){B:Oper}{K:aj->Option R}{r:R}(h:kh C st B K=some r){N:Act->World->Prop}{Q:Exit->Act->World->Prop}
  (bR:∀al aQ bX w',K al=some r->ao O Y X aQ al bX w'->(∀t,t∉B.dst.toList->bX.getD t undef=M.getD t undef)->N ⟨bX,ds⟩ w'):B.wpIn (eE rn) 0 P ⟨M,ds⟩ w N Q:=by
 refine Oper.wpIn_mono ?_ (Io (K:=fun a w=>a.defers=[]/\∃al aQ,K al=some r/\ao O Y X aQ al a.tmps w) (fun _ _ h=>h.1) (Oz S H h fun al aQ bX w' hk ch=>⟨rfl,al,aQ,hk,ch⟩) rn ds)
 rintro a w' ⟨v,rfl,_,al,aQ,hk,ch⟩;exact bR al aQ _ w' hk ch fun t aq=>iY aq
theorem xJ(S:ao O Y X D st M w){B:Oper}{K:aj->Option R}{r:R}(h:so st B K=some r){N:Act->World->Prop}
  (bR:∀al aQ bX w',K al=some r->ao O Y X aQ al bX w'->(∀t,t∉B.dst.toList->bX.getD t undef=M.getD t undef)->N ⟨bX,ds⟩ w'):N ((⟨M,ds⟩:Act).put B.dst undef) w:=by
 rw[ux];refine ad2 (N:=fun a w=>∀t0,a.tmps=t0->t0=cB M B.dst undef->N ⟨t0,ds⟩ w) S h (fun al aQ bX w' hk ch t0 e1 e2=>?_) (cB M B.dst undef) (by rw[ux]) rfl
 subst e1;exact bR al aQ _ w' hk ch fun t aq=>by have e2:bX=cB M B.dst undef:=e2;rw[e2];exact iY aq
theorem ad8(H:aW P C){r:R}{W:List Nat}:∀(n k:Nat),ops.size=k+n->(∀B,B∈ops.toList.drop k->∀t,t∈B.dst.toList->t∈W)->∀(st:aj) (D:Nat->Value) (M:Array Value) (w:World) (K:aj->Option R) (Q:Exit->Act->World->Prop),ao O Y X D st M w->
  u0 C ops (ops.toList.drop k) st K=some r->(∀al aQ bX w',K al=some r->ao O Y X aQ al bX w'->(∀t,t∉W->bX.getD t undef=M.getD t undef)->Q .normal ⟨bX,ds⟩ w')->wpOpsIn (eE rn) 0 P ops Q (List.range' k n) ⟨M,ds⟩ w:=by
 intro n;induction n with
 |zero=>
  intro k hk _ st D M w K Q S h bR;rw[List.drop_eq_nil_of_le (by simp;omega)] at h
  exact bR st D M w h S fun _ _=>rfl
 |succ n ih=>
  intro k hk hW st D M w K Q S h bR;have hlt:k<ops.size:=by omega
  have aG:ops[k]? =some ops[k]:=Array.getElem?_eq_getElem hlt;have vq:ops.toList.drop k=ops[k]::ops.toList.drop (k+1):=by
   rw[List.drop_eq_getElem_cons (by simpa using hlt)];simp
  rw[vq] at h hW;simp only[u0] at h;rw[show List.range' k (n+1)=k::List.range' (k+1) n from rfl]
  simp only[wpOpsIn,aG];have asm:=hW _ List.mem_cons_self;have K0:=fun B aG=>hW B (List.mem_cons_of_mem _ aG)
  have next:∀al aQ bX w',u0 C ops (ops.toList.drop (k+1)) al K=some r->ao O Y X aQ al bX w'->(∀t,t∉(ops[k]).dst.toList->bX.getD t undef=M.getD t undef)->wpOpsIn (eE rn) 0 P ops Q (List.range' (k+1) n) ⟨bX,ds⟩ w':=
   fun al aQ bX w' ai ch aq=>ih (k+1) (by omega) K0 al aQ bX w' K Q ch ai fun wa h_ o6 w2 hk2 hS Ky=>bR wa h_ o6 w2 hk2 hS fun t YZ=>(Ky t YZ).trans (aq t fun ai=>YZ (asm t ai))
  generalize ops[k]=B at h next ⊢
  have od:∀f,B.about P w (Act.eval ⟨M,ds⟩)=some f->(eE rn).fn f:=fun f _=>BK rn f
  unfold Rc at h;cases hg:B.guard with
  |none=>
   simp only[hg] at h;rw[if_pos (by simp[Region.wanted,hg])]
   exact E0 S H h next
  |some LV=>
   obtain⟨j,want⟩:=LV;simp only[hg] at h;have hw:Region.wanted B (yielded ops M)=(yielded ops M j==some want):=by simp[Region.wanted,hg]
   cases hj:(ops[j]?).bind (·.dst) with
   |none=>simp[hj] at h
   |some t=>
    simp only[hj] at h;have ja:=S.cI t;split at h
    ·rename_i b hb;rw[hb] at ja;have hv:=jx ja;have hy:yielded ops M j=some b:=by
      have aq:t<M.size:=by
       rcases Nat.lt_or_ge t M.size with ai|ai
       ·exact ai
       ·simp[Array.getD,Nat.not_lt.2 ai,undef] at hv
      have:M[t]? =some (.bool b):=by
       rw[Array.getElem?_eq_getElem aq];simpa[Array.getD,aq] using hv
      simp[yielded,hj,this]
     rw[hy] at hw;have go:∀bI,b=bI->ao O Y X D (st.set t (one (.bool bI))) M w:=fun bI e=>S.mx (by rw[hv,e];exact .bool _)
     cases b<;>cases want<;>simp only[cond_true,cond_false,Bool.not_true,Bool.not_false] at h
     ·rw[if_pos (by rw[hw];rfl)];exact E0 (go false rfl) H h next
     ·rw[if_neg (by rw[hw];decide)];exact⟨od,xJ (go false rfl) h next⟩
     ·rw[if_neg (by rw[hw];decide)];exact⟨od,xJ (go true rfl) h next⟩
     ·rw[if_pos (by rw[hw];rfl)];exact E0 (go true rfl) H h next
    ·rename_i x hb;rw[hb] at ja;have hv:M.getD t undef=.tuple x:=ja;have hy:yielded ops M j=none:=by
      simp only[yielded,hj,Option.bind_some];cases aq:M[t]? with
      |none=>rfl
      |some v=>
       have:M.getD t undef=v:=by simp[Array.getD_eq_getD_getElem?,aq]
       rw[this] at hv;rw[hv]
     rw[hy] at hw;rw[if_neg (by rw[hw];simp)]
     exact⟨od,xJ S h next⟩
    ·cases h
end
abbrev oh:=Nat⊕Nat
def eg(st:aj):oh->aR⊕Option Site
 |.inl t=>.inl (st.get t)
 |.inr o=>.inr (st.ab o)
def nk{ax:Type}:List (Nat×ax)->Nat->Option ax
 |[],_=>none
 |(k,v)::r,n=>match nk r n with
  |some x=>some x
  |none=>bif k.beq n then some v else none
def Rec.wr(x:Rec):oh->Option (aR⊕Option Site)
 |.inl t=>match x.B.dst with
  |some d=>bif d.beq t then some (.inl x.v) else none
  |none=>none
 |.inr o=>(nk x.us o).map fun s=>.inr (some s)
theorem adU:∀(us:List (Nat×Site)) (st:aj) (o:Nat),(st.h4 us).ab o=match nk us o with|some s=>some s|none=>st.ab o:=by
 intro us;induction us with
 |nil=>intro st o;rfl
 |cons p us ih=>
  obtain⟨k,s⟩:=p;intro st o;simp only[aj.h4,ih,nk];cases nk us o with
  |some x=>rfl
  |none=>
   simp only[aj.xh];by_cases h:k=o
   ·subst h;simp
   ·simp[h,jD h]
theorem Pe:∀(us:List (Nat×Site)) (st:aj) (t:Nat),(st.h4 us).get t=st.get t:=by
 intro us;induction us with
 |nil=>intro st t;rfl
 |cons p us ih=>intro st t;simp only[aj.h4,ih,aj.abZ]
theorem P':∀(us:List (Nat×Site)) (st:aj),(st.h4 us).nt=st.nt:=by
 intro us;induction us with
 |nil=>intro st;rfl
 |cons p us ih=>intro st;simp only[aj.h4,ih,aj.acO]
theorem Ig(st:aj)(d:Option Nat)(v:aR)(us:List (Nat×Site)):(st.cU d v us).nt=st.nt:=by
 cases d<;>simp only[aj.cU,aj.akf,P']
theorem x8(st:aj)(x:Rec)(l:oh):eg (st.cU x.B.dst x.v x.us) l=match x.wr l with|some u=>u|none=>eg st l:=by
 cases l with
 |inl t=>
  simp only[eg,Rec.wr];cases x.B.dst with
  |none=>simp only[aj.cU,Pe]
  |some d=>
   simp only[aj.cU,aj.GX,Pe];by_cases h:d=t
   ·subst h;simp
   ·simp[h,jD h]
 |inr o=>
  simp only[eg,Rec.wr];have:(st.cU x.B.dst x.v x.us).ab o=(st.h4 x.us).ab o:=by cases x.B.dst<;>simp only[aj.cU,aj.afW]
  rw[this,adU];cases nk x.us o<;>rfl
def ek(L:Nat->Bool):Nat->List Rec->aj->aj
 |_,[],st=>st
 |k,x::r,st=>ek L (k+1) r (bif L k then st.cU x.B.dst x.v x.us else st)
theorem FE{L:Nat->Bool}:∀{xs:List Rec} {k:Nat} {st:aj},(ek L k xs st).nt=st.nt:=by
 intro xs;induction xs with
 |nil=>intro k st;rfl
 |cons x xs ih=>intro k st;simp only[ek,ih];cases L k<;>simp[Ig]
theorem DS{L L':Nat->Bool}:∀{xs:List Rec} {k:Nat} {st al:aj} {l:oh},eg st l=eg al l->(∀j x,xs[j]? =some x->x.wr l≠none->L (k+j)=L' (k+j))->eg (ek L k xs st) l=eg (ek L' k xs al) l:=by
 intro xs;induction xs with
 |nil=>intro k st al l h _;exact h
 |cons x xs ih=>
  intro k st al l h dY;simp only[ek];refine ih ?_ fun j y hy hw=>?_
  ·cases hw:x.wr l with
   |none=>
    have e1:∀s:aj,eg (s.cU x.B.dst x.v x.us) l=eg s l:=fun s=>by rw[x8,hw]
    cases L k<;>cases L' k<;>simp only[cond_true,cond_false,e1,h]
   |some u=>
    have:=dY 0 x rfl (by rw[hw];intro h;cases h)
    simp only[Nat.add_zero] at this;rw[this];cases L' k with
    |true=>simp only[cond_true,x8,hw]
    |false=>simp only[cond_false,h]
  ·have:=dY (j+1) y (by simpa using hy) hw
   rw[show k+(j+1)=k+1+j from by omega] at this
   exact this
theorem DT{xs:List Rec}:∀{k:Nat} {st:aj} {L:Nat->Bool},(∀j,k<=j->L j=false)->ek L k xs st=st:=by
 induction xs with
 |nil=>intro k st L _;rfl
 |cons x xs ih=>
  intro k st L h;simp only[ek,h k (Nat.le_refl _),cond_false];exact ih fun j hj=>h j (by omega)
theorem No{L L':Nat->Bool}:∀{xs:List Rec} {k k':Nat} {st:aj},(∀j,j<xs.length->L (k+j)=L' (k'+j))->ek L k xs st=ek L' k' xs st:=by
 intro xs;induction xs with
 |nil=>intro k k' st _;rfl
 |cons x xs ih=>
  intro k k' st h;simp only[ek];have h0:=h 0 (by simp)
  simp only[Nat.add_zero] at h0;rw[h0];exact ih fun j hj=>by have:=h (j+1) (by simpa using hj);rw[show k+(j+1)=k+1+j from by omega,show k'+(j+1)=k'+1+j from by omega] at this;exact this
theorem adj{L:Nat->Bool}:∀{xs:List Rec} {k i:Nat} {st:aj} {l:oh} {x:Rec} {u:aR⊕Option Site},xs[i]? =some x->L (k+i)=true->x.wr l=some u->
  (∀j y,i<j->xs[j]? =some y->y.wr l≠none->L (k+j)=false)->eg (ek L k xs st) l=u:=by
 intro xs;induction xs with
 |nil=>intro k i st l x u h;cases h
 |cons y xs ih=>
  intro k i st l x u h dY hw hj;simp only[ek];cases i with
  |zero=>
   simp only[List.getElem?_cons_zero,Option.some.injEq] at h;subst h;simp only[Nat.add_zero] at dY;rw[dY];simp only[cond_true];have e:eg (st.cU y.B.dst y.v y.us) l=u:=by rw[x8,hw]
   rw[<-e];have e2:st.cU y.B.dst y.v y.us=ek (fun _=>false) (k+1) xs (st.cU y.B.dst y.v y.us):=(DT fun _ _=>rfl).symm
   conv=>rhs;rw[e2]
   refine DS rfl fun j z hz Kr=>?_
   have:=hj (j+1) z (by omega) (by simpa using hz) Kr
   rw[show k+(j+1)=k+1+j from by omega] at this
   exact this
  |succ i=>
   refine ih (by simpa using h) (by rw[show k+1+i=k+(i+1) from by omega];exact dY) hw fun j z pc hz Kr=>?_
   have:=hj (j+1) z (by omega) (by simpa using hz) Kr
   rw[show k+(j+1)=k+1+j from by omega] at this
   exact this
section
variable {P:Program}{ops:Array Oper}
def Cg(ops:Array Oper)(L:Nat->Bool)(i:Nat):Prop:=∀B,ops[i]? =some B->∀e,e∈B.after.toList->Region.binds .any e=true->L e.on=true
def Bk(ops:Array Oper)(L:Nat->Bool):Prop:=∀j,L j=true->Cg ops L j
def tR(ops:Array Oper)(k i:Nat):Prop:=∀L,Bk ops L->Cg ops L i->L k=true
theorem Q3{ax:Type}{l:List (Nat×ax)}{n:Nat}{v:ax}(h:look l n=some v):(n,v)∈l:=by
 induction l with
 |nil=>cases h
 |cons p l ih=>
  obtain⟨m,u⟩:=p;simp only[look] at h;cases hb:m.beq n with
  |true=>
   simp only[hb,cond_true,Option.some.injEq] at h;rw[<-Nat.eq_of_beq_eq_true hb,h];exact List.mem_cons_self
  |false=>simp only[hb,cond_false] at h;exact List.mem_cons_of_mem _ (ih h)
theorem ahf{acc:List (Nat×Rec×List Nat)}(ha:∀k x b,(k,x,b)∈acc->∀m,m∈b->tR ops m k){i:Nat}:∀{es:List Edge} {m:Nat},m∈lU acc es->∀L,Bk ops L->
  (∀e,e∈es->Region.binds .any e=true->L e.on=true)->L m=true:=by
 intro es;induction es with
 |nil=>intro m h;cases h
 |cons e es ih=>
  intro m h L hc hf;simp only[lU] at h;cases hb:Region.binds .any e with
  |false=>
   simp only[hb,cond_false] at h;exact ih h L hc fun cE ma=>hf cE (List.mem_cons_of_mem _ ma)
  |true=>
   simp only[hb,cond_true] at h;have h0:=hf e List.mem_cons_self hb;split at h
   ·rename_i x hx;rcases List.mem_cons.1 h with rfl|h
    ·exact h0
    ·rcases List.mem_append.1 h with h|h
     ·have hm:(e.on,x)∈acc:=Q3 hx;obtain⟨dX,fJ⟩:=x;exact ha _ _ _ hm m h L hc (hc _ h0)
     ·exact ih h L hc fun cE ma=>hf cE (List.mem_cons_of_mem _ ma)
   ·exact ih h L hc fun cE ma=>hf cE (List.mem_cons_of_mem _ ma)
structure sX(C:Ctx)(ops:Array Oper)(st:aj)(B:Oper)(x:Rec):Prop where
 g':x.B=B
 guard:∀j want,B.guard=some (j,want)->∃t,(ops[j]?).bind (·.dst)=some t/\t∈x.kK/\((∃b,st.get t=one (.bool b)/\(x.go=(b==want)))\/((∃u,st.get t=b0 (.cS (.tuple u)))/\x.go=false))
 free:B.guard=none->x.go=true
 skip:x.go=false->x.v=Aj/\x.us=[]
 run:x.go=true->∃y,(step C st B).comp=some y/\(step C st B).qX y=true/\x.v=(step C st B).val y/\x.us=(step C st B).us y/\(∀t,t∈ou (k8 B.op)->t∈x.kK)/\(∀o,o∈It C st B->o∈x.rn)/\(AP B.op=true->x.CS=true)
inductive kR(C:Ctx)(ops:Array Oper):List Oper->Nat->List (Nat×Rec×List Nat)->aj->List Rec->aj->Prop where
 |nil {i acc st}:kR C ops [] i acc st [] st
 |cons {B r i acc st x xs al} (Z:ck st B.dst=true) (he:se i B.after.toList=true) (hx:sX C ops st B x) (hk:sq (lU acc B.after.toList) x acc=true)
   (h:kR C ops r (i+1) ((i,x,lU acc B.after.toList)::acc) (st.cU B.dst x.v x.us) xs al):kR C ops (B::r) i acc st (x::xs) al
theorem aeS{R:Type}{g:Bool}{v:aR}{K:aR->Option R}{r:R}(h:IW g v K=some r):K v=some r:=by
 unfold IW at h;cases g with
 |false=>exact h
 |true=>
  simp only[cond_true] at h;split at h
  ·rename_i b;cases b<;>exact h
  ·exact h
theorem ab3{R:Type}{C:Ctx}{g:Bool}{st:aj}{B:Oper}{K:Rec->Option R}{r:R}(h:If C ops g st B K=some r):∃x,sX C ops st B x/\K x=some r:=by
 have run:∀gs,Ab C g st B gs K=some r->(∀j want,B.guard=some (j,want)->∃t,(ops[j]?).bind (·.dst)=some t/\t∈gs/\∃b,st.get t=one (.bool b)/\(b==want)=true)->∃x,sX C ops st B x/\K x=some r:=by
  intro gs h hg;unfold Ab at h;obtain⟨y,hy,h⟩:=Option.bind_eq_some_iff.1 h;cases hc:(step C st B).qX y with
  |false=>simp[hc] at h
  |true=>
   simp only[hc,cond_true] at h;refine⟨_,⟨rfl,fun j want hj=>?_,fun _=>rfl,fun h=>(by cases h),fun _=>⟨y,hy,hc,rfl,rfl,fun t aq=>List.mem_append.2 (.inr aq),fun _ h=>h,fun h=>h⟩⟩,aeS h⟩
   obtain⟨t,h1,h2,b,h3,ay⟩:=hg j want hj;exact⟨t,h1,List.mem_append.2 (.inl h2),.inl ⟨b,h3,ay.symm⟩⟩
 have skip:∀gs,FC B gs K=some r->(∃j want,B.guard=some (j,want)/\∃t,(ops[j]?).bind (·.dst)=some t/\t∈gs/\((∃b,st.get t=one (.bool b)/\(b==want)=false)\/∃u,st.get t=b0 (.cS (.tuple u))))->∃x,sX C ops st B x/\K x=some r:=by
  intro gs h hg;obtain⟨j,want,hj,t,h1,h2,h3⟩:=hg;refine⟨_,⟨rfl,fun _G avS jI=>?_,fun h=>(by rw[hj] at h;cases h),fun _=>⟨rfl,rfl⟩,fun h=>(by cases h)⟩,h⟩
  rw[hj] at jI;cases jI;refine⟨t,h1,h2,?_⟩;rcases h3 with⟨b,h3,ay⟩|h3
  ·exact .inl ⟨b,h3,ay.symm⟩
  ·exact .inr ⟨h3,rfl⟩
 unfold If at h;split at h
 ·rename_i hg;exact run [] h fun j want hj=>by rw[hg] at hj;cases hj
 ·rename_i j want hg;split at h
  ·rename_i t aq;split at h
   ·rename_i b hb;cases b<;>cases want<;>simp only[cond_true,cond_false,Bool.not_true,Bool.not_false] at h
    ·exact run [t] h fun _G w' jI=>by rw[hg] at jI;cases jI;exact⟨t,aq,List.mem_singleton.2 rfl,false,hb,rfl⟩
    ·exact skip [t] h ⟨j,true,hg,t,aq,List.mem_singleton.2 rfl,.inl ⟨false,hb,rfl⟩⟩
    ·exact skip [t] h ⟨j,false,hg,t,aq,List.mem_singleton.2 rfl,.inl ⟨true,hb,rfl⟩⟩
    ·exact run [t] h fun _G w' jI=>by rw[hg] at jI;cases jI;exact⟨t,aq,List.mem_singleton.2 rfl,true,hb,rfl⟩
   ·rename_i u hu;exact skip [t] h ⟨j,want,hg,t,aq,List.mem_singleton.2 rfl,.inr ⟨u,hu⟩⟩
   ·cases h
  ·cases h
theorem afb{R:Type}{C:Ctx}{K:aj->Option R}{r:R}:∀{os:List Oper} {i:Nat} {acc:List (Nat×Rec×List Nat)} {st:aj},Be C ops os i acc st K=some r->∃xs al,kR C ops os i acc st xs al/\K al=some r:=by
 intro os;induction os with
 |nil=>intro i acc st h;exact⟨[],st,.nil,h⟩
 |cons B os ih=>
  intro i acc st h;simp only[Be] at h;cases Z:ck st B.dst&&se i B.after.toList with
  |false=>simp[Z] at h
  |true=>
   simp only[Z,cond_true] at h;obtain⟨x,hx,h⟩:=ab3 h;cases hk:sq (lU acc B.after.toList) x acc with
   |false=>simp[hk] at h
   |true=>
    simp only[hk,cond_true] at h;obtain⟨xs,al,h1,h2⟩:=ih h;simp only[Bool.and_eq_true] at Z;exact⟨x::xs,al,.cons Z.1 Z.2 hx hk h1,h2⟩
theorem kR.length{C:Ctx}{os:List Oper}{i:Nat}{acc:List (Nat×Rec×List Nat)}{st al:aj}{xs:List Rec}(h:kR C ops os i acc st xs al):xs.length=os.length:=by
 induction h with
 |nil=>rfl
 |cons _ _ _ _ _ ih=>simp[ih]
theorem kR.aoa{C:Ctx}{os:List Oper}{i:Nat}{acc:List (Nat×Rec×List Nat)}{st al:aj}{xs:List Rec}(h:kR C ops os i acc st xs al):∀k,ek (fun _=>true) k xs st=al:=by
 induction h with
 |nil=>intro k;rfl
 |cons _ _ hx _ _ ih=>intro k;simp only[ek,cond_true,hx.g'];exact ih _
theorem kR.at_{C:Ctx}{os:List Oper}{i:Nat}{acc:List (Nat×Rec×List Nat)}{st al:aj}{xs:List Rec}(h:kR C ops os i acc st xs al):∀j x,xs[j]? =some x->
  ∃B,os[j]? =some B/\ck st B.dst=true/\se (i+j) B.after.toList=true/\sX C ops (ek (fun k=>decide (k<j)) 0 xs st) B x:=by
 induction h with
 |nil=>intro j x h;cases h
 |@cons B r i acc st x xs al Z he hx hk h ih=>
  intro j y hy;cases j with
  |zero=>
   simp only[List.getElem?_cons_zero,Option.some.injEq] at hy;subst hy;refine⟨B,rfl,Z,he,?_⟩;rw[DT fun j _=>by simp[Nat.blt]]
   exact hx
  |succ j=>
   obtain⟨cZ,h1,h2,h3,ay⟩:=ih j y (by simpa using hy)
   refine⟨cZ,by simpa using h1,?_,by rw[show i+(j+1)=i+1+j from by omega];exact h3,?_⟩
   ·revert h2;cases cZ.dst<;>simp[ck,Ig]
   ·simp only[ek];have eT:decide (0<j+1)=true:=by simp
    rw[eT,cond_true,hx.g'];rw[No (L':=fun k=>decide (k<j)) (k':=0) fun m _=>by simp only[decide_eq_decide];omega]
    exact ay
theorem OE{n:Nat}{l:List Nat}:fP n l=true <-> n∈l:=by
 induction l with
 |nil=>simp[fP]
 |cons m l ih=>
  simp only[fP,Bool.or_eq_true,ih,List.mem_cons];constructor
  ·rintro(h|h)
   ·exact .inl (Nat.eq_of_beq_eq_true h)
   ·exact .inr h
  ·rintro(h|h)
   ·exact .inl (by rw[h];exact Nat.beq_refl m)
   ·exact .inr h
theorem acN{wO:List Nat}{x:Rec}:∀{acc:List (Nat×Rec×List Nat)},sq wO x acc=true->∀k y b,(k,y,b)∈acc->k∈wO\/lY y x=false:=by
 intro acc;induction acc with
 |nil=>intro _ k y b h;cases h
 |cons p acc ih=>
  obtain⟨j,z,awX⟩:=p;intro h k y b hm;simp only[sq,Bool.and_eq_true,Bool.or_eq_true] at h;rcases List.mem_cons.1 hm with hm|hm
  ·cases hm;rcases h.1 with h1|h1
   ·exact .inl (OE.1 h1)
   ·exact .inr (by simpa using h1)
  ·exact ih h.2 k y b hm
theorem kR.aq8{C:Ctx}{os:List Oper}{i:Nat}{acc:List (Nat×Rec×List Nat)}{st al:aj}{xs:List Rec}(h:kR C ops os i acc st xs al):∀(pre:List Rec),pre.length=i->(∀j,ops[i+j]? =os[j]?)->
  (∀k y,pre[k]? =some y->∃b,(k,y,b)∈acc)->(∀k x b,(k,x,b)∈acc->∀m,m∈b->tR ops m k)->∀j x,xs[j]? =some x->∀k y,k<i+j->(pre++xs)[k]? =some y->tR ops k (i+j)\/lY y x=false:=by
 induction h with
 |nil=>intro pre _ _ _ _ j x h;cases h
 |@cons B r i acc st x xs al Z he hx hk h ih=>
  intro pre hlen VA Vz jc j y hy k z ar3 hz;have VL:∀m,m∈lU acc B.after.toList->tR ops m i:=fun m hm L hc hf=>by
   refine ahf jc (i:=i) hm L hc fun e he hb=>hf B ?_ e he hb
   have:=VA 0;simpa using this
  cases j with
  |zero=>
   simp only[List.getElem?_cons_zero,Option.some.injEq] at hy;subst hy;simp only[Nat.add_zero] at ar3 ⊢;rw[List.getElem?_append_left (by omega)] at hz
   obtain⟨b,hb⟩:=Vz k z hz;rcases acN hk k z b hb with h1|h1
   ·exact .inl (VL k h1)
   ·exact .inr h1
  |succ j=>
   have:=ih (pre++[x]) (by simp[hlen]) (fun j=>by have:=VA (j+1);rw[show i+1+j=i+(j+1) from by omega];simpa using this)
    (fun k y hy=>?_) (fun k ib b hm m Y1=>?_) j y (by simpa using hy) k z (by omega) (by simpa using hz)
   ·rw[show i+(j+1)=i+1+j from by omega];exact this
   ·rcases Nat.lt_or_ge k pre.length with ai|ai
    ·rw[List.getElem?_append_left ai] at hy;obtain⟨b,hb⟩:=Vz k y hy;exact⟨b,List.mem_cons_of_mem _ hb⟩
    ·rw[List.getElem?_append_right ai] at hy;have h0:k-pre.length=0:=by
      rcases Nat.eq_zero_or_pos (k-pre.length) with h0|h0
      ·exact h0
      ·rw[List.getElem?_eq_none (by simp;omega)] at hy;cases hy
     rw[h0] at hy;simp only[List.getElem?_cons_zero,Option.some.injEq] at hy;subst hy;have:k=i:=by omega
     subst this;exact⟨_,List.mem_cons_self⟩
   ·rcases List.mem_cons.1 hm with hm|hm
    ·cases hm;exact VL m Y1
    ·exact jc k ib b hm m Y1
end
section
variable {P:Program}{O:World}{Y:List Nat}{X:Nat->Prop}{D:Nat->Value}{st al:aj}{M:Array Value}{w:World}
theorem ao.same(S:ao O Y X D st M w)(hv:∀l,eg st l=eg al l)(hn:st.nt=al.nt):ao O Y X D al M w:=by
 have hs:∀o,look st.sites o=look al.sites o:=fun o=>by have:=hv (.inr o);simpa[eg,aj.ab] using this
 have hg:∀t,st.get t=al.get t:=fun t=>by have:=hv (.inl t);simpa[eg] using this
 have hl:∀o,cj st.sites o <-> cj al.sites o:=fun o=>by unfold cj;rw[hs]
 have ha:az X D al.sites=az X D st.sites:=by
  funext b
  unfold az;simp only[hl]
 have G:h7 D D st.sites al.sites w w (az X D st.sites) (az X D al.sites):=by
  rw[ha];exact⟨fun o ab h=>⟨ab,by rw[<-hs];exact h,Nat.le_refl _,fun _=>rfl⟩,fun _ _ _=>rfl,fun _ h _=>h⟩
 have hlt:∀b,az X D al.sites b->b<w.heap.size:=fun b hb=>S.lt (by rw[<-ha];exact hb)
 refine⟨S.nt.trans hn,fun t=>?_,fun o ab h=>?_,fun o aa b h1 h2=>S.dV o aa b ((hl o).2 h1) ((hl aa).2 h2),fun o b h=>S.cl o b ((hl o).2 h),S.frame,S.old,S.eZ⟩
 ·rw[<-hg];exact(S.cI t).goes G (Nat.le_refl _) hlt
 ·exact(S.sites o ab (by rw[hs];exact h)).goes G (Nat.le_refl _) hlt rfl (fun _ _ _=>rfl)
theorem ao.drawn(S:ao O Y X D st M w)(n:Nat):ao O Y X D st M {w with drawn:=n}:=by
 have G:h7 D D st.sites st.sites w {w with drawn:=n} (az X D st.sites) (az X D st.sites):=
  ⟨fun o ab h=>⟨ab,h,Nat.le_refl _,fun _=>rfl⟩,fun _ _ _=>rfl,fun _ h _=>h⟩
 refine⟨S.nt,fun t=>(S.cI t).goes G (Nat.le_refl _) fun b hb=>S.lt hb,fun o ab h=>(S.sites o ab h).goes G (Nat.le_refl _) (fun b hb=>S.lt hb) rfl (fun _ _ _=>rfl),S.dV,S.cl,⟨S.frame.os,S.frame.tape,S.frame.output,S.frame.size,S.frame.block⟩,S.old,S.eZ⟩
theorem aaB{ax:Type}:∀{us:List (Nat×ax)} {o:Nat} {s:ax},nk us o=some s->o∈keys us:=by
 intro us;induction us with
 |nil=>intro o s h;cases h
 |cons p us ih=>
  obtain⟨k,v⟩:=p;intro o s h;simp only[nk] at h;split at h
  ·rename_i x hx;exact List.mem_cons_of_mem _ (ih hx)
  ·cases hb:k.beq o with
   |true=>rw[<-Nat.eq_of_beq_eq_true hb];exact List.mem_cons_self
   |false=>simp[hb] at h
theorem Ed{n:Nat}{l:List Nat}:fP n l=true <-> n∈l:=OE
theorem rJ{l m:List Nat}{n:Nat}(h1:n∈l)(h2:n∈m):eX l m=false:=by
 induction l with
 |nil=>cases h1
 |cons k l ih=>
  simp only[eX];rcases List.mem_cons.1 h1 with rfl|h1
  ·rw[Ed.2 h2];rfl
  ·rw[ih h1,Bool.and_false]
theorem NT{l:List Nat}{n:Nat}(h1:n∈l)(h2:1000000<=n):u' l=true:=by
 induction l with
 |nil=>cases h1
 |cons k l ih=>
  simp only[u',Bool.or_eq_true];rcases List.mem_cons.1 h1 with rfl|h1
  ·exact .inl (Nat.ble_eq_true_of_le h2)
  ·exact .inr (ih h1)
def Rec.at_(x:Rec):oh->Prop
 |.inl t=>t∈x.kK
 |.inr o=>o∈x.rn\/(x.CS=true/\1000000<=o)
theorem Ah{x:Rec}{t:Nat}(h:x.wr (.inl t)≠none):x.B.dst=some t:=by
 simp only[Rec.wr] at h;split at h
 ·rename_i d Z;cases hb:d.beq t with
  |true=>rw[Z,Nat.eq_of_beq_eq_true hb]
  |false=>simp[hb] at h
 ·exact absurd rfl h
theorem Ag{x:Rec}{o:Nat}(h:x.wr (.inr o)≠none):o∈keys x.us:=by
 simp only[Rec.wr] at h;cases hl:nk x.us o with
 |none=>simp[hl] at h
 |some s=>exact aaB hl
theorem aiO{a b:Rec}{l:oh}(h1:a.wr l≠none)(h2:b.at_ l):lY a b=true:=by
 unfold lY;cases l with
 |inl t=>
  have:=Ah h1;have h2:t∈b.kK:=h2;simp[this,s0,Ed.2 h2]
 |inr o=>
  have:=Ag h1;rcases h2 with h2|⟨h2,h3⟩
  ·have:eX (keys a.us) (b.rn++keys b.us)=false:=rJ this (List.mem_append.2 (.inl h2));simp[this]
  ·have:=NT this h3;simp[this,h2]
theorem aiP{a b:Rec}{l:oh}(h1:a.at_ l)(h2:b.wr l≠none):lY a b=true:=by
 unfold lY;cases l with
 |inl t=>
  have:=Ah h2;have h1:t∈a.kK:=h1;simp[this,s0,Ed.2 h1]
 |inr o=>
  have:=Ag h2;rcases h1 with h2|⟨h2,h3⟩
  ·have:eX (keys b.us) a.rn=false:=rJ this h2;simp[this]
  ·have:=NT this h3;simp[this,h2]
theorem aiN{a b:Rec}{l:oh}(h1:a.wr l≠none)(h2:b.wr l≠none):lY a b=true:=by
 unfold lY;cases l with
 |inl t=>
  have e1:=Ah h1;have e2:=Ah h2;simp[e1,e2,s0,fP]
 |inr o=>
  have e1:=Ag h1;have e2:=Ag h2;have:eX (keys a.us) (b.rn++keys b.us)=false:=rJ e1 (List.mem_append.2 (.inr e2));simp[this]
variable {C:Ctx}{ops:Array Oper}{rn:Option Nat}{ds:List Deferred}
def nQ(L:Nat->Bool)(i:Nat):Nat->Bool:=fun j=>L j||decide (j=i)
theorem afa(H:aW P C){xs:List Rec}{bx:aj}{i:Nat}{B:Oper}{x:Rec}(hx:xs[i]? =some x)(Z:ck bx B.dst=true)(hr:sX C ops (ek (fun k=>decide (k<i)) 0 xs bx) B x)
  (qs:∀j y,xs[j]? =some y->∀k z,k<j->xs[k]? =some z->tR ops k j\/lY z y=false) {L:Nat->Bool} (hc:Bk ops L) (hi:L i=false) (hf:Cg ops L i) (arY:ops[i]? =some B)
  (S:ao O Y X D (ek L 0 xs bx) M w) {Q:Exit->Act->World->Prop} {K:Act->World->Prop} (bR:∀aQ bX w',ao O Y X aQ (ek (nQ L i) 0 xs bx) bX w'->(∀t,t∉B.dst.toList->bX.getD t undef=M.getD t undef)->K ⟨bX,ds⟩ w'):wpOpIn (eE rn) 0 P ops Q i K ⟨M,ds⟩ w:=by
 have Kb:∀l,x.at_ l->eg (ek (fun k=>decide (k<i)) 0 xs bx) l=eg (ek L 0 xs bx) l:=fun l hl=>by
  refine(DS rfl fun j y hy hw=>?_).symm
  simp only[Nat.zero_add];rcases Nat.lt_trichotomy j i with h|h|h
  ·rcases qs i x hx j y h hy with h1|h1
   ·rw[h1 L hc hf];simp[h]
   ·rw[aiO hw hl] at h1;cases h1
  ·subst h;rw[hi];simp
  ·have:L j=false:=by
    cases qU:L j with
    |false=>rfl
    |true=>
     rcases qs j y hy i x h hx with h1|h1
     ·have:=h1 L hc (hc j qU);rw[hi] at this;cases this
     ·rw[aiP hl hw] at h1;cases h1
   rw[this];simp;omega
 have TM:∀t,t∈x.kK->(ek (fun k=>decide (k<i)) 0 xs bx).get t=(ek L 0 xs bx).get t:=fun t aq=>by
  have:=Kb (.inl t) aq;simpa[eg] using this
 have Br:∀l,eg ((ek L 0 xs bx).cU x.B.dst x.v x.us) l=eg (ek (nQ L i) 0 xs bx) l:=fun l=>by
  rw[x8];cases hw:x.wr l with
  |none=>
   simp only;refine DS rfl fun j y hy Ks=>?_
   simp only[Nat.zero_add,nQ];by_cases h:j=i
   ·subst h;rw[hx] at hy;cases hy;exact absurd hw Ks
   ·simp[h]
  |some u=>
   simp only;refine(adj hx (by simp[nQ]) hw fun j y pc hy Ks=>?_).symm
   simp only[Nat.zero_add,nQ];have:L j=false:=by
    cases qU:L j with
    |false=>rfl
    |true=>
     rcases qs j y hy i x pc hx with h1|h1
     ·have:=h1 L hc (hc j qU);rw[hi] at this;cases this
     ·rw[aiN (by rw[hw];intro h;cases h) Ks] at h1;cases h1
   rw[this];simp;omega
 have Zb:ck (ek L 0 xs bx) B.dst=true:=by revert Z;cases B.dst<;>simp[ck,FE]
 have fin:∀aQ bX w',ao O Y X aQ ((ek L 0 xs bx).cU x.B.dst x.v x.us) bX w'->(∀t,t∉B.dst.toList->bX.getD t undef=M.getD t undef)->K ⟨bX,ds⟩ w':=fun aQ bX w' ch=>bR aQ bX w' (ch.same Br (by rw[Ig,FE,FE]))
 unfold wpOpIn;rw[arY];simp only;have Bt:Region.wanted B (yielded ops M)=x.go:=by
  cases hg:B.guard with
  |none=>rw[hr.free hg];simp[Region.wanted,hg]
  |some LV=>
   obtain⟨j,want⟩:=LV;obtain⟨t,h1,h2,h3⟩:=hr.guard j want hg;rw[show Region.wanted B (yielded ops M)=(yielded ops M j==some want) by simp[Region.wanted,hg]]
   have ja:=S.cI t;rw[<-TM t h2] at ja;rcases h3 with⟨b,h3,ay⟩|⟨⟨u,h3⟩,ay⟩
   ·rw[h3] at ja;have hv:=jx ja;have hy:yielded ops M j=some b:=by
     have aq:t<M.size:=by
      rcases Nat.lt_or_ge t M.size with ai|ai
      ·exact ai
      ·simp[Array.getD,Nat.not_lt.2 ai,undef] at hv
     have:M[t]? =some (.bool b):=by
      rw[Array.getElem?_eq_getElem aq];simpa[Array.getD,aq] using hv
     simp[yielded,h1,this]
    rw[hy,ay];cases b<;>cases want<;>rfl
   ·rw[h3] at ja;have hv:M.getD t undef=.tuple u:=ja;have hy:yielded ops M j=none:=by
     simp only[yielded,h1,Option.bind_some];cases aq:M[t]? with
     |none=>rfl
     |some v=>
      have:M.getD t undef=v:=by simp[Array.getD_eq_getD_getElem?,aq]
      rw[this] at hv;rw[hv]
    rw[hy,ay];rfl
 cases tB:x.go with
 |false=>
  rw[tB] at Bt;rw[if_neg (by rw[Bt];decide)]
  obtain⟨e1,e2⟩:=hr.skip tB;refine⟨fun f _=>BK rn f,xJ (R:=aj) (r:=(ek L 0 xs bx).cU B.dst Aj []) S (K:=some) (by simp[so,Zb]) fun eC gA hL aS h1 dr=>?_⟩
  cases h1;refine fin gA hL aS ?_
  rw[hr.g',e1,e2];exact dr
 |true=>
  rw[tB] at Bt;rw[if_pos Bt];obtain⟨y,g1,g2,g3,g4,g5,g6,g7⟩:=hr.run tB;have dH:step C (ek (fun k=>decide (k<i)) 0 xs bx) B=step C (ek L 0 xs bx) B:=by
   refine acy (fun t aq=>TM t (g5 t aq)) (fun o bq=>?_) fun alN o bq=>?_
   ·have:=Kb (.inr o) (.inl (g6 o bq));simpa[eg] using this
   ·have:=Kb (.inr o) (.inr ⟨g7 alN,bq⟩);simpa[eg] using this
  revert y
  rw[dH];intro y g1 g2 g3 g4;refine nh (R:=aj) (r:=(ek L 0 xs bx).cU B.dst x.v x.us) S H (K:=some) ?_ fun eC gA hL aS h1 dr=>?_
  ·unfold kh;rw[Zb,cond_true,g1];simp only[Option.bind_some,g2,cond_true,g3,g4]
  ·cases h1;refine fin gA hL aS ?_
   rw[hr.g'];exact dr
def v_(listed:Array Bool):Nat:=listed.toList.count false
def gw(listed:Array Bool):Nat->Bool:=fun j=>listed.getD j false
theorem ahw{listed:Array Bool}{i:Nat}(h:listed.getD i true=false):v_ (listed.setIfInBounds i true)+1=v_ listed:=by
 unfold v_;have hlt:i<listed.size:=by
  rcases Nat.lt_or_ge i listed.size with ai|ai
  ·exact ai
  ·simp[Array.getD,Nat.not_lt.2 ai] at h
 have hv:listed.toList[i]'(by simpa using hlt)=false:=by simpa[Array.getD,hlt] using h
 rw[Array.toList_setIfInBounds,List.count_set (by simpa using hlt)]
 rw[hv];have:0<listed.toList.count false:=List.count_pos_iff.2 (by rw[<-hv];exact List.getElem_mem _)
 have e1:(if(false==false)=true then 1 else 0)=1:=rfl
 have e2:(if(true==false)=true then 1 else 0)=0:=rfl
 rw[e1,e2];omega
theorem OU{B:Oper}{t:Nat}:∀{l:List Oper},B∈l->t∈B.dst.toList->t∈io l:=by
 intro l;induction l with
 |nil=>intro h;cases h
 |cons p l ih=>
  intro h aq;simp only[io,List.mem_append];rcases List.mem_cons.1 h with rfl|h
  ·exact .inl aq
  ·exact .inr (ih h aq)
theorem ag4(H:aW P C){bx Cp:aj}{xs:List Rec}(bi:kR C ops ops.toList 0 [] bx xs Cp){Q:Exit->Act->World->Prop}{eH:Array Value}(Da:∀D M w,ao O Y X D Cp M w->(∀t,t∉io ops.toList->M.getD t undef=eH.getD t undef)->Q .normal ⟨M,ds⟩ w):
  ∀(l1:Nat) (listed:Array Bool) (D:Nat->Value) (M:Array Value) (w:World),listed.size=ops.size->v_ listed<=l1->Bk ops (gw listed)->ao O Y X D (ek (gw listed) 0 xs bx) M w->
   (∀t,t∉io ops.toList->M.getD t undef=eH.getD t undef)->wpAnyIn (eE rn) 0 P .any ops Q l1 listed ⟨M,ds⟩ w:=by
 have hlen:xs.length=ops.size:=by rw[bi.length];simp
 have qs:∀j y,xs[j]? =some y->∀k z,k<j->xs[k]? =some z->tR ops k j\/lY z y=false:=fun j y hy k z hk hz=>by
  have:=bi.aq8 [] rfl (fun j=>by simp) (fun k y h=>by simp at h) (fun k x b h=>by simp at h) j y hy k z (by omega) (by simpa using hz)
  simpa using this
 have all:∀listed:Array Bool,listed.size=ops.size->(∀j,j<ops.size->gw listed j=true)->∀D M w,ao O Y X D (ek (gw listed) 0 xs bx) M w->(∀t,t∉io ops.toList->M.getD t undef=eH.getD t undef)->Q .normal ⟨M,ds⟩ w:=fun listed hs hl D M w S aq=>by
  refine Da D M w ?_ aq;rw[<-bi.aoa 0];rw[No (L':=gw listed) (k':=0) fun j hj=>by simp only[Nat.zero_add];rw[hl j (by omega)]]
  exact S
 have done:∀listed:Array Bool,listed.size=ops.size->Region.ready .any ops listed=[]->∀j,j<ops.size->gw listed j=true:=fun listed hs hr j=>by
  induction j using Nat.strongRecOn with
  |_ j ih=>
   intro hj;cases qU:gw listed j with
   |true=>rfl
   |false=>
    exfalso
    have hx:xs[j]? =some (xs[j]'(by omega)):=List.getElem?_eq_getElem _
    obtain⟨B,h1,_,h3,_⟩:=bi.at_ j _ hx;have h1:ops[j]? =some B:=by simpa using h1
    have hm:j∈Region.ready .any ops listed:=by
     rw[mem_ready];refine⟨?_,B,h1,fun e he hb=>?_⟩
     ·have hlt:j<listed.size:=by omega
      simpa[gw,Array.getD,hlt] using qU
     ·have:e.on<j:=by
       have ma:e∈B.after.toList:=by simpa using he
       clear he hr;revert h3
       simp only[Nat.zero_add];generalize B.after.toList=es at ma;induction es with
       |nil=>cases ma
       |cons cE es arv=>
        intro h3;simp only[se,Bool.and_eq_true] at h3;rcases List.mem_cons.1 ma with rfl|ma
        ·rw[hb] at h3;simpa using h3.1
        ·exact arv ma h3.2
      have:=ih e.on this (by omega)
      simpa[gw] using this
    rw[hr] at hm;cases hm
 intro l1;induction l1 with
 |zero=>
  intro listed D M w hs hu hc S aq;have mJ:∀j,j<ops.size->gw listed j=true:=fun j hj=>by
   have h0:listed.toList.count false=0:=Nat.le_zero.1 hu;rw[List.count_eq_zero] at h0;cases qU:gw listed j with
   |true=>rfl
   |false=>
    exfalso
    have hlt:j<listed.size:=by omega
    apply h0;have:listed.toList[j]'(by simpa using hlt)=false:=by simpa[gw,Array.getD,hlt] using qU
    rw[<-this];exact List.getElem_mem _
  refine⟨?_,all listed hs mJ D M w S aq⟩;rw[List.eq_nil_iff_forall_not_mem];intro j hj;rw[mem_ready] at hj;obtain⟨h1,B,h2,_⟩:=hj;have hj:j<ops.size:=(Array.getElem?_eq_some_iff.1 h2).1;have:=mJ j hj;have hlt:j<listed.size:=by omega
  simp[gw,Array.getD,hlt] at this h1;rw[h1] at this;cases this
 |succ l1 ih=>
  intro listed D M w hs hu hc S aq;refine⟨fun hr=>all listed hs (done listed hs hr) D M w S aq,fun i hi=>?_⟩
  have jn:=mem_ready.1 hi;obtain⟨h1,B,h2,h3⟩:=jn;have tA:i<ops.size:=(Array.getElem?_eq_some_iff.1 h2).1;have hx:xs[i]? =some (xs[i]'(by omega)):=List.getElem?_eq_getElem _
  obtain⟨cZ,g1,g2,g3,g4⟩:=bi.at_ i _ hx;have g1:ops[i]? =some cZ:=by simpa using g1
  rw[h2] at g1;cases g1;have hlt:i<listed.size:=by omega
  have asr:gw listed i=false:=by simpa[gw,Array.getD,hlt] using h1
  have hf:Cg ops (gw listed) i:=fun o2 wz e he hb=>by
   rw[h2] at wz;cases wz;have:=h3 e (by simpa using he) hb
   simpa[gw] using this
  have vI:gw (listed.setIfInBounds i true)=nQ (gw listed) i:=by
   funext j
   simp only[gw,nQ];by_cases h:j=i
   ·subst h;simp[hlt]
   ·simp[h,Array.getElem?_setIfInBounds_ne (show i≠j from fun e=>h e.symm)]
  refine afa H hx g2 g4 qs hc asr hf h2 S fun aQ bX w' ch qI=>ih _ aQ bX w' (by simpa using hs) (by have:=ahw h1;omega) ?_ (by rw[vI];exact ch) fun t htn=>(qI t fun ai=>htn (OU (l:=ops.toList) (by simpa using Array.mem_of_getElem? h2) ai)).trans (aq t htn)
  rw[vI];intro j hj o2 wz e he hb;simp only[nQ,Bool.or_eq_true,decide_eq_true_eq] at hj;simp only[nQ,Bool.or_eq_true,decide_eq_true_eq];rcases hj with hj|hj
  ·exact .inl (hc j hj o2 wz e he hb)
  ·subst hj;exact .inl (hf o2 wz e he hb)
theorem ae4:∀l:List Nat,dF st.sites (A9 st l):=by
 intro l;induction l with
 |nil=>exact .nil
 |cons t l ih=>
  refine dF.append ?_ ih;unfold Th;split
  ·rename_i o s _;split
   ·rename_i aD t xs hs;cases hb:aD.beq s with
    |false=>exact .nil
    |true=>
     intro aa ab hm;simp only[cond_true,List.mem_singleton,Prod.mk.injEq] at hm;obtain⟨rfl,rfl⟩:=hm;exact⟨aD,t,xs,rfl,.inl hs⟩
   ·exact .nil
  ·exact .nil
theorem ac8(H:aW P C)(hm:P.follows .mixedOrders=true){R:Type}{r:R}{K:aj->Option R}{id:Nat}{Q:Exit->Act->World->Prop}(S:ao O Y X D st M w)(h:Ri C ops st K=some r)
  (bR:∀al aQ bX w',K al=some r->ao O Y X aQ al bX w'->(∀t,t∉io ops.toList->bX.getD t undef=M.getD t undef)->Q .normal ⟨bX,ds⟩ w'):fW rn P (Code.region id ops true) Q ⟨M,ds⟩ w:=by
 obtain⟨xs,Cp,bi,hk⟩:=afb h;have S:ao O Y X D (st.h4 (A9 st (EX ops.toList ops.toList))) M w:=by rw[aj.uD];exact S.z_ (ae4 _)
 refine wpIn_region_any hm (ag4 H bi (fun D M w S=>bR Cp D M w hk S) _ _ D M _ (by simp) ?_ ?_ ?_ (fun _ _=>rfl))
 ·unfold v_;simp
 ·intro j hj;simp only[gw] at hj;exfalso
  rw[Array.getD_eq_getD_getElem?,Array.getElem?_replicate] at hj;split at hj<;>cases hj
 ·rw[DT fun j _=>by
   simp only[gw];rw[Array.getD_eq_getD_getElem?,Array.getElem?_replicate];split<;>rfl]
  exact S.drawn _
end
def sY(r:Option Nat)(c:Code):Prop:=r=none\/gI c=true
theorem sY.left{r:Option Nat}{a b:Bool}(h:r=none\/(a&&b)=true):r=none\/a=true:=by
 rcases h with h|h
 ·exact .inl h
 ·simp only[Bool.and_eq_true] at h;exact .inr h.1
theorem sY.right{r:Option Nat}{a b:Bool}(h:r=none\/(a&&b)=true):r=none\/b=true:=by
 rcases h with h|h
 ·exact .inl h
 ·simp only[Bool.and_eq_true] at h;exact .inr h.2
theorem jw{P:Program}{C:hI}(H:aW P C.toCtx){R:Type}{r:R}{rn:Option Nat}:∀(c:Code) (p:Nat),(rn=none\/gI c=true)->f_ P C c p->∀(O:World) (Y:List Nat) (X:Nat->Prop) (st:aj) (D:Nat->Value) (M:Array Value) (w:World)
  (ds:List Deferred) (K:Out->Option R)
  (Q:Exit->Act->World->Prop),exec C c p st K=some r->ao O Y X D st M w->(∀B e a w',K B=some r->e8 O Y X ds M (cr c) B e a w'->Q e a w')->fW rn P c Q ⟨M,ds⟩ w:=by
 have piece:∀(c:Code) (p:Nat),(rn=none\/gI c=true)->(∀f,C.nT p=some f->aT P c f)->∀(O:World) (Y:List Nat) (X:Nat->Prop) (st:aj) (D:Nat->Value) (M:Array Value) (w:World) (ds:List Deferred) (K:Out->Option R) (Q:Exit->Act->World->Prop) (x:Option R),
   wrap C p st K x=some r->ao O Y X D st M w->(∀B e a w',K B=some r->e8 O Y X ds M (cr c) B e a w'->Q e a w')->(x=some r->fW rn P c Q ⟨M,ds⟩ w)->fW rn P c Q ⟨M,ds⟩ w:=by
  intro c p hn hf O Y X st D M w ds K Q x h S bR hx;unfold wrap at h;cases aG:C.nT p with
  |none=>simp only[aG] at h;exact hx h
  |some f=>
   simp only[aG] at h;cases hc:(f st).comp with
   |none=>simp[hc] at h
   |some y=>
    simp only[hc,Option.bind_some,(f st).run_eq] at h;exact wpIn_mono (hf f aG rn hn O Y X st y hc D M w ds S) fun e a w' hl=>bR _ e a w' h hl
 intro c;induction c with
 |skip=>
  intro p _ _ O Y X st D M w ds K Q h S bR;exact wpIn_skip (bR (.norm st) .normal _ _ h (eu.of S fun _ _=>rfl))
 |region id ops draw=>
  intro p hn ed O Y X st D M w ds K Q h S bR;cases draw with
  |false=>
   simp only[exec] at h;refine piece _ p hn ed O Y X st D M w ds K Q _ h S bR fun ai=>?_
   refine wpIn_region ?_
   rw[List.range_eq_range'];refine ad8 H (W:=io ops.toList) ops.size 0 (by omega) (fun B aG t aq=>OU (by simpa using aG) aq) st D M w _ Q S ai ?_
   intro al aQ bX w' hk ch aq;exact bR (.norm al) .normal _ _ hk (eu.of ch aq)
  |true=>
   simp only[exec] at h;refine piece _ p hn ed O Y X st D M w ds K Q _ h S bR fun ai=>?_
   exact ac8 H H.LR S ai fun al aQ bX w' hk ch aq=>bR (.norm al) .normal _ _ hk (eu.of ch aq)
 |seq a b l6 qC=>
  intro p hn ed O Y X st D M w ds K Q h S bR;simp only[exec] at h;refine piece _ p hn ed.1 O Y X st D M w ds K Q _ h S bR fun ai=>?_
  refine wpIn_seq (l6 _ (sY.left hn) ed.2.1 O Y X st D M w ds _ _ ai S ?_);intro B e cP w' hk hl;have up:∀{B e cP w'},e8 O Y X ds M (cr a) B e cP w'->e8 O Y X ds M (cr (.seq a b)) B e cP w':=fun hl=>hl.mono fun t aq=>List.mem_append.2 (.inl aq)
  cases B with
  |norm al=>
   cases e<;>try exact hl.elim
   obtain⟨aS,dC,c7,aQ,dD,h1,h2,h3,ch,bo⟩:=hl;obtain⟨bX,L2⟩:=cP;obtain⟨h3,asC⟩:=h3;have h3:L2=dD.map mark++ds:=h3;subst h3;exact qC _ (sY.right hn) ed.2.2 aS dC c7 al aQ bX w' _ K Q hk ch fun B e a2 w2 hk2 n3=>bR B e a2 w2 hk2 (e8.trans h1 h2 asC bo n3)
  |exit id al=>
   cases e<;>try exact hl.elim
   exact bR _ _ _ _ hk (up hl)
  |ret al=>
   cases e<;>try exact hl.elim
   exact bR _ _ _ _ hk (up hl)
 |cond B a b l6 qC=>
  intro p hn ed O Y X st D M w ds K Q h S bR;simp only[exec] at h;refine piece _ p hn ed.1 O Y X st D M w ds K Q _ h S bR fun ai=>?_
  split at ai
  ·rename_i t aq;have hv:=Hc S aq;have hv:Act.eval ⟨M,ds⟩ B=.bool t:=by cases B<;>exact hv
   cases t with
   |true=>exact wpIn_cond hv (l6 _ (sY.left hn) ed.2.1 O Y X st D M w ds K Q ai S fun B e a2 w2 hk2 n3=>bR B e a2 w2 hk2 (n3.mono fun t aq=>List.mem_append.2 (.inl aq)))
   |false=>exact wpIn_cond hv (qC _ (sY.right hn) ed.2.2 O Y X st D M w ds K Q ai S fun B e a2 w2 hk2 n3=>bR B e a2 w2 hk2 (n3.mono fun t aq=>List.mem_append.2 (.inr aq)))
  ·cases ai
 |block id a l6=>
  intro p hn ed O Y X st D M w ds K Q h S bR;simp only[exec] at h;refine piece _ p hn ed.1 O Y X st D M w ds K Q _ h S bR fun ai=>?_
  refine wpIn_block (l6 _ hn ed.2 O Y X st D M w ds _ _ ai S ?_);intro B e cP w' hk hl;cases B with
  |norm al=>
   cases e<;>try exact hl.elim
   exact bR _ _ _ _ hk hl
  |exit iO al=>
   cases e<;>try exact hl.elim
   rename_i awu;obtain⟨rfl,hl⟩:=hl;simp only[Exit.inBlock];cases hb:iO.beq id with
   |true=>
    simp only[hb,cond_true] at hk;have:=Nat.eq_of_beq_eq_true hb;subst this;simp only[if_true];exact bR _ _ _ _ hk hl
   |false=>
    simp only[hb,cond_false] at hk;have:iO≠id:=by rintro rfl;rw[Nat.beq_refl] at hb;cases hb
    simp only[this,if_false];exact bR _ _ _ _ hk ⟨rfl,hl⟩
  |ret al=>
   cases e<;>try exact hl.elim
   exact bR _ _ _ _ hk hl
 |loop a _=>
  intro p hn ed O Y X st D M w ds K Q h S bR;simp only[exec] at h;exact piece _ p hn ed O Y X st D M w ds K Q _ h S bR fun ai=>by cases ai
 |rangeFunc=>
  intro p hn ed O Y X st D M w ds K Q h S bR;simp only[exec] at h;exact piece _ p hn ed O Y X st D M w ds K Q _ h S bR fun ai=>by cases ai
 |exit id=>
  intro p _ _ O Y X st D M w ds K Q h S bR;exact wpIn_exit (bR (.exit id st) (.exit id) _ _ h ⟨rfl,eu.of S fun _ _=>rfl⟩)
 |ret=>
  intro p _ _ O Y X st D M w ds K Q h S bR;exact wpIn_ret (bR (.ret st) .ret _ _ h (eu.of S fun _ _=>rfl))
 |_=>
  intro p _ _ O Y X st D M w ds K Q h S bR;simp only[exec] at h;cases h
inductive dq:Type where
 |int (k:IntKind)
 |bool
 |str
 |sl (t:a7)
 |map (t:a7)
 |err (T:Nat)
@[reducible] def dq.J:dq->Type
 |.int _=>Int
 |.bool=>Bool
 |.str=>F
 |.sl t=>List (den t)
 |.map t=>List (F×den t)
 |.err _=>Option Int
def dq.mk:(s:dq)->s.J->a'
 |.int k,n=>.int k n
 |.bool,b=>.bool b
 |.str,s=>.str s
 |.sl t,xs=>.sl t xs
 |.map t,es=>.map t es
 |.err T,B=>.err T B
def dq.ex:(s:dq)->a'->Option s.J
 |.int k,.int k' n=>if k=k' then some n else none
 |.bool,.bool b=>some b
 |.str,.str s=>some s
 |.sl t,.sl bk xs=>if h:bk=t then some (h▸xs) else none
 |.map t,.map bk es=>if h:bk=t then some (h▸es) else none
 |.err T,.err gq B=>if gq=T then some B else none
 |_,_=>none
theorem dq.S3{s:dq}{d:a'}{y:s.J}(h:s.ex d=some y):s.mk y=d:=by
 unfold dq.ex at h;split at h
 ·split at h
  ·rename_i e;cases h;subst e;rfl
  ·cases h
 ·cases h;rfl
 ·cases h;rfl
 ·split at h
  ·rename_i e;cases h;subst e;rfl
  ·cases h
 ·split at h
  ·rename_i e;cases h;subst e;rfl
  ·cases h
 ·split at h
  ·rename_i e;cases h;subst e;rfl
  ·cases h
 ·cases h
@[reducible] def kH:List dq->Type
 |[]=>Unit
 |s::r=>s.J×kH r
def eY:(aX:List dq)->kH aX->List a'
 |[],_=>[]
 |s::r,(y,z)=>s.mk y::eY r z
def vP:(aX:List dq)->List a'->Option (kH aX)
 |[],[]=>some ()
 |s::r,d::ds=>match s.ex d,vP r ds with
  |some y,some z=>some (y,z)
  |_,_=>none
 |_,_=>none
theorem Q0:∀{aX:List dq} {ds:List a'} {y:kH aX},vP aX ds=some y->eY aX y=ds:=by
 intro aX;induction aX with
 |nil=>intro ds y h;cases ds with
  |nil=>rfl
  |cons=>cases h
 |cons s aX ih=>
  intro ds y h;cases ds with
  |nil=>cases h
  |cons d ds=>
   simp only[vP] at h;split at h
   ·rename_i a b h1 h2;cases h;simp only[eY,dq.S3 h1,ih h2]
   ·cases h
@[reducible] def vS:List (List dq)->Type
 |[]=>Unit
 |s::r=>kH s×vS r
def vl:(aX:List (List dq))->vS aX->List (List a')
 |[],_=>[]
 |s::r,(y,z)=>eY s y::vl r z
def BC:(aX:List (List dq))->List (List a')->Option (vS aX)
 |[],[]=>some ()
 |s::r,d::ds=>match vP s d,BC r ds with
  |some y,some z=>some (y,z)
  |_,_=>none
 |_,_=>none
theorem agE:∀{aX:List (List dq)} {ds:List (List a')} {y:vS aX},BC aX ds=some y->vl aX y=ds:=by
 intro aX;induction aX with
 |nil=>intro ds y h;cases ds with
  |nil=>rfl
  |cons=>cases h
 |cons s aX ih=>
  intro ds y h;cases ds with
  |nil=>cases h
  |cons d ds=>
   simp only[BC] at h;split at h
   ·rename_i a b h1 h2;cases h;simp only[vl,Q0 h1,ih h2]
   ·cases h
inductive e5:Type where
 |any
 |d (s:dq)
 |fn (g:FuncId) (cN:List (List dq))
 |en (aX:List dq) (off:Nat)
 |own (n:Nat)
 |ptr (n off:Nat)
 |clo (g:FuncId) (ns:List Nat)
 |dn
 |BS -- tj nil interface
 |eS (n:Nat) (t:a7)
@[reducible] def e5.J:e5->Type
 |.d s=>s.J
 |.fn _ cN=>vS cN
 |.en aX _=>kH aX
 |_=>Unit
def e5.mk:(s:e5)->s.J->aI
 |.any,_=>.any
 |.d s,y=>.d (s.mk y)
 |.fn g cN,y=>.d (.fn g (vl cN y))
 |.en aX off,y=>.en (eY aX y) off
 |.own n,_=>.own n 0
 |.ptr n off,_=>.ptr n 0 off
 |.clo g ns,_=>.clo g (ns.map fun n=>(n,0))
 |.dn,_=>.dn
 |.BS,_=>.cS .nilIface
 |.eS n t,_=>.eS n 0 t 0 0
abbrev Ren:=List (Nat×Option (Nat×Nat))
def mB(ρ:Ren)(n o s:Nat):Bool:=match look ρ n with
 |some (some (XC,aD))=>XC.beq o&&aD.beq s
 |_=>false
def uH(ρ:Ren):List Nat->List (Nat×Nat)->Bool
 |[],[]=>true
 |n::ns,(o,s)::cs=>mB ρ n o s&&uH ρ ns cs
 |_,_=>false
def mu(ρ:Ren):List Nat
 :=match ρ with
 |[]=>[]
 |(_,some (o,_))::r=>o::mu r
 |(_,none)::r=>mu r
def e5.ex(st:aj)(ρ:Ren):(s:e5)->aI->Option s.J
 |.any,_=>some ()
 |.d s,.d v=>s.ex v
 |.d (.sl t),.nil _=>some ([]:List (den t))
 |.d (.err _),.cS .nilIface=>some (none:Option Int)
 |.d (.sl t),.own o s=>match st.ab o with
  |some (.dh aD bk xs)=>bif aD.beq s then(if h:bk=t then some (h▸xs:List (den t)) else none) else none
  |_=>none
 |.d (.map t),.own o s=>match st.ab o with
  |some (.map aD bk es)=>bif aD.beq s&&!fP o (mu ρ) then(if h:bk=t then some (h▸es:List (F×den t)) else none) else none
  |_=>none
 |.fn g cN,.d (.fn cz cs)=>bif Nat.beq g cz then BC cN cs else none
 |.fn g [],.clo cz []=>bif Nat.beq g cz then some () else none
 |.en aX off,.en ds oS=>bif Nat.beq off oS then vP aX ds else none
 |.own n,.own o s=>bif mB ρ n o s then some () else none
 |.own n,.nil _=>match look ρ n with|some none=>some ()|_=>none
 |.ptr n off,.ptr o s oS=>bif mB ρ n o s&&Nat.beq off oS then some () else none
 |.clo g ns,.clo cz cs=>bif Nat.beq g cz&&uH ρ ns cs then some () else none
 |.dn,.dn=>some ()
 |.BS,.cS .nilIface=>some ()
 |.eS n t,.eS o s bk 0 0=>bif mB ρ n o s then(if bk=t then some () else none) else none
 |_,_=>none
@[reducible] def qy:List e5->Type
 |[]=>Unit
 |s::r=>s.J×qy r
def sI:(aX:List e5)->qy aX->List aI
 |[],_=>[]
 |s::r,(y,z)=>s.mk y::sI r z
def qh(st:aj)(ρ:Ren):(aX:List e5)->List aI->Option (qy aX)
 |[],[]=>some ()
 |s::r,l::ag=>match s.ex st ρ l,qh st ρ r ag with
  |some y,some z=>some (y,z)
  |_,_=>none
 |_,_=>none
inductive e3:Type where
 |ak (s:e5)
 |agg (aX:List e5)
@[reducible] def e3.J:e3->Type
 |.ak s=>s.J
 |.agg aX=>qy aX
def e3.mk:(s:e3)->s.J->aR
 |.ak s,y=>b0 (s.mk y)
 |.agg aX,y=>.av (.agg (sI aX y))
def e3.ex(st:aj)(ρ:Ren):(s:e3)->aR->Option s.J
 |.ak s,.av (.ak l)=>s.ex st ρ l
 |.agg aX,.av (.agg ag)=>qh st ρ aX ag
 |_,_=>none
@[reducible] def va:List (Nat×e3)->Type
 |[]=>Unit
 |s::r=>s.2.J×va r
def uM:(aX:List (Nat×e3))->va aX->List (Nat×aR)
 |[],_=>[]
 |s::r,(y,z)=>(s.1,s.2.mk y)::uM r z
def z'(st:aj)(ρ:Ren):(aX:List (Nat×e3))->Option (va aX)
 |[]=>some ()
 |s::r=>match s.2.ex st ρ (st.get s.1),z' st ρ r with
  |some y,some z=>some (y,z)
  |_,_=>none
inductive er:Type where
 |row (t:a7)
 |qk (t:a7) (n:Nat) -- awZ avI row,avR length g' told
 |box (aX:List e5)
 |map (t:a7)
@[reducible] def er.J:er->Type
 |.row t=>List (den t)
 |.qk t _=>List (den t)
 |.box aX=>qy aX
 |.map t=>List (F×den t)
def BR{ax:Type}(z:ax):Nat->List ax->List ax
 |0,_=>[]
 |n+1,xs=>xs.headD z::BR z n xs.tail
theorem QT{ax:Type}(z:ax):∀(xs:List ax),BR z xs.length xs=xs
 |[]=>rfl
 |x::xs=>by simp only[List.length_cons,BR,List.headD_cons,List.tail_cons,QT z xs]
def pad{t:a7}(n:Nat)(xs:List (den t)):List (den t):=match wT t with
 |some z=>BR z n xs
 |none=>xs
theorem akd{t:a7}{n:Nat}{xs:List (den t)}(h:xs.length=n):pad n xs=xs:=by
 subst h;unfold pad;split
 ·exact QT _ _
 ·rfl
def er.mk:(s:er)->s.J->Site
 |.row t,xs=>.row 0 t xs
 |.qk t n,xs=>.row 0 t (pad n xs)
 |.box aX,y=>.box 0 (sI aX y)
 |.map t,es=>.map 0 t es
def er.ex(st:aj)(ρ:Ren):(s:er)->Option (Nat×Nat)->Option s.J
 |.row t,none=>some ([]:List (den t))
 |.row t,some (o,s)=>match st.ab o with
  |some (.row aD bk xs)=>bif aD.beq s then(if h:bk=t then some (h▸xs:List (den t)) else none) else none
  |_=>none
 |.qk _ _,none=>none
 |.qk t n,some (o,s)=>match st.ab o with
  |some (.row aD bk xs)=>bif aD.beq s then(if h:bk=t then(if xs.length=n then some (h▸xs:List (den t)) else none) else none) else none
  |_=>none
 |.box aX,some (o,s)=>match fE st o s with
  |some cells=>qh st ρ aX cells
  |none=>none
 |.box _,none=>none
 |.map t,some (o,s)=>match st.ab o with
  |some (.map aD bk es)=>bif aD.beq s then(if h:bk=t then some (h▸es:List (F×den t)) else none) else none
  |_=>none
 |.map _,none=>none
inductive Loc:Type where
 |same
 |slot (t j:Nat)
 |cell (o j:Nat)
def alu(st:aj):Loc->Option aI
 |.same=>none
 |.slot t j=>match st.get t with
  |.av (.ak l)=>bif Nat.beq j 0 then some l else none
  |.av (.agg ag)=>ag[j]?
  |_=>none
 |.cell o j=>match st.ab o with
  |some (.box _ cells)=>cells[j]?
  |_=>none
def Ip(st:aj)(n:Nat)(l:Loc):Option (Option (Nat×Nat)):=
 match l with
 |.same=>match st.ab n with|some s=>some (some (n,s.cw))|none=>none
 |l=>match alu st l with
  |some (.own o s)=>some (some (o,s))
  |some (.ptr o s _)=>some (some (o,s))
  |some (.eS o s _ _ _)=>some (some (o,s))
  |some (.nil _)=>some none
  |_=>none
@[reducible] def sC:List (Nat×er×Loc)->Type
 |[]=>Unit
 |s::r=>s.2.1.J×sC r
def ke:(aX:List (Nat×er×Loc))->sC aX->List (Nat×Site)
 |[],_=>[]
 |s::r,(y,z)=>(s.1,s.2.1.mk y)::ke r z
def Aa(st:aj)(ρ:Ren):(aX:List (Nat×er×Loc))->Option (sC aX)
 |[]=>some ()
 |s::r=>match(look ρ s.1).bind fun B=>s.2.1.ex st ρ B,Aa st ρ r with
  |some y,some z=>some (y,z)
  |_,_=>none
def qb(st:aj):List (Nat×er×Loc)->Option Ren
 |[]=>some []
 |s::r=>match Ip st s.1 s.2.2,qb st r with
  |some B,some ρ=>some ((s.1,B)::ρ)
  |_,_=>none
structure Shape where
 cI:List (Nat×e3)
 sites:List (Nat×er×Loc)
 nt:Nat
@[reducible] def Shape.J(aV:Shape):Type:=va aV.cI×sC aV.sites
def Shape.st(aV:Shape)(y:aV.J):aj:=⟨uM aV.cI y.1,ke aV.sites y.2,aV.nt⟩
def B0(st:aj):e5->aI->List (Nat×Site)
 |.d (.sl _),.own o s=>match st.ab o with
  |some (.row aD t xs)=>bif aD.beq s then [(o,.dh s t xs)] else []
  |_=>[]
 |_,_=>[]
def BZ(st:aj):List e5->List aI->List (Nat×Site)
 |s::aX,l::ag=>B0 st s l++BZ st aX ag
 |_,_=>[]
def VR(st:aj):e3->aR->List (Nat×Site)
 |.ak s,.av (.ak l)=>B0 st s l
 |.agg aX,.av (.agg ag)=>BZ st aX ag
 |_,_=>[]
def pP(st:aj):List (Nat×e3)->List (Nat×Site)
 |[]=>[]
 |s::r=>VR st s.2 (st.get s.1)++pP st r
def VQ(st:aj):er->Option (Option (Nat×Nat))->List (Nat×Site)
 |.box aX,some (some (o,s))=>match fE st o s with
  |some cells=>BZ st aX cells
  |none=>[]
 |_,_=>[]
def pQ(st:aj):List (Nat×er×Loc)->List (Nat×Site)
 |[]=>[]
 |s::r=>VQ st s.2.1 (Ip st s.1 s.2.2)++pQ st r
def Shape.ex(aV:Shape)(bx:aj):Option aV.J:=
 let st:=bx.h4 (pP bx aV.cI++pQ bx aV.sites)
 bif st.nt.beq aV.nt then
  match qb st aV.sites with
  |some ρ=>bif fB (keys ρ)&&fB (mu ρ) then
    match z' st ρ aV.cI,Aa st ρ aV.sites with
    |some y,some z=>some (y,z)
    |_,_=>none
   else none
  |none=>none
 else none
theorem Rg{st:aj}{s:e5}{l:aI}:dF st.sites (B0 st s l):=by
 unfold B0;split
 ·rename_i o s;split
  ·rename_i aD t xs hl;cases hb:aD.beq s with
   |false=>exact .nil
   |true=>
    have:=Nat.eq_of_beq_eq_true hb;subst this;intro aa ab hm;simp only[cond_true,List.mem_singleton,Prod.mk.injEq] at hm;obtain⟨rfl,rfl⟩:=hm;exact⟨_,_,_,rfl,.inl hl⟩
  ·exact .nil
 ·exact .nil
theorem Rf{st:aj}:∀{aX:List e5} {ag:List aI},dF st.sites (BZ st aX ag):=by
 intro aX;induction aX with
 |nil=>intro ag;cases ag<;>exact .nil
 |cons s aX ih=>
  intro ag;cases ag with
  |nil=>exact .nil
  |cons l ag=>exact Rg.append ih
theorem ab0{st:aj}:∀{aX:List (Nat×e3)},dF st.sites (pP st aX):=by
 intro aX;induction aX with
 |nil=>exact .nil
 |cons s aX ih=>
  refine dF.append ?_ ih;unfold VR;split
  ·exact Rg
  ·exact Rf
  ·exact .nil
theorem ab1{st:aj}:∀{aX:List (Nat×er×Loc)},dF st.sites (pQ st aX):=by
 intro aX;induction aX with
 |nil=>exact .nil
 |cons s aX ih=>
  refine dF.append ?_ ih;unfold VQ;split
  ·split
   ·exact Rf
   ·exact .nil
  ·exact .nil
def sW(st:aj)(ρ:Ren)(bV:List (Nat×Site)):Prop:=
 ∀n B,look ρ n=some B->(∃aD,look bV n=some aD/\aD.cw=0)/\∀o s,B=some (o,s)->∃ab,look st.sites o=some ab/\ab.cw=s/\ab.live=true
def fC(D:Nat->Value)(ρ:Ren)(n:Nat):Value:=
 match look ρ n with
 |some (some (o,_))=>D o
 |some none=>.slice none 0 0
 |none=>undef
theorem acE{ρ:Ren}{n o s:Nat}(h:mB ρ n o s=true):look ρ n=some (some (o,s)):=by
 unfold mB at h;split at h
 ·rename_i XC aD hl;simp only[Bool.and_eq_true] at h;rw[hl,Nat.eq_of_beq_eq_true h.1,Nat.eq_of_beq_eq_true h.2]
 ·cases h
section
variable {O:World}{Y:List Nat}{X:Nat->Prop}{D:Nat->Value}{st:aj}{M:Array Value}{w:World}{ρ:Ren}{bV:List (Nat×Site)}{cg:Nat->Prop}
theorem zt(S:ao O Y X D st M w)(hR:sW st ρ bV){n o s:Nat}(h:mB ρ n o s=true){p kb:Prop}(hr:Ref st.sites o s p)(hp:fC D ρ n=D o->p->kb):Ref bV n 0 kb:=by
 have hl:=acE h;obtain⟨⟨aD,h1,h2⟩,h3⟩:=hR n _ hl;obtain⟨ab,ay,bo,_⟩:=h3 o s rfl;exact Ref.mk h1 h2 (hp (by simp[fC,hl]) (Ref.at hr ay bo))
theorem acF(S:ao O Y X D st M w)(hR:sW st ρ bV):∀{ns:List Nat} {cs:List (Nat×Nat)} {vs:List Value},uH ρ ns cs=true->vs.length=cs.length->
  (∀i (h:i<cs.length) (ai:i<vs.length),Ref st.sites (cs[i]).1 (cs[i]).2 (vs[i]=D (cs[i]).1))->
  vs.length=(ns.map fun n=>(n,0)).length/\∀i (h:i<(ns.map fun n=>((n,0):Nat×Nat)).length) (ai:i<vs.length),Ref bV ((ns.map fun n=>((n,0):Nat×Nat))[i]).1 ((ns.map fun n=>((n,0):Nat×Nat))[i]).2 (vs[i]=fC D ρ ((ns.map fun n=>((n,0):Nat×Nat))[i]).1):=by
 intro ns;induction ns with
 |nil=>
  intro cs vs h hl _;match cs,h with
  |[],_=>exact⟨by simpa using hl,fun i h=>by simp at h⟩
 |cons n ns ih=>
  intro cs vs h hl hr;match cs,h with
  |(o,s)::cs,h=>
   simp only[uH,Bool.and_eq_true] at h;match vs,hl with
   |v::vs,hl=>
    obtain⟨aB,aA⟩:=ih (vs:=vs) h.2 (by simpa using hl) (fun i g1 g2=>hr (i+1) (by simpa using g1) (by simpa using g2))
    refine⟨by simpa using aB,fun i g1 g2=>?_⟩
    cases i with
    |zero=>exact zt S hR h.1 (hr 0 (by simp) (by simp)) (fun e p=>p.trans e.symm)
    |succ i=>exact aA i (by simpa using g1) (by simpa using g2)
def BL(D:Nat->Value)(st:aj)(ρ:Ren)(cg:Nat->Prop):Prop:=∀o,cj st.sites o->fP o (mu ρ)=false->∀b,bH (D o)=some b->¬cg b
theorem e5.fZ(S:ao O Y X D st M w)(hR:sW st ρ bV)(b':∀b,cg b->az X D st.sites b)(ed:BL D st ρ cg){s:e5}{l:aI}{y:s.J}{v:Value}(h:s.ex st ρ l=some y)(hv:dO D st.sites w (az X D st.sites) l v):
  dO (fC D ρ) bV w cg (s.mk y) v:=by
 have gT:∀{d:a'} {v:Value},bD w (az X D st.sites) d v->bD w cg d v:=fun h=>cf.gT (D:=D) (sites:=[]) (a:=one _) b' (fun b hb=>S.lt (b' b hb)) h
 unfold e5.ex at h;split at h
 ·trivial
 ·rename_i s v';have:s.mk y=v':=dq.S3 h;show bD w cg (s.mk y) v;rw[this];exact gT hv
 ·rename_i t u;cases h;have hv:v=.slice none 0 0:=hv;rw[hv];exact bD.nil t
 ·rename_i T;cases h;have hv:v=.nilIface:=hv;rw[hv];exact bD.vQ T
 ·rename_i t o s;split at h
  ·rename_i aD bk xs hl;cases hb:aD.beq s with
   |false=>simp[hb] at h
   |true=>
    simp only[hb,cond_true] at h;split at h
    ·rename_i e;subst e;cases h;have hs:=Nat.eq_of_beq_eq_true hb;subst hs;have hl:look st.sites o=some (.dh aD bk xs):=hl;have mS:v=D o:=Ref.at hv.2 hl rfl;rw[mS];exact gT (S.sites o _ hl).1
    ·cases h
  ·cases h
 ·rename_i t o s;split at h
  ·rename_i aD bk es hl;cases hb:(aD.beq s&&!fP o (mu ρ)) with
   |false=>simp[hb] at h
   |true=>
    simp only[hb,cond_true] at h;simp only[Bool.and_eq_true,Bool.not_eq_true'] at hb;split at h
    ·rename_i e;subst e;cases h;have hs:=Nat.eq_of_beq_eq_true hb.1;subst hs;have hl:look st.sites o=some (.map aD bk es):=hl;have mS:v=D o:=Ref.at hv.2 hl rfl;obtain⟨b,h1,h2⟩:=S.sites o _ hl;rw[mS,h1];exact bD.map bk es b (ed o ⟨_,hl,rfl⟩ hb.2 b (by rw[h1];rfl)) h2
    ·cases h
  ·cases h
 ·rename_i g cN cz cs;cases hb:Nat.beq g cz with
  |false=>simp[hb] at h
  |true=>
   simp only[hb,cond_true] at h;have:=Nat.eq_of_beq_eq_true hb;subst this;show bD w cg (.fn g (vl cN y)) v;rw[agE h];exact gT hv
 ·rename_i g cz;cases hb:Nat.beq g cz with
  |false=>simp[hb] at h
  |true=>
   have:=Nat.eq_of_beq_eq_true hb;subst this;obtain⟨vs,h1,h2,_⟩:=hv;rw[List.eq_nil_of_length_eq_zero h2] at h1;rw[h1];exact kk.fn (bA:=[]) (vs:=[]) trivial
 ·rename_i aX off ds oS;cases hb:Nat.beq off oS with
  |false=>simp[hb] at h
  |true=>
   simp only[hb,cond_true] at h;have:=Nat.eq_of_beq_eq_true hb;subst this;have e:=Q0 h;obtain⟨b,B,h1,h2,h3,cs,ay,bo,cc⟩:=hv;show dO (fC D ρ) bV w cg (.en (eY aX y) off) v;rw[e];exact⟨b,B,h1,fun hx=>h2 (b' b hx),h3,cs,ay,bo,fun j g1 g2=>gT (cc j g1 g2)⟩
 ·rename_i n o s;cases hb:mB ρ n o s with
  |false=>simp[hb] at h
  |true=>exact⟨hv.1,zt S hR hb hv.2 (fun e p=>p.trans e.symm)⟩
 ·rename_i n t;split at h
  ·rename_i hl;have hv:v=.slice none 0 0:=hv;obtain⟨⟨aD,h1,h2⟩,_⟩:=hR n _ hl;exact⟨by rw[hv];rfl,Ref.mk h1 h2 (by simp[fC,hl,hv])⟩
  ·cases h
 ·rename_i n off o s oS;cases hb:(mB ρ n o s&&Nat.beq off oS) with
  |false=>simp[hb] at h
  |true=>
   simp only[Bool.and_eq_true] at hb;have:=Nat.eq_of_beq_eq_true hb.2;subst this;obtain⟨b,h1,h2⟩:=hv;exact⟨b,h1,zt S hR hb.1 h2 (fun e p=>e.trans p)⟩
 ·rename_i g ns cz cs;cases hb:(Nat.beq g cz&&uH ρ ns cs) with
  |false=>simp[hb] at h
  |true=>
   simp only[Bool.and_eq_true] at hb;have:=Nat.eq_of_beq_eq_true hb.1;subst this;obtain⟨vs,h1,h2,h3⟩:=hv;obtain⟨aB,aA⟩:=acF S hR hb.2 h2 h3;exact⟨vs,h1,aB,aA⟩
 ·trivial
 ·exact hv
 ·rename_i n t o s bk;cases hb:mB ρ n o s with
  |false=>simp[hb] at h
  |true=>
   simp only[hb,cond_true] at h;split at h
   ·rename_i e;subst e;obtain⟨b,h1,h2⟩:=hv;exact⟨b,h1,zt S hR hb h2 (fun e p=>by rw[e];exact p)⟩
   ·cases h
 ·cases h
theorem ac6{aX:List e5}{ag:List aI}{y:qy aX}(h:qh st ρ aX ag=some y)(bU:(sI aX y).head?=some .dn):ag.head?=some .dn:=by
 cases aX with
 |nil=>cases bU
 |cons s aX=>
  cases ag with
  |nil=>cases h
  |cons l ag=>
   simp only[qh] at h;split at h
   ·rename_i a b h1 h2;cases h;simp only[sI,List.head?_cons,Option.some.injEq] at bU ⊢;cases s with
    |dn=>cases l<;>first|rfl|cases h1
    |_=>cases bU
   ·cases h
theorem PW(S:ao O Y X D st M w)(hR:sW st ρ bV)(b':∀b,cg b->az X D st.sites b)(ed:BL D st ρ cg):∀{aX:List e5} {ag:List aI} {y:qy aX} {vs:List Value},qh st ρ aX ag=some y->
  cx D st.sites w (az X D st.sites) ag vs->cx (fC D ρ) bV w cg (sI aX y) vs:=by
 intro aX;induction aX with
 |nil=>
  intro ag y vs h hv;match ag,h with
  |[],_=>rw[hv.nx];exact .nil
 |cons s aX ih=>
  intro ag y vs h hv;match ag,h with
  |l::ag,h=>
   simp only[qh] at h;split at h
   ·rename_i a b h1 h2;cases h;obtain⟨v,cn,rfl,aB,aA⟩:=hv.inv;exact .cons (e5.fZ S hR b' ed h1 aB) (ih h2 aA)
   ·cases h
theorem e3.fZ(S:ao O Y X D st M w)(hR:sW st ρ bV)(b':∀b,cg b->az X D st.sites b)(ed:BL D st ρ cg){s:e3}{a:aR}{y:s.J}{v:Value}(h:s.ex st ρ a=some y)(hv:cf D st.sites w (az X D st.sites) a v):
  cf (fC D ρ) bV w cg (s.mk y) v:=by
 unfold e3.ex at h;split at h
 ·exact e5.fZ S hR b' ed h hv
 ·obtain⟨vs,h1,h2,h3⟩:=hv;have:=PW S hR b' ed h ⟨h2,h3⟩;exact⟨vs,h1,this.1,this.2⟩
 ·cases h
theorem ac4:∀{aX:List (Nat×e3)} {y:va aX},z' st ρ aX=some y->∀t v,look (uM aX y) t=some v->∃s:e3,∃y':s.J,s.ex st ρ (st.get t)=some y'/\v=s.mk y':=by
 intro aX;induction aX with
 |nil=>intro y h t v hl;cases hl
 |cons s aX ih=>
  intro y h t v hl;simp only[z'] at h;split at h
  ·rename_i a b h1 h2;cases h;simp only[uM,look] at hl;cases hb:s.1.beq t with
   |true=>
    simp only[hb,cond_true,Option.some.injEq] at hl;have:=Nat.eq_of_beq_eq_true hb;subst this;exact⟨s.2,a,h1,hl.symm⟩
   |false=>
    simp only[hb,cond_false] at hl;exact ih h2 t v hl
  ·cases h
theorem ac5:∀{aX:List (Nat×er×Loc)} {y:sC aX},Aa st ρ aX=some y->∀n bW,look (ke aX y) n=some bW->∃z:er,∃y':z.J,∃B,look ρ n=some B/\z.ex st ρ B=some y'/\bW=z.mk y':=by
 intro aX;induction aX with
 |nil=>intro y h n bW hl;cases hl
 |cons s aX ih=>
  intro y h n bW hl;simp only[Aa] at h;split at h
  ·rename_i a b h1 h2;cases h;simp only[ke,look] at hl;cases hb:s.1.beq n with
   |true=>
    simp only[hb,cond_true,Option.some.injEq] at hl;have:=Nat.eq_of_beq_eq_true hb;subst this;obtain⟨B,aB,aA⟩:=Option.bind_eq_some_iff.1 h1;exact⟨s.2.1,a,B,aB,aA,hl.symm⟩
   |false=>
    simp only[hb,cond_false] at hl;exact ih h2 n bW hl
  ·cases h
theorem er.cw(z:er)(y:z.J):(z.mk y).cw=0:=by cases z<;>rfl
theorem acS{eC:aj}:∀{aX:List (Nat×er×Loc)} {ρ:Ren} {y:sC aX},qb eC aX=some ρ->∀n B,look ρ n=some B->(∃aD,look (ke aX y) n=some aD/\aD.cw=0):=by
 intro aX;induction aX with
 |nil=>intro ρ y h n B hl;simp only[qb] at h;cases h;cases hl
 |cons s aX ih=>
  intro ρ y h n B hl;simp only[qb] at h;split at h
  ·rename_i a b h1 h2;cases h;obtain⟨eD,fi⟩:=y;simp only[ke,look] at hl ⊢;cases hb:s.1.beq n with
   |true=>simp only[cond_true];exact⟨_,rfl,er.cw _ _⟩
   |false=>
    simp only[hb,cond_false] at hl ⊢;exact ih h2 n B hl
  ·cases h
theorem acR{eC:aj}:∀{aX:List (Nat×er×Loc)} {ρ:Ren},qb eC aX=some ρ->(keys ρ).Nodup->∀n z,(n,z,Loc.same)∈aX->∃s,look ρ n=some (some (n,s)):=by
 intro aX;induction aX with
 |nil=>intro ρ h _ n z hm;simp at hm
 |cons s aX ih=>
  intro ρ h hn n z hm;simp only[qb] at h;split at h
  ·rename_i a b h1 h2;cases h;simp only[keys,List.nodup_cons] at hn;rcases List.mem_cons.1 hm with hm|hm
   ·subst hm;simp only[Ip] at h1;split at h1
    ·cases h1;exact⟨_,by simp[look];rfl⟩
    ·cases h1
   ·obtain⟨aD,fH⟩:=ih h2 hn.2 n z hm;refine⟨aD,?_⟩;simp only[look];have:¬s.1=n:=by
     rintro rfl;have key:∀{ρ:Ren} {n:Nat} {B},look ρ n=some B->n∈keys ρ:=by
      intro ρ;induction ρ with
      |nil=>intro n B h;cases h
      |cons p ρ arx=>
       obtain⟨m,q⟩:=p;intro n B h;simp only[look] at h;cases hb:m.beq n with
       |true=>have:=Nat.eq_of_beq_eq_true hb;subst this;exact List.mem_cons_self
       |false=>simp only[hb,cond_false] at h;exact List.mem_cons_of_mem _ (arx h)
     exact hn.1 (key fH)
    rw[jD this];exact fH
  ·cases h
theorem Dz:∀{ρ:Ren} {n o s:Nat},look ρ n=some (some (o,s))->o∈mu ρ:=by
 intro ρ;induction ρ with
 |nil=>intro n o s h;cases h
 |cons p ρ ih=>
  obtain⟨m,B⟩:=p;intro n o s h;simp only[look] at h;cases hb:m.beq n with
  |true=>
   simp only[hb,cond_true,Option.some.injEq] at h;subst h;exact List.mem_cons_self
  |false=>
   simp only[hb,cond_false] at h;have:=ih h;cases B with
   |none=>exact this
   |some q=>exact List.mem_cons_of_mem _ this
theorem abG:∀{ρ:Ren} {n m o s aD:Nat},(mu ρ).Nodup->look ρ n=some (some (o,s))->look ρ m=some (some (o,aD))->n=m:=by
 intro ρ;induction ρ with
 |nil=>intro n m o s aD _ h;cases h
 |cons p ρ ih=>
  obtain⟨k,B⟩:=p;intro n m o s aD Z h ai;simp only[look] at h ai;have qS:(mu ρ).Nodup:=by
   cases B with
   |none=>exact Z
   |some q=>exact(List.nodup_cons.1 Z).2
  cases hb:k.beq n with
  |true=>
   simp only[hb,cond_true,Option.some.injEq] at h;subst h;cases dP:k.beq m with
   |true=>rw[<-Nat.eq_of_beq_eq_true hb,<-Nat.eq_of_beq_eq_true dP]
   |false=>
    simp only[dP,cond_false] at ai;exact absurd (Dz ai) (List.nodup_cons.1 Z).1
  |false=>
   simp only[hb,cond_false] at h;cases dP:k.beq m with
   |true=>
    simp only[dP,cond_true,Option.some.injEq] at ai;subst ai;exact absurd (Dz h) (List.nodup_cons.1 Z).1
   |false=>
    simp only[dP,cond_false] at ai;exact ih qS h ai
theorem Shape.fZ(S:ao O Y X D st M w){aV:Shape}{y:aV.J}(h:aV.ex st=some y):∃aQ,ao O Y X aQ (aV.st y) M w/\∀n z,(n,z,Loc.same)∈aV.sites->aQ n=D n:=by
 unfold Shape.ex at h;have fs:dF st.sites (pP st aV.cI++pQ st aV.sites):=ab0.append ab1;have dr:=S.z_ fs;rw[<-aj.uD] at dr;generalize st.h4 (pP st aV.cI++pQ st aV.sites)=eC at h dr;cases qL:eC.nt.beq aV.nt with
 |false=>simp[qL] at h
 |true=>
  simp only[qL,cond_true] at h;split at h
  ·rename_i ρ YT;cases hc:(fB (keys ρ)&&fB (mu ρ)) with
   |false=>simp[hc] at h
   |true=>
    simp only[hc,cond_true] at h;simp only[Bool.and_eq_true,rz] at hc;split at h
    ·rename_i eD fi h1 h2;cases h;have facts:=ac5 h2;have SL:∀{z:er} {y':z.J} {o s:Nat},z.ex eC ρ (some (o,s))=some y'->∃ab,look eC.sites o=some ab/\ab.cw=s/\ab.live=true:=by
      intro z y' o s hz;cases z with
      |row t=>
       simp only[er.ex] at hz;split at hz
       ·rename_i aD bk xs hl;cases hb:aD.beq s with
        |false=>simp[hb] at hz
        |true=>exact⟨_,hl,Nat.eq_of_beq_eq_true hb,rfl⟩
       ·cases hz
      |qk t n=>
       simp only[er.ex] at hz;split at hz
       ·rename_i aD bk xs hl;cases hb:aD.beq s with
        |false=>simp[hb] at hz
        |true=>exact⟨_,hl,Nat.eq_of_beq_eq_true hb,rfl⟩
       ·cases hz
      |box aX=>
       simp only[er.ex] at hz;split at hz
       ·rename_i hl;exact⟨_,gG hl,rfl,rfl⟩
       ·cases hz
      |map t=>
       simp only[er.ex] at hz;split at hz
       ·rename_i aD bk xs hl;cases hb:aD.beq s with
        |false=>simp[hb] at hz
        |true=>exact⟨_,hl,Nat.eq_of_beq_eq_true hb,rfl⟩
       ·cases hz
     have hR:sW eC ρ (ke aV.sites fi):=by
      intro n B hn;obtain⟨aD,kB,qJ⟩:=acS (y:=fi) YT n B hn;refine⟨⟨aD,kB,qJ⟩,fun o s e=>?_⟩
      obtain⟨z,y',cZ,aB,aA,_⟩:=facts n aD kB;rw[hn] at aB;cases aB;subst e;exact SL aA
     have live:∀n,cj (ke aV.sites fi) n->∀b,bH (fC D ρ n)=some b->∃o s,look ρ n=some (some (o,s))/\cj eC.sites o/\fC D ρ n=D o:=by
      rintro n ⟨bW,hn,_⟩ b hb;obtain⟨z,y',B,aB,aA,_⟩:=facts n bW hn;cases B with
      |none=>simp[fC,aB,bH] at hb
      |some q=>
       obtain⟨o,s⟩:=q;obtain⟨ab,q1,_,cV⟩:=SL aA;exact⟨o,s,aB,⟨ab,q1,cV⟩,by simp[fC,aB]⟩
     have b':∀b,az X (fC D ρ) (ke aV.sites fi) b->az X D eC.sites b:=by
      rintro b (hb|⟨n,hn,hb⟩)
      ·exact .inl hb
      ·obtain⟨o,s,_,q2,cV⟩:=live n hn b hb;exact .inr ⟨o,q2,by rw[<-cV];exact hb⟩
     have gT:∀{d:a'} {v:Value},bD w (az X D eC.sites) d v->bD w (az X (fC D ρ) (ke aV.sites fi)) d v:=
      fun h=>cf.gT (D:=D) (sites:=[]) (a:=one _) b' (fun b hb=>dr.lt (b' b hb)) h
     have ed:BL D eC ρ (az X (fC D ρ) (ke aV.sites fi)):=by
      rintro o cM hm b hb (hx|⟨n,hn,wA⟩)
      ·exact(dr.cl o b cM hb).1 hx
      ·obtain⟨aa,s,q1,q2,cV⟩:=live n hn b wA;rw[cV] at wA;have e:=dr.dV o aa b cM q2 hb wA;subst e;have hin:=Dz q1;rw[<-uy] at hin;rw[hm] at hin;cases hin
     refine⟨fC D ρ,⟨?_,fun t=>?_,fun n bW hn=>?_,fun n m b ec gC g1 g2=>?_,fun n b ec g1=>?_,dr.frame,dr.old,dr.eZ⟩,fun n z hm=>?_⟩
     ·rw[dr.nt];exact Nat.eq_of_beq_eq_true qL
     ·show cf _ _ _ _ (aj.get _ t) _;unfold aj.get;cases hl:look (uM aV.cI eD) t with
      |none=>simp only[Shape.st,hl];trivial
      |some v=>
       simp only[Shape.st,hl];obtain⟨s,y',aB,aA⟩:=ac4 h1 t v hl;rw[aA];exact e3.fZ dr hR b' ed aB (dr.cI t)
     ·have hn:look (ke aV.sites fi) n=some bW:=hn;obtain⟨z,y',B,aB,aA,bC⟩:=facts n bW hn;rw[bC];cases z with
      |row t=>
       cases B with
       |none=>
        simp only[er.ex] at aA;cases aA;exact⟨0,[],⟨by simp,.inl ⟨by simp[fC,aB],rfl⟩⟩,fun j h=>by simp[flat] at h⟩
       |some q=>
        obtain⟨o,s⟩:=q;simp only[er.ex] at aA;split at aA
        ·rename_i aD bk xs hl;cases hb:aD.beq s with
         |false=>simp[hb] at aA
         |true=>
          simp only[hb,cond_true] at aA;split at aA
          ·rename_i e;subst e;cases aA;obtain⟨e,cs,q1,q2⟩:=dr.sites o _ hl;refine⟨e,cs,?_,fun j g1 g2=>gT (q2 j g1 g2)⟩
           have:fC D ρ n=D o:=by simp[fC,aB]
           rw[this];exact q1
          ·cases aA
        ·cases aA
      |qk t m=>
       cases B with
       |none=>cases aA
       |some q=>
        obtain⟨o,s⟩:=q;simp only[er.ex] at aA;split at aA
        ·rename_i aD bk xs hl;cases hb:aD.beq s with
         |false=>simp[hb] at aA
         |true=>
          simp only[hb,cond_true] at aA;split at aA
          ·rename_i e;subst e;split at aA
           ·rename_i hlen;cases aA;obtain⟨e,cs,q1,q2⟩:=dr.sites o _ hl;simp only[er.mk,akd hlen];refine⟨e,cs,?_,fun j g1 g2=>gT (q2 j g1 g2)⟩
            have:fC D ρ n=D o:=by simp[fC,aB]
            rw[this];exact q1
           ·cases aA
          ·cases aA
        ·cases aA
      |box aX=>
       cases B with
       |none=>cases aA
       |some q=>
        obtain⟨o,s⟩:=q;simp only[er.ex] at aA;split at aA
        ·rename_i cells hl;obtain⟨b,T,cur,q1,q2,cV,jL,aq5,q_⟩:=dr.sites o _ (gG hl);have:=PW dr hR b' ed aA ⟨cV,q_⟩;exact⟨b,T,cur,by simp[fC,aB,q1],q2,this.1,jL,fun bU=>aq5 (ac6 aA bU),this.2⟩
        ·cases aA
      |map t=>
       cases B with
       |none=>cases aA
       |some q=>
        obtain⟨o,s⟩:=q;simp only[er.ex] at aA;split at aA
        ·rename_i aD bk es hl;cases hb:aD.beq s with
         |false=>simp[hb] at aA
         |true=>
          simp only[hb,cond_true] at aA;split at aA
          ·rename_i e;subst e;cases aA;obtain⟨b,q1,q2⟩:=dr.sites o _ hl;have:fC D ρ n=D o:=by simp[fC,aB]
           exact⟨b,this.trans q1,q2⟩
          ·cases aA
        ·cases aA
     ·obtain⟨o,s,a1,a2,a3⟩:=live n ec b g1;obtain⟨aa,aD,b1,b2,b3⟩:=live m gC b g2;rw[a3] at g1;rw[b3] at g2;have:=dr.dV o aa b a2 b2 g1 g2;subst this;exact abG hc.2 a1 b1
     ·obtain⟨o,s,a1,a2,a3⟩:=live n ec b g1;rw[a3] at g1;exact dr.cl o b a2 g1
     ·obtain⟨s,hs⟩:=acR YT hc.1 n z hm;simp[fC,hs]
    ·cases h
  ·cases h
end
inductive Kind:Type where
 |norm
 |exit (id:Nat)
 |ret
abbrev aN:=Kind×Shape
@[reducible] def aw:List aN->Type
 |[]=>Empty
 |[B]=>B.2.J
 |B::cZ::r=>Sum B.2.J (aw (cZ::r))
def Kind.mk:Kind->aj->Out
 |.norm,st=>.norm st
 |.exit id,st=>.exit id st
 |.ret,st=>.ret st
def lq:(os:List aN)->aw os->Out
 |[B],y=>B.1.mk (B.2.st y)
 |B::cZ::r,y=>match y with
  |.inl y=>B.1.mk (B.2.st y)
  |.inr y=>lq (cZ::r) y
def Kind.g':Kind->Out->Option aj
 |.norm,.norm st=>some st
 |.exit id,.exit iO st=>bif Nat.beq id iO then some st else none
 |.ret,.ret st=>some st
 |_,_=>none
def gX:(os:List aN)->Out->Option (aw os)
 |[],_=>none
 |[B],x=>match B.1.g' x with
  |some st=>B.2.ex st
  |none=>none
 |B::cZ::r,x=>match B.1.g' x with
  |some st=>(B.2.ex st).map Sum.inl
  |none=>(gX (cZ::r) x).map Sum.inr
section
variable {O:World}{Y:List Nat}{X:Nat->Prop}{ds:List Deferred}{eH:Array Value}{W:List Nat}
theorem eu.ex{st:aj}{aV:Shape}{y:aV.J}{a:Act}{w:World}(hy:aV.ex st=some y)(h:eu O Y X ds eH W st a w):eu O Y X ds eH W (aV.st y) a w:=by
 obtain⟨aS,dC,c7,D,dD,h1,h2,h3,S,bo⟩:=h;obtain⟨aQ,ch,_⟩:=Shape.fZ S hy;exact⟨aS,dC,c7,aQ,dD,h1,h2,h3,ch,bo⟩
theorem Kind.Fp{k:Kind}{x:Out}{st:aj}{aV:Shape}{y:aV.J}{e:Exit}{a:Act}{w:World}(h:k.g' x=some st)(hy:aV.ex st=some y)(hl:e8 O Y X ds eH W x e a w):e8 O Y X ds eH W (k.mk (aV.st y)) e a w:=by
 cases k<;>cases x<;>simp only[Kind.g'] at h<;>try(cases h;done)
 ·cases h;cases e<;>try exact hl.elim
  exact eu.ex hy hl
 ·rename_i id iO al;cases hb:Nat.beq id iO with
  |false=>simp[hb] at h
  |true=>
   simp only[hb,cond_true,Option.some.injEq] at h;subst h;cases e<;>try exact hl.elim
   exact⟨(Nat.eq_of_beq_eq_true hb).trans hl.1,eu.ex hy hl.2⟩
 ·cases h;cases e<;>try exact hl.elim
  exact eu.ex hy hl
theorem ut:∀{os:List aN} {x:Out} {y:aw os} {e:Exit} {a:Act} {w:World},gX os x=some y->e8 O Y X ds eH W x e a w->e8 O Y X ds eH W (lq os y) e a w:=by
 intro os;induction os with
 |nil=>intro x y;exact y.elim
 |cons B os ih=>
  intro x y e a w h hl;cases os with
  |nil=>
   simp only[gX] at h;split at h
   ·rename_i st hk;exact Kind.Fp hk h hl
   ·cases h
  |cons cZ r=>
   simp only[gX] at h;split at h
   ·rename_i st hk;obtain⟨eD,aB,aA⟩:=Option.map_eq_some_iff.1 h;subst aA;exact Kind.Fp hk aB hl
   ·obtain⟨eD,aB,aA⟩:=Option.map_eq_some_iff.1 h;subst aA;exact ih aB hl
end
section
variable {J bm:Type}
def iter(f:J->Option (Sum J bm)):Nat->J->Option bm
 |0,_=>none
 |n+1,y=>match f y with
  |none=>none
  |some (.inl y')=>iter f n y'
  |some (.inr b)=>some b
theorem OL{f:J->Option (Sum J bm)}:∀{n m:Nat} {y:J} {b:bm},n<=m->iter f n y=some b->iter f m y=some b:=by
 intro n;induction n with
 |zero=>intro m y b _ h;cases h
 |succ n ih=>
  intro m y b hle h;obtain⟨m,rfl⟩:∃k,m=k+1:=⟨m-1,by omega⟩
  simp only[iter] at h ⊢;split at h
  ·cases h
  ·exact ih (by omega) h
  ·exact h
open Classical in
noncomputable def bn(f:J->Option (Sum J bm))(y:J):Option bm:=
 if h:∃n b,iter f n y=some b then some (Classical.choose (Classical.choose_spec h)) else none
theorem Ef{f:J->Option (Sum J bm)}{y:J}{b:bm}:bn f y=some b <-> ∃n,iter f n y=some b:=by
 unfold bn;constructor
 ·intro h;split at h
  ·rename_i ai;cases h;exact⟨_,Classical.choose_spec (Classical.choose_spec ai)⟩
  ·cases h
 ·rintro⟨n,hn⟩;have h:∃n b,iter f n y=some b:=⟨n,b,hn⟩;rw[dif_pos h];have h1:=Classical.choose_spec (Classical.choose_spec h);have h2:=OL (Nat.le_max_left (Classical.choose h) n) h1;have h3:=OL (Nat.le_max_right (Classical.choose h) n) hn;rw[h2] at h3;exact h3
theorem yw(f:J->Option (Sum J bm))(y:J):bn f y=match f y with
  |none=>none
  |some (.inl y')=>bn f y'
  |some (.inr b)=>some b:=by
 apply Option.ext;intro b;rw[Ef];cases hf:f y with
 |none=>
  simp only;constructor
  ·rintro⟨n,hn⟩;cases n with
   |zero=>cases hn
   |succ n=>simp only[iter,hf] at hn;cases hn
  ·intro h;cases h
 |some s=>
  cases s with
  |inl y'=>
   simp only;rw[Ef];constructor
   ·rintro⟨n,hn⟩;cases n with
    |zero=>cases hn
    |succ n=>simp only[iter,hf] at hn;exact⟨n,hn⟩
   ·rintro⟨n,hn⟩;exact⟨n+1,by simp only[iter,hf];exact hn⟩
  |inr bI=>
   simp only;constructor
   ·rintro⟨n,hn⟩;cases n with
    |zero=>cases hn
    |succ n=>simp only[iter,hf] at hn;exact hn
   ·intro h;exact⟨1,by simp only[iter,hf];exact h⟩
theorem least{p:Nat->Prop}(h:∃n,p n):∃n,p n/\∀m,p m->n<=m:=by
 obtain⟨n,hn⟩:=h;induction n using Nat.strongRecOn with
 |_ n ih=>
  by_cases ai:∃m,m<n/\p m
  ·obtain⟨m,h1,h2⟩:=ai;exact ih m h1 h2
  ·exact⟨n,hn,fun m hm=>Nat.le_of_not_lt fun hlt=>ai ⟨m,hlt,hm⟩⟩
end
noncomputable def sp(C:hI)(c:Code)(p:Nat)(aV:Shape)(os:List aN)(y:aV.J):Option (Sum aV.J (aw os)):=
 exec C c (2*p) (aV.st y) fun
  |.norm st=>(aV.ex st).map .inl
  |x=>(gX os x).map .inr
def BG:(os:List aN)->(R:Type)->aw os->(Out->Option R)->Option R
 |[B],R,y,K=>K (B.1.mk (B.2.st y))
 |B::cZ::r,R,y,K=>match y with
  |.inl y=>K (B.1.mk (B.2.st y))
  |.inr y=>BG (cZ::r) R y K
theorem P2:∀(os:List aN) (R:Type) (y:aw os) (K:Out->Option R),BG os R y K=K (lq os y):=by
 intro os;induction os with
 |nil=>intro R y;exact y.elim
 |cons B os ih=>
  intro R y K;cases os with
  |nil=>rfl
  |cons cZ r=>
   cases y with
   |inl y=>rfl
   |inr y=>exact ih R y K
def a6(aV:Shape)(os:List aN)(g:aV.J->Option (aw os)):hN:=fun st=>⟨aw os,(aV.ex st).bind g,lq os,BG os,P2 os⟩
section
variable {P:Program}{C:hI}
theorem aeP(H:aW P C.toCtx){c:Code}{p:Nat}{aV:Shape}{os:List aN}(ed:f_ P C c (2*p)){g:aV.J->Option (aw os)}(hg:∀y,g y=bn (sp C c p aV os) y):
  aT P (.loop c) (a6 aV os g):=by
 intro rn hn O Y X st y hy D M w ds S;simp only[a6] at hy y ⊢;obtain⟨dw,h1,h2⟩:=Option.bind_eq_some_iff.1 hy;obtain⟨l4,og,_⟩:=Shape.fZ S h1;rw[hg] at h2;obtain⟨n0,qM⟩:=Ef.1 h2;have au9:∃eV:Nat->Act->World->Prop,∀n a w,eV n a w <-> ∃z,iter (sp C c p aV os) n z=some y/\eu O Y X ds M (cr c) (aV.st z) a w:=⟨_,fun _ _ _=>Iff.rfl⟩
 obtain⟨eV,mj⟩:=au9;classical
 refine wpIn_loop (I:=fun a w=>∃n,eV n a w) (μ:=fun a w=>if h:∃n,eV n a w then Classical.choose (least h) else 0) ⟨n0,(mj _ _ _).2 ⟨dw,qM,eu.of og fun _ _=>rfl⟩⟩ ?_
 intro a w' dk;have anM:=(Classical.choose_spec (least dk)).1;obtain⟨z,hz,aS,dC,c7,gA,dD,b1,b2,b3,dr,w_⟩:=(mj _ _ _).1 anM;obtain⟨hL,L2⟩:=a;obtain⟨b3,asZ⟩:=b3;have b3:L2=dD.map mark++ds:=b3;subst b3;have join:∀{B:Out} {e:Exit} {a2:Act} {w2:World},e8 aS dC c7 (dD.map mark++ds) hL (cr c) B e a2 w2->e8 O Y X ds M (cr c) B e a2 w2:=fun hl=>
  (e8.trans b1 b2 asZ w_ hl).mono fun t aq=>(List.mem_append.1 aq).elim id id
 cases iu:Classical.choose (least dk) with
 |zero=>rw[iu] at hz;cases hz
 |succ n=>
  rw[iu] at hz;simp only[iter] at hz;have go:∀s,sp C c p aV os z=some s->fW rn P c (fun e a w=>match s with
    |.inl eP=>e8 O Y X ds M (cr c) (.norm (aV.st eP)) e a w
    |.inr b=>e8 O Y X ds M (cr c) (lq os b) e a w/\e≠.normal) ⟨hL,dD.map mark++ds⟩ w':=by
   intro s hs;refine jw H c (2*p) hn ed aS dC c7 (aV.st z) gA hL w' _ _ _ hs dr ?_
   intro B e a w2 hk hl;have hl:=join hl;cases B with
   |norm wa=>
    obtain⟨eP,q1,q2⟩:=Option.map_eq_some_iff.1 hk;subst q2;exact Kind.Fp (k:=.norm) rfl q1 hl
   |exit id wa=>
    obtain⟨eP,q1,q2⟩:=Option.map_eq_some_iff.1 hk;subst q2;exact⟨ut q1 hl,by rintro rfl;exact hl⟩
   |ret wa=>
    obtain⟨eP,q1,q2⟩:=Option.map_eq_some_iff.1 hk;subst q2;exact⟨ut q1 hl,by rintro rfl;exact hl⟩
  cases hr:sp C c p aV os z with
  |none=>rw[hr] at hz;cases hz
  |some s=>
   cases s with
   |inl eP=>
    rw[hr] at hz;refine wpIn_mono (go _ hr) fun e a2 w2 hl=>?_
    cases e<;>try exact hl.elim
    have K1:eV n a2 w2:=(mj _ _ _).2 ⟨eP,hz,hl⟩;refine⟨⟨n,K1⟩,?_⟩;have hex:∃n,eV n a2 w2:=⟨n,K1⟩;simp only[dif_pos hex,dif_pos dk,iu];have:Classical.choose (least hex)<=n:=(Classical.choose_spec (least hex)).2 n K1;omega
   |inr b=>
    rw[hr] at hz;simp only[Option.some.injEq] at hz;subst hz;refine wpIn_mono (go _ hr) fun e a2 w2 hl=>?_
    cases e<;>first|exact absurd rfl hl.2|exact hl.1
noncomputable def RQ(C:hI)(c:Code)(p:Nat)(aV:Shape)(os:List aN)(y:aV.J):Option (aw os):=exec C c p (aV.st y) (gX os)
theorem acM(H:aW P C.toCtx){c:Code}{p:Nat}{aV:Shape}{os:List aN}(ed:f_ P C c p){g:aV.J->Option (aw os)}(hg:∀y,g y=RQ C c p aV os y):aT P c (a6 aV os g):=by
 intro rn hn O Y X st y hy D M w ds S;simp only[a6] at hy y ⊢;obtain⟨dw,h1,h2⟩:=Option.bind_eq_some_iff.1 hy;obtain⟨l4,og,_⟩:=Shape.fZ S h1;rw[hg] at h2;exact jw H c p hn ed O Y X (aV.st dw) l4 M w _ _ _ h2 og fun B e a w' hk hl=>ut hk hl
end
def aI.QX:aI->Bool
 |.fresh _ _=>false
 |_=>true
def lI:List aI->Bool
 |[]=>true
 |l::ag=>l.QX&&lI ag
def pR(i:Nat):List Arg->Option (List (Nat×aR))
 |[]=>some []
 |.av a::r=>bif lI a.cells then(pR (i+1) r).map fun l=>(i,.av a)::l else none
 |.fk _::r=>(pR (i+1) r).map fun l=>(i,b0 (.ptr (500000+i) 0 0))::l
def jR(i:Nat):List Arg->List (Nat×Nat)
 |[]=>[]
 |.av _::r=>jR (i+1) r
 |.fk _::r=>(500000+i,0)::jR (i+1) r
def Bh:List Arg->List (List aI)
 |[]=>[]
 |.av _::r=>Bh r
 |.fk cs::r=>cs::Bh r
def np(i:Nat):List Arg->List Nat
 |[]=>[]
 |.av _::r=>np (i+1) r
 |.fk _::r=>i::np (i+1) r
def lc:List (Nat×Nat)->List (Nat×Site)
 |[]=>[]
 |(o,s)::r=>(o,.dead s)::lc r
def Bd(nt:Nat)(as:List Arg)(l:List (Nat×aR)):aj:=⟨l,lc (jR 0 as),nt⟩
def Ie(nt:Nat)(as:List Arg)(l:List (Nat×aR)):List (Nat×Site):=gM (Bd nt as l) (jR 0 as) (Bh as)
def entry(nt:Nat)(as:List Arg):Option aj:=bif Nat.ble as.length nt then(match pR 0 as with
 |some l=>bif fB (keys (Ie nt as l)) then some ⟨l,bl (lc (jR 0 as)) (Ie nt as l),nt⟩ else none
 |none=>none) else none
def nm(st:aj):List Nat->Option (List (List aI)×List (Nat×Site))
 |[]=>some ([],[])
 |t::ce=>match st.get t with
  |.av (.ak (.ptr o s 0))=>match fE st o s,nm st ce with
   |some cells,some (cN,us)=>match ku st cells with
    |some (cs,gone)=>some (cs::cN,(o,.dead s)::(gone++us))
    |none=>none
   |_,_=>none
  |_=>none
def tJ:List Nat->List Nat->Bool
 |[],[]=>true
 |n::r,m::s=>n.beq m&&tJ r s
 |_,_=>false
def alP(st:aj):bP->Option (bP×List (Nat×Site))
 |.ak l=>(nH st l).map fun p=>(.ak p.1,p.2)
 |.agg ag=>(ku st ag).map fun p=>(.agg p.1,p.2)
def Il(tt:TypeId->cd)(st:aj):ResultVar->Option bP
 |.tmp t=>l3 (st.get t)
 |.cell a T=>match tt T with
  |.arr _ t n=>match st.get a with
   |.av (.ak (.eS o s u 0 0))=>match rowOf st o s with
    |some ⟨bk,xs⟩=>if bk=t/\bk=u then(long n xs).map fun xs=>.agg (B4 bk xs n) else none
    |none=>none
   |_=>none
  |ti=>match st.get a with
   |.av (.ak (.ptr o s off))=>bif ti.known then(match fE st o s with
    |some cells=>(cut ti.agg off ti.size cells).bind l3
    |none=>none) else none
   |_=>none
def ny(tt:TypeId->cd)(st:aj):List ResultVar->Option (List bP×List (Nat×Site))
 |[]=>some ([],[])
 |t::ce=>match Il tt st t with
  |some a=>match alP st a,ny tt st ce with
   |some (cP,us),some (as,vs)=>some (cP::as,us++vs)
   |_,_=>none
  |none=>none
def anz(aV:Shape):Out->Option aV.J
 |.ret st=>aV.ex st
 |.norm st=>aV.ex st
 |.exit _ _=>none
noncomputable def Iw(C:hI)(c:Code)(kp fu:Shape)(a:kp.J):Option fu.J:=exec C c 1 (kp.st a) (anz fu)
noncomputable def oy(tt:TypeId->cd)(nt:Nat)(kp fu:Shape)(outs:List ResultVar)(fh:List Nat)(f:kp.J->Option fu.J):aF:=fun as=>
 match entry nt as with
 |some st=>bif tJ (np 0 as) fh then⟨fu.J,(kp.ex st).bind f,fun y=>(match nm (fu.st y) fh with|some r=>r.1|none=>[]),fun y=>match ny tt (fu.st y) outs with|some r=>r.1|none=>[]⟩ else vT.fail
 |none=>vT.fail
section
variable {w:World}{av:Nat->Prop}
theorem aaE:∀{ag:List aI} {vs:List Value} {bs:List Nat},lI ag=true->lf w av ag vs bs->bs=[]/\cx lX [] w av ag vs:=by
 intro ag;induction ag with
 |nil=>
  intro vs bs _ h;match vs,h with
  |[],h=>exact⟨h,.nil⟩
 |cons l ag ih=>
  intro vs bs hn h;simp only[lI,Bool.and_eq_true] at hn;match vs,h with
  |v::vs,⟨b1,b2,h1,h2,h3⟩=>
   obtain⟨aB,aA⟩:=ih hn.2 h3;have:b1=[]/\dO lX [] w av l v:=by
    cases l<;>first|exact h2|cases hn.1
   exact⟨by rw[h1,this.1,aB];rfl,.cons this.2 aA⟩
theorem aaF{a:bP}{v:Value}{bs:List Nat}(hn:lI a.cells=true)(h:BJ w av a v bs):bs=[]/\gU lX [] w av a v:=by
 cases a with
 |ak l=>
  simp only[bP.cells,lI,Bool.and_true] at hn;cases l<;>first|exact h|cases hn
 |agg ag=>
  obtain⟨vs,h1,h2⟩:=h;obtain⟨aB,aA⟩:=aaE hn h2;exact⟨aB,vs,h1,aA.1,aA.2⟩
def nM:Value->Nat
 |.pointer (some a)=>a.block
 |_=>0
theorem aa4{ag:List aI}(h:lI ag=true){l:aI}(hl:l∈ag):l.QX=true:=by
 induction ag with
 |nil=>cases hl
 |cons a ag ih=>
  simp only[lI,Bool.and_eq_true] at h;rcases List.mem_cons.1 hl with rfl|hl
  ·exact h.1
  ·exact ih h.2 hl
theorem ahh{D:Nat->Value}{cg:Nat->Prop}{a:bP}{v:Value}{sites:List (Nat×Site)}(hn:lI a.cells=true)(h:gU lX [] w av a v)(hle:∀b,cg b->av b)(hlt:∀b,cg b->b<w.heap.size):gU D sites w cg a v:=by
 cases a with
 |ak l=>exact DN (fun t xs e=>by subst e;cases hn) h hle hlt
 |agg ag=>
  obtain⟨vs,h1,h2,h3⟩:=h;exact⟨vs,h1,h2,fun j g1 g2=>DN (fun t xs e=>by have:=aa4 hn (List.getElem_mem g1);rw[e] at this;cases this) (h3 j g1 g2) hle hlt⟩
theorem Dw:∀{as:List Arg} {i o s:Nat},(o,s)∈jR i as->s=0:=by
 intro as;induction as with
 |nil=>intro i o s h;cases h
 |cons a as ih=>
  intro i o s h;cases a with
  |av a=>exact ih h
  |fk c=>
   rcases List.mem_cons.1 h with h|h
   ·cases h;rfl
   ·exact ih h
theorem NJ{L:List (Nat×Nat)}(h:∀o s,(o,s)∈L->s=0){o s:Nat}(hm:(o,s)∈L):look (lc L) o=some (.dead 0):=by
 induction L with
 |nil=>cases hm
 |cons p L ih=>
  obtain⟨k,r⟩:=p;simp only[lc,look];cases hb:k.beq o with
  |true=>simp only[cond_true];rw[h k r List.mem_cons_self]
  |false=>
   simp only[cond_false];refine ih (fun o s hm=>h o s (List.mem_cons_of_mem _ hm)) ?_
   rcases List.mem_cons.1 hm with e|e
   ·cases e;rw[Nat.beq_refl] at hb;cases hb
   ·exact e
theorem NP{L:List (Nat×Nat)}{o:Nat}{ab:Site}(h:look (lc L) o=some ab):∃s,ab=.dead s:=by
 induction L with
 |nil=>cases h
 |cons p L ih=>
  obtain⟨k,r⟩:=p;simp only[lc,look] at h;cases hb:k.beq o with
  |true=>simp only[hb,cond_true,Option.some.injEq] at h;exact⟨r,h.symm⟩
  |false=>simp only[hb,cond_false] at h;exact ih h
theorem acb{D:Nat->Value}:∀{as:List Arg} {i:Nat} {l:List (Nat×aR)} {vs:List Value} {bs:List Nat},pR i as=some l->iX w av as vs bs->(∀j,D (500000+i+j)=vs.getD j undef)->
  i' w av (dL as vs) (Bh as) bs/\mY D (jR i as) (dL as vs)/\dL as vs=(np i as).map (fun t=>nM (vs.getD (t-i) undef))/\(∀t,t∈np i as->i<=t)/\
  ∀t v,look l t=some v->i<=t/\((∃a,v=.av a/\lI a.cells=true/\gU lX [] w av a (vs.getD (t-i) undef))\/(v=b0 (.ptr (500000+t) 0 0)/\(500000+t,0)∈jR i as/\∃b,vs.getD (t-i) undef=.pointer (some ⟨b,0,none⟩))):=by
 intro as;induction as with
 |nil=>
  intro i l vs bs h bU cR;simp only[pR] at h;cases h;match vs,bU with
  |[],bU=>exact⟨bU,trivial,rfl,fun t h=>(by cases h),fun t v h=>(by cases h)⟩
 |cons a as ih=>
  intro i l vs bs h bU cR;match vs,bU with
  |v::vs,⟨b1,b2,e,h2,h3⟩=>
  have j2:∀j,D (500000+(i+1)+j)=vs.getD j undef:=fun j=>by
   have:=cR (j+1);rw[List.getD_cons_succ] at this;rw[<-this];congr 1;omega
  have shift:∀t,i+1<=t->(v::vs).getD (t-i) undef=vs.getD (t-(i+1)) undef:=fun t aq=>by
   obtain⟨m,hm⟩:∃m,t-i=m+1:=⟨t-i-1,by omega⟩
   have l_:t-(i+1)=m:=by omega
   rw[hm,List.getD_cons_succ,l_]
  have Vo:∀{L:List Nat},(∀t,t∈L->i+1<=t)->L.map (fun t=>nM (vs.getD (t-(i+1)) undef))=L.map (fun t=>nM ((v::vs).getD (t-i) undef)):=fun dY=>List.map_congr_left fun t aq=>by rw[shift t (dY t aq)]
  cases a with
  |fk c=>
   simp only[pR] at h;obtain⟨gm,h1,ay⟩:=Option.map_eq_some_iff.1 h;subst ay;obtain⟨b,hv,wH⟩:=h2;obtain⟨aB,aA,bC,cO,fK⟩:=ih h1 h3 j2;have eN:dL (.fk c::as) (v::vs)=b::dL as vs:=by subst hv;rfl
   refine⟨by rw[eN];exact⟨b1,b2,e,wH,aB⟩,by rw[eN];exact⟨by have:=cR 0;rw[Nat.add_zero] at this;rw[this];exact hv,aA⟩,?_,fun t aq=>?_,fun t u hl=>?_⟩
   ·rw[eN,bC,Vo cO];simp only[np,List.map_cons,Nat.sub_self,List.getD_cons_zero,hv,nM]
   ·rcases List.mem_cons.1 aq with rfl|aq
    ·exact Nat.le_refl _
    ·exact Nat.le_trans (Nat.le_succ _) (cO t aq)
   ·simp only[look] at hl;cases hb:i.beq t with
    |true=>
     have:=Nat.eq_of_beq_eq_true hb;subst this;simp only[hb,cond_true,Option.some.injEq] at hl;subst hl;exact⟨Nat.le_refl _,.inr ⟨rfl,List.mem_cons_self,b,by simp only[Nat.sub_self,List.getD_cons_zero];exact hv⟩⟩
    |false=>
     simp only[hb,cond_false] at hl;obtain⟨q1,q2⟩:=fK t u hl;refine⟨by omega,?_⟩
     rw[shift t q1];rcases q2 with q2|⟨r1,r2,hO⟩
     ·exact .inl q2
     ·exact .inr ⟨r1,List.mem_cons_of_mem _ r2,hO⟩
  |av a=>
   simp only[pR] at h;cases hn:lI a.cells with
   |false=>simp[hn] at h
   |true=>
    simp only[hn,cond_true] at h;obtain⟨gm,h1,ay⟩:=Option.map_eq_some_iff.1 h;subst ay;obtain⟨g1,g2⟩:=aaF hn h2;obtain⟨aB,aA,bC,cO,fK⟩:=ih h1 h3 j2;have eN:dL (.av a::as) (v::vs)=dL as vs:=by cases v<;>rfl
    refine⟨by rw[eN,e,g1];exact aB,by rw[eN];exact aA,by rw[eN,bC,Vo cO];rfl,fun t aq=>Nat.le_trans (Nat.le_succ _) (cO t aq),fun t u hl=>?_⟩
    simp only[look] at hl;cases hb:i.beq t with
    |true=>
     have:=Nat.eq_of_beq_eq_true hb;subst this;simp only[hb,cond_true,Option.some.injEq] at hl;subst hl;exact⟨Nat.le_refl _,.inl ⟨a,rfl,hn,by simp only[Nat.sub_self,List.getD_cons_zero];exact g2⟩⟩
    |false=>
     simp only[hb,cond_false] at hl;obtain⟨q1,q2⟩:=fK t u hl;refine⟨by omega,?_⟩
     rw[shift t q1];exact q2
theorem aky:∀{l m:List Nat},tJ l m=true->l=m:=by
 intro l;induction l with
 |nil=>intro m h;cases m<;>first|rfl|cases h
 |cons n l ih=>
  intro m h;cases m with
  |nil=>cases h
  |cons k m=>
   simp only[tJ,Bool.and_eq_true] at h;rw[Nat.eq_of_beq_eq_true h.1,ih h.2]
end
section
variable {P:Program}{O:World}{Y:List Nat}{X:Nat->Prop}{D:Nat->Value}{st:aj}{M:Array Value}{w:World}{df:List (Nat×Site)}{eU:List Nat}{av:Nat->Prop}
def p_(M:Array Value)(r:ResultVar):Sem Value:=
 match r with
 |.tmp t=>pure (M.getD t undef)
 |.cell a t=>do loadVar t (<-asAddr (M.getD a undef))
theorem agA(S:ao O Y X D st M w){C:Ctx}(H:CtxOk P C){r:ResultVar}{a:bP}(h:Il C.tt st r=some a):∃v,(p_ M r).run P w=.ok v w/\gU D st.sites w (az X D st.sites) a v:=by
 cases r with
 |tmp t=>
  have hs:=S.cI t;rw[pD h] at hs;exact⟨_,by simp only[p_,Sem.run_pure],hs⟩
 |cell x T=>
  simp only[Il] at h;split at h
  ·rename_i e t n bi;split at h
   ·rename_i o s u hx;have hs:=S.cI x;rw[hx] at hs;split at h
    ·rename_i bk xs hrow;split at h
     ·rename_i jm;obtain⟨rfl,rfl⟩:=jm;obtain⟨bh,hy,arB⟩:=Option.map_eq_some_iff.1 h;obtain⟨rfl,hlen⟩:=um hy;subst arB;have bF:=H.tt T;rw[bi] at bF;obtain⟨he,_,_,eP,_,mQ,_⟩:=nf bF.2.2;obtain⟨b,c,cs,hv,_,hc,hr⟩:=S.arr hrow hs;have hcl:cs.length=n:=by rw[hr.1,eW,he,hlen,Nat.mul_one]
      have dm:=ub (P:=P) (w:=w) bF (by rintro h;cases h) ⟨b,0,none⟩ cs hcl (fun j u hu=>by rw[gL];exact hc j u hu)
      refine⟨.agg cs.toArray,?_,?_⟩
      ·simp only[p_,hv,asAddr,Sem.run_bind,Sem.run_pure,Result.andThen_ok,dm];rfl
      ·subst hlen;have:=ht (D:=D) (sites:=st.sites) hr.1 hr.2;rw[<-Rl mQ] at this;exact⟨cs,rfl,this.1,this.2⟩
     ·cases h
    ·cases h
   ·cases h
  split at h
  ·rename_i o s off hx;have hs:=S.cI x;rw[hx] at hs;cases hk:(C.tt T).known with
   |false=>simp[hk] at h
   |true=>
    simp only[hk,cond_true] at h;split at h
    ·rename_i cells hb;obtain⟨v,hc,hv⟩:=Option.bind_eq_some_iff.1 h;have hv:=pD hv;subst hv;obtain⟨b,gq,cur,h1,h2,h3,ay,bo⟩:=S.box (gG hb) hs;obtain⟨aB,aA⟩:=Ss hc FF bo;refine⟨_,?_,aA⟩;have hl:(loadVar T ⟨b,off,none⟩).run P w=.ok (sG (C.tt T).agg ((cur.drop off).take (C.tt T).size)) w:=by
      refine ub (H.tt T) (Fm hk) _ _ (by simp;omega) fun j u hu=>?_
      rw[gL];have:=((hV.row h3).drop off).take (C.tt T).size j u hu;simpa using this
     simp only[p_,h2,asAddr,Sem.run_bind,Sem.run_pure,Result.andThen_ok,hl]
    ·cases h
  ·cases h
theorem NM{C:Ctx}(H:CtxOk P C)(L:fv O Y X D st M w df eU av):∀{outs:List ResultVar} {as:List bP} {us:List (Nat×Site)},ny C.tt st outs=some (as,us)->
  ∃rv,(outs.mapM (p_ M)).run P w=.ok rv w/\k6 w av as rv (db D (keys us))/\gO st.sites us:=by
 intro outs;induction outs with
 |nil=>intro as us h;simp only[ny] at h;cases h;exact⟨[],by simp,rfl,.nil⟩
 |cons t outs ih=>
  intro as us h;simp only[ny] at h;split at h
  ·rename_i a ha;split at h
   ·rename_i cP u1 n' u2 h1 h2;cases h;obtain⟨rv,lz,aB,aA⟩:=ih h2;obtain⟨v,q0,hs⟩:=agA L.fz.old H ha;have:BJ w av cP v (db D (keys u1))/\gO st.sites u1:=by
     cases a with
     |ak l=>
      obtain⟨p,q1,q2⟩:=Option.map_eq_some_iff.1 h1;cases q2;exact yA L q1 hs
     |agg ag=>
      obtain⟨p,q1,q2⟩:=Option.map_eq_some_iff.1 h1;cases q2;obtain⟨vs,e1,e2,bz⟩:=hs;obtain⟨r1,r2⟩:=GW L q1 ⟨e2,bz⟩;exact⟨⟨vs,e1,r1⟩,r2⟩
    refine⟨v::rv,?_,⟨_,_,by rw[jO,oj],this.1,aB⟩,this.2.append aA⟩
    simp only[List.mapM_cons,Sem.run_bind,q0,Result.andThen_ok,lz,Sem.run_pure]
   ·cases h
  ·cases h
theorem Nf(L:fv O Y X D st M w df eU av):∀{ce:List Nat} {cN:List (List aI)} {us:List (Nat×Site)},nm st ce=some (cN,us)->
  i' w av (ce.map fun t=>nM (M.getD t undef)) cN (db D (keys us))/\gO st.sites us:=by
 intro ce;induction ce with
 |nil=>intro cN us h;simp only[nm] at h;cases h;exact⟨rfl,.nil⟩
 |cons t ce ih=>
  intro cN us h;have hs:=L.fz.old.cI t;simp only[nm] at h;split at h
  ·rename_i o s hx;rw[hx] at hs;split at h
   ·rename_i cells awi mM l0 hr;split at h
    ·rename_i cs gone hg;cases h;obtain⟨aB,aA⟩:=ih hr;have jB:=gG l0;obtain⟨b,T,cur,e1,e2,bz,da,gp⟩:=L.fz.old.box jB hs;obtain⟨g1,g2⟩:=GW L hg gp;have I3:mE cells T cur b:=by
      obtain⟨b2,et,VS,q1,q2,_,_,cV,_⟩:=L.fz.old.sites o _ jB;rw[e1] at q1;cases q1;rw[bz] at q2;cases q2;exact cV
     have w7:nM (M.getD t undef)=b:=by rw[e2];rfl
     have asL:bH (D o)=some b:=by rw[e1];rfl
     refine⟨⟨b::db D (keys gone),db D (keys mM),?_,?_,aB⟩,?_⟩
     ·simp only[keys,jO,oj,List.cons_append];simp[db,asL]
     ·show Hk w av (nM (M.getD t undef)) cs _;rw[w7];exact⟨T,cur,_,rfl,bz,da,fun bU=>I3 (OP hg bU),g1⟩
     ·intro aa aD hm;rcases List.mem_cons.1 hm with hm|hm
      ·cases hm;exact⟨_,jB,rfl,rfl⟩
      ·exact(gO.append g2 aA) aa aD hm
    ·cases h
   ·cases h
  ·cases h
theorem M_{fn:Func}{outs:List ResultVar}(h:fn.results=outs.toArray){M:Array Value}{w:World}{rv:List Value}(k:(outs.mapM (p_ M)).run P w=.ok rv w):(results fn M).run P w=.ok (nB rv) w:=by
 have e:(results fn M)=(do let vs <-fn.results.mapM (p_ M);pure (if h:vs.size=1 then vs[0] else .tuple vs)):=by
  unfold results;congr 2
 rw[e,h];simp only[List.mapM_toArray,Sem.run_bind,Sem.run_map];rw[k];match rv with
 |[]=>simp[nB]
 |[t]=>simp[nB]
 |t::t2::r=>simp[nB]
theorem ao.ant(S:ao O Y X D st M w){a':Nat}(gn:X a')(ft:O.heap.size<=a')(B:Obj):ao O Y X D st M (w.putObj a' B):=by
 have hsz:(w.putObj a' B).heap.size=w.heap.size:=by simp[World.putObj]
 have I6:∀b,b≠a'->(w.putObj a' B).heap[b]? =w.heap[b]? :=fun b hb=>World.putObj_heap_other hb
 have G:h7 D D st.sites st.sites w (w.putObj a' B) (az X D st.sites) (az X D st.sites):=
  ⟨fun o ab h=>⟨ab,h,Nat.le_refl _,fun _=>rfl⟩,fun b hb _=>I6 b fun e=>hb (.inl (e▸gn)),fun _ h _=>h⟩
 have hlt:∀b,az X D st.sites b->b<(w.putObj a' B).heap.size:=fun b hb=>by rw[hsz];exact S.lt hb
 refine⟨S.nt,fun t=>(S.cI t).goes G (by rw[hsz];exact Nat.le_refl _) hlt,fun o ab h=>?_,S.dV,S.cl,?_,fun b hb=>by rw[hsz];exact S.old b hb,S.eZ⟩
 ·exact(S.sites o ab h).goes G (by rw[hsz];exact Nat.le_refl _) hlt rfl fun hl b hb=>I6 b fun e=>(S.cl o b ⟨ab,h,hl⟩ hb).1 (e▸gn)
 ·exact⟨S.frame.os,S.frame.tape,S.frame.output,by rw[hsz];exact S.frame.size,fun b hb hn=>(I6 b (by omega)).trans (S.frame.block b hb hn)⟩
theorem aa6{fn:Func}{R:Ending->World->Prop}:∀(dD:List Nat) (w:World),ao O Y X D st M w->dD.Nodup->(∀a',a'∈dD->O.heap.size<=a'/\X a'/\w.heap[a']? =some (.deferred (some [])))->
  (∀w',ao O Y X D st M w'->∃v,(results fn M).run P w'=.ok v w'/\R (.returned v) w')->LeavesInM Fence.wide 0 P fn M R (dD.map mark) .returning w:=by
 intro dD;induction dD with
 |nil=>intro w S _ _ hR;exact hR w S
 |cons a' dD ih=>
  intro w S hn ft hR;obtain⟨h1,h2,h3⟩:=ft a' List.mem_cons_self;have hn:=List.nodup_cons.1 hn;refine⟨by simp,.inl ⟨a',w.putObj a' (.deferred none),rfl,run_takeDeferred h3,ih _ (S.ant h2 h1 _) hn.2 (fun Mq Zk=>?_) hR⟩⟩
  obtain⟨g1,g2,g3⟩:=ft Mq (List.mem_cons_of_mem _ Zk);exact⟨g1,g2,(World.putObj_heap_other (fun e=>hn.1 (by rw[<-e];exact Zk))).trans g3⟩
def QO(dQ:Value->World->Prop):Ending->World->Prop
 |.returned v,w=>dQ v w
 |_,_=>False
theorem ag2{nt:Nat}{as:List Arg}{st:aj}{vs:List Value}{dt:List Nat}(he:entry nt as=some st)(bU:iX w (fun b=>X b\/b∈dt) as vs dt)(kD:dt.Nodup)(gn:∀b,b∈dt->¬X b)(hlt:∀b,X b->b<w.heap.size)(hG:iB w dt X):
  (∃D,ao w dt X D st (vs.toArray++Array.replicate (nt-vs.toArray.size) undef) w)/\dL as vs=(np 0 as).map (fun t=>nM (vs.getD t undef))/\(∀t,(vs.toArray++Array.replicate (nt-vs.toArray.size) undef).getD t undef=vs.getD t undef):=by
 unfold entry at he;cases hle:Nat.ble as.length nt with
 |false=>simp[hle] at he
 |true=>
  simp only[hle,cond_true] at he;split at he
  ·rename_i l hl;cases hn:fB (keys (Ie nt as l)) with
   |false=>simp[hn] at he
   |true=>
    simp only[hn,cond_true,Option.some.injEq] at he;subst he;rw[rz] at hn;have hlen:=bU.length;have hle:=Nat.le_of_ble_eq_true hle;obtain⟨l4,Vv⟩:∃l4:Nat->Value,∀j,l4 (500000+0+j)=vs.getD j undef:=⟨fun o=>vs.getD (o-500000) undef,fun j=>by simp⟩
    obtain⟨aB,aA,bC,_,fK⟩:=acb hl bU Vv;have s7:∀t,(vs.toArray++Array.replicate (nt-vs.toArray.size) undef).getD t undef=vs.getD t undef:=fun t=>by
     simp only[Array.getD_eq_getD_getElem?,List.getD_eq_getElem?_getD,Array.getElem?_append,List.size_toArray];by_cases h:t<vs.length
     ·simp[h]
     ·simp only[h,if_false];rw[List.getElem?_eq_none (Nat.le_of_not_lt h)];rw[Array.getElem?_replicate];split<;>rfl
    have lS:∀o,¬cj (lc (jR 0 as)) o:=fun o ⟨ab,h1,h2⟩=>by obtain⟨s,rfl⟩:=NP h1;cases h2
    have CQ:∀b,b∈dt->b<w.heap.size:=OO aB;have b':∀b,az (fun b=>X b\/b∈dt++[]) l4 (lc (jR 0 as)) b->X b\/b∈dt:=by
     rintro b (h|⟨o,h,_⟩)
     ·simpa using h
     ·exact(lS o h).elim
    have anO:∀b,az (fun b=>X b\/b∈dt++[]) l4 (lc (jR 0 as)) b->b<w.heap.size:=fun b h=>(b' b h).elim (hlt b) (CQ b)
    have og:ao w dt (fun b=>X b\/b∈dt++[]) l4 (Bd nt as l) (vs.toArray++Array.replicate (nt-vs.toArray.size) undef) w:=by
     refine⟨?_,fun t=>?_,fun o ab h=>?_,fun o aa b h=>(lS o h).elim,fun o b h=>(lS o h).elim,Fr.refl _ _,fun b hb=>?_,hG.alv fun b h=>by simpa using h⟩
     ·show(vs.toArray++_).size=nt;simp;omega
     ·rw[s7];unfold aj.get;show cf l4 (lc (jR 0 as)) w _ (match look l t with|some v=>v|none=>.av (.ak .any)) _
      cases aq:look l t with
      |none=>simp only;trivial
      |some v=>
       simp only;obtain⟨_,k⟩:=fK t v aq;rw[Nat.sub_zero] at k;rcases k with⟨a,rfl,q1,q2⟩|⟨rfl,q1,b,q2⟩
       ·exact ahh q1 q2 b' anO
       ·refine⟨b,q2,.dead 0,NJ (fun _ _ h=>Dw h) q1,Nat.le_refl _,fun _=>?_⟩
        have:=Vv t;rw[Nat.add_zero] at this;rw[this,q2]
     ·obtain⟨s,rfl⟩:=NP h;trivial
     ·exact(show X b\/b∈dt by simpa using hb).elim (hlt b) (CQ b)
    obtain⟨gA,T,_⟩:=Pg (av:=fun b=>X b\/b∈dt) (rest:=[]) (Bd nt as l) (jR 0 as) og aA aB (fun o s hm=>by
      have:=Dw hm;subst this;exact NJ (fun _ _ h=>Dw h) hm)
     ⟨by simpa using kD,fun b hb=>⟨gn b (by simpa using hb),.inl (by simpa using hb)⟩,b'⟩
     (fun m _ ab hs=>by
      have hs:look (lc (jR 0 as)) m=some ab:=hs;have:(Bd nt as l).ab m=some ab:=hs;unfold bp;rw[this];exact Nat.lt_succ_self _) hn
    exact⟨⟨gA,T.ji.shrink fun b hb=>.inl hb⟩,by simpa using bC,s7⟩
  ·cases he
theorem ahy{C:hI}(H:aW P C.toCtx){g:FuncId}{fn:Func}{c:Code}{kp fu:Shape}{outs:List ResultVar}{fh:List Nat}{f:kp.J->Option fu.J}(mV:P.funcs[g]? =some fn)(sQ:fn.body=some c)(qe:(fn.name== "runtime.NumGoroutine")=false)
  (j3:fn.results=outs.toArray) (ed:f_ P C c 1) (pb:eX fh (cr c)=true) (qp:∀y,∃r oc,ny C.tt (fu.st y) outs=some r/\nm (fu.st y) fh=some oc/\fB (keys (oc.2++r.2))=true) (hf:∀a,f a=Iw C c kp fu a):aE P g (oy C.tt fn.ntmps kp fu outs fh f):=by
 intro as;unfold oy;cases he:entry fn.ntmps as with
 |none=>intro y hy;cases hy
 |some st=>
  simp only;cases n6:tJ (np 0 as) fh with
  |false=>intro y hy;cases hy
  |true=>
  simp only[cond_true];have n6:=aky n6;rw[OW] at pb;intro y hy w X vs dt bU kD gn hlt hG;obtain⟨a,KX,Zg⟩:=Option.bind_eq_some_iff.1 hy;obtain⟨⟨l4,og⟩,eN,s7⟩:=ag2 he bU kD gn hlt hG;obtain⟨gA,dr,_⟩:=Shape.fZ og KX;rw[hf] at Zg;refine .inl ⟨?_,Calls.mono (R:=QO _) ((callsIn_wide (n:=0)).1 (callsIn_of_wp_marks mV sQ trivial (jw (rn:=none) H c 1 (.inl rfl) ed w dt X _ gA _ w [] _ _ Zg dr fun B e cP w' hk hl=>?_) rfl)) fun e w' h=>by cases e<;>first|exact h|exact h.elim⟩
  ·have ako:¬fn.name= "runtime.NumGoroutine" :=by simpa using qe
   simp[callFunc,mV,ako,sQ]
  ·-- where it ends
   have fin:∀al,fu.ex al=some y->eu w dt X [] (vs.toArray++Array.replicate (fn.ntmps-vs.toArray.size) undef) (cr c) al cP w'->LeavesInM Fence.wide 0 P fn cP.tmps (QO fun v w'=>∃ej ei rv,Fr dt w w'/\
     i' w' (fun b=>X b\/b∈ej++ei) (dL as vs) (match nm (fu.st y) fh with|some r=>r.1|none=>[]) ej/\
     k6 w' (fun b=>X b\/b∈ej++ei) (match ny C.tt (fu.st y) outs with|some r=>r.1|none=>[]) rv ei/\v=nB rv/\(ej++ei).Nodup/\∀b,b∈ej++ei->¬X b/\(b∈dt\/w.heap.size<=b)) cP.defers .returning w':=by
    rintro al wC ⟨aS,dC,c7,h_,dD,b1,b2,b3,hS,kept⟩;obtain⟨hK,jo,_⟩:=Shape.fZ hS wC;rw[b3.1,List.append_nil];have iU:ao w dt c7 hK (fu.st y) cP.tmps w':=⟨jo.nt,jo.cI,jo.sites,jo.dV,fun o b h1 h2=>⟨(jo.cl o b h1 h2).1,b1.cl b (jo.cl o b h1 h2).2⟩,b1.cG _ jo.frame,jo.old,⟨hG.ok,hG.Y,jo.eZ.X,hG.lt⟩⟩
    refine aa6 dD w' iU b2.nodup (fun a' ft=>⟨b2.new a' ft,(b2.g' a' ft).2.2,(jo.frame.block a' (b2.lt ft) (b2.g' a' ft).2.1).trans (b2.g' a' ft).1⟩) fun Ck atg=>?_
    have lC:=atg.shrink b1.x;obtain⟨⟨kK,us⟩,⟨cN,q8⟩,hr,KB,hn⟩:=qp y;rw[rz] at hn;have hn:(keys (q8++us)).Nodup:=hn;have CO:fv w dt X hK (fu.st y) cP.tmps Ck [] [] (fun _=>False):=⟨⟨lC,.nil⟩,fun b h=>h.elim,fun _ _ _ _ h=>h⟩
    obtain⟨_,_,_,CR⟩:=NM H.toCtxOk CO hr;have asE:=(Nf CO KB).2;have m':=gO.append asE CR;have LS:∀o,o∈keys (q8++us)->cj (fu.st y).sites o:=fun o bq=>by
     obtain⟨s,hs⟩:=yz bq;obtain⟨ab,h1,h2,_⟩:=m' o s hs;exact⟨ab,h1,h2⟩
    have dY:fv w dt X hK (fu.st y) cP.tmps Ck [] [] (fun b=>X b\/b∈db hK (keys q8)++db hK (keys us)):=by
     refine⟨⟨lC,.nil⟩,fun b hb=>?_,fun _ h=>by simp at h⟩
     rcases hb with hb|hb
     ·exact .inl hb
     ·rw[<-oj,<-jO] at hb;obtain⟨o,h1,h2⟩:=nc.1 hb;exact .inr ⟨o,LS o h1,h2⟩
    obtain⟨rv,dm,dR,_⟩:=NM H.toCtxOk dY hr;have hB:=(Nf dY KB).1;have ar4:(fh.map fun t=>nM (cP.tmps.getD t undef))=dL as vs:=by
     rw[eN,n6];exact List.map_congr_left fun t aq=>by rw[kept t (pb t aq),s7]
    rw[ar4] at hB;refine⟨_,M_ j3 dm,db hK (keys q8),db hK (keys us),rv,lC.frame,?_,?_,rfl,?_,fun b hb=>?_⟩
    ·rw[KB];exact hB
    ·rw[hr];exact dR
    ·rw[<-oj,<-jO];exact MS lC hn LS
    ·rw[<-oj,<-jO] at hb;obtain⟨o,h1,h2⟩:=nc.1 hb;exact lC.cl o b (LS o h1) h2
   cases B with
   |norm al=>
    cases e<;>try exact hl.elim
    exact fin al hk hl
   |ret al=>
    cases e<;>try exact hl.elim
    exact fin al hk hl
   |exit id al=>cases hk
end
def an(c:Code)(q p:Nat):Code:=match look (fO c q) p with|some c=>c|none=>.skip
def c8:Code->Code
 |.loop c=>c
 |_=>.skip
def codeOf(f:Func):Code:=match f.body with|some c=>c|none=>.skip
def R5:Code->Bool
 |.loop _=>true
 |_=>false
def sJ:List (Nat×hN)->Nat->Option hN
 |[],_=>none
 |(k,v)::r,n=>bif k.beq n then some v else sJ r n
def gJ(C:Ctx)(cG:List (Nat×hN)):hI:={C with nT:=sJ cG}
def lg(P:Program)(c:Code)(q:Nat):List (Nat×hN)->Prop
 |[]=>True
 |(p,f)::r=>aT P (an c q p) f/\lg P c q r
theorem agH{ax:Type}{l:List (Nat×ax)}{n:Nat}{v:ax}(h:look l n=some v):(n,v)∈l:=by
 induction l with
 |nil=>cases h
 |cons p l ih=>
  obtain⟨m,u⟩:=p;simp only[look] at h;cases hb:m.beq n with
  |true=>
   simp only[hb,cond_true,Option.some.injEq] at h;rw[<-Nat.eq_of_beq_eq_true hb,h];exact List.mem_cons_self
  |false=>simp only[hb,cond_false] at h;exact List.mem_cons_of_mem _ (ih h)
theorem agG{ax:Type}{l:List (Nat×ax)}{n:Nat}{v:ax}(hn:(keys l).Nodup)(h:(n,v)∈l):look l n=some v:=by
 induction l with
 |nil=>simp at h
 |cons p l ih=>
  obtain⟨m,u⟩:=p;simp only[keys,List.nodup_cons] at hn;simp only[look];rcases List.mem_cons.1 h with h|h
  ·cases h;simp
  ·have:¬m=n:=by rintro rfl;exact hn.1 (aeL h)
   rw[jD this];exact ih hn.2 h
where
 aeL {ax:Type} {us:List (Nat×ax)} {o:Nat} {s:ax} (h:(o,s)∈us):o∈keys us:=by
  induction us with
  |nil=>simp at h
  |cons p us ih=>
   rcases List.mem_cons.1 h with rfl|h
   ·exact List.mem_cons_self
   ·exact List.mem_cons_of_mem _ (ih h)
theorem kX{P:Program}{C:Ctx}{c:Code}{q:Nat}{cG:List (Nat×hN)}(hu:fB (keys (fO c q))=true)(h:lg P c q cG):f_ P (gJ C cG) c q:=by
 rw[rz] at hu;refine QV c q fun p fj hm f wG=>?_
 have hl:=agG hu hm;have hf:sJ cG p=some f:=wG;clear wG;clear hm;induction cG with
 |nil=>cases hf
 |cons x cG ih=>
  obtain⟨k,g⟩:=x;simp only[sJ] at hf;cases hb:k.beq p with
  |true=>
   simp only[hb,cond_true,Option.some.injEq] at hf;have:=Nat.eq_of_beq_eq_true hb;subst this hf;have:=h.1;unfold an at this;rw[hl] at this;exact this
  |false=>simp only[hb,cond_false] at hf;exact ih h.2 hf
theorem af{P:Program}{c:Code}{q:Nat}:lg P c q []:=trivial
theorem aiE{P:Program}{C:Ctx}(H:aW P C){c:Code}{q p:Nat}{aV:Shape}{os:List aN}{cG:List (Nat×hN)}{g:aV.J->Option (aw os)}(hl:R5 (an c q p)=true)
  (hu:fB (keys (fO (c8 (an c q p)) (2*p)))=true) (fs:lg P (c8 (an c q p)) (2*p) cG)
  (hg:∀y,g y=bn (sp (gJ C cG) (c8 (an c q p)) p aV os) y):aT P (an c q p) (a6 aV os g):=by
 have:an c q p=.loop (c8 (an c q p)):=by
  generalize an c q p=d at hl;cases d<;>first|rfl|cases hl
 rw[this];exact aeP (C:=gJ C cG) H (kX hu fs) hg
theorem cQ{P:Program}{C:Ctx}(H:aW P C){c:Code}{q p:Nat}{aV:Shape}{os:List aN}{cG:List (Nat×hN)}{g:aV.J->Option (aw os)}
  (hu:fB (keys (fO (an c q p) p))=true) (fs:lg P (an c q p) p cG)
  (hg:∀y,g y=RQ (gJ C cG) (an c q p) p aV os y):aT P (an c q p) (a6 aV os g):=
 acM (C:=gJ C cG) H (kX hu fs) hg
theorem akt{P:Program}{C:Ctx}(H:aW P C){g:FuncId}{fn:Func}{kp fu:Shape}{outs:List ResultVar}{fh:List Nat}{cG:List (Nat×hN)}{f:kp.J->Option fu.J}(mV:P.funcs[g]? =some fn)(sQ:fn.body=some (codeOf fn))
  (qe:(fn.name== "runtime.NumGoroutine")=false) (j3:fn.results=outs.toArray) (hu:fB (keys (fO (codeOf fn) 1))=true) (fs:lg P (codeOf fn) 1 cG) (hk:eX fh (cr (codeOf fn))=true)
  (qp:∀y,∃r oc,ny C.tt (fu.st y) outs=some r/\nm (fu.st y) fh=some oc/\fB (keys (oc.2++r.2))=true) (hf:∀a,f a=Iw (gJ C cG) (codeOf fn) kp fu a):aE P g (oy C.tt fn.ntmps kp fu outs fh f):=
 ahy (C:=gJ C cG) H mV sQ qe j3 (kX hu fs) hk qp hf
def sM{A bm:Type}(ff:(A->Option bm)->A->Option bm):Nat->A->Option bm
 |0=>fun _=>none
 |n+1=>ff (sM ff n)
def By:Nat:=4611686018427387904
theorem ajF{P:Program}{g:FuncId}{tt:TypeId->cd}{nt:Nat}{ly kJ:Shape}{outs:List ResultVar}{fh:List Nat}{ff:(ly.J->Option kJ.J)->ly.J->Option kJ.J}
  (h:∀aZ,aE P g (oy tt nt ly kJ outs fh aZ)->aE P g (oy tt nt ly kJ outs fh (ff aZ))):∀n,aE P g (oy tt nt ly kJ outs fh (sM ff n)):=by
 intro n;induction n with
 |zero=>
  intro as;unfold oy;cases entry nt as with
  |none=>intro y hy;cases hy
  |some st=>
   simp only;cases tJ (np 0 as) fh with
   |false=>intro y hy;cases hy
   |true=>
    intro y hy;simp only[cond_true,sM] at hy;obtain⟨a,_,h2⟩:=Option.bind_eq_some_iff.1 hy;cases h2
 |succ n ih=>exact h _ ih
def BP:List (Nat×cd)->TypeId->cd
 |[],_=>.none
 |(k,v)::r,n=>bif Nat.beq k n then v else BP r n
def Ix(P:Program):List (Nat×cd)->Prop
 |[]=>True
 |(k,v)::r=>v.ok P k/\Ix P r
theorem ahx{P:Program}:∀{l:List (Nat×cd)},Ix P l->∀T,(BP l T).ok P T:=by
 intro l;induction l with
 |nil=>intro _ T;trivial
 |cons p l ih=>
  obtain⟨k,v⟩:=p;intro h T;simp only[BP];cases hb:Nat.beq k T with
  |true=>have:=Nat.eq_of_beq_eq_true hb;subst this;exact h.1
  |false=>exact ih h.2 T
theorem ac0{J bm:Type}{f g:J->Option (Sum J bm)}(h:∀y,f y=g y):∀y,bn f y=bn g y:=by
 have:f=g:=funext h;rw[this];exact fun _=>rfl
def r6:List Arg->Option (F×Int)
 |[.av (.ak (.d (.str s))),.av (.ak (.d (.int .u8 c)))]=>some (s,c)
 |_=>none
def Er:aF:=fun as=>match r6 as with
 |some (s,c)=>⟨Unit,some (),fun _=>[],fun _=>[.ak (.d (.int .i64 (Lib.indexByte s c.toNat.toUInt8)))]⟩
 |none=>.fail
theorem Nc{as:List Arg}{s:F}{c:Int}(h:r6 as=some (s,c)):as=[.av (.ak (.d (.str s))),.av (.ak (.d (.int .u8 c)))]:=by
 unfold r6 at h;split at h
 ·cases h;rfl
 ·cases h
theorem abb{P:Program}{g:FuncId}{fn:Func}(hf:P.funcs[g]? =some fn)(qe:(fn.name== "runtime.NumGoroutine")=false)(hb:fn.body.isNone=true)(hn:Extern.findNext fn=none)
  (he:Extern.find fn=some Extern.BytealgIndexByte.indexByte):aE P g Er:=by
 intro as;unfold Er;cases au:r6 as with
 |none=>intro y hy;cases hy
 |some q=>
  obtain⟨s,c⟩:=q;have has:=Nc au;subst has;intro y hy w X vs dt bU _ _ _ _;match vs,bU with
  |[v1,v2],⟨a1,a2,e1,h1,c1,c2,e2,h2,bz⟩=>
   obtain⟨fI,r1⟩:=h1;obtain⟨z2,r2⟩:=h2;subst fI z2 bz;simp only[List.append_nil] at e2;subst e2;simp only[List.append_nil] at e1;subst e1;obtain⟨b,rfl,dP⟩:=gv r1;have e:=ii r2;subst e;refine .inr ⟨.int .i64 (Lib.indexByte b.data.toList c.toNat.toUInt8),w,?_,[],[],[.int .i64 (Lib.indexByte s c.toNat.toUInt8)],Fr.refl _ _,?_,?_,?_,by simp,fun b hb=>by simp at hb⟩
   ·rw[run_callFunc_extern hf qe hb hn he];show((Extern.BytealgIndexByte.indexByte #[.string b,.int .u8 c]).run P w).andThen _=_;rw[Lib.run_indexByteString];rfl
   ·simp[dL,i']
   ·exact⟨[],[],rfl,⟨rfl,.int _ _⟩,rfl⟩
   ·rw[dP];rfl
end Go.Jk
namespace Go.Jk
open Go.RowKit Go.Sort
theorem afN{P:Program}{w:World}{g:Nat}{name:String}{k:IntKind}{zs:List Int}(hg:P.globalNamed name=some g)(h:nK w g k zs):Lib.TabIs P w name k zs:=by
 obtain⟨T,fz,h⟩:=h;simp[Lib.TabIs,World.var?,hg,h]
theorem afO{P:Program}{w:World}{g:Nat}{name:String}{k:IntKind}{zs:List Int}(hg:P.globalNamed name=some g)(h:Lib.TabIs P w name k zs):nK w g k zs:=by
 simp only[Lib.TabIs,World.var?,hg,Option.bind_some] at h;split at h
 ·rename_i cs T fz hc;cases h;exact⟨_,_,hc⟩
 ·cases h
def Bs:List Arg->Option Int
 |[.av (.ak (.d (.int .i64 n)))]=>some n
 |_=>none
theorem aeU{as:List Arg}{n:Int}(h:Bs as=some n):as=[.av (.ak (.d (.int .i64 n)))]:=by
 unfold Bs at h;split at h
 ·cases h;rfl
 ·cases h
def Fo:aF:=fun as=>match Bs as with
 |some n=>⟨Unit,if-9223372036854775808<=n/\n<=9223372036854775807 then some () else none,fun _=>[],fun _=>[.ak (.d (.str (Lib.itoa n)))]⟩
 |none=>.fail
theorem aiQ(w:World)(k:Nat)(os:Array Obj):Fr [] w (grow (w.drewN k) os):=
 ⟨rfl,rfl,rfl,by simp[grow,World.drewN],fun b hb _=>by
  show(w.heap++os)[b]? =w.heap[b]?;rw[Array.getElem?_append_left hb]⟩
theorem aiL{P:Program}{g:FuncId}(he:∀args w,(callFunc g args).run P w=.ok (.enter g args) w)
  (h:∀n:Int,-9223372036854775808<=n->n<=9223372036854775807->∀w,mW w->Calls P g #[.int .i64 n] w fun e w'=>e=.returned (.string ⟨(Lib.itoa n).toArray⟩)/\∃k os,w'=grow (w.drewN k) os):aE P g Fo:=by
 intro as;unfold Fo;cases au:Bs as with
 |some n=>
  have has:=aeU au;subst has;intro y hy w X vs dt bU _ gn hlt hG;have hy:(if-9223372036854775808<=n/\n<=9223372036854775807 then some () else none)=some y:=hy
  split at hy
  ·rename_i hn;match vs,bU with
   |[v1],⟨a1,a2,e1,h1,e2⟩=>
    obtain⟨fI,r1⟩:=h1;subst fI e2;simp only[List.append_nil] at e1;subst e1;have e:=ii r1;subst e;refine .inl ⟨he _ _,(h n hn.1 hn.2 w hG.ok).mono fun e w' hw=>?_⟩
    obtain⟨rfl,k,os,rfl⟩:=hw;exact⟨[],[],[.string ⟨(Lib.itoa n).toArray⟩],aiQ w k os,rfl,⟨[],[],rfl,⟨rfl,.str _ _ rfl⟩,rfl⟩,rfl,by simp,fun b hb=>by simp at hb⟩
  ·cases hy
 |none=>intro y hy;cases hy
end Go.Jk
namespace Go.Jk
open Go.ChangeShapes Go.WideShapes Go.RowKit
def IF:a7->List dq
 |.i64=>[.int .i64]
 |.u8=>[.int .u8]
 |.u32=>[.int .u32]
 |.bool=>[.bool]
 |.str=>[.str]
 |.entry=>[.str,.int .i64,.int .i64,.str]
 |.need=>[.str,.int .i64,.str]
 |.pack=>[.str,.str,.sl .need,.sl .entry]
 |.file|.lt|.source|.piece=>[.str,.str]
 |.recipe=>[.str,.str,.sl .lt,.sl .need,.sl .need,.sl .source,.sl .piece,.sl .str]
 |.hunk=>[.int .i64,.sl .str]
 |.sU=>[.sl .bool]
inductive iQ:a'->Prop where
 |int (k:IntKind) (n:Int):(Lit.int k n).wf=true->iQ (.int k n)
 |bool (b:Bool):iQ (.bool b)
 |str (s:F):s.length<=maxLen->iQ (.str s)
 |sl (t:a7) (xs:List (den t)):xs.length<=maxLen->(∀x,x∈xs->∀d,d∈enc t x->iQ d)->iQ (.sl t xs)
theorem aiV:∀(t:a7) (y:kH (IF t)),∃x,enc t x=eY (IF t) y:=by
 intro t y;cases t;case recipe=>obtain⟨a,b,c,d,e,f,g,h,_⟩:=y;exact⟨⟨a,b,c,d,e,f,g,h⟩,rfl⟩
 case entry=>obtain⟨a,b,c,d,_⟩:=y;exact⟨⟨a,b,c,d⟩,rfl⟩
 case pack=>obtain⟨a,b,c,d,_⟩:=y;exact⟨⟨a,b,c,d⟩,rfl⟩
 case need=>obtain⟨a,b,c,_⟩:=y;exact⟨⟨a,b,c⟩,rfl⟩
 case file=>obtain⟨a,b,_⟩:=y;exact⟨⟨a,b⟩,rfl⟩
 case lt=>obtain⟨a,b,_⟩:=y;exact⟨⟨a,b⟩,rfl⟩
 case source=>obtain⟨a,b,_⟩:=y;exact⟨⟨a,b⟩,rfl⟩
 case piece=>obtain⟨a,b,_⟩:=y;exact⟨⟨a,b⟩,rfl⟩
 case hunk=>obtain⟨a,b,_⟩:=y;exact⟨⟨a,b⟩,rfl⟩
 all_goals(obtain⟨a,_⟩:=y;exact⟨a,rfl⟩)
instance:DecidableEq dq:=fun a b=>by
 cases a<;>cases b<;>first|exact isTrue rfl|(rename_i x y;exact if h:x=y then isTrue (by rw[h]) else isFalse (fun e=>h (by cases e;rfl)))|exact isFalse (fun e=>by cases e)
def uL(P:Program)(r:TypeId->Option (List dq)):List Field->Nat->Option (List dq)
 |[],_=>some []
 |f::aJ,B=>match r f.type,uL P r aJ (B+P.cellsOf f.type) with
  |some a,some b=>if f.offset=B/\P.cellsOf f.type=a.length then some (a++b) else none
  |_,_=>none
def pV(tt:TypeId->cd)(P:Program):Nat->TypeId->Option (List dq)
 |0,_=>none
 |n+1,T=>match P.underlying T with
  |some (.int k)=>some [.int k]
  |some .bool=>some [.bool]
  |some .string=>some [.str]
  |some (.slice e)=>match tt T,pV tt P n e with
   |.slice _ t _,some aX=>if aX=IF t/\P.cellsOf e=aY t then some [.sl t] else none
   |_,_=>none
  |some (.struct aJ)=>match uL P (pV tt P n) aJ.toList 0 with
   |some aX=>if P.cellsOf T=aX.length then some aX else none
   |none=>none
  |_=>none
def vd(w:World)(av:Nat->Prop)(aX:List dq)(cs:List Value):Prop:=∃y:kH aX,cY w av (eY aX y) cs/\∀d,d∈eY aX y->iQ d
theorem agF:∀(aX nS:List dq) (y:kH aX) (y':kH nS),∃z:kH (aX++nS),eY (aX++nS) z=eY aX y++eY nS y':=by
 intro aX;induction aX with
 |nil=>intro nS y y';exact⟨y',rfl⟩
 |cons s aX ih=>
  intro nS y y';obtain⟨a,b⟩:=y;obtain⟨z,hz⟩:=ih nS b y';exact⟨(a,z),by simp[eY,hz]⟩
theorem cY.bY{w:World}{av:Nat->Prop}{ds kG:List a'}{vs cn:List Value}(h:cY w av ds vs)(ai:cY w av kG cn):cY w av (ds++kG) (vs++cn):=by
 refine⟨by rw[List.length_append,List.length_append,h.1,ai.1],fun j g1 g2=>?_⟩
 rw[List.getElem_append,List.getElem_append];have:=h.1;simp only[List.length_append] at g1 g2;by_cases hj:j<ds.length
 ·rw[dif_pos hj,dif_pos (by omega)]
  exact h.2 j hj (by omega)
 ·rw[dif_neg hj,dif_neg (by omega)]
  have:=ai.2 (j-ds.length) (by omega) (by omega)
  simpa[h.1] using this
theorem vd.one{w:World}{av:Nat->Prop}{s:dq}{d:a'}{v:Value}(y:s.J)(Z:s.mk y=d)(h:bD w av d v)(hw:iQ d):vd w av [s] [v]:=
 ⟨(y,()),⟨rfl,fun j h1 h2=>by
  simp only[eY,List.length_cons,List.length_nil] at h1;obtain rfl:j=0:=by omega
  simpa[eY,Z] using h⟩,fun _O ai=>by simp only[eY,List.mem_singleton] at ai;rw[ai,Z];exact hw⟩
section
variable {H:Type}{j5:TypeId×Value->H}{P:Program}{w:World}{base:Nat}{spare:Nat->Bool}{held:Bool}{av:Nat->Prop}{tt:TypeId->cd}
theorem aa3{r:TypeId->Option (List dq)}{n:Nat}{cs:List Value}(ih:∀{T:TypeId} {aX:List dq} {cs:List Value} {x:DataW H×List MemPlace},r T=some aX->DataW.trod j5 P w base spare held n T cs=some x->vd w av aX cs):
  ∀(aJ:List Field) (B:Nat) (aX:List dq),uL P r aJ B=some aX->B+aX.length<=cs.length->(∀(i:Nat) (f:Field),aJ[i]? =some f->∃x,DataW.trod j5 P w base spare held n f.type ((cs.drop f.offset).take (P.cellsOf f.type))=some x)->
   vd w av aX ((cs.drop B).take aX.length):=by
 intro aJ;induction aJ with
 |nil=>
  intro B aX h hl _;simp only[uL] at h;cases h;exact⟨(),⟨by simp[eY],fun j g=>by simp[eY] at g⟩,fun d Z=>by simp[eY] at Z⟩
 |cons f aJ aru=>
  intro B aX h hl hx;simp only[uL] at h;split at h
  ·rename_i a b h1 h2;split at h
   ·rename_i hc;cases h;obtain⟨x,nV⟩:=hx 0 f rfl;have gh:B+a.length+b.length<=cs.length:=by simp only[List.length_append] at hl;omega
    rw[hc.1,hc.2] at nV;rw[hc.2] at h2;obtain⟨eD,aB,aA⟩:=ih h1 nV;obtain⟨fi,bC,cO⟩:=aru (B+a.length) b h2 gh (fun i g hg=>hx (i+1) g (by simpa using hg))
    obtain⟨z,hz⟩:=agF a b eD fi;have fG:(cs.drop B).take (a++b).length=(cs.drop B).take a.length++(cs.drop (B+a.length)).take b.length:=by
     rw[List.length_append,List.take_add,List.drop_drop]
    refine⟨z,?_,?_⟩
    ·rw[hz,fG];exact aB.bY bC
    ·rw[hz];intro d Z;rcases List.mem_append.1 Z with Z|Z
     ·exact aA d Z
     ·exact cO d Z
   ·cases h
  ·cases h
theorem acL(b':∀b,¬av b):∀(m:Nat) {T:TypeId} {aX:List dq} {n:Nat} {cs:List Value} {x:DataW H×List MemPlace},pV tt P m T=some aX->DataW.trod j5 P w base spare held n T cs=some x->vd w av aX cs:=by
 intro m;induction m with
 |zero=>intro T aX n cs x h;cases h
 |succ m ih=>
  intro T aX n cs x h hx;simp only[pV] at h;split at h
  ·rename_i k hu;cases h;obtain⟨z,rfl,_,hw⟩:=DataW.trod_int hu hx;exact .one (s:=.int k) z rfl (.int k z) (.int k z hw)
  ·rename_i hu;cases h;obtain⟨b,rfl,_⟩:=DataW.trod_bool hu hx;exact .one (s:=.bool) b rfl (.bool b) (.bool b)
  ·rename_i hu;cases h;obtain⟨s,rfl,_,hl⟩:=DataW.trod_string hu hx;exact .one (s:=.str) s.data.toList rfl (.str _ _ rfl) (.str _ (by rw[Array.length_toList];exact hl))
  ·rename_i e hu;split at h
   ·rename_i cE t bytes nS jm lr;split at h
    ·rename_i hc;cases h;rcases DataW.trod_slice hu hx with⟨rfl,_⟩|⟨a,len,cap,avW,rest,tV,rfl,rfl,_,hb,tv,hcm,l',bu,_⟩
     ·exact .one (s:=.sl t) [] rfl (.nil t) (.sl t [] (Nat.zero_le _) (fun x h=>by cases h))
     ·have key:∀j,j<=len->∃xs:List (den t),∃cs:List Value,xs.length=j/\cs.length=j*aY t/\(∀i u,cs[i]? =some u->w.cell? (a.add i)=some u)/\cY w av (flat t xs) cs/\∀x,x∈xs->∀d,d∈enc t x->iQ d:=by
       intro j;induction j with
       |zero=>intro _;exact⟨[],[],rfl,by simp,fun i u h=>by simp at h,⟨rfl,fun i h=>by simp[flat] at h⟩,fun x h=>by cases h⟩
       |succ j art=>
        intro hj;obtain⟨xs,cs,h1,h2,h3,ay,bo⟩:=art (by omega)
        have jI:=bu j (by omega)
        rw[List.getElem?_eq_getElem (by omega)] at jI
        obtain⟨n9,aB,aA⟩:=Option.bind_eq_some_iff.1 jI;obtain⟨bC,cO,fK⟩:=World.cells?_some aB;obtain⟨y,ie,w5⟩:=ih lr aA;obtain⟨hc1,n5⟩:=hc;subst hc1;obtain⟨wV,hxe⟩:=aiV t y;rw[<-hxe] at ie w5;have gh:n9.length=aY t:=by rw[cO,n5]
        refine⟨xs++[wV],cs++n9,by simp[h1],by rw[List.length_append,h2,gh,Nat.succ_mul],fun i u hi=>?_,?_,fun x hx=>?_⟩
        ·by_cases hlt:i<cs.length
         ·rw[List.getElem?_append_left hlt] at hi;exact h3 i u hi
         ·rw[List.getElem?_append_right (by omega)] at hi
          have oU:i-cs.length<aY t:=by rw[<-gh];exact(List.getElem?_eq_some_iff.1 hi).1
          have:=fK (i-cs.length) (by rw[n5];exact oU)
          rw[Deep.add_add,n5,hi,show j*aY t+(i-cs.length)=i by omega] at this
          exact this
        ·rw[rs,show flat t [wV]=enc t wV by simp[flat]]
         exact ay.bY ie
        ·rcases List.mem_append.1 hx with hx|hx
         ·exact bo x hx
         ·rw[List.mem_singleton.1 hx];exact w5
      obtain⟨xs,cs,h1,h2,h3,ay,bo⟩:=key len (Nat.le_refl _);exact .one (s:=.sl t) xs rfl (.sl t xs a cap cs len h1.symm tv (fun _=>b' _) (by rw[h2,eW,h1]) h3 ay.2) (.sl t xs (by omega) bo)
    ·cases h
   ·cases h
  ·rename_i aJ hu;split at h
   ·rename_i nS asd;split at h
    ·rename_i hc;cases h;obtain⟨xs,tV,_,_,hl,hlen,hf⟩:=DataW.trod_struct hu hx;have:=aa3 (cs:=cs) (fun h1 h2=>ih h1 h2) aJ.toList 0 aX asd (by omega) (fun i f Y6=>by
      have:=hf i f (by simpa using Y6)
      have hi:i<xs.length:=by
       rw[hlen];have:=(List.getElem?_eq_some_iff.1 Y6).1;simpa using this
      exact⟨xs[i],by rw[this,List.getElem?_eq_getElem hi]⟩)
     rw[List.drop_zero,List.take_of_length_le (by omega)] at this
     exact this
    ·cases h
   ·cases h
  ·cases h
theorem uI{w:World}{av:Nat->Prop}{d:a'}{ds:List a'}{vs:List Value}(h:cY w av (d::ds) vs):∃v cn,vs=v::cn/\bD w av d v/\cY w av ds cn:=by
 obtain⟨h1,h2⟩:=h;match vs,h1 with
 |v::vs,h1=>
  refine⟨v,vs,rfl,?_,by simpa using h1,fun j g1 g2=>?_⟩
  ·have:=h2 0 (by simp) (by simp)
   simpa using this
  ·have:=h2 (j+1) (by simp only[List.length_cons];omega) (by simp only[List.length_cons];omega)
   simpa using this
theorem af0{w:World}{av:Nat->Prop}:∀{ds:List a'} {vs:List Value},cY w av ds vs->lf w av (cD ds) vs []:=by
 intro ds;induction ds with
 |nil=>
  intro vs h;match vs,h.1 with
  |[],_=>rfl
 |cons d ds ih=>
  intro vs h;obtain⟨v,cn,rfl,h1,h2⟩:=uI h;exact⟨[],[],rfl,⟨rfl,h1⟩,ih h2⟩
def vG(P:Program)(T:TypeId):Bool:=match P.underlying T with
 |some (.struct _)=>true
 |_=>false
def vu(b:Bool)(ds:List a'):Arg:=match b,ds with
 |true,ds=>.av (.agg (cD ds))
 |false,[d]=>.av (.ak (.d d))
 |false,_=>.av (.ak .any)
theorem akF(b':∀b,¬av b){m:Nat}{T:TypeId}{aX:List dq}{v:Value}{d:DataW H}{p:List MemPlace}{r:Reach}{re:Nat}(hp:pV tt P m T=some aX)(iI:Value.okWide P w r re T v)
  (Z:DataW.Trod j5 P w base spare held T v d p):∃y:kH aX,Rn w av (vu (vG P T) (eY aX y)) v []/\dL [vu (vG P T) (eY aX y)] [v]=[]/\∀d,d∈eY aX y->iQ d:=by
 obtain⟨n,hn⟩:=Z;obtain⟨y,h1,h2⟩:=acL b' m hp hn;refine⟨y,?_,?_,h2⟩
 ·cases m with
  |zero=>cases hp
  |succ m=>
   simp only[pV] at hp;unfold vG;split at hp
   ·rename_i k hu;cases hp;rw[hu];obtain⟨z,rfl⟩:=okWide_int hu iI;obtain⟨v',cn,e,h3,ay⟩:=uI h1;cases e;exact⟨rfl,h3⟩
   ·rename_i hu;cases hp;rw[hu];obtain⟨z,rfl⟩:=okWide_bool hu iI;obtain⟨v',cn,e,h3,ay⟩:=uI h1;cases e;exact⟨rfl,h3⟩
   ·rename_i hu;cases hp;rw[hu];obtain⟨z,rfl⟩:=okWide_string hu iI;obtain⟨v',cn,e,h3,ay⟩:=uI h1;cases e;exact⟨rfl,h3⟩
   ·rename_i e hu;split at hp
    ·split at hp
     ·cases hp;rw[hu];obtain⟨a,len,cap,rfl⟩:=okWide_slice hu iI;obtain⟨v',cn,e,h3,ay⟩:=uI h1;cases e;exact⟨rfl,h3⟩
     ·cases hp
    ·cases hp
   ·rename_i aJ hu;rw[hu];obtain⟨cs,rfl,_⟩:=okWide_struct hu iI;exact⟨cs.toList,rfl,af0 h1⟩
   ·cases hp
 ·unfold vu;split<;>cases v<;>rfl
def uK(tt:TypeId->cd)(P:Program)(m:Nat):List TypeId->Option (List (Bool×List dq))
 |[]=>some []
 |T::cW=>match pV tt P m T,uK tt P m cW with
  |some aX,some r=>some ((vG P T,aX)::r)
  |_,_=>none
@[reducible] def wP:List (Bool×List dq)->Type
 |[]=>Unit
 |p::r=>kH p.2×wP r
def sA:(ps:List (Bool×List dq))->wP ps->List Arg
 |[],_=>[]
 |p::r,(y,z)=>vu p.1 (eY p.2 y)::sA r z
def Jn:(ps:List (Bool×List dq))->wP ps->Prop
 |[],_=>True
 |p::r,(y,z)=>(∀d,d∈eY p.2 y->iQ d)/\Jn r z
theorem ai9(b':∀b,¬av b){m:Nat}{r:Reach}{re:Nat}:∀{cW:List TypeId} {ps:List (Bool×List dq)} {vs:List Value} {ds:List (DataW H)} {p:List MemPlace},uK tt P m cW=some ps->
  (∀(j:Nat) (t:TypeId) (v:Value),cW[j]? =some t->vs[j]? =some v->Value.okWide P w r re t v)->DataW.TrodAll j5 P w base spare held cW vs ds p->
  ∃y:wP ps,iX w av (sA ps y) vs []/\dL (sA ps y) vs=[]/\Jn ps y:=by
 intro cW;induction cW with
 |nil=>
  intro ps vs ds p hp _ Z;simp only[uK] at hp;cases hp;obtain⟨rfl,rfl,rfl⟩:=trodAll_nil Z;exact⟨(),rfl,rfl,trivial⟩
 |cons T cW ih=>
  intro ps vs ds p hp iI Z;simp only[uK] at hp;split at hp
  ·rename_i aX ey h1 h2;cases hp;obtain⟨v,cn,d,kG,iw,ic,rfl,rfl,rfl,hd1,hd2⟩:=trodAll_cons Z;obtain⟨y,aB,aA,bC⟩:=akF b' h1 (iI 0 T v rfl rfl) hd1;obtain⟨z,cO,fK,ie⟩:=ih h2 (fun j t u g1 g2=>iI (j+1) t u (by simpa using g1) (by simpa using g2)) hd2
   refine⟨(y,z),⟨[],[],rfl,aB,cO⟩,?_,bC,ie⟩;have:=MR (as:=[vu (vG P T) (eY aX y)]) (vs:=[v]) (n':=sA ey z) (cn:=cn) rfl;rw[aA,fK] at this;exact this
  ·cases hp
theorem aa9{P:Program}{w:World}:∀{laid:List (String×DataW Unit)} {ps:List MemPlace} {n:String} {d:DataW Unit},DataW.LaidVars P w laid ps->(n,d)∈laid->∃b4,DataW.LaidVars P w [(n,d)] b4:=by
 intro laid;induction laid with
 |nil=>intro ps n d _ hm;cases hm
 |cons x laid ih=>
  obtain⟨n0,d0⟩:=x;intro ps n d h hm;obtain⟨g,t,cs,l1,p,q,h1,h2,h3,ay,bo,cc⟩:=h;rcases List.mem_cons.1 hm with e|hm
  ·cases e;exact⟨_,g,t,cs,l1,p,[],h1,h2,h3,ay,rfl,rfl⟩
  ·exact ih bo hm
theorem PN{P:Program}{W:World}{laid:List (String×DataW Unit)}{name:String}{k:IntKind}{zs:List Int}{g:Nat}{t e:TypeId}{n i:Nat}(hg:P.globalNamed name=some g)(arJ:(P.globals[g]?).map (·.type)=some t)(aq:P.underlying t=some (.array n e))
  (he:P.underlying e=some (.int k)) (tC:P.cellsOf e=1) (asg:P.cellsOf t=n) (hm:laid[i]? =some (name,Lib.tabData k zs)) (h:laidMet P laid W):nK W g k zs:=by
 obtain⟨ps,h,_⟩:=h;obtain⟨b4,cz,bk,cs,l1,p,q,hg',qI,anE,Z,_,_⟩:=aa9 h (List.mem_of_getElem? hm);obtain rfl:=Option.some.inj (hg.symm.trans hg');obtain rfl:=Option.some.inj (arJ.symm.trans qI);have hc:=Lib.cells_of_tab aq he tC asg Z;refine afO hg ?_
 show W.var? P name=_;rw[anE,<-hc]
def LawOk(S:aF)(ps:List (Bool×List dq)):Prop:=∀y:wP ps,Jn ps y->∃r,(S (sA ps y)).comp=some r/\(S (sA ps y)).fb r=[.ak (.d (.bool true))]
theorem aav{W c9:World}(hl:laidOutB P=true){sp':Nat->Bool}(kA:∀b,b<W.heap.size->sp' b=true)(hb:Below W.heap.size W c9):∀{cW:List TypeId} {vs:List Value} {ds:List (DataW H)} {p:List MemPlace},
  (∀t,t∈cW->P.readableRec t=true/\t<P.types.size)->(∀x∈p,x.block<W.heap.size)->DataW.TrodAll j5 P W 0 (fun _=>true) true cW vs ds p->DataW.TrodAll j5 P c9 0 sp' true cW vs ds p:=by
 intro cW;induction cW with
 |nil=>intro vs ds p _ _ Z;obtain⟨rfl,rfl,rfl⟩:=trodAll_nil Z;rfl
 |cons T cW ih=>
  intro vs ds p hr hlt Z;obtain⟨v,cn,d,kG,iw,ic,rfl,rfl,rfl,hd1,hd2⟩:=trodAll_cons Z;refine⟨iw,ic,?_,ih (fun t aq=>hr t (List.mem_cons_of_mem _ aq)) (fun x hx=>hlt x (List.mem_append.2 (.inr hx))) hd2,rfl⟩
  exact WideElems.Trod_stays hl (hr T List.mem_cons_self).1 (hr T List.mem_cons_self).2 hd1 (fun x hx=>hb.same (hlt x (List.mem_append.2 (.inl hx)))) (fun x hx=>kA _ (hlt x (List.mem_append.2 (.inl hx))))
theorem aaT{cW:List TypeId}{vs:List Value}{ds:List (DataW H)}{p:List MemPlace}(h:DataW.TrodAll j5 P w base spare held cW vs ds p):ds.length=cW.length:=by
 induction cW generalizing vs ds p with
 |nil=>obtain⟨rfl,rfl,rfl⟩:=trodAll_nil h;rfl
 |cons T cW ih=>
  obtain⟨v,cn,d,kG,iw,ic,rfl,rfl,rfl,_,hd2⟩:=trodAll_cons h;simp[ih hd2]
def BO(P:Program):List String->Bool
 |[]=>true
 |n::ns=>(match P.globalNamed n with
  |some g=>match(P.globals[g]?).map (·.type) with
   |some t=>P.readableRec t&&decide (t<P.types.size)
   |none=>true
  |none=>true)&&BO P ns
theorem aao{W c9:World}(hl:laidOutB P=true){sp':Nat->Bool}(kA:∀b,b<W.heap.size->sp' b=true)(hb:Below W.heap.size W c9):∀{ns:List String} {gs:List (DataW H)} {q:List MemPlace},
  BO P ns=true->(∀x∈q,x.block<W.heap.size)->DataW.TrodVars j5 P W (fun _=>true) ns gs q->DataW.TrodVars j5 P c9 sp' ns gs q:=by
 intro ns;induction ns with
 |nil=>intro gs q _ _ h;obtain⟨rfl,rfl⟩:=trodVars_none h;rfl
 |cons n ns ih=>
  intro gs q hr hlt h;cases gs with
  |nil=>exact h.elim
  |cons d ds=>
   obtain⟨g,t,cs,l1,p,fr,h1,h2,h3,ay,hs,rfl⟩:=h;simp only[BO,h1,h2,Bool.and_eq_true,decide_eq_true_eq] at hr;have hg:g<W.heap.size:=by
    have K3:=h3;simp only[World.var?,h1,Option.bind_some] at K3;split at K3
    ·rename_i hc;exact(Array.getElem?_eq_some_iff.1 hc).1
    ·cases K3
   have Z:DataW.Trod j5 P W 0 (fun _=>true) true t (.agg cs) d p:=⟨l1,ay⟩
   have hx:∀x∈p,x.block<W.heap.size:=fun x hx=>hlt x (List.mem_append.2 (.inl (List.mem_append.2 (.inr hx))))
   obtain⟨alR,n7⟩:=WideElems.Trod_stays (sp':=sp') hl hr.1.1 hr.1.2 Z (fun x h=>hb.same (hx x h)) (fun x h=>kA _ (hx x h))
   refine⟨g,t,cs,alR,p,fr,h1,h2,?_,n7,ih hr.2 (fun x h=>hlt x (List.mem_append.2 (.inr h))) hs,rfl⟩
   simp only[World.var?,h1,Option.bind_some] at h3 ⊢;rw[hb.block g hg];exact h3
theorem aaS{lx:Nat->Bool}:∀{ns:List String} {gs:List (DataW H)} {q:List MemPlace},DataW.TrodVars j5 P w lx ns gs q->gs.length=ns.length:=by
 intro ns;induction ns with
 |nil=>intro gs q h;obtain⟨rfl,rfl⟩:=trodVars_none h;rfl
 |cons n ns ih=>
  intro gs q h;cases gs with
  |nil=>exact h.elim
  |cons d ds=>
   obtain⟨g,t,cs,l1,p,fr,h1,h2,h3,ay,hs,rfl⟩:=h;simp[ih hs]
theorem aa8{f:FuncId}{fn:Func}{S:aF}{s:ChangeSpec}{LN:TypeId}{m:Nat}{ps:List (Bool×List dq)}(ez:aE P f S)(he:∀vs w,(callFunc f vs).run P w=.ok (.enter f vs) w)(hl:laidOutB P=true)
  (alG:∀t,t∈fn.params.toList->P.readableRec t=true/\t<P.types.size) (j3:fn.resultTypes=#[LN]) (arM:P.underlying LN=some .bool) (alC:BO P s.vars=true)
  (mV:∀ds gs:List (DataW H),ds.length=fn.params.toList.length->gs.length=s.vars.length->s.fn H (ds++gs)={results:=[.lit (.bool true)],args:=ds,vars:=gs}) (nZ:uK tt P m fn.params.toList=some ps) (I_:LawOk S ps)
  (W:World) (hG:mW W) (re:Nat) (args:Array Value) (ds gs:List (DataW H)) (before:List MemPlace) (iI:∀(j:Nat) t v,fn.params[j]? =some t->args[j]? =some v->Value.okWide P W .any re t v)
  (hW:DataW.Whole j5 P fn.params.toList s.vars false W args.toList ds gs before):
  Calls P f args W fun e c9=>∃v,e=.returned v/\s.post j5 P fn false true false false W args v c9:=by
 have hlt:=hW.lt;have K0:=hW;obtain⟨p,q,dR,_H,rfl,_,_⟩:=hW;obtain⟨y,h1,h2,h3⟩:=ai9 (av:=fun b=>False\/b∈([]:List Nat)) (fun b hb=>by simp at hb) nZ (fun j t v g1 g2=>iI j t v (by simpa using g1) (by simpa using g2)) dR
 obtain⟨r,ay,bo⟩:=I_ y h3;have key:=ez _ r ay W (fun _=>False) args.toList [] h1 List.nodup_nil (fun b hb=>by simp at hb) (fun b hb=>hb.elim) ⟨hG,fun b _ h=>(by cases h),fun _ _ h=>h,asJ hG⟩
 rcases key with⟨_,hc⟩|⟨v,w',hv,_⟩
 ·have e:args.toList.toArray=args:=by simp
  rw[e] at hc;refine hc.mono fun Dc c9 h=>?_
  cases Dc with
  |returned v=>
   obtain⟨ej,ei,rv,fs,hB,hR,hv,_,_⟩:=h;refine⟨v,rfl,?_⟩;rw[bo] at hR;match rv,hR with
   |[v1],⟨c1,c2,e1,⟨_,hr⟩,_⟩=>
    have hr:bD c9 _ (.bool true) v1:=hr;have o9:v1=.bool true:=by cases hr;rfl
    subst o9;have hv:v=.bool true:=hv;subst hv;have Je:Below W.heap.size W c9:=⟨fs.os,fs.tape,fs.output,fs.size,fun k hk=>fs.block k hk (by simp)⟩
    have gB:=mV ds gs (aaT dR) (aaS _H);refine⟨ds,gs,p++q,[],p,q,K0,?_,?_,?_,Je.frame _,fun h=>by cases h⟩
    ·rw[gB,j3];exact trodAll_mk1 (shut_bool arM _)
    ·rw[gB];exact aav hl (fun b hb=>by simpa using hb) Je alG (fun x hx=>hlt x (List.mem_append.2 (.inl hx))) dR
    ·rw[gB];exact aao hl (fun b hb=>by simpa using hb) Je alC (fun x hx=>hlt x (List.mem_append.2 (.inr hx))) _H
  |panicked c=>exact h.elim
  |outgrown=>exact h.elim
 ·rw[he] at hv;cases hv
end
end Go.Jk
namespace Go.Jk
def bO(c:UInt8):F->List F
 |[]=>[[]]
 |b::r=>bif b==c then []::bO c r else match bO c r with
  |x::xs=>(b::x)::xs
  |[]=>[[b]]
def Gg(st:aj)(cz:FuncId):aR->Option ((F×UInt8)×List (Nat×Site))
 |.av (.ak (.clo g [(ga,s1),(f',s2),(hJ,gZ)]))=>bif Nat.beq g cz&&fB [ga,f',hJ] then
   match fE st ga s1,fE st f' s2,fE st hJ gZ with
   |some [.d (.str [c])],some [.d (.str s)],some [.d (.int .i64 (.ofNat 0))]=>some ((s,c),[(ga,.dead s1),(f',.dead s2),(hJ,.dead gZ)])
   |_,_,_=>none
  else none
 |_=>none
def ED(st:aj):List Nat->List (Nat×aR)
 |[]=>[]
 |t::r=>(t,st.get t)::ED st r
def aj.back(st:aj)(ce:List Nat):aj:=⟨ED st ce,st.sites,st.nt⟩
def Out.back(ce:List Nat):Out->Out
 |.norm st=>.norm (st.back ce)
 |.exit id st=>.exit id (st.back ce)
 |.ret st=>.ret (st.back ce)
def im{J bm:Type}(aZ:F->J->Option (Sum J bm))(fin:J->Option bm):List F->J->Option bm
 |[],y=>fin y
 |x::xs,y=>match aZ x y with
  |none=>none
  |some (.inl y')=>im aZ fin xs y'
  |some (.inr b)=>some b
noncomputable def HG(C:hI)(assign body:Code)(p eM:Nat)(aV:Shape)(os:List aN)(x:F)(y:aV.J):Option (Sum aV.J (aw os)):=
 exec C assign (2*p) ((aV.st y).set eM (one (.str x))) fun
  |.norm st=>exec C body (2*p+1) st fun
   |.norm st=>(aV.ex (st.back (keys aV.cI))).map .inl
   |B=>(gX os (B.back (keys aV.cI))).map .inr
  |_=>none
def kj:Nat:=4611686018427387904
noncomputable def rP(cz:FuncId)(t:Nat)(aV:Shape)(os:List aN)(aZ:F->aV.J->Option (Sum aV.J (aw os)))(fin:aV.J->Option (aw os)):hN:=fun st=>
 ⟨aw os,(Gg st cz (st.get t)).bind fun q=>(aV.ex (st.h4 q.2)).bind fun y=>bif Nat.ble q.1.1.length kj then im aZ fin (bO q.1.2 q.1.1) y else none,lq os,BG os,P2 os⟩
def vf(P:Program)(cz:FuncId):Prop:=
 (∀args w,(callFunc cz args).run P w=.ok (.enter cz args) w)/\
 ∀(l b1 b2 b3:Nat) (p s:ByteArray) (c:UInt8) (c' et fL:TypeId) (W:World) (eV:List F->World->Prop) (jM:World->Prop),p.data.toList=[c]->s.data.toList.length<=kj->b1≠b2->b1≠b3->b2≠b3->
  W.heap[b1]? =some (.cells #[.string p] c')->W.heap[b2]? =some (.cells #[.string s] et)->W.heap[b3]? =some (.cells #[.int .i64 0] fL)->
  (∀r W c9,eV r W->Fr [b2] W c9->eV r c9)->(∀W c9,jM W->Fr [b2] W c9->jM c9)->(∀r W,eV r W->iB W [b2] fun _=>False)->(∀W,jM W->iB W [b2] fun _=>False)->
  (∀x rest W iv,eV (x::rest) W->b1<W.heap.size->b2<W.heap.size->b3<W.heap.size->iv.data.toList=x->YieldAt (eE none) 0 P l #[.string iv] W fun e c9=>
   (e=.returned (.bool true)/\eV rest c9/\W.heap.size<=c9.heap.size/\c9.heap[b1]? =W.heap[b1]? /\c9.heap[b2]? =W.heap[b2]? /\c9.heap[b3]? =W.heap[b3]?)\/(e=.returned (.bool false)/\jM c9))->
  eV (bO c s.data.toList) W->
  CallsIn (eE none) 0 P cz (#[.func (.yield l) #[] #[]]++#[.pointer (some ⟨b1,0,none⟩),.pointer (some ⟨b2,0,none⟩),.pointer (some ⟨b3,0,none⟩)]) W fun e c9=>(∃v,e=.returned v)/\(eV [] c9\/jM c9)
section
variable {P:Program}{O:World}{Y:List Nat}{X:Nat->Prop}{D:Nat->Value}{st:aj}{M:Array Value}{w:World}
theorem ahg(st:aj)(ce:List Nat)(t:Nat):(st.back ce).get t=st.get t/\t∈ce\/(st.back ce).get t=.av (.ak .any):=by
 unfold aj.back aj.get;induction ce with
 |nil=>exact .inr rfl
 |cons u ce ih=>
  simp only[ED,look];cases hb:u.beq t with
  |true=>
   have:=Nat.eq_of_beq_eq_true hb;subst this;left;simp only[cond_true,aj.get];exact⟨trivial,List.mem_cons_self⟩
  |false=>
   simp only[cond_false];rcases ih with⟨h1,h2⟩|h
   ·exact .inl ⟨h1,List.mem_cons_of_mem _ h2⟩
   ·exact .inr h
theorem ao.back(S:ao O Y X D st M w){bX:Array Value}{ce:List Nat}(aq:∀t,t∈ce->M.getD t undef=bX.getD t undef)(hs:bX.size=M.size):ao O Y X D (st.back ce) bX w:=by
 refine⟨hs.trans S.nt,fun t=>?_,S.sites,S.dV,S.cl,S.frame,S.old,S.eZ⟩
 rcases ahg st ce t with⟨h,hm⟩|h
 ·rw[h,<-aq t hm];exact S.cI t
 ·rw[h];trivial
theorem ao.other(S:ao O Y X D st M w){w':World}{L:List Nat}(aZ:Fr L w w')(dY:∀b,b∈L->X b/\(b∈Y\/O.heap.size<=b)):ao O Y X D st M w':=by
 have CH:∀b,¬az X D st.sites b->b∉L:=fun b hb h=>hb (.inl (dY b h).1)
 have G:h7 D D st.sites st.sites w w' (az X D st.sites) (az X D st.sites):=
  ⟨fun o ab h=>⟨ab,h,Nat.le_refl _,fun _=>rfl⟩,fun b hb hlt=>aZ.block b hlt (CH b hb),fun _ h _=>h⟩
 have hlt:∀b,az X D st.sites b->b<w'.heap.size:=fun b hb=>Nat.lt_of_lt_of_le (S.lt hb) aZ.size
 refine⟨S.nt,fun t=>(S.cI t).goes G aZ.size hlt,fun o ab h=>?_,S.dV,S.cl,?_,fun b hb=>Nat.lt_of_lt_of_le (S.old b hb) aZ.size,S.eZ⟩
 ·exact(S.sites o ab h).goes G aZ.size hlt rfl fun hl b hb=>aZ.block b (S.fA ⟨ab,h,hl⟩ hb) fun hm=>(S.cl o b ⟨ab,h,hl⟩ hb).1 (dY b hm).1
 ·refine⟨aZ.os.trans S.frame.os,aZ.tape.trans S.frame.tape,aZ.output.trans S.frame.output,Nat.le_trans S.frame.size aZ.size,fun b hb hn=>?_⟩
  have h1:b∉L:=fun h=>by
   rcases(dY b h).2 with h2|h2
   ·exact hn h2
   ·omega
  rw[aZ.block b (Nat.lt_of_lt_of_le hb S.frame.size) h1];exact S.frame.block b hb hn
theorem Fr.putObj(w:World)(l:Nat)(B:Obj):Fr [l] w (w.putObj l B):=
 ⟨rfl,rfl,rfl,by simp,fun b _ hn=>World.putObj_heap_other fun e=>hn (by simp[e])⟩
theorem Fr.mono{Y mf:List Nat}{O w:World}(aZ:Fr Y O w)(h:∀b,b∈Y->b∈mf):Fr mf O w:=⟨aZ.os,aZ.tape,aZ.output,aZ.size,fun b hb hn=>aZ.block b hb fun ai=>hn (h b ai)⟩
theorem ao.AI(S:ao O Y X D st M w){mf:List Nat}(h:∀o b,cj st.sites o->bH (D o)=some b->b∈mf)(hg:∀b,b∈mf->b∈Y\/O.heap.size<=b):ao w mf X D st M w:=
 ⟨S.nt,S.cI,S.sites,S.dV,fun o b h1 h2=>⟨(S.cl o b h1 h2).1,.inl (h o b h1 h2)⟩,Fr.refl _ _,S.old,⟨S.kM.1,fun b hb hm=>(hg b hm).elim (S.eZ.Y b hb) fun h=>by have:=S.eZ.lt b hb;omega,S.eZ.X,fun b hb=>(S.kM.2 b hb).2⟩⟩
theorem ao.base(S:ao O Y X D st M w){mf:List Nat}(h:∀b,b∈mf->b∈Y\/O.heap.size<=b):h9 O Y X w mf X:=by
 refine⟨fun w' aZ=>?_,fun b hb=>?_,fun b hb=>hb⟩
 ·refine⟨aZ.os.trans S.frame.os,aZ.tape.trans S.frame.tape,aZ.output.trans S.frame.output,Nat.le_trans S.frame.size aZ.size,fun b hb hn=>?_⟩
  have h1:b∉mf:=fun ai=>by
   rcases h b ai with h2|h2
   ·exact hn h2
   ·omega
  rw[aZ.block b (Nat.lt_of_lt_of_le hb S.frame.size) h1];exact S.frame.block b hb hn
 ·rcases hb with hb|hb
  ·exact h b hb
  ·exact .inr (Nat.le_trans S.frame.size hb)
theorem ao.Ak{aS:World}{dC:List Nat}{c7:Nat->Prop}(bm:h9 O Y X aS dC c7)(G:iB O Y X)(S:ao aS dC c7 D st M w):ao O Y c7 D st M w:=
 ⟨S.nt,S.cI,S.sites,S.dV,fun o b h1 h2=>⟨(S.cl o b h1 h2).1,bm.cl b (S.cl o b h1 h2).2⟩,bm.cG _ S.frame,S.old,⟨G.ok,G.Y,S.eZ.X,G.lt⟩⟩
def E6(sites:List (Nat×Site)):List Nat:=(keys sites).filter fun o=>match look sites o with|some s=>s.live|none=>false
theorem MN{sites:List (Nat×Site)}{o:Nat}:o∈E6 sites <-> cj sites o:=by
 unfold E6 cj;rw[List.mem_filter];constructor
 ·rintro⟨_,h⟩;split at h
  ·rename_i s hs;exact⟨s,hs,h⟩
  ·cases h
 ·rintro⟨s,hs,hl⟩;refine⟨?_,by simp only[hs];exact hl⟩
  have:=Q3 hs;clear hl hs;induction sites with
  |nil=>cases this
  |cons p sites ih=>
   rcases List.mem_cons.1 this with h|h
   ·simp only[keys];rw[<-h];exact List.mem_cons_self
   ·simp only[keys];exact List.mem_cons_of_mem _ (ih h)
def iD(D:Nat->Value)(sites:List (Nat×Site)):List Nat:=db D (E6 sites)
theorem ni{sites:List (Nat×Site)}{b:Nat}:b∈iD D sites <-> ∃o,cj sites o/\bH (D o)=some b:=by
 unfold iD;rw[nc];constructor
 ·rintro⟨o,h1,h2⟩;exact⟨o,MN.1 h1,h2⟩
 ·rintro⟨o,h1,h2⟩;exact⟨o,MN.2 h1,h2⟩
def lP(dQ:aj->Prop):Out->Exit->Prop
 |.norm st,.normal=>dQ st
 |.exit id st,.exit iO=>id=iO/\dQ st
 |.ret st,.ret=>dQ st
 |_,_=>False
theorem lP.some{dQ:aj->Prop}{B:Out}{e:Exit}(h:lP dQ B e):∃st,dQ st:=by
 cases B<;>cases e<;>first|exact⟨_,h⟩|exact⟨_,h.2⟩|exact h.elim
theorem Rh{dQ:aj->Prop}(Kn:∀(aV:Shape) st y,aV.ex st=some y->dQ st->dQ (aV.st y)):∀{os:List aN} {x:Out} {y:aw os} {e:Exit},gX os x=some y->lP dQ x e->lP dQ (lq os y) e:=by
 have one:∀{k:Kind} {x:Out} {st:aj} {aV:Shape} {y:aV.J} {e:Exit},k.g' x=some st->aV.ex st=some y->lP dQ x e->lP dQ (k.mk (aV.st y)) e:=by
  intro k x st aV y e h hy hl;cases k<;>cases x<;>simp only[Kind.g'] at h<;>try(cases h;done)
  ·cases h;cases e<;>try exact hl.elim
   exact Kn aV _ y hy hl
  ·rename_i id iO al;cases hb:Nat.beq id iO with
   |false=>simp[hb] at h
   |true=>
    simp only[hb,cond_true,Option.some.injEq] at h;subst h;cases e<;>try exact hl.elim
    exact⟨(Nat.eq_of_beq_eq_true hb).trans hl.1,Kn aV _ y hy hl.2⟩
  ·cases h;cases e<;>try exact hl.elim
   exact Kn aV _ y hy hl
 intro os;induction os with
 |nil=>intro x y;exact y.elim
 |cons B os ih=>
  intro x y e h hl;cases os with
  |nil=>
   simp only[gX] at h;split at h
   ·rename_i st hk;exact one hk h hl
   ·cases h
  |cons cZ r=>
   simp only[gX] at h;split at h
   ·rename_i st hk;obtain⟨eD,aB,aA⟩:=Option.map_eq_some_iff.1 h;subst aA;exact one hk aB hl
   ·obtain⟨eD,aB,aA⟩:=Option.map_eq_some_iff.1 h;subst aA;exact ih aB hl
theorem abB{cz:FuncId}{v:aR}{q:(F×UInt8)×List (Nat×Site)}(h:Gg st cz v=some q):∃ga s1 f' s2 hJ gZ c s,v=.av (.ak (.clo cz [(ga,s1),(f',s2),(hJ,gZ)]))/\(ga≠f'/\ga≠hJ/\f'≠hJ)/\
  fE st ga s1=some [.d (.str [c])]/\fE st f' s2=some [.d (.str s)]/\fE st hJ gZ=some [.d (.int .i64 0)]/\q=((s,c),[(ga,.dead s1),(f',.dead s2),(hJ,.dead gZ)]):=by
 unfold Gg at h;split at h
 ·rename_i g ga s1 f' s2 hJ gZ;cases hb:Nat.beq g cz&&fB [ga,f',hJ] with
  |false=>simp[hb] at h
  |true=>
   simp only[hb,cond_true] at h;simp only[Bool.and_eq_true] at hb;have hg:=Nat.eq_of_beq_eq_true hb.1;subst hg;have hn:=(rz _).1 hb.2;simp only[List.nodup_cons,List.mem_cons,List.not_mem_nil,or_false,not_or,not_false_eq_true,List.nodup_nil,and_true] at hn;split at h
   ·rename_i c s h1 h2 h3;cases h;exact⟨ga,s1,f',s2,hJ,gZ,c,s,rfl,⟨hn.1.1,hn.1.2,hn.2⟩,h1,h2,h3,rfl⟩
   ·cases h
 ·cases h
theorem DP{J bm:Type}{aZ:F->J->Option (Sum J bm)}{fin:J->Option bm}{x:F}{xs:List F}{y:J}{b:bm}(h:im aZ fin (x::xs) y=some b):(∃y',aZ x y=some (.inl y')/\im aZ fin xs y'=some b)\/aZ x y=some (.inr b):=by
 simp only[im] at h;split at h
 ·cases h
 ·rename_i y' hy;exact .inl ⟨y',hy,h⟩
 ·rename_i bI hy;cases h;exact .inr hy
end
theorem Iu{aV:Shape}{st:aj}{y:aV.J}(h:aV.ex st=some y):st.nt=aV.nt:=by
 unfold Shape.ex at h;simp only at h;cases hb:(st.h4 (pP st aV.cI++pQ st aV.sites)).nt.beq aV.nt with
 |false=>rw[hb] at h;cases h
 |true=>rw[<-P' (pP st aV.cI++pQ st aV.sites) st];exact Nat.eq_of_beq_eq_true hb
def sV(n:Nat):List aN->Bool
 |[]=>true
 |B::r=>Nat.beq B.2.nt n&&sV n r
def Out.st:Out->aj
 |.norm st|.exit _ st|.ret st=>st
theorem Q7{k:Kind}{x:Out}{st:aj}(h:k.g' x=some st):x.st=st:=by
 cases k<;>cases x<;>simp only[Kind.g'] at h<;>try(cases h;done)
 ·cases h;rfl
 ·rename_i id iO al;cases hb:Nat.beq id iO with
  |false=>simp[hb] at h
  |true=>simp only[hb,cond_true,Option.some.injEq] at h;exact h
 ·cases h;rfl
theorem akv{n:Nat}:∀{os:List aN} {x:Out} {y:aw os},gX os x=some y->sV n os=true->x.st.nt=n:=by
 intro os;induction os with
 |nil=>intro x y;exact y.elim
 |cons B os ih=>
  intro x y h hn;simp only[sV,Bool.and_eq_true] at hn;have hno:=Nat.eq_of_beq_eq_true hn.1;cases os with
  |nil=>
   simp only[gX] at h;split at h
   ·rename_i st hk;rw[Q7 hk,Iu h,hno]
   ·cases h
  |cons cZ r=>
   simp only[gX] at h;split at h
   ·rename_i st hk;obtain⟨eD,aB,_⟩:=Option.map_eq_some_iff.1 h;rw[Q7 hk,Iu aB,hno]
   ·obtain⟨eD,aB,_⟩:=Option.map_eq_some_iff.1 h;exact ih aB hn.2
section
variable {P:Program}{C:hI}
theorem acG(H:aW P C.toCtx){cz:FuncId}(t':vf P cz){t eM p:Nat}{assign body:Code}{aV:Shape}{os:List aN}(asq:f_ P C assign (2*p))(asp:f_ P C body (2*p+1))
  {aZ:F->aV.J->Option (Sum aV.J (aw os))} {fin:aV.J->Option (aw os)} (fs:∀x y,aZ x y=HG C assign body p eM aV os x y) (vJ:∀y,fin y=gX os (.norm (aV.st y)))
  (Jc:eX (keys aV.cI) (eM::(cr assign++cr body))=true) (I8:gI assign=true) (I7:gI body=true) (I4:eM<aV.nt) (qL:sV aV.nt os=true):
  aT P (.rangeFunc (.tmp t) #[eM] assign body) (rP cz t aV os aZ fin):=by
 intro rn hn O Y X st y hy D M w ds S;have arT:rn=none:=hn.elim id fun h=>by cases h
 subst arT;simp only[rP] at hy y ⊢;obtain⟨q,au,hy⟩:=Option.bind_eq_some_iff.1 hy;obtain⟨dw,Ko,oN⟩:=Option.bind_eq_some_iff.1 hy;obtain⟨ga,s1,f',s2,hJ,gZ,c,s,hv,⟨iM,Ke,iL⟩,hb1,hb2,hb3,rfl⟩:=abB au;obtain⟨hlen,oN⟩:s.length<=kj/\im aZ fin (bO c s) dw=some y:=by
  cases hb:Nat.ble s.length kj with
  |false=>rw[hb] at oN;cases oN
  |true=>rw[hb] at oN;exact⟨Nat.le_of_ble_eq_true hb,oN⟩
 have ja:=S.cI t;rw[hv] at ja;obtain⟨vs,iI,l7,qq⟩:=ja;match vs,l7 with
 |[v1,v2,v3],_=>
 have r1:v1=D ga:=Ref.at (qq 0 (by simp) (by simp)) (gG hb1) rfl
 have r2:v2=D f':=Ref.at (qq 1 (by simp) (by simp)) (gG hb2) rfl
 have hO:v3=D hJ:=Ref.at (qq 2 (by simp) (by simp)) (gG hb3) rfl
 have Iv:∀{o k:Nat} {d:a'},fE st o k=some [.d d]->∃b T u,D o=.pointer (some ⟨b,0,none⟩)/\w.heap[b]? =some (.cells #[u] T)/\bD w (az X D st.sites) d u:=by
  intro o k d h;obtain⟨b,T,cur,g1,g2,g3,g4,_,g5⟩:=S.sites o _ (gG h);match cur,g3 with
  |[u],_=>exact⟨b,T,u,g1,g2,g5 0 (by simp) (by simp)⟩
 obtain⟨b1,c',u1,i1,h1,d1⟩:=Iv hb1;obtain⟨b2,et,u2,i2,h2,d2⟩:=Iv hb2;obtain⟨b3,fL,auP,i3,h3,d3⟩:=Iv hb3;obtain⟨kb,rfl,CG⟩:=gv d1;obtain⟨aD,rfl,fH⟩:=gv d2;have bz:auP=.int .i64 0:=ii d3;subst bz;have Kh:cj st.sites ga:=⟨_,gG hb1,rfl⟩;have Cu:cj st.sites f':=⟨_,gG hb2,rfl⟩;have Kg:cj st.sites hJ:=⟨_,gG hb3,rfl⟩;have aB:bH (D ga)=some b1:=by rw[i1];rfl
 have aA:bH (D f')=some b2:=by rw[i2];rfl
 have bC:bH (D hJ)=some b3:=by rw[i3];rfl
 have m12:b1≠b2:=fun e=>iM (S.dV ga f' b1 Kh Cu aB (e▸aA))
 have m13:b1≠b3:=fun e=>Ke (S.dV ga hJ b1 Kh Kg aB (e▸bC))
 have m23:b2≠b3:=fun e=>iL (S.dV f' hJ b2 Cu Kg aA (e▸bC))
 have wk:=S.fA Kh aB;have YP:=S.fA Cu aA;have wj:=S.fA Kg bC;have alt:=(S.cl f' b2 Cu aA).2;obtain⟨c7,asl,dr,Kk,YS,YR⟩:∃c7:Nat->Prop,(∀b,X b->c7 b)/\ao O Y c7 D (st.h4 [(ga,.dead s1),(f',.dead s2),(hJ,.dead gZ)]) M w/\c7 b1/\c7 b2/\c7 b3:=by
  have A:=S.kill (gG hb1) rfl;have gC:look (cp st.sites ga (.dead s1)) f'=some (.box s2 [.d (.str s)]):=by rw[c4,if_neg iM];exact gG hb2
  have bm:=A.kill (st:={st with sites:=cp st.sites ga (.dead s1)}) gC rfl
  have wY:look (cp (cp st.sites ga (.dead s1)) f' (.dead s2)) hJ=some (.box gZ [.d (.int .i64 0)]):=by rw[c4,if_neg iL,c4,if_neg Ke];exact gG hb3
  have a':=bm.kill (st:={st with sites:=cp (cp st.sites ga (.dead s1)) f' (.dead s2)}) wY rfl
  exact⟨_,fun b hb=>.inl (.inl (.inl hb)),a',.inl (.inl (.inr aB)),.inl (.inr aA),.inr bC⟩
 obtain⟨h_,hS,_⟩:=Shape.fZ dr Ko;have aww:M.size=aV.nt:=hS.nt;refine fW.of (n:=0) (wpIn_rangeFunc ?_);intro fn _;obtain⟨rec,nO⟩:∃rec:LoopState->Option Code->Loop,rec=fun st auW=>{state:=st,pending:=auW,fn,tmps:=M,params:=#[eM],assign,body,defers:=w.heap.size}:=⟨_,rfl⟩
 obtain⟨W1,hW1⟩:∃W1,(w.alloc (.deferred (some []))).alloc (.loop (rec .ready none))=W1:=⟨_,rfl⟩;obtain⟨l,hl⟩:∃l,l=w.heap.size+1:=⟨_,rfl⟩;obtain⟨a',ft⟩:∃a',a'=w.heap.size:=⟨_,rfl⟩;have hsz:W1.heap.size=w.heap.size+2:=by rw[<-hW1];simp
 have ass:W1.heap[l]? =some (.loop (rec .ready none)):=by
  rw[<-hW1,hl];have:=World.alloc_heap_new (w.alloc (.deferred (some []))) (.loop (rec .ready none));rwa[World.size_alloc] at this
 have Zj:W1.heap[a']? =some (.deferred (some [])):=by
  rw[<-hW1,ft];exact(RowKit.Below.heap_alloc _ _ _ (by simp only[World.size_alloc];omega)).trans (World.alloc_heap_new w _)
 have hold:∀b,b<w.heap.size->W1.heap[b]? =w.heap[b]? :=fun b hb=>by
  rw[<-hW1,RowKit.Below.heap_alloc _ _ _ (by simp only[World.size_alloc];omega),RowKit.Below.heap_alloc _ _ _ hb]
 have anZ:Fr Y O W1:=⟨by rw[<-hW1];exact S.frame.os,by rw[<-hW1];exact S.frame.tape,by rw[<-hW1];exact S.frame.output,by have:=S.frame.size;omega,fun b hb hn=>by
  have:=S.frame.size;rw[hold b (by omega)];exact S.frame.block b hb hn⟩
 have oL:=S.frame.size;have iU:=hS.jump (w':=W1) (fun b _ hb=>hold b hb) (by omega) anZ
 obtain⟨cA,mc⟩:∃cA:Nat->Prop,cA=fun b=>c7 b\/(w.heap.size<=b/\b<W1.heap.size):=⟨_,rfl⟩
 rw[<-mc] at iU;have LI:cA l:=by rw[mc];exact .inr ⟨by omega,by omega⟩
 have LJ:cA a':=by rw[mc];exact .inr ⟨by omega,by omega⟩
 have dX:cA b1:=by rw[mc];exact .inl Kk
 have fJ:cA b2:=by rw[mc];exact .inl YS
 have jp:cA b3:=by rw[mc];exact .inl YR
 have KY:∀b,X b->cA b:=fun b hb=>by rw[mc];exact .inl (asl b hb)
 obtain⟨fg,vK⟩:∃fg,fg=l::b2::iD h_ (aV.st dw).sites:=⟨_,rfl⟩;have RR:∀b,b∈iD h_ (aV.st dw).sites->¬cA b/\(b∈Y\/O.heap.size<=b):=fun b hb=>by
  obtain⟨o,g1,g2⟩:=ni.1 hb;exact iU.cl o b g1 g2
 have au1:l∈fg:=by rw[vK];exact List.mem_cons_self
 have Zp:b2∈fg:=by rw[vK];exact List.mem_cons_of_mem _ List.mem_cons_self
 have avC:a'∉fg:=by
  rw[vK];intro h;rcases List.mem_cons.1 h with h|h
  ·omega
  ·rcases List.mem_cons.1 h with h|h
   ·omega
   ·exact(RR a' h).1 LJ
 have So:∀b,b∈fg->b∈Y\/O.heap.size<=b:=fun b hb=>by
  rw[vK] at hb;rcases List.mem_cons.1 hb with h|h
  ·exact .inr (by omega)
  ·rcases List.mem_cons.1 h with h|h
   ·rw[h];exact alt
   ·exact(RR b h).2
 have lC:ao W1 fg cA h_ (aV.st dw) M W1:=iU.AI (fun o b g1 g2=>by rw[vK];exact List.mem_cons_of_mem _ (List.mem_cons_of_mem _ (ni.2 ⟨o,g1,g2⟩))) So
 have auD:h9 O Y X W1 fg cA:=by
  have:=iU.base So;exact⟨this.cG,this.cl,KY⟩
 obtain⟨eV,mj⟩:∃eV:List F->World->Prop,∀r W,eV r W <-> ∃D z,ao W1 fg cA D (aV.st z) M W/\im aZ fin r z=some y/\W.heap[l]? =some (.loop (rec .ready none))/\W.heap[a']? =some (.deferred (some [])):=⟨_,fun _ _=>Iff.rfl⟩
 obtain⟨jM,wK⟩:∃jM:World->Prop,∀W,jM W <-> ∃j e,((j=.ret/\e=.ret)\/∃id,j=.exit id/\e=.exit id)/\lP (fun st=>∃D,ao W1 fg cA D st M W) (lq os y) e/\
   W.heap[l]? =some (.loop (rec .done (some j)))/\W.heap[a']? =some (.deferred (some [])):=⟨_,fun _=>Iff.rfl⟩
 have Tg:∀{D:Nat->Value} {st:aj} {W:World},ao W1 fg cA D st M W->iB W [b2] fun _=>False:=fun S=>
  ⟨S.kM.1,fun b hb h=>S.eZ.Y b hb (by rw[List.mem_singleton.1 h];exact Zp),fun _ _ h=>h,fun b hb=>(S.kM.2 b hb).2⟩
 have au0:l<W1.heap.size:=by omega
 have au2:a'<W1.heap.size:=by omega
 have Vp:l≠b2:=by omega
 have XB:a'≠b2:=by omega
 have aiB:∀{dQ _q:aj->Prop} {B:Out} {e:Exit},(∀st,dQ st->_q st)->lP dQ B e->lP _q B e:=fun h k=>by
  rename_i B e;cases B<;>cases e<;>first|exact h _ k|exact⟨k.1,h _ k.2⟩|exact k.elim
 have SP:∀{D:Nat->Value} {st:aj} {W c9:World},ao W1 fg cA D st M W->Fr [b2] W c9->ao W1 fg cA D st M c9:=fun S aZ=>S.other aZ fun b hb=>by
  rw[List.mem_singleton.1 hb];exact⟨fJ,.inl Zp⟩
 have Ij:∀{D:Nat->Value} {st:aj} {M:Array Value} {W:World} {X':Nat->Prop} (B:Obj),(∀b,cA b->X' b)->ao W1 fg X' D st M W->ao W1 fg X' D st M (W.putObj l B):=fun B hx S=>S.other (Fr.putObj _ l B) fun b hb=>by
  rw[List.mem_singleton.1 hb];exact⟨hx _ LI,.inl au1⟩
 refine⟨l,[mark a'],W1,{target:=.fn (.func cz) #[.pointer (some ⟨b1,0,none⟩),.pointer (some ⟨b2,0,none⟩),.pointer (some ⟨b3,0,none⟩)],args:=#[.func (.yield l) #[] #[]]},W1,cz,
  #[.func (.yield l) #[] #[]]++#[.pointer (some ⟨b1,0,none⟩),.pointer (some ⟨b2,0,none⟩),.pointer (some ⟨b3,0,none⟩)],W1,?_,?_,fun _ _=>trivial,?_,fun h=>by simp[eE,Fence.wide] at h,?_⟩
 ·rw[<-hW1,nO,hl,ft];exact run_enterLoop_outer _ _ _ _ _
 ·have alD:Act.eval ⟨M,ds⟩ (.tmp t)=.func (.func cz) #[] #[.pointer (some ⟨b1,0,none⟩),.pointer (some ⟨b2,0,none⟩),.pointer (some ⟨b3,0,none⟩)]:=by
   show M.getD t undef=_;rw[iI,r1,r2,hO,i1,i2,i3]
  simp only[rangeCall,resolve,alD];simp[Deferred.ofValue,Act.eval]
 ·simp[invoke,t'.1]
 ·refine CallsIn.mono (t'.2 l b1 b2 b3 kb aD c c' et fL W1 eV jM CG (by rw[fH];exact hlen) m12 m13 m23 ((hold b1 wk).trans h1) ((hold b2 YP).trans h2) ((hold b3 wj).trans h3) ?_ ?_ ?_ ?_ ?_ ?_) ?_
  ·-- ai5 two rounds tj avF turns ars avM box
   intro r W c9 hj aZ;obtain⟨D,z,g1,g2,g3,g4⟩:=(mj _ _).1 hj;have qO:=Nat.lt_of_lt_of_le au0 g1.frame.size;have tH:=Nat.lt_of_lt_of_le au2 g1.frame.size;exact(mj _ _).2 ⟨D,z,SP g1 aZ,g2,(aZ.block l qO (by simpa using Vp)).trans g3,(aZ.block a' tH (by simpa using XB)).trans g4⟩
  ·intro W c9 hj aZ;obtain⟨j,e,g1,g2,g3,g4⟩:=(wK _).1 hj;have qO:l<W.heap.size:=(Array.getElem?_eq_some_iff.1 g3).1;have tH:a'<W.heap.size:=(Array.getElem?_eq_some_iff.1 g4).1;exact(wK _).2 ⟨j,e,g1,aiB (fun st ⟨D,h⟩=>⟨D,SP h aZ⟩) g2,(aZ.block l qO (by simpa using Vp)).trans g3,(aZ.block a' tH (by simpa using XB)).trans g4⟩
  ·intro r W hj;obtain⟨D,z,g1,_⟩:=(mj _ _).1 hj;exact Tg g1
  ·intro W hj;obtain⟨j,e,_,g2,_⟩:=(wK _).1 hj;obtain⟨st,D,g1⟩:=g2.some;exact Tg g1
  ·-- awI avX
   intro x rest W iv hj q1 q2 cV wo;obtain⟨D,z,gr,hz,qO,tH⟩:=(mj _ _).1 hj;have hlt:l<W.heap.size:=(Array.getElem?_eq_some_iff.1 qO).1;have anP:a'<W.heap.size:=(Array.getElem?_eq_some_iff.1 tH).1;refine⟨fn,M.setIfInBounds eM (.string iv),assign,body,?_,?_⟩
   ·have:=run_yield (P:=P) (args:=#[.string iv]) qO (by rw[nO];rfl)
    rw[nO] at this;simpa using this
   refine roundIn_of_wpIn (n:=0) trivial ?_
   show fW (some l) P assign _ _ _;obtain⟨s,hs⟩:∃s,aZ x z=some s:=by
    rcases DP hz with⟨eP,h,_⟩|h
    ·exact⟨_,h⟩
    ·exact⟨_,h⟩
   have CD:=hs;rw[fs] at hs;have tZ:ao W1 fg cA D ((aV.st z).set eM (one (.str x))) (M.setIfInBounds eM (.string iv)) W:=gr.put (t:=eM) I4 (bD.str _ _ wo);have anv:∀o b,cj ((aV.st z).set eM (one (.str x))).sites o->bH (D o)=some b->b∈iD D (aV.st z).sites:=fun o b g1 g2=>ni.2 ⟨o,g1,g2⟩
   have xe:=tZ.AI anv fun b hb=>by
    obtain⟨o,g1,g2⟩:=ni.1 hb;exact(gr.cl o b g1 g2).2
   have TR:∀b,b∈iD D (aV.st z).sites->¬cA b/\(b∈fg\/W1.heap.size<=b):=fun b hb=>by
    obtain⟨o,g1,g2⟩:=ni.1 hb;exact gr.cl o b g1 g2
   have Mt:h9 W1 fg cA W (iD D (aV.st z).sites) cA:=tZ.base fun b hb=>(TR b hb).2
   refine jw (rn:=some l) H assign (2*p) (.inr I8) asq W _ cA _ D _ W [] _ _ hs xe ?_
   intro o1 e1 a1 aS qP ia;cases o1 with
   |exit id eC=>cases qP
   |ret eC=>cases qP
   |norm eC=>
   cases e1<;>try exact ia.elim
   obtain⟨C8,LZ,kP,kv,_Z,pu,_,_,Zu,alz⟩:=ia;have ua:Fr (iD D (aV.st z).sites) W aS:=pu.cG _ Zu.frame;have _D:∀b,cA b->b∉iD D (aV.st z).sites:=fun b hb h=>(TR b h).1 hb
   have ia:aS.heap[l]? =some (.loop (rec .ready none)):=(ua.block l hlt (_D l LI)).trans qO;refine⟨aS.putObj l (.loop {rec .ready none with state:=.busy}),run_beginRound ia (by rw[nO]),?_⟩
   obtain⟨w2,wq⟩:∃w2,w2=aS.putObj l (.loop {rec .ready none with state:=.busy}):=⟨_,rfl⟩
   rw[<-wq];have ate:ao W1 fg kP kv eC a1.tmps aS:=ao.Ak (Mt.trans pu) lC.eZ Zu;have oe:ao W1 fg kP kv eC a1.tmps w2:=by rw[wq];exact Ij _ pu.x ate
   have IK:∀b,b∈iD kv eC.sites->¬kP b/\(b∈fg\/W1.heap.size<=b):=fun b hb=>by
    obtain⟨o,g1,g2⟩:=ni.1 hb;exact oe.cl o b g1 g2
   have Dh:=oe.AI (mf:=iD kv eC.sites) (fun o b g1 g2=>ni.2 ⟨o,g1,g2⟩) fun b hb=>(IK b hb).2
   have cv:h9 W1 fg kP w2 (iD kv eC.sites) kP:=oe.base fun b hb=>(IK b hb).2
   have n3:w2.heap[l]? =some (.loop {rec .ready none with state:=.busy}):=by rw[wq];exact World.putObj_heap_same (Nat.lt_of_lt_of_le hlt ua.size)
   have aq0:w2.heap.size=aS.heap.size:=by rw[wq];simp
   show fW (some l) P body _ a1 _;have KX:a1=⟨a1.tmps,a1.defers⟩:=rfl;rw[KX];refine jw (rn:=some l) H body (2*p+1) (.inr I7) asp w2 _ kP eC kv a1.tmps w2 a1.defers _ _ qP Dh ?_
   intro B e a cq hk fS;have YN:∀b,kP b->b∉iD kv eC.sites:=fun b hb h=>(IK b h).1 hb
   have Vr:∀{tS eO xd},h9 w2 (iD kv eC.sites) kP tS eO xd->Fr eO tS cq->∀b,cA b->b<W.heap.size->b≠l->cq.heap[b]? =W.heap[b]? :=fun bm aZ b hb oU hne=>by
    have xg:=bm.cG _ aZ;have hb1:b<aS.heap.size:=Nat.lt_of_lt_of_le oU ua.size;rw[xg.block b (by omega) (YN b (pu.x b hb)),wq,World.putObj_heap_other hne,ua.block b oU (_D b hb)]
   have fin:∀(gd:aj),gd.nt=aV.nt->eu w2 (iD kv eC.sites) kP a1.defers a1.tmps (cr body) gd a cq->∀(jump:Option Code),
     (Instr.endRound l jump).run P cq=.ok (.bool jump.isNone) (cq.putObj l (.loop (rec (if jump.isNone then .ready else .done) jump)))/\
     (∃hK,ao W1 fg cA hK (gd.back (keys aV.cI)) M (cq.putObj l (.loop (rec (if jump.isNone then .ready else .done) jump))))/\
     (cq.putObj l (.loop (rec (if jump.isNone then .ready else .done) jump))).heap[l]? =some (.loop (rec (if jump.isNone then .ready else .done) jump))/\
     (cq.putObj l (.loop (rec (if jump.isNone then .ready else .done) jump))).heap[a']? =some (.deferred (some []))/\
     W.heap.size<=(cq.putObj l (.loop (rec (if jump.isNone then .ready else .done) jump))).heap.size/\
     (∀b,cA b->b<W.heap.size->b≠l->(cq.putObj l (.loop (rec (if jump.isNone then .ready else .done) jump))).heap[b]? =W.heap[b]?):=by
    rintro gd awe ⟨tS,eO,xd,hK,_Y,wS,_,_,jo,aly⟩ jump;have xg:=wS.cG _ jo.frame;have hlt2:l<w2.heap.size:=by rw[aq0];exact Nat.lt_of_lt_of_le hlt ua.size
    have CI:cq.heap[l]? =some (.loop {rec .ready none with state:=.busy}):=(xg.block l hlt2 (YN l (pu.x l LI))).trans n3
    have anQ:=Nat.lt_of_lt_of_le hlt2 xg.size;have VI:=run_endRound (P:=P) jump CI;have an9:({({rec .ready none with state:=.busy}:Loop) with state:=if jump.isNone then .ready else .done,pending:=jump}:Loop)=rec (if jump.isNone then .ready else .done) jump:=by rw[nO]
    rw[an9] at VI;have atd:ao W1 fg xd hK gd a.tmps cq:=ao.Ak ((cv.trans wS)) oe.eZ jo;have atc:ao W1 fg cA hK gd a.tmps cq:=atd.shrink fun b hb=>wS.x b (pu.x b hb)
    have atb:=Ij (.loop (rec (if jump.isNone then .ready else .done) jump)) (fun _ h=>h) atc
    have jk:∀bk,bk∈keys aV.cI->bk≠eM/\bk∉cr assign/\bk∉cr body:=fun bk qI=>by
     have hm:bk∉(eM::(cr assign++cr body)):=fun h=>by
      have:=rJ qI h;rw[Jc] at this;cases this
     simp only[List.mem_cons,List.mem_append,not_or] at hm;exact⟨hm.1,hm.2.1,hm.2.2⟩
    refine⟨VI,⟨hK,atb.back (fun bk qI=>?_) ?_⟩,World.putObj_heap_same anQ,?_,?_,fun b hb oU hne=>?_⟩
    ·obtain⟨g1,g2,g3⟩:=jk bk qI;rw[aly bk g3,alz bk g2];simp only[Array.getD_eq_getD_getElem?,Array.getElem?_setIfInBounds_ne (show eM≠bk from fun e=>g1 e.symm)]
    ·have e1:a.tmps.size=gd.nt:=jo.nt;omega
    ·rw[World.putObj_heap_other (by omega)]
     exact(Vr wS jo.frame a' LJ anP (by omega)).trans tH
    ·simp only[World.putObj_size];have:=ua.size;have:=xg.size;omega
    ·rw[World.putObj_heap_other hne];exact Vr wS jo.frame b hb oU hne
   have Br:∀(gd:aj) (jp:Out) (j:Code) (bz:Exit),((j=.ret/\bz=.ret)\/∃id,j=.exit id/\bz=.exit id)->jp.st=gd->(∀dQ:aj->Prop,dQ (gd.back (keys aV.cI))->lP dQ (jp.back (keys aV.cI)) bz)->
     (gX os (jp.back (keys aV.cI))).map Sum.inr=some s->eu w2 (iD kv eC.sites) kP a1.defers a1.tmps (cr body) gd a cq->
     ∃v w',(Instr.endRound l (some j)).run P cq=.ok v w'/\((Ending.returned v=.returned (.bool true)/\eV rest w'/\W.heap.size<=w'.heap.size/\w'.heap[b1]? =W.heap[b1]? /\w'.heap[b2]? =W.heap[b2]? /\w'.heap[b3]? =W.heap[b3]?)\/(Ending.returned v=.returned (.bool false)/\jM w')):=by
    intro gd jp j bz KN arD I5 hex mb;obtain⟨b,hb,ep⟩:=Option.map_eq_some_iff.1 hex;have ar1:gd.nt=aV.nt:=by
     have:=akv hb qL;have e:(jp.back (keys aV.cI)).st.nt=jp.st.nt:=by cases jp<;>rfl
     rw[e,arD] at this;exact this
    obtain⟨f1,⟨hK,f2⟩,f3,f4,f5,f6⟩:=fin gd ar1 mb (some j);refine⟨_,_,f1,.inr ⟨rfl,(wK _).2 ⟨j,bz,KN,?_,f3,f4⟩⟩⟩;have jJ:b=y:=by
     rcases DP hz with⟨eP,h,_⟩|h
     ·rw[CD] at h;cases h;cases ep
     ·rw[CD] at h;cases h;cases ep;rfl
    subst jJ;refine Rh (fun aq3 al y' Jb ⟨aQ,ch⟩=>?_) hb (I5 _ ⟨hK,f2⟩)
    obtain⟨Iz,Lu,_⟩:=Shape.fZ ch Jb;exact⟨Iz,Lu⟩
   cases B with
   |norm gd=>
    cases e<;>try exact fS.elim
    obtain⟨eP,mQ,hzs⟩:=Option.map_eq_some_iff.1 hk;obtain⟨f1,⟨hK,f2⟩,f3,f4,f5,f6⟩:=fin gd (show(gd.back (keys aV.cI)).nt=aV.nt from Iu mQ) fS none
    obtain⟨ap6,f7,_⟩:=Shape.fZ f2 mQ;refine⟨_,_,f1,.inl ⟨rfl,(mj _ _).2 ⟨ap6,eP,f7,?_,f3,f4⟩,f5,f6 b1 dX q1 (by omega),f6 b2 fJ q2 (by omega),f6 b3 jp cV (by omega)⟩⟩
    rcases DP hz with⟨z2,h,h2⟩|h
    ·rw[CD] at h;cases h;cases hzs;exact h2
    ·rw[CD] at h;cases h;cases hzs
   |exit id gd=>
    cases e<;>try exact fS.elim
    obtain⟨rfl,fS⟩:=fS;exact Br gd (.exit id gd) (.exit id) (.exit id) (.inr ⟨id,rfl,rfl⟩) rfl (fun dQ h=>⟨rfl,h⟩) hk fS
   |ret gd=>
    cases e<;>try exact fS.elim
    exact Br gd (.ret gd) .ret .ret (.inl ⟨rfl,rfl⟩) rfl (fun dQ h=>h) hk fS
  ·exact(mj _ _).2 ⟨h_,dw,lC,by rw[fH];exact oN,ass,Zj⟩
  ·-- avQ awG avG
   have land:∀{jr:World} {e:Exit} (cZ:Obj),lP (fun st=>∃D,ao W1 fg cA D st M jr) (lq os y) e->jr.heap[l]? ≠none->jr.heap[a']? =some (.deferred (some []))->
     e8 O Y X ds M (cr (.rangeFunc (.tmp t) #[eM] assign body)) (lq os y) e ⟨M,[mark a']++ds⟩ (jr.putObj l cZ):=by
    intro jr e cZ h _ awD;have mk:∀st,(∃D,ao W1 fg cA D st M jr)->eu O Y X ds M (cr (.rangeFunc (.tmp t) #[eM] assign body)) st ⟨M,[mark a']++ds⟩ (jr.putObj l cZ):=by
     rintro st ⟨D,S⟩;refine⟨W1,fg,cA,D,[a'],auD,⟨by simp,fun Mq h=>by rw[List.mem_singleton.1 h];omega,fun Mq h=>by rw[List.mem_singleton.1 h];exact⟨Zj,avC,LJ⟩⟩,⟨rfl,fun h=>absurd List.mem_cons_self h⟩,Ij _ (fun _ h=>h) S,fun _ _=>rfl⟩
    cases hm:lq os y<;>rw[hm] at h<;>cases e<;>first|exact mk _ h|exact⟨h.1,mk _ h.2⟩|exact h.elim
   rintro e jr ⟨⟨v,rfl⟩,hj|hj⟩
   ·obtain⟨D,z,g1,g2,g3,g4⟩:=(mj _ _).1 hj;refine⟨none,jr.putObj l (.loop {rec .ready none with state:=.exhausted}),?_,?_⟩
    ·have:=run_endLoop (P:=P) g3 (by rw[nO];simp)
     rw[nO] at this ⊢;exact this
    ·simp only[im,vJ] at g2;refine land _ ?_ (by rw[g3];simp) g4
     refine Rh (fun aq3 al y' Jb ⟨aQ,ch⟩=>?_) g2 ⟨D,g1⟩
     obtain⟨Iz,Lu,_⟩:=Shape.fZ ch Jb;exact⟨Iz,Lu⟩
   ·obtain⟨j,e,KN,g1,g3,g4⟩:=(wK _).1 hj;refine⟨some j,jr.putObj l (.loop {rec .done (some j) with state:=.exhausted}),?_,?_⟩
    ·have:=run_endLoop (P:=P) g3 (by rw[nO];simp)
     rw[nO] at this ⊢;exact this
    ·have:=land (.loop {rec .done (some j) with state:=.exhausted}) g1 (by rw[g3];simp) g4
     rcases KN with⟨rfl,rfl⟩|⟨id,rfl,rfl⟩
     ·exact wpIn_ret this
     ·exact wpIn_exit this
end
def opsOf:Code->Array Oper
 |.region _ B _=>B
 |_=>#[]
section
variable {P:Program}
theorem O4{B:Oper}{M:Array Value}{ds:List Deferred}{W:World}{a b:Nat}{ty:Array TypeId}{l:Nat}{iv:ByteArray}{K:Act->World->Prop}{Q:Exit->Act->World->Prop}{R:Ending->World->Prop}
  (aG:B.op=.call {callee:=.value (.tmp a),args:=#[.tmp b],argTypes:=ty}) (ha:M.getD a undef=.func (.yield l) #[] #[]) (hb:M.getD b undef=.string iv)
  (au4:YieldAt (eE none) 0 P l #[.string iv] W R) (hR:∀e c9,R e c9->∃v,e=.returned v/\K ⟨cB M B.dst v,ds⟩ c9):B.wpIn (eE none) 0 P ⟨M,ds⟩ W K Q:=by
 obtain⟨fn,tmps,assign,body,hy,aso⟩:=au4;refine⟨fun f _=>BK none f,?_⟩
 have dm:(B.semAt none (Act.eval ⟨M,ds⟩)).run P W=.ok (.round l fn tmps assign body) W:=by
  rw[Oper.semAt_none];have w8:Act.eval ⟨M,ds⟩ (.tmp a)=.func (.yield l) #[] #[]:=ha;have w7:Act.eval ⟨M,ds⟩ (.tmp b)=.string iv:=hb;unfold execOp;simp only[aG,resolve,w8,Deferred.ofValue,Sem.run_bind,Sem.run_pure,Result.andThen_ok,invoke,List.map_toArray,List.map_cons,List.map_nil,w7];simpa using hy
 show B.uponIn (eE none) 0 P _ K Q ((B.semAt none (Act.eval ⟨M,ds⟩)).run P W);rw[dm];refine⟨fun h=>by simp[eE,Fence.wide] at h,RoundIn.mono aso fun e c9 he=>?_⟩
 obtain⟨v,rfl,hk⟩:=hR e c9 he;rw[<-ux] at hk;exact hk
def e'(k:Nat)(more:List (Nat×e3)):Shape:=⟨[(1,.ak (.en [.str] 0)),(2,.ak (.ptr 1001 0)),(3,.ak (.en [.int .i64] 0))]++more,[(1001,.box [.d .str],.same)],k⟩
structure jg(b1 b2 b3:Nat)(p:ByteArray)(c' fL:TypeId)(l k:Nat)(r:F)(M:Array Value)(W:World):Prop where
 size:M.size=k
 dw:M.getD 0 undef=.func (.yield l) #[] #[]
 eD:M.getD 1 undef=.pointer (some ⟨b1,0,none⟩)
 fi:M.getD 2 undef=.pointer (some ⟨b2,0,none⟩)
 mi:M.getD 3 undef=.pointer (some ⟨b3,0,none⟩)
 h1:W.heap[b1]? =some (.cells #[.string p] c')
 h2:∃s et,W.heap[b2]? =some (.cells #[.string s] et)/\s.data.toList=r
 h3:W.heap[b3]? =some (.cells #[.int .i64 0] fL)
 kM:iB W [b2] fun _=>False
theorem jg.ji{b1 b2 b3:Nat}{p:ByteArray}{c' fL:TypeId}{l k:Nat}{r:F}{M:Array Value}{W:World}(I:jg b1 b2 b3 p c' fL l k r M W)(iM:b1≠b2)(iL:b2≠b3){c:UInt8}(hp:p.data.toList=[c]):
  ao W [b2] (fun _=>False) (fun _=>.pointer (some ⟨b2,0,none⟩)) ((e' k []).st ((([c],()),((),(((0,()),())))),(((r,()),())))) M W:=by
 obtain⟨s,et,h2,hs⟩:=I.h2;have wk:b1<W.heap.size:=(Array.getElem?_eq_some_iff.1 I.h1).1;have YP:b2<W.heap.size:=(Array.getElem?_eq_some_iff.1 h2).1;have wj:b3<W.heap.size:=(Array.getElem?_eq_some_iff.1 I.h3).1;have u7:((e' k []).st ((([c],()),((),(((0,()),())))),(((r,()),())))).sites=[(1001,.box 0 [.d (.str r)])]:=rfl;have cM:∀o,cj [(1001,Site.box 0 [.d (.str r)])] o->o=1001:=fun o ⟨s,h,_⟩=>by
  simp only[look] at h;cases hb:Nat.beq 1001 o with
  |true=>exact(Nat.eq_of_beq_eq_true hb).symm
  |false=>simp[hb] at h
 have b':∀b,az (fun _=>False) (fun _=>Value.pointer (some ⟨b2,0,none⟩)) [(1001,Site.box 0 [.d (.str r)])] b->b=b2:=by
  rintro b (h|⟨o,_,h⟩)
  ·exact h.elim
  ·simp only[bH,Option.some.injEq] at h;exact h.symm
 refine⟨I.size,fun t=>?_,fun o ab h=>?_,fun o aa b h1 h2 _ _=>?_,fun o b h1 h2=>?_,Fr.refl _ _,fun b h=>h.elim,I.kM⟩
 ·rw[u7];show cf _ _ _ _ (match look [(1,b0 (.en [.str [c]] 0)),(2,b0 (.ptr 1001 0 0)),(3,b0 (.en [.int .i64 0] 0))] t with|some v=>v|none=>.av (.ak .any)) _
  simp only[look];by_cases e1:t=1
  ·subst e1;refine⟨b1,0,I.eD,fun h=>iM (b' _ h),wk,[.string p],rfl,fun j u hu=>?_,fun j h ai=>?_⟩
   ·match j,hu with
    |0,hu=>cases hu;simp[World.cell?,I.h1]
   ·match j,h,ai with
    |0,_,_=>exact .str _ _ hp
  ·by_cases e2:t=2
   ·subst e2;exact⟨b2,I.fi,_,rfl,Nat.le_refl _,fun _=>rfl⟩
   ·by_cases bz:t=3
    ·subst bz;refine⟨b3,0,I.mi,fun h=>iL (b' _ h).symm,wj,[.int .i64 0],rfl,fun j u hu=>?_,fun j h ai=>?_⟩
     ·match j,hu with
      |0,hu=>cases hu;simp[World.cell?,I.h3]
     ·match j,h,ai with
      |0,_,_=>exact .int _ _
    ·rw[jD (fun e=>e1 e.symm),jD (fun e=>e2 e.symm),jD (fun e=>bz e.symm)]
     trivial
 ·rw[u7] at h ⊢;simp only[look] at h;cases hb:Nat.beq 1001 o with
  |false=>simp[hb] at h
  |true=>
   simp only[hb,cond_true,Option.some.injEq] at h;subst h;refine⟨b2,et,[.string s],rfl,h2,rfl,fun u hu=>?_,(fun h=>by cases h),fun j h ai=>?_⟩
   ·rw[List.mem_singleton.1 hu];rfl
   ·match j,h,ai with
    |0,_,_=>exact bD.str _ _ hs
 ·rw[cM o h1,cM aa h2]
 ·simp only[bH,Option.some.injEq] at h2;exact⟨fun h=>h,.inl (by simp[h2])⟩
theorem jg.of{b1 b2 b3:Nat}{p:ByteArray}{c' fL:TypeId}{l k:Nat}{r ey:F}{M bX:Array Value}{W c9:World}(I:jg b1 b2 b3 p c' fL l k r M W)(iM:b1≠b2)(iL:b2≠b3){more:List (Nat×e3)}{y:(e' k more).J}{D:Nat->Value}
  {X:Nat->Prop} (S:ao W [b2] X D ((e' k more).st y) bX c9) (aq:∀t,t<4->bX.getD t undef=M.getD t undef) (hy:y.2=((ey,()),())):jg b1 b2 b3 p c' fL l k ey bX c9:=by
 have wk:b1<W.heap.size:=(Array.getElem?_eq_some_iff.1 I.h1).1;have wj:b3<W.heap.size:=(Array.getElem?_eq_some_iff.1 I.h3).1;refine⟨S.nt,(aq 0 (by omega)).trans I.dw,(aq 1 (by omega)).trans I.eD,(aq 2 (by omega)).trans I.fi,(aq 3 (by omega)).trans I.mi,(S.frame.block b1 wk (by simp[iM])).trans I.h1,?_,(S.frame.block b3 wj (by simp[iL.symm])).trans I.h3,⟨S.kM.1,S.eZ.Y,fun _ _ h=>h,fun b hb=>(S.kM.2 b hb).2⟩⟩
 have gx:look ((e' k more).st y).sites 1001=some (.box 0 [.d (.str ey)]):=by
  show look (ke (e' k more).sites y.2) 1001=_;rw[hy];rfl
 have ja:=S.cI 2;have hg:((e' k more).st y).get 2=b0 (.ptr 1001 0 0):=rfl;rw[hg] at ja;obtain⟨b,hb,hr⟩:=ja;have cR:=Ref.at hr gx rfl;rw[aq 2 (by omega),I.fi] at hb
 simp only[Value.pointer.injEq,Option.some.injEq,Addr.mk.injEq,and_true] at hb;obtain⟨bI,T,cur,g1,g2,g3,g4,_,g5⟩:=S.sites 1001 _ gx;rw[cR] at g1;simp only[Value.pointer.injEq,Option.some.injEq,Addr.mk.injEq,and_true] at g1;match cur,g3 with
 |[u],_=>
  obtain⟨s,kB,qJ⟩:=gv (g5 0 (by simp) (by simp))
  simp only[List.getElem_cons_zero] at kB;subst kB;exact⟨s,T,by rw[hb,g1];exact g2,qJ⟩
end
theorem pz(c:UInt8)(s:F):bO c s≠[]:=by
 cases s with
 |nil=>simp[bO]
 |cons b r=>
  simp only[bO];cases b==c
  ·simp only[cond_false];split<;>simp
  ·simp
theorem abD{c:UInt8}{s:F}(h:Lib.indexByte s c<0):bO c s=[s]:=by
 induction s with
 |nil=>rfl
 |cons b r ih=>
  simp only[Lib.indexByte] at h;split at h
  ·omega
  ·rename_i hb;split at h
   ·rename_i h1;have h1:Lib.indexByte r c=-1:=by simpa using h1
    have:=ih (by omega)
    have hb:(b==c)=false:=by simpa using hb
    simp only[bO,hb,cond_false,this]
   ·rename_i h1;have:=Lib.indexByte_ge r c;have h1:¬Lib.indexByte r c=-1:=by simpa using h1
    omega
theorem abC{c:UInt8}{s:F}(h:0<=Lib.indexByte s c):bO c s=s.take (Lib.indexByte s c).toNat::bO c (s.drop ((Lib.indexByte s c).toNat+1))/\(Lib.indexByte s c).toNat<s.length:=by
 induction s with
 |nil=>simp[Lib.indexByte] at h
 |cons b r ih=>
  simp only[Lib.indexByte] at h ⊢;by_cases hb:(b==c)=true
  ·simp only[hb,if_true] at h ⊢;simp[bO,hb]
  ·have dP:(b==c)=false:=by simpa using hb
   simp only[dP,Bool.false_eq_true,if_false] at h ⊢;by_cases h1:(Lib.indexByte r c==-1)=true
   ·simp only[h1,if_true] at h;omega
   ·have h1':(Lib.indexByte r c==-1)=false:=by simpa using h1
    simp only[h1',Bool.false_eq_true,if_false] at h ⊢;have hge:=Lib.indexByte_ge r c;have h1:¬Lib.indexByte r c=-1:=by simpa using h1
    obtain⟨g1,g2⟩:=ih (by omega)
    have e:(Lib.indexByte r c+1).toNat=(Lib.indexByte r c).toNat+1:=by omega
    rw[e];refine⟨?_,by simp;omega⟩
    simp only[bO,dP,cond_false,g1,List.take_succ_cons,List.drop_succ_cons]
def kL(k:Nat)(c:UInt8)(r:F):(e' k []).J:=((([c],()),((),((0,()),()))),((r,()),()))
def mP(k:Nat)(c:UInt8)(r:F):aj:=(e' k []).st (kL k c r)
def BV(k:Nat):Out->Option (e' k []).J
 |.norm st=>(e' k []).ex st
 |_=>none
def I0(k t7 t8:Nat):Out->Option (Sum (e' k []).J ((Int×F)×(e' k []).J))
 |.norm st=>match st.get t7,st.get t8 with
  |.av (.ak (.d (.int .i64 i))),.av (.ak (.d (.str x)))=>((e' k []).ex st).map fun y=>.inr ((i,x),y)
  |_,_=>none
 |_=>none
noncomputable def wl(C:hI)(k t7 t8:Nat)(r7:Code)(p7:Nat):Out->Option (Sum (e' k []).J ((Int×F)×(e' k []).J))
 |.exit id st=>bif Nat.beq id 2 then((e' k []).ex st).map .inl else none
 |.norm st=>exec C r7 p7 st (I0 k t7 t8)
 |_=>none
noncomputable def BU(C:hI)(k t7 t8:Nat)(c6 r7:Code)(p6 p7:Nat):Out->Option (Sum (e' k []).J ((Int×F)×(e' k []).J))
 |.norm st=>exec C c6 p6 st (wl C k t7 t8 r7 p7)
 |_=>none
noncomputable def two(k:Nat)(C:Ctx)(st:aj)(o0 o1:Oper)(a b:Nat):Option ((Value×F)×(e' k []).J):=
 kh C st o0 fun st=>kh C st o1 fun st=>match st.get a,st.get b with
  |.av (.ak (.cS v)),.av (.ak (.d (.str x)))=>((e' k []).ex st).map fun y=>((v,x),y)
  |_,_=>none
noncomputable def sZ(k:Nat)(C:Ctx)(st:aj)(o3:Oper)(t42:Nat):Option (Bool×(e' k []).J):=
 kh C st o3 fun st=>match st.get t42 with
  |.av (.ak (.d (.bool b)))=>((e' k []).ex st).map fun y=>(b,y)
  |_=>none
section
variable {P:Program}{O:World}{Y:List Nat}{X:Nat->Prop}{D:Nat->Value}{st:aj}{M:Array Value}{w:World}
theorem Pu(S:ao O Y X D st M w){t:Nat}{k:IntKind}{n:Int}(h:st.get t=.av (.ak (.d (.int k n)))):M.getD t undef=.int k n:=by
 have:=S.cI t;rw[h] at this;exact ii this
theorem Pt(S:ao O Y X D st M w){t:Nat}{x:F}(h:st.get t=.av (.ak (.d (.str x)))):∃b,M.getD t undef=.string b/\b.data.toList=x:=by
 have:=S.cI t;rw[h] at this;exact gv this
theorem D9(S:ao O Y X D st M w){t:Nat}{x:Bool}(h:st.get t=.av (.ak (.d (.bool x)))):M.getD t undef=.bool x:=by
 have:=S.cI t;rw[h] at this;exact jx this
theorem afU(S:ao O Y X D st M w){t:Nat}{x:Value}(h:st.get t=.av (.ak (.cS x))):M.getD t undef=x:=by
 have:=S.cI t;rw[h] at this;exact this
theorem Rt{C:Ctx}(H:aW P C){k:Nat}{o0 o1:Oper}{a b:Nat}{v:Value}{x:F}{y:(e' k []).J}(h:two k C st o0 o1 a b=some ((v,x),y))(S:ao O Y X D st M w){ds:List Deferred}{K:Act->World->Prop}{Q:Exit->Act->World->Prop}
  (bR:∀bX w' iv aQ,bX.getD a undef=v->bX.getD b undef=.string iv->iv.data.toList=x->(∀t,t∉o0.dst.toList++o1.dst.toList->bX.getD t undef=M.getD t undef)->
   ao O Y X aQ ((e' k []).st y) bX w'->K ⟨bX,ds⟩ w'):o0.wpIn (eE none) 0 P ⟨M,ds⟩ w (fun cP w'=>o1.wpIn (eE none) 0 P cP w' K Q) Q:=by
 refine nh S H h fun eC gA hL aS e1 dr Kz=>?_
 refine nh dr H e1 fun wa h_ o6 w2 e2 hS Ky=>?_
 split at e2
 ·rename_i v' ib ha hb;obtain⟨y',hy,he⟩:=Option.map_eq_some_iff.1 e2;cases he;obtain⟨iv,g1,g2⟩:=Pt hS hb;obtain⟨hK,iU,_⟩:=Shape.fZ hS hy;refine bR o6 w2 iv hK (afU hS ha) g1 g2 (fun t aq=>?_) iU
  simp only[List.mem_append,not_or] at aq;rw[Ky t aq.2,Kz t aq.1]
 ·cases e2
theorem aiC{C:Ctx}(H:aW P C){k:Nat}{o3:Oper}{t42:Nat}{b:Bool}{y:(e' k []).J}(h:sZ k C st o3 t42=some (b,y))(S:ao O Y X D st M w){ds:List Deferred}{K:Act->World->Prop}{Q:Exit->Act->World->Prop}
  (bR:∀bX w' aQ,bX.getD t42 undef=.bool b->(∀t,t∉o3.dst.toList->bX.getD t undef=M.getD t undef)->ao O Y X aQ ((e' k []).st y) bX w'->K ⟨bX,ds⟩ w'):o3.wpIn (eE none) 0 P ⟨M,ds⟩ w K Q:=by
 refine nh S H h fun eC gA hL aS e1 dr Kz=>?_
 split at e1
 ·rename_i bI hb;obtain⟨y',hy,he⟩:=Option.map_eq_some_iff.1 e1;cases he;obtain⟨hK,iU,_⟩:=Shape.fZ dr hy;exact bR hL aS hK (D9 dr hb) Kz iU
 ·cases e1
structure ahl(P:Program)(C:hI)(cz:FuncId)(fn:Func)(k:Nat)(A r5 c6 r7 r9:Code)(o0 o1 o2 o3 q0 q1 q2:Oper)(pA p5 p6 p7 p9 t7 t8 a1 a2 t41 t42 u1 u2:Nat)(ty Cm:Array TypeId):Prop where
 Vt:P.funcs[cz]? =some fn
 nt:fn.ntmps=k
 cO:4<=k
 fb:fn.results=#[]
 Zo:∀args w,(callFunc cz args).run P w=.ok (.enter cz args) w
 body:∃i8 i10,fn.body=some (.seq A (.seq (.block 2 (.loop (.block 3 (.seq r5 (.seq c6 (.seq r7 (.seq (.seq (.region i8 #[o0,o1,o2,o3] false) (.cond (.tmp t42) .ret .skip)) r9))))))) (.region i10 #[q0,q1,q2] false)))
 wX:(gI A&&(gI r5&&(gI c6&&(gI r7&&gI r9))))=true
 wr:eX [0,1,2,3] (cr A++(cr r5++(cr c6++(cr r7++cr r9))))=true
 bc:o0.guard=none/\o1.guard=none/\o2.guard=none/\o3.guard=none/\q0.guard=none/\q1.guard=none/\q2.guard=none
 _u:eX [0,1,2,3,t7] (o0.dst.toList++(o1.dst.toList++(o3.dst.toList++[t41])))=true
 _t:eX [0,1,2,3] (q0.dst.toList++q1.dst.toList)=true
 d2:o2.dst=some t41
 IV:t41<k
 c2:o2.op=.call {callee:=.value (.tmp a1),args:=#[.tmp a2],argTypes:=ty}
 d5:q2.op=.call {callee:=.value (.tmp u1),args:=#[.tmp u2],argTypes:=Cm}
 kr:f_ P C A pA/\f_ P C r5 p5/\f_ P C c6 p6/\f_ P C r7 p7/\f_ P C r9 p9
 dR:∀c r,exec C A pA (mP k c r) (BV k)=some (kL k c r)
 hB:∀c r,exec C r5 p5 (mP k c r) (BU C k t7 t8 c6 r7 p6 p7)=bif decide (Lib.indexByte r c<0) then some (.inl (kL k c r)) else(bw r 0 (IntKind.i64.wrap (Lib.indexByte r c+0))).bind fun x=>some (.inr ((Lib.indexByte r c,x),kL k c r))
 bi:∀c r i x v,two k C.toCtx ((((mP k c r).set t7 (one (.int .i64 i))).set t8 (one (.str x))).set 0 (b0 (.cS v))) o0 o1 a1 a2=some ((v,x),kL k c r)
 h3:∀c r b,sZ k C.toCtx ((mP k c r).set t41 (one (.bool b))) o3 t42=some (!b,kL k c r)
 Zl:(kh C.toCtx ⟨[(t41,one (.bool false))],[],k⟩ o3 fun st=>match st.get t42 with|.av (.ak (.d (.bool b)))=>some b|_=>none)=some true
 w6:∀c r i,exec C r9 p9 ((mP k c r).set t7 (one (.int .i64 i))) (BV k)=(bw r (IntKind.i64.wrap (i+(([c]:F).length:Int))) r.length).bind fun x=>some (kL k c x)
 Da:∀c r v,two k C.toCtx ((mP k c r).set 0 (b0 (.cS v))) q0 q1 u1 u2=some ((v,r),kL k c r)
end
end Go.Jk
