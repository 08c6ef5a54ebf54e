/- FnExactDiskOk: the program's DiskOk returns what the reference's returns, for all arguments. (part 2 of 7: JkCall3, JkCall4, JkCall5, JkBld, JkCall6, JkDraw1, JkLogic, JkWalk0, JkDraw2, JkDraw3, JkWalk1, JkShape, JkShape2, JkWalk2, JkWalk3, JkWalk4, JkHand, JkHand2, JkLaw0, JkRange, JkRange2, JkIter, JkIte) Conditions: none beyond the statement. -/
import Derived.Test.YthhecoidfjkmeaaGreatDoorZFnExactDiskOk0
import Derived.RangeFuncRecord
import Derived.Below
import Derived.RangeFuncSeq
import Derived.Orders
import Derived.OrdersIn
import Derived.ControlIn
import Derived.LoopIn
import Derived.RangeFuncCalls
import Derived.RangeFuncLeaves
import Derived.Lib.Bytealg
import Derived.Laws.Externs
import Derived.Lib.LaidTab
import Derived.Lib.ItoaNum
import Derived.Deep.Draws
import Derived.Sort.Grow
import Derived.Deep.Slices
import Derived.ChangeSame
import Derived.Carry
import Derived.ProofKit
import Derived.OpenShut
set_option linter.unusedVariables false
set_option linter.unusedSimpArgs false
namespace Go.Jk
theorem t'(n:Nat)(l:List Nat):fK n l=true <-> n∈l:=by
 induction l with
 |nil=>simp[fK]
 |cons m l ih=>
  simp only[fK,Bool.or_eq_true,ih,List.mem_cons];constructor
  ·rintro(h|h)
   ·exact .inl (Nat.eq_of_beq_eq_true h)
   ·exact .inr h
  ·rintro(rfl|h)
   ·exact .inl (Nat.beq_refl n)
   ·exact .inr h
theorem re(l:List Nat):fv l=true <-> l.Nodup:=by
 induction l with
 |nil=>simp[fv]
 |cons n l ih=>
  simp only[fv,Bool.and_eq_true,ih,List.nodup_cons,Bool.not_eq_true'];constructor
  ·rintro⟨h1,h2⟩;exact⟨fun h=>(by rw[(t' n l).2 h] at h1;cases h1),h2⟩
  ·rintro⟨h1,h2⟩;refine⟨?_,h2⟩;cases h:fK n l with
   |false=>rfl
   |true=>exact absurd ((t' n l).1 h) h1
theorem Nc(l m:List Nat):eW l m=true <-> ∀n,n∈l->n∉m:=by
 induction l with
 |nil=>simp[eW]
 |cons n l ih=>
  simp only[eW,Bool.and_eq_true,ih,Bool.not_eq_true',List.mem_cons];constructor
  ·rintro⟨h1,h2⟩ k (rfl|hk)
   ·intro h;rw[(t' k m).2 h] at h1;cases h1
   ·exact h2 k hk
  ·intro h;refine⟨?_,fun k hk=>h k (.inr hk)⟩
   cases af:fK n m with
   |false=>rfl
   |true=>exact absurd ((t' n m).1 af) (h n (.inl rfl))
theorem mT{sites us:List (Nat×Site)}{o:Nat}(h:o∉keys us):look (bj sites us) o=look sites o:=by
 induction us generalizing sites with
 |nil=>rfl
 |cons p us ih=>
  obtain⟨n,s⟩:=p;simp only[keys,List.mem_cons,not_or] at h;simp only[bj];rw[ih h.2,cV];have:¬n=o:=fun e=>h.1 e.symm
  simp[this]
theorem D_{aB:Type}{us:List (Nat×aB)}{o:Nat}{s:aB}(h:(o,s)∈us):o∈keys us:=by
 induction us with
 |nil=>simp at h
 |cons p us ih=>
  rcases List.mem_cons.1 h with rfl|h
  ·exact List.mem_cons_self
  ·exact List.mem_cons_of_mem _ (ih h)
theorem x9{aB:Type}{us:List (Nat×aB)}{o:Nat}(h:o∈keys us):∃s,(o,s)∈us:=by
 induction us with
 |nil=>simp[keys] at h
 |cons p us ih=>
  obtain⟨n,s⟩:=p;rcases List.mem_cons.1 h with h|h
  ·exact⟨s,by rw[h];exact List.mem_cons_self⟩
  ·obtain⟨aG,af⟩:=ih h;exact⟨aG,List.mem_cons_of_mem _ af⟩
section
variable {O:World}{Y:List Nat}{X:Nat->Prop}{D:Nat->Value}{st:ah}{M:Array Value}{w:World}
theorem am.aiH:∀{us:List (Nat×Site)} {st:ah} {X:Nat->Prop},am O Y X D st M w->gJ st.sites us->(keys us).Nodup->
  am O Y (fun b=>X b\/b∈c9 D (keys us)) D {st with sites:=bj st.sites us} M w:=by
 intro us;induction us with
 |nil=>intro st X S _ _;exact S.shrink fun b h=>by rcases h with h|h;exact h;simp[keys,c9] at h
 |cons p us ih=>
  obtain⟨o,aG⟩:=p;intro st X S hg hn;obtain⟨ab,h1,h2,rfl⟩:=hg o aG List.mem_cons_self;simp only[keys,List.nodup_cons] at hn;have dm:=S.kill h1 h2;have hM:=ih dm (fun aa s hm=>by
   obtain⟨t,aD,az,bD⟩:=hg aa s (List.mem_cons_of_mem _ hm);have:¬o=aa:=fun e=>hn.1 (by rw[e];exact D_ hm)
   exact⟨t,by simp[cV,this,aD],az,bD⟩) hn.2
  refine hM.shrink fun b h=>?_
  rcases h with h|h
  ·exact .inl (.inl h)
  ·simp only[keys,c9,List.filterMap_cons] at h;cases hb:bG (D o) with
   |none=>simp only[hb] at h;exact .inr h
   |some c=>
    simp only[hb,List.mem_cons] at h;rcases h with rfl|h
    ·exact .inl (.inr rfl)
    ·exact .inr h
structure jv(O:World)(Y:List Nat)(X X':Nat->Prop)(D aI:Nat->Value)(st:ah)(M:Array Value)(w:World)(us:List (Nat×Site)):Prop where
 i':am O Y X' aI {st with sites:=bj st.sites us} M w
 le:∀c,aw X' aI (bj st.sites us) c->aw X D st.sites c
 go:∀{a v},b_ D st.sites w (aw X D st.sites) a v->b_ aI (bj st.sites us) w (aw X' aI (bj st.sites us)) a v
 same:∀o,o∉keys us->aI o=D o
theorem jv.nil{X':Nat->Prop}(S:am O Y X D st M w)(h:∀b,X' b->X b):jv O Y X X' D D st M w []:=
 ⟨S.shrink h,fun c hc=>by
  rcases hc with hc|hc
  ·exact .inl (h c hc)
  ·exact .inr hc,fun k=>k.gN (fun c hc=>by
   rcases hc with hc|hc
   ·exact .inl (h c hc)
   ·exact .inr hc) (fun c hc=>(S.shrink h).lt hc),fun _ _=>rfl⟩
theorem jv.trans{cX cu:Nat->Prop}{gu hZ:Nat->Value}{us vs:List (Nat×Site)}(A:jv O Y X cX D gu st M w us)(bp:jv O Y cX cu gu hZ {st with sites:=bj st.sites us} M w vs):
  jv O Y X cu D hZ st M w (us++vs):=by
 refine⟨?_,?_,?_,fun o h=>?_⟩
 ·rw[kL];exact bp.i'
 ·rw[kL];exact fun c hc=>A.le c (bp.le c hc)
 ·rw[kL];exact fun h=>bp.go (A.go h)
 ·rw[jF,List.mem_append,not_or] at h;rw[bp.same o h.2,A.same o h.1]
theorem jv.one{X':Nat->Prop}{n:Nat}{bT:Site}{nv:Value}(S:am O Y X D st M w)(gh:∀b,X' b->X b)
  (dG:(∀ab,look st.sites n=some ab->ab.cq<bT.cq)\/(D n=nv/\∀ab,look st.sites n=some ab->ab.cq=bT.cq/\ab.live=false))
  (hb:∀b,bG nv=some b->X b/\¬X' b/\(b∈Y\/O.heap.size<=b))
  (ft:∀{bS:List (Nat×Site)} {aI:Nat->Value},bS=ci st.sites n bT->aI n=nv->(∀{a v},b_ D st.sites w (aw X D st.sites) a v->b_ aI bS w (aw X' aI bS) a v)->
   (∀b,aw X' aI bS b->aw X D st.sites b)->jN aI bS w (aw X' aI bS) n bT):
  jv O Y X X' D (fun aa=>if aa=n then nv else D aa) st M w [(n,bT)]:=by
 obtain⟨h1,h2,h3⟩:=S.u3 gh dG hb ft;exact⟨h1,h2,h3,fun o h=>by
  simp only[keys,List.mem_singleton] at h;simp[h]⟩
theorem CT{av b':Nat->Prop}{l:aE}{v:Value}{sites:List (Nat×Site)}(hf:∀t xs,l≠.fresh t xs)(h:dO lN [] w av l v)(hle:∀b,b' b->av b)(hlt:∀b,b' b->b<w.heap.size):dO D sites w b' l v:=by
 have gN:∀{d:aZ} {v:Value},bA w av d v->bA w b' d v:=fun h=>b_.gN (D:=D) (sites:=[]) (a:=one _) hle hlt h
 cases l with
 |d x=>exact gN h
 |nil t=>exact h
 |own o s=>obtain⟨_,_,h,_⟩:=h;cases h
 |ptr o s off=>obtain⟨_,_,_,h,_⟩:=h;cases h
 |et cells off=>
  obtain⟨b,B,h1,h2,h3,cs,ax,bk,cl⟩:=h;exact⟨b,B,h1,fun hx=>h2 (hle b hx),h3,cs,ax,bk,fun j g1 g2=>gN (cl j g1 g2)⟩
 |eR o s t k off=>obtain⟨_,_,_,h,_⟩:=h;cases h
 |clo g bw=>
  obtain⟨vs,h1,h2,h3⟩:=h;match bw,vs,h2 with
  |[],[],_=>exact⟨[],h1,rfl,fun i h=>by simp at h⟩
  |c::bw,v::vs,_=>obtain⟨_,h,_⟩:=h3 0 (by simp) (by simp);cases h
 |cN u=>exact h
 |fresh t xs=>exact absurd rfl (hf t xs)
 |dj=>trivial
 |any=>trivial
theorem cr.go{aI:Nat->Value}{sites bS:List (Nat×Site)}{w':World}{av b':Nat->Prop}(go:∀{a:aJ} {v:Value},b_ D sites w av a v->b_ aI bS w' b' a v){ad:List aE}{vs:List Value}
  (h:cr D sites w av ad vs):cr aI bS w' b' ad vs:=zU go h
structure Left(O:World)(Y:List Nat)(X:Nat->Prop)(D:Nat->Value)(st:ah)(av:Nat->Prop)(bs:List Nat):Prop where
 nodup:bs.Nodup
 cf:∀b,b∈bs->¬X b/\(b∈Y\/O.heap.size<=b)
 le:∀c,aw (fun b=>X b\/b∈bs) D st.sites c->av c
def k3(bu:ah)(sites:List (Nat×Site))(fQ:List Nat):Prop:=∀m,m∈fQ->∀ab,look sites m=some ab->ab.cq<bl bu m
theorem k3.step{bu:ah}{sites us:List (Nat×Site)}{fQ:List Nat}(h:k3 bu sites fQ)(Z:∀n,n∈keys us->n∉fQ):k3 bu (bj sites us) fQ:=by
 intro m hm ab hs;rw[mT (fun af=>Z m af hm)] at hs
 exact h m hm ab hs
theorem _o{u:Bool}{e:TypeId}{s:Nat}{v:Value}{n:Nat}{cs:List Value}(h:rowAt w u e s v n cs):v.oneCell'=true:=by
 rcases h.2 with⟨h,_⟩|⟨g,cap,cur,fz,h,_⟩<;>rw[h]<;>rfl
theorem Ov{av:Nat->Prop}(bu:ah):∀(ad:List aE) (n:Nat) {D:Nat->Value} {st:ah} {vs:List Value} {bs rest:List Nat},am O Y (fun b=>X b\/b∈bs++rest) D st M w->k4 w av ad vs bs->
  Left O Y X D st av (bs++rest)->k3 bu st.sites (keys (take bu n ad).2)->(keys (take bu n ad).2).Nodup->
  ∃aI,jv O Y (fun b=>X b\/b∈bs++rest) (fun b=>X b\/b∈rest) D aI st M w (take bu n ad).2/\cr aI (bj st.sites (take bu n ad).2) w (aw (fun b=>X b\/b∈rest) aI (bj st.sites (take bu n ad).2)) (take bu n ad).1 vs/\
   Left O Y X aI {st with sites:=bj st.sites (take bu n ad).2} av rest:=by
 intro ad;induction ad with
 |nil=>
  intro n D st vs bs rest S h L eP Z;match vs,h with
  |[],h=>
   have h:bs=[]:=h;subst h;exact⟨D,.nil S (fun b hb=>hb),.nil,L⟩
 |cons l ad ih=>
  intro n D st vs bs rest S h L eP Z;match vs,h with
  |v::vs,⟨b1,b2,en,h1,h2⟩=>
   subst en;by_cases hf:∃t xs,l=.fresh t xs
   ·obtain⟨t,xs,rfl⟩:=hf;obtain⟨hb1,e,cs,aC,hr⟩:=h1;simp only[take,keys,List.nodup_cons] at Z eP;have kt:=L.nodup;rw[List.append_assoc,hb1] at kt;have c7:jv O Y (fun b=>X b\/b∈b1++b2++rest) (fun b=>X b\/b∈b2++rest) D (fun aa=>if aa=n then v else D aa) st M w [(n,.row (bl bu n) t xs)]:=by
     refine .one S (fun b hb=>?_) (.inl fun ab hs=>eP n List.mem_cons_self ab hs) (fun b hb=>?_) (fun fC jT go le=>?_)
     ·rcases hb with hb|hb
      ·exact .inl hb
      ·exact .inr (by rw[List.append_assoc];exact List.mem_append.2 (.inr hb))
     ·have hm:b∈b1:=by rw[hb1,hb];simp
      have l1:b∈b1++b2++rest:=by rw[List.append_assoc];exact List.mem_append.2 (.inl hm)
      refine⟨.inr l1,?_,(L.cf b l1).2⟩;rintro(hx|hx)
      ·exact(L.cf b l1).1 hx
      ·rw[hb] at kt;simp only[Option.toList_some,List.singleton_append,List.nodup_cons] at kt;exact kt.1 hx
     ·refine⟨e,cs,by rw[jT];exact aC,fun j g1 g2=>?_⟩
      have k:=hr.2 j g1 g2;have hle:∀b,aw (fun b=>X b\/b∈b2++rest) _ _ b->av b:=fun b hb=>L.le b (le b hb)
      exact b_.gN (D:=D) (sites:=[]) (a:=one _) hle (fun b hb=>S.lt (le b hb)) k
    have q8:Left O Y X (fun aa=>if aa=n then v else D aa) {st with sites:=bj st.sites [(n,.row (bl bu n) t xs)]} av (b2++rest):=by
     refine⟨(List.nodup_append.1 (by rw[List.append_assoc] at L;exact L.nodup)).2.1,fun b hb=>L.cf b (by rw[List.append_assoc];exact List.mem_append.2 (.inr hb)),fun c hc=>L.le c (c7.le c hc)⟩
    obtain⟨aI,ep,h3,ax⟩:=ih (n+1) (st:={st with sites:=bj st.sites [(n,.row (bl bu n) t xs)]}) c7.i' h2 q8
     (k3.step (us:=[(n,.row (bl bu n) t xs)]) (fun m hm=>eP m (List.mem_cons_of_mem _ hm)) (fun m hm=>by simp only[keys,List.mem_singleton] at hm;subst hm;exact Z.1)) Z.2
    refine⟨aI,c7.trans ep,?_,ax⟩;refine cr.cons ?_ h3;have:dO (fun aa=>if aa=n then v else D aa) (bj st.sites [(n,.row (bl bu n) t xs)]) w (aw (fun b=>X b\/b∈b2++rest) (fun aa=>if aa=n then v else D aa) (bj st.sites [(n,.row (bl bu n) t xs)])) (.own n (bl bu n)) v:=
     ⟨_o aC,Ref.mk (ab:=.row (bl bu n) t xs) (by simp[bj,cV]) rfl (by simp)⟩
    exact ep.go (a:=bX (.own n (bl bu n))) (v:=v) this
   ·have Jf:∀t xs,l≠.fresh t xs:=fun t xs h=>hf ⟨t,xs,h⟩
    have ai3:take bu n (l::ad)=(l::(take bu (n+1) ad).1,(take bu (n+1) ad).2):=by
     cases l<;>first|rfl|exact absurd rfl (Jf _ _)
    have h1':b1=[]/\dO lN [] w av l v:=by
     cases l<;>first|exact h1|exact absurd rfl (Jf _ _)
    obtain⟨rfl,h1'⟩:=h1';rw[ai3] at Z eP ⊢;simp only[List.nil_append] at S L ⊢;obtain⟨aI,ep,h3,ax⟩:=ih (n+1) S h2 L eP Z;refine⟨aI,ep,?_,ax⟩;refine cr.cons ?_ h3;exact CT Jf h1' (fun b hb=>L.le b (ep.le b hb)) (fun b hb=>ep.i'.lt hb)
end
section
variable {O:World}{Y:List Nat}{X:Nat->Prop}{D:Nat->Value}{st:ah}{M:Array Value}{w:World}
def oH(D:Nat->Value)(sites:List (Nat×Site))(w:World)(av:Nat->Prop)(as:List bL)(vs:List Value):Prop:=
 vs.length=as.length/\∀j (h:j<as.length) (af:j<vs.length),gO D sites w av (as[j]) (vs[j])
theorem oH.cons{sites:List (Nat×Site)}{av:Nat->Prop}{a:bL}{as:List bL}{v:Value}{vs:List Value}(h:gO D sites w av a v)(hs:oH D sites w av as vs):oH D sites w av (a::as) (v::vs):=
 ⟨by simp[hs.1],fun j h1 h2=>by
  cases j with
  |zero=>exact h
  |succ j=>exact hs.2 j (by simpa using h1) (by simpa using h2)⟩
theorem Left.rest{av:Nat->Prop}{a b:List Nat}(L:Left O Y X D st av (a++b)){aI:Nat->Value}{al:ah}(h:∀c,aw (fun c=>X c\/c∈b) aI al.sites c->aw (fun c=>X c\/c∈a++b) D st.sites c):Left O Y X aI al av b:=
 ⟨(List.nodup_append.1 L.nodup).2.1,fun c hc=>L.cf c (List.mem_append.2 (.inr hc)),fun c hc=>L.le c (h c hc)⟩
theorem abd{bu:ah}{n:Nat}{ad:List aE}(h:(take bu n ad).1.head?=some .dj):ad.head?=some .dj:=by
 cases ad with
 |nil=>cases h
 |cons l ad=>cases l<;>first|exact h|cases h
theorem take_one(bu:ah)(n:Nat)(l:aE):∃gg,(take bu n [l]).1=[gg]:=by cases l<;>exact⟨_,rfl⟩
theorem acY{av:Nat->Prop}(bu:ah):∀(as:List bL) (n:Nat) {D:Nat->Value} {st:ah} {vs:List Value} {bs rest:List Nat},am O Y (fun b=>X b\/b∈bs++rest) D st M w->kW w av as vs bs->
  Left O Y X D st av (bs++rest)->k3 bu st.sites (keys (dR bu n as).2)->(keys (dR bu n as).2).Nodup->
  ∃aI,jv O Y (fun b=>X b\/b∈bs++rest) (fun b=>X b\/b∈rest) D aI st M w (dR bu n as).2/\oH aI (bj st.sites (dR bu n as).2) w (aw (fun b=>X b\/b∈rest) aI (bj st.sites (dR bu n as).2)) (dR bu n as).1 vs/\
   Left O Y X aI {st with sites:=bj st.sites (dR bu n as).2} av rest:=by
 intro as;induction as with
 |nil=>
  intro n D st vs bs rest S h L eP Z;match vs,h with
  |[],h=>
   have h:bs=[]:=h;subst h;exact⟨D,.nil S (fun b hb=>hb),⟨rfl,fun j h=>by simp[dR] at h⟩,L⟩
 |cons a as ih=>
  intro n D st vs bs rest S h L eP Z;match vs,h with
  |v::vs,⟨b1,b2,en,h1,h2⟩=>
   subst en;have go:∀(ad:List aE) (us:List Value),k4 w av ad us b1->(dR bu n (a::as)).2=(take bu n ad).2++(dR bu (n+100) as).2->
     ∃aI,jv O Y (fun b=>X b\/b∈b1++b2++rest) (fun b=>X b\/b∈rest) D aI st M w (dR bu n (a::as)).2/\cr aI (bj st.sites (dR bu n (a::as)).2) w (aw (fun b=>X b\/b∈rest) aI (bj st.sites (dR bu n (a::as)).2)) (take bu n ad).1 us/\
      oH aI (bj st.sites (dR bu n (a::as)).2) w (aw (fun b=>X b\/b∈rest) aI (bj st.sites (dR bu n (a::as)).2)) (dR bu (n+100) as).1 vs/\Left O Y X aI {st with sites:=bj st.sites (dR bu n (a::as)).2} av rest:=by
    intro ad us bP e;rw[e] at eP Z ⊢;rw[jF] at eP Z;obtain⟨d1,d2,d3⟩:=List.nodup_append.1 Z;rw[List.append_assoc] at S L ⊢;obtain⟨gu,c7,aD,q8⟩:=Ov bu ad n S bP L (fun m hm=>eP m (List.mem_append.2 (.inl hm))) d1
    obtain⟨hZ,ep,az,tE⟩:=ih (n+100) (st:={st with sites:=bj st.sites (take bu n ad).2}) c7.i' h2 q8
     (k3.step (fun m hm=>eP m (List.mem_append.2 (.inr hm))) (fun m hm l1=>d3 m hm m l1 rfl)) d2
    refine⟨hZ,c7.trans ep,?_,?_,?_⟩
    ·rw[kL];exact aD.go ep.go
    ·rw[kL];exact az
    ·rw[kL];exact tE
   cases a with
   |ak l=>
    have h1:mv w av l v b1:=h1;obtain⟨aI,T,aD,az,bD⟩:=go [l] [v] ⟨b1,[],by simp,h1,rfl⟩ rfl
    refine⟨aI,T,?_,bD⟩;obtain⟨gg,f'⟩:=take_one bu n l;have:(dR bu n (bL.ak l::as)).1=bL.ak gg::(dR bu (n+100) as).1:=by simp only[dR,f']
    rw[this];refine oH.cons ?_ az;rw[f'] at aD;exact aD.2 0 (by simp) (by simp)
   |agg ad=>
    obtain⟨us,e,h1⟩:=h1;obtain⟨aI,T,aD,az,bD⟩:=go ad us h1 rfl;refine⟨aI,T,?_,bD⟩;have:(dR bu n (bL.agg ad::as)).1=bL.agg (take bu n ad).1::(dR bu (n+100) as).1:=rfl;rw[this];exact oH.cons ⟨us,e,aD.1,aD.2⟩ az
def mO(D:Nat->Value):List (Nat×Nat)->List Nat->Prop
 |[],[]=>True
 |p::r,b::dt=>D p.1=.pointer (some ⟨b,0,none⟩)/\mO D r dt
 |_,_=>False
theorem mO.of:∀{boxes:List (Nat×Nat)},(∀o s,(o,s)∈boxes->∃b,D o=.pointer (some ⟨b,0,none⟩))->mO D boxes (c9 D (keys boxes)):=by
 intro boxes;induction boxes with
 |nil=>intro _;trivial
 |cons q boxes ih=>
  obtain⟨ρ,r⟩:=q;intro h;obtain⟨c,hc⟩:=h ρ r List.mem_cons_self;have:=ih fun o s hm=>h o s (List.mem_cons_of_mem _ hm)
  have e:c9 D (keys ((ρ,r)::boxes))=c::c9 D (keys boxes):=by simp[c9,keys,hc,bG]
  rw[e];exact⟨hc,this⟩
theorem mO.congr{aI:Nat->Value}:∀{boxes:List (Nat×Nat)} {dt:List Nat},mO D boxes dt->(∀aa,aa∈keys boxes->aI aa=D aa)->mO aI boxes dt:=by
 intro boxes;induction boxes with
 |nil=>
  intro dt h _;match dt,h with
  |[],_=>trivial
 |cons q boxes ih=>
  intro dt h af;match dt,h with
  |b::dt,⟨h1,h2⟩=>exact⟨by rw[af q.1 List.mem_cons_self];exact h1,ih h2 fun aa bN=>af aa (List.mem_cons_of_mem _ bN)⟩
theorem LO{av:Nat->Prop}{bu:ah}{aa:Nat}:∀{boxes:List (Nat×Nat)} {cK:List (List aE)} {dt bs:List Nat},mO D boxes dt->iT w av dt cK bs->aa∈keys boxes->aa∈keys (gH bu boxes cK):=by
 intro boxes;induction boxes with
 |nil=>intro cK dt bs _ _ h;simp[keys] at h
 |cons q boxes ih=>
  obtain⟨ρ,r⟩:=q;intro cK dt bs hl bP hm;match dt,cK,hl,bP with
  |c::dt,cs::cK,⟨_,hl⟩,⟨_,_,_,_,bP⟩=>
   simp only[gH,jF,keys,List.mem_append,List.mem_cons];rcases List.mem_cons.1 hm with rfl|hm
   ·exact .inr (.inl rfl)
   ·exact .inr (.inr (ih hl bP hm))
theorem Nw{av:Nat->Prop}(bu:ah):∀(boxes:List (Nat×Nat)) {cK:List (List aE)} {D:Nat->Value} {st:ah} {dt bs rest:List Nat},am O Y (fun b=>X b\/b∈bs++rest) D st M w->mO D boxes dt->iT w av dt cK bs->
  (∀o s,(o,s)∈boxes->look st.sites o=some (.dead s))->
  Left O Y X D st av (bs++rest)->k3 bu st.sites (keys (gH bu boxes cK))->(keys (gH bu boxes cK)).Nodup->
  ∃aI,jv O Y (fun b=>X b\/b∈bs++rest) (fun b=>X b\/b∈rest) D aI st M w (gH bu boxes cK)/\Left O Y X aI {st with sites:=bj st.sites (gH bu boxes cK)} av rest:=by
 intro boxes;induction boxes with
 |nil=>
  intro cK D st dt bs rest S eM h hB L eP Z;match dt,cK,eM,h with
  |[],[],_,h=>
   have h:bs=[]:=h;subst h;exact⟨D,.nil S (fun b hb=>hb),L⟩
 |cons p boxes ih=>
  obtain⟨o,s⟩:=p;intro cK D st dt bs rest S eM h hB L eP Z;have bn:=hB o s List.mem_cons_self;match dt,cK,eM,h with
  |b::dt,cs::cK,⟨hb,eM⟩,⟨b1,b2,en,⟨T,cur,o',e1,e2,bz,dw⟩,h2⟩=>
   subst en e1;have hb:D o=.pointer (some ⟨b,0,none⟩):=hb;have qX:gH bu ((o,s)::boxes) (cs::cK)=(take bu (1000000+o*100) cs).2++([(o,Site.box s (take bu (1000000+o*100) cs).1)]++gH bu boxes cK):=rfl;rw[qX] at eP Z ⊢;rw[jF,jF] at eP Z;obtain⟨d1,d2,d3⟩:=List.nodup_append.1 Z;obtain⟨d4,d5,d6⟩:=List.nodup_append.1 d2;have AD:∀c,c∈b::o'++b2++rest <-> c∈o'++(b::(b2++rest)):=by intro c;simp[or_assoc,or_left_comm]
   have aqq:=L.nodup;have dm:am O Y (fun c=>X c\/c∈o'++(b::(b2++rest))) D st M w:=S.shrink fun c hc=>hc.imp id (AD c).2
   have q8:Left O Y X D st av (o'++(b::(b2++rest))):=by
    refine⟨?_,fun c hc=>L.cf c ((AD c).2 hc),fun c hc=>L.le c ?_⟩
    ·have:List.Perm (b::o'++b2++rest) (o'++(b::(b2++rest))):=by
      simp only[List.cons_append,List.append_assoc];exact List.perm_middle.symm
     exact this.nodup_iff.1 aqq
    ·rcases hc with hc|hc
     ·exact .inl (hc.imp id (AD c).2)
     ·exact .inr hc
   obtain⟨gu,c7,aD,tE⟩:=Ov bu cs (1000000+o*100) dm dw.2 q8 (fun m hm=>eP m (List.mem_append.2 (.inl hm))) d1
   have TH:o∉keys (take bu (1000000+o*100) cs).2:=fun h=>d3 o h o (by simp[keys]) rfl
   have HJ:gu o=D o:=c7.same o TH;have h5:look (bj st.sites (take bu (1000000+o*100) cs).2) o=some (.dead s):=by rw[mT TH,bn]
   have Xd:=tE.nodup;simp only[List.nodup_cons] at Xd;have ep:jv O Y (fun c=>X c\/c∈b::(b2++rest)) (fun c=>X c\/c∈b2++rest) gu (fun aa=>if aa=o then D o else gu aa) {st with sites:=bj st.sites (take bu (1000000+o*100) cs).2} M w [(o,Site.box s (take bu (1000000+o*100) cs).1)]:=by
    refine .one c7.i' (fun c hc=>hc.imp id (List.mem_cons_of_mem _)) (.inr ⟨HJ,fun ab hs=>?_⟩) (fun c hc=>?_) (fun fC jT go le=>?_)
    ·have hs:look (bj st.sites (take bu (1000000+o*100) cs).2) o=some ab:=hs;rw[h5] at hs;cases hs;exact⟨rfl,rfl⟩
    ·rw[hb] at hc;cases hc;refine⟨.inr List.mem_cons_self,?_,(tE.cf b List.mem_cons_self).2⟩;rintro(hx|hx)
     ·exact(tE.cf b List.mem_cons_self).1 hx
     ·exact Xd.1 hx
    ·have:=zU go aD;exact⟨b,T,cur,by rw[jT,hb],e2,this.1,bz,fun bP=>dw.1 (abd bP),this.2⟩
   have KH:Left O Y X (fun aa=>if aa=o then D o else gu aa) {st with sites:=bj (bj st.sites (take bu (1000000+o*100) cs).2) [(o,Site.box s (take bu (1000000+o*100) cs).1)]} av (b2++rest):=
    Left.rest (a:=[b]) (st:={st with sites:=bj st.sites (take bu (1000000+o*100) cs).2}) tE ep.le
   have hbk:∀aa,aa∈keys boxes->(fun aa=>if aa=o then D o else gu aa) aa=D aa:=by
    intro aa bN;have hk:=LO (bu:=bu) eM h2 bN;by_cases e:aa=o
    ·subst e;simp
    ·simp only[e,if_false];exact c7.same aa fun hm=>d3 aa hm aa (List.mem_append.2 (.inr hk)) rfl
   obtain⟨aI,fG,KG⟩:=ih (st:={st with sites:=bj (bj st.sites (take bu (1000000+o*100) cs).2) [(o,Site.box s (take bu (1000000+o*100) cs).1)]}) ep.i' (eM.congr hbk) h2
    (fun aa r hm=>by
     have hk:=LO (bu:=bu) eM h2 (D_ hm);show look (bj (bj st.sites _) _) aa=_;rw[mT (fun h=>d6 aa h aa hk rfl),mT (fun h=>d3 aa h aa (List.mem_append.2 (.inr hk)) rfl)]
     exact hB aa r (List.mem_cons_of_mem _ hm))
    KH
    (k3.step (k3.step (fun m hm=>eP m (List.mem_append.2 (.inr (List.mem_append.2 (.inr hm))))) (fun m hm l1=>d3 m hm m (List.mem_append.2 (.inr l1)) rfl)) (fun m hm l1=>d6 m hm m l1 rfl)) d5
   refine⟨aI,?_,?_⟩
   ·have aqh:=c7.trans ep;have KA:jv O Y (fun c=>X c\/c∈b::o'++b2++rest) (fun c=>X c\/c∈o'++(b::(b2++rest))) D D st M w []:=.nil S fun c hc=>hc.imp id (AD c).2
    have alt:=KA.trans (vs:=(take bu (1000000+o*100) cs).2++[(o,Site.box s (take bu (1000000+o*100) cs).1)]) aqh;have:=alt.trans (vs:=gH bu boxes cK) (by simpa only[List.nil_append,kL] using fG)
    simpa only[List.nil_append,List.append_assoc] using this
   ·simpa only[kL] using KG
end
theorem Cw{us:List (Nat×Site)}:∀{sites:List (Nat×Site)} {o:Nat} {s:Site},(keys us).Nodup->(o,s)∈us->look (bj sites us) o=some s:=by
 induction us with
 |nil=>intro sites o s _ h;simp at h
 |cons p us ih=>
  obtain⟨n,aG⟩:=p;intro sites o s hn hm;simp only[keys,List.nodup_cons] at hn;simp only[bj];rcases List.mem_cons.1 hm with hm|hm
  ·cases hm;rw[mT hn.1,cV];simp
  ·exact ih hn.2 hm
section plain
variable {w:World}{av b':Nat->Prop}
theorem NX{d:aZ}{v:Value}(h:aE.ot (.d d)=false)(r:bA w av d v):bA w b' d v:=by
 cases r with
 |int k n=>exact .int k n
 |bool b=>exact .bool b
 |str l s hs=>exact .str l s hs
 |nil t=>cases h
 |sl=>cases h
 |fn=>cases h
 |vd=>cases h
 |map=>cases h
 |vp T=>exact .vp T
 |err T n=>exact .err T n
theorem acs{t:aY}(h:t.ot=false)(x:den t):∀d,d∈enc t x->aE.ot (.d d)=false:=by
 cases t<;>first|(cases h;done)|(intro d Z;simp only[enc,List.mem_cons,List.not_mem_nil,or_false] at Z;(rcases Z with rfl|rfl|rfl|rfl|rfl);all_goals rfl)|skip
 all_goals(intro d Z;simp only[enc,List.mem_cons,List.not_mem_nil,or_false] at Z)
 all_goals first|(subst Z;rfl)|(rcases Z with rfl|rfl<;>rfl)|(rcases Z with rfl|rfl|rfl<;>rfl)|(rcases Z with rfl|rfl|rfl|rfl<;>rfl)
theorem abw{t:aY}{xs:List (den t)}{cs:List Value}(h:t.ot=false)(r:cT w av (flat t xs) cs):cT w b' (flat t xs) cs:=by
 refine⟨r.1,fun j g1 g2=>NX ?_ (r.2 j g1 g2)⟩
 have hm:(flat t xs)[j]∈flat t xs:=List.getElem_mem g1;simp only[flat,List.mem_flatMap] at hm;obtain⟨x,_,hx⟩:=hm;exact acs h x _ hx
theorem LC{l:aE}{v:Value}{bs:List Nat}(h:l.ot=false)(k:mv w av l v bs):mv w b' l v bs:=by
 cases l with
 |d x=>exact⟨k.1,NX h k.2⟩
 |fresh t xs=>
  obtain⟨h1,e,cs,h2,h3⟩:=k;exact⟨h1,e,cs,h2,abw h h3⟩
 |cN v=>exact k
 |dj=>exact k
 |_=>cases h
theorem LA:∀{ad:List aE} {vs:List Value} {bs:List Nat},ru ad=false->k4 w av ad vs bs->k4 w b' ad vs bs:=by
 intro ad;induction ad with
 |nil=>
  intro vs bs _ k;match vs,k with
  |[],k=>exact k
 |cons l ad ih=>
  intro vs bs h k;simp only[ru,Bool.or_eq_false_iff] at h;match vs,k with
  |v::vs,⟨b1,b2,aD,az,bD⟩=>exact⟨b1,b2,aD,LC h.1 az,ih h.2 bD⟩
theorem ZU:∀{as:List bL} {vs:List Value} {bs:List Nat},rj as=false->kW w av as vs bs->kW w b' as vs bs:=by
 intro as;induction as with
 |nil=>
  intro vs bs _ k;match vs,k with
  |[],k=>exact k
 |cons a as ih=>
  intro vs bs h k;simp only[rj,Bool.or_eq_false_iff] at h;match vs,k with
  |v::vs,⟨b1,b2,aD,az,bD⟩=>
   refine⟨b1,b2,aD,?_,ih h.2 bD⟩;cases a with
   |ak l=>
    have h1:=h.1;simp only[bL.cells,ru,Bool.or_false] at h1;exact LC h1 az
   |agg ad=>
    obtain⟨us,e,az⟩:=az;exact⟨us,e,LA h.1 az⟩
theorem ZT:∀{cK:List (List aE)} {dt bs:List Nat},ri cK=false->iT w av dt cK bs->iT w b' dt cK bs:=by
 intro cK;induction cK with
 |nil=>
  intro dt bs _ k;match dt,k with
  |[],k=>exact k
 |cons a as ih=>
  intro dt bs h k;simp only[ri,Bool.or_eq_false_iff] at h;match dt,k with
  |b::dt,⟨b1,b2,aD,⟨T,cur,nX,e1,e2,bz,dw,gi⟩,bD⟩=>
   exact⟨b1,b2,aD,⟨T,cur,nX,e1,e2,bz,dw,LA h.1 gi⟩,ih h.2 bD⟩
theorem N9{l:aE}{v:Value}{bs:List Nat}(k:mv w av l v bs):∀b,b∈bs->b<w.heap.size:=by
 cases l with
 |fresh t xs=>
  obtain⟨h1,e,cs,h2,h3⟩:=k;intro b hb;rw[h1] at hb;rcases h2.2 with⟨h,_⟩|⟨g,cap,cur,fz,h,_,hg,_⟩
  ·rw[h] at hb;simp[bG] at hb
  ·rw[h] at hb;simp[bG] at hb;subst hb;exact(Array.getElem?_eq_some_iff.1 hg).1
 |_=>intro b hb;rw[k.1] at hb;simp at hb
theorem N8:∀{ad:List aE} {vs:List Value} {bs:List Nat},k4 w av ad vs bs->∀b,b∈bs->b<w.heap.size:=by
 intro ad;induction ad with
 |nil=>
  intro vs bs k;match vs,k with
  |[],k=>have k:bs=[]:=k;intro b hb;rw[k] at hb;simp at hb
 |cons l ad ih=>
  intro vs bs k;match vs,k with
  |v::vs,⟨b1,b2,aD,az,bD⟩=>
   intro b hb;rw[aD] at hb;rcases List.mem_append.1 hb with hb|hb
   ·exact N9 az b hb
   ·exact ih bD b hb
theorem ack:∀{as:List bL} {vs:List Value} {bs:List Nat},kW w av as vs bs->∀b,b∈bs->b<w.heap.size:=by
 intro as;induction as with
 |nil=>
  intro vs bs k;match vs,k with
  |[],k=>have k:bs=[]:=k;intro b hb;rw[k] at hb;simp at hb
 |cons a as ih=>
  intro vs bs k;match vs,k with
  |v::vs,⟨b1,b2,aD,az,bD⟩=>
   intro b hb;rw[aD] at hb;rcases List.mem_append.1 hb with hb|hb
   ·cases a with
    |ak l=>exact N9 (show mv w av l v b1 from az) b hb
    |agg ad=>obtain⟨us,e,az⟩:=az;exact N8 az b hb
   ·exact ih bD b hb
theorem M6:∀{cK:List (List aE)} {dt bs:List Nat},iT w av dt cK bs->∀b,b∈bs->b<w.heap.size:=by
 intro cK;induction cK with
 |nil=>
  intro dt bs k;match dt,k with
  |[],k=>have k:bs=[]:=k;intro b hb;rw[k] at hb;simp at hb
 |cons a as ih=>
  intro dt bs k;match dt,k with
  |c::dt,⟨b1,b2,aD,⟨T,cur,nX,e1,e2,bz,_,dw⟩,bD⟩=>
   intro b hb;rw[aD] at hb;rcases List.mem_append.1 hb with hb|hb
   ·rw[e1] at hb;rcases List.mem_cons.1 hb with rfl|hb
    ·exact(Array.getElem?_eq_some_iff.1 e2).1
    ·exact N8 dw b hb
   ·exact ih bD b hb
end plain
section
variable {P:Program}{O:World}{Y:List Nat}{X:Nat->Prop}{D:Nat->Value}{st:ah}{M:Array Value}{w:World}{B:Oper}
theorem mU{fQ:List Nat}{b:Nat}:b∈c9 D fQ <-> ∃o,o∈fQ/\bG (D o)=some b:=by simp[c9]
theorem Ld(S:am O Y X D st M w):∀{fQ:List Nat},fQ.Nodup->(∀o,o∈fQ->cd st.sites o)->(c9 D fQ).Nodup:=by
 intro fQ;induction fQ with
 |nil=>intro _ _;exact List.nodup_nil
 |cons o fQ ih=>
  intro hn hl;rw[List.nodup_cons] at hn;have:=ih hn.2 fun aa bN=>hl aa (List.mem_cons_of_mem _ bN)
  simp only[c9,List.filterMap_cons] at this ⊢;cases hb:bG (D o) with
  |none=>simpa using this
  |some b=>
   simp only[List.nodup_cons];refine⟨fun hm=>?_,this⟩
   obtain⟨aa,h1,h2⟩:=mU.1 hm;have:=S.dT o aa b (hl o List.mem_cons_self) (hl aa (List.mem_cons_of_mem _ h1)) hb h2;subst this;exact hn.1 h1
structure alu(O:World)(Y:List Nat)(X:Nat->Prop)(D:Nat->Value)(st:ah)(M:Array Value)(w:World)(a:jX)(vs:List Value):Prop where
 fz:dE st.sites a.eK
 lb:∀o,o∈a.fI->cd st.sites o
 mR:gJ st.sites a.gone
 arg:∀av,fq O Y X D st M w a.eK a.fI av->iP w av a.as vs (c9 D (keys a.gone))
 dt:dK a.as vs=c9 D (keys a.boxes)
 fh:∀o s,(o,s)∈a.boxes->(o,.dead s)∈a.gone/\∃b,D o=.pointer (some ⟨b,0,none⟩)
theorem LF{us:List (Nat×Site)}{sites:List (Nat×Site)}(aV:dE sites us){o:Nat}(h:cd (bj sites us) o):cd sites o:=by
 obtain⟨ab,h1,h2⟩:=h;rcases lr aV o with h|⟨s,t,xs,ax,bk⟩
 ·exact⟨ab,h▸h1,h2⟩
 ·rw[bk] at h1;cases h1;cases h2
theorem aep(S:am O Y X D st M w){g:FuncId}{aq:aH}(ey:aF P g aq){a:jX}{vs:List Value}(A:alu O Y X D st M w a vs){d:Nat}(Z:ce st B.dst=true)
  (di:(execOp (Act.eval ⟨M,[]⟩) B).run P w=(callFunc g vs.toArray).run P w):Holds (oG d st aq a) (cD P O Y X st M w B):=by
 intro y hy hc;simp only[oG] at y hy hc ⊢;simp only[Bool.and_eq_true] at hc;obtain⟨⟨⟨⟨c1,c2⟩,c3⟩,c5⟩,gy⟩:=hc;rw[re] at c1 c3;rw[Nc] at c2 c5;have rm:∀o,o∈keys a.gone->cd st.sites o:=fun o bn=>by
  obtain⟨s,hs⟩:=x9 bn;obtain⟨ab,h1,h2,_⟩:=A.mR o s hs;exact⟨ab,h1,h2⟩
 have M1:∀o,o∈keys a.gone->o∉keys a.eK:=fun o h1 h2=>c2 o (List.mem_append.2 (.inl h2)) h1
 have arW:∃X':Nat->Prop,∀b,X' b <-> (aw X D (bj st.sites a.eK) b/\b∉c9 D (keys a.gone)/\∀o,o∈a.fI->bG (D o)≠some b):=⟨_,fun b=>Iff.rfl⟩
 obtain⟨X',tj⟩:=arW;have dW:fq O Y X D st M w a.eK a.fI (fun b=>X' b\/b∈c9 D (keys a.gone)):=by
  refine⟨⟨S,A.fz⟩,fun b hb=>?_,fun o bn b hb hx=>?_⟩
  ·rcases hb with hb|hb
   ·exact((tj b).1 hb).1
   ·obtain⟨o,h1,h2⟩:=mU.1 hb;obtain⟨ab,h3,ax⟩:=rm o h1;exact .inr ⟨o,⟨ab,by rw[mT (M1 o h1)];exact h3,ax⟩,h2⟩
  ·rcases hx with hx|hx
   ·exact((tj b).1 hx).2.2 o bn hb
   ·obtain⟨aa,h1,h2⟩:=mU.1 hx;have:=S.dT o aa b (A.lb o bn) (rm aa h1) hb h2;subst this;exact c2 o (List.mem_append.2 (.inr bn)) h1
 have BX:(c9 D (keys a.gone)).Nodup:=Ld S c1 rm;have Es:∀b,b∈c9 D (keys a.gone)->¬X b/\(b∈Y\/O.heap.size<=b):=fun b hb=>by
  obtain⟨o,h1,h2⟩:=mU.1 hb;exact S.cf o b (rm o h1) h2
 have Xn:∀b,X b->X' b:=fun b hb=>(tj b).2 ⟨.inl hb,fun h=>(Es b h).1 hb,fun o bn h=>(S.cf o b (A.lb o bn) h).1 hb⟩
 have hG:iu w (c9 D (keys a.gone)) X':=by
  obtain⟨g1,g2⟩:=S.kD;refine⟨g1,fun b hb h=>?_,fun b hb h=>?_,fun b hb=>(g2 b hb).2⟩
  ·obtain⟨o,h1,h2⟩:=mU.1 h;exact(g2 b hb).1 (.inr ⟨o,rm o h1,h2⟩)
  ·rcases((tj b).1 h).1 with h|⟨o,h1,h2⟩
   ·exact(g2 b hb).1 (.inl h)
   ·exact(g2 b hb).1 (.inr ⟨o,LF A.fz h1,h2⟩)
 have E:=ey a.as y hy w X' vs (c9 D (keys a.gone)) (A.arg _ dW) BX (fun b hb hx=>((tj b).1 hx).2.1 hb) (fun b hb=>dW.lt (.inl hb)) hG
 intro K Q bM;have core:∀v w',(∃ei eh rv,Fr (c9 D (keys a.gone)) w w'/\iT w' (fun b=>X' b\/b∈ei++eh) (dK a.as vs) ((aq a.as).fh y) ei/\kW w' (fun b=>X' b\/b∈ei++eh) ((aq a.as).e_ y) rv eh/\
   v=np rv/\(ei++eh).Nodup/\∀b,b∈ei++eh->¬X' b/\(b∈c9 D (keys a.gone)\/w.heap.size<=b))->K ⟨cv M B.dst v,[]⟩ w':=by
  rintro v w' ⟨ei,eh,rv,aV,hB,dX,rfl,kt,hm⟩;obtain⟨sl,iI⟩:∃sl,(rj ((aq a.as).e_ y)||ri ((aq a.as).fh y))=sl:=⟨_,rfl⟩;rw[iI] at gy bM;obtain⟨da,BU⟩:∃da,(bif sl then a.eK else [])=da:=⟨_,rfl⟩
  rw[BU] at bM;have T1:dE st.sites da:=by rw[<-BU];cases sl;exact .nil;exact A.fz
  have aiI:∀o,o∈keys da->o∈keys a.eK:=by rw[<-BU];cases sl;intro o h;simp[keys] at h;exact fun o h=>h
  have dm:am O Y X D {st with sites:=bj st.sites da} M w:=S.zm T1
  have BY:gJ (bj st.sites da) a.gone:=fun o s hs=>by
   obtain⟨ab,h1,h2,h3⟩:=A.mR o s hs;exact⟨ab,by rw[mT (fun h=>M1 o (D_ hs) (aiI o h))];exact h1,h2,h3⟩
  have hM:=dm.aiH BY c1;have hL:=hM.jump (w':=w') (fun b hb hlt=>aV.block b hlt (fun h=>hb (.inr h))) aV.size
   ⟨aV.os.trans S.frame.os,aV.tape.trans S.frame.tape,aV.output.trans S.frame.output,Nat.le_trans S.frame.size aV.size,fun b hlt hb=>by
    rw[aV.block b (Nat.lt_of_lt_of_le hlt S.frame.size) (fun h=>by rcases(Es b h).2 with af|af;exact hb af;omega)]
    exact S.frame.block b hlt hb⟩
  have aor:∀b,b∈ei++eh->b<w'.heap.size:=fun b hb=>by
   rcases List.mem_append.1 hb with hb|hb
   ·exact M6 hB b hb
   ·exact ack dX b hb
  have lq:am O Y (fun b=>X b\/b∈ei++(eh++[])) D {st with sites:=bj (bj st.sites da) a.gone} M w':=hL.shrink fun b hb=>by
   rcases hb with hb|hb
   ·exact .inl (.inl hb)
   ·rw[List.append_nil] at hb;rcases(hm b hb).2 with h|h
    ·exact .inl (.inr h)
    ·exact .inr ⟨h,aor b hb⟩
  obtain⟨av,TZ,ald,alc⟩:∃av:Nat->Prop,iT w' av (dK a.as vs) ((aq a.as).fh y) ei/\kW w' av ((aq a.as).e_ y) rv eh/\
    ∀c,aw (fun b=>X b\/b∈ei++(eh++[])) D (bj (bj st.sites da) a.gone) c->av c:=by
   cases sl with
   |false=>
    rw[Bool.or_eq_false_iff] at iI;exact⟨_,ZT iI.2 hB,ZU iI.1 dX,fun c hc=>hc⟩
   |true=>
    refine⟨_,hB,dX,fun c hc=>?_⟩
    rcases hc with(hc|hc)|⟨o,⟨ab,h1,h2⟩,h3⟩
    ·exact .inl (Xn c hc)
    ·rw[List.append_nil] at hc;exact .inr hc
    ·refine .inl ((tj c).2 ?_);have bn:o∉keys a.gone:=fun h=>by
      obtain⟨s,hs⟩:=x9 h;rw[Cw c1 hs] at h1;obtain⟨_,_,_,e⟩:=A.mR o s hs;cases h1;rw[e] at h2;cases h2
     rw[mT bn] at h1;have alf:a.eK=da:=BU;rw[<-alf] at h1;have live:cd st.sites o:=LF A.fz ⟨ab,h1,h2⟩;refine⟨.inr ⟨o,⟨ab,h1,h2⟩,h3⟩,fun h=>?_,fun aa bN h=>?_⟩
     ·obtain⟨aa,aD,az⟩:=mU.1 h;have:=S.dT o aa c live (rm aa aD) h3 az;subst this;exact bn aD
     ·simp only[Bool.not_true,Bool.false_or,List.isEmpty_iff] at gy;rw[gy] at bN;simp at bN
  have L:Left O Y X D {st with sites:=bj (bj st.sites da) a.gone} av (ei++(eh++[])):=by
   refine⟨by simpa using kt,fun b hb=>?_,alc⟩
   rw[List.append_nil] at hb;obtain⟨h1,h2⟩:=hm b hb;refine⟨fun hx=>h1 (Xn b hx),?_⟩
   rcases h2 with h2|h2
   ·exact(Es b h2).2
   ·exact .inr (Nat.le_trans S.frame.size h2)
  have Rj:∀fQ,k3 st (bj (bj st.sites da) a.gone) fQ:=fun fQ m _ ab hs=>by
   have h1:∀ab,look (bj st.sites da) m=some ab->ab.cq<bl st m:=fun ab hs=>by
    rcases lr T1 m with h|⟨s,t,xs,ax,bk⟩
    ·rw[h] at hs;exact ls hs
    ·rw[bk] at hs;cases hs;rcases ax with ax|ax<;>(have q:=ls ax;exact q)
   by_cases hk:m∈keys a.gone
   ·obtain⟨s,fC⟩:=x9 hk;rw[Cw c1 fC] at hs;obtain⟨bT,e1,_,bz⟩:=BY m s fC;rw[bz] at hs;cases hs;exact h1 bT e1
   ·rw[mT hk] at hs;exact h1 ab hs
  rw[jF] at c3;obtain⟨d1,d2,d3⟩:=List.nodup_append.1 c3;rw[A.dt] at TZ;obtain⟨gu,c7,q8⟩:=Nw st a.boxes (st:={st with sites:=bj (bj st.sites da) a.gone}) lq (mO.of fun o s hs=>(A.fh o s hs).2) TZ
   (fun o s hs=>Cw c1 (A.fh o s hs).1) L (Rj _) d1
  obtain⟨hZ,ep,jU,_⟩:=acY st ((aq a.as).e_ y) (2000000+d*10000) (st:={st with sites:=bj (bj (bj st.sites da) a.gone) (gH st a.boxes ((aq a.as).fh y))}) c7.i' ald q8
   (k3.step (Rj _) (fun n h1 h2=>d3 n h1 n h2 rfl)) d2
  have KC:am O Y X hZ {st with sites:=bj st.sites (da++a.gone++gH st a.boxes ((aq a.as).fh y)++(dR st (2000000+d*10000) ((aq a.as).e_ y)).2)} M w':=by
   have:=ep.i'.shrink (X':=X) fun b hb=>.inl hb
   simpa only[kL] using this
  refine bM hZ _ w' (am.cP KC Z (v:=Rd (dR st (2000000+d*10000) ((aq a.as).e_ y)).1) ?_);have Rs:oH hZ (bj st.sites (da++a.gone++gH st a.boxes ((aq a.as).fh y)++(dR st (2000000+d*10000) ((aq a.as).e_ y)).2)) w'
    (aw X hZ (bj st.sites (da++a.gone++gH st a.boxes ((aq a.as).fh y)++(dR st (2000000+d*10000) ((aq a.as).e_ y)).2))) (dR st (2000000+d*10000) ((aq a.as).e_ y)).1 rv:=by
   have e:(fun b=>X b\/b∈([]:List Nat))=X:=by funext b;simp
   rw[e] at jU;simpa only[kL] using jU
  generalize(dR st (2000000+d*10000) ((aq a.as).e_ y)).1=aos at Rs;match aos,rv,Rs with
  |[],[],h=>exact⟨[],rfl,rfl,fun j h=>by simp at h⟩
  |[l],[v],h=>exact h.2 0 (by simp) (by simp)
  |l::gw::ad,v::v2::ch,h=>exact⟨v::v2::ch,rfl,h.1,h.2⟩
 rcases E with⟨h1,h2⟩|⟨v,w',h1,h2⟩
 ·unfold Oper.wp;rw[di,h1,Oper.upon_enter];refine h2.mono fun e w' he=>?_
  cases e with
  |returned v=>
   have:=core v w' he;cases dv:B.dst with
   |none=>rw[dv] at this;simpa[Act.put,cv] using this
   |some t=>rw[dv] at this;simpa[Act.put,cv] using this
  |panicked c=>exact he.elim
  |outgrown=>exact he.elim
 ·exact oo (di.trans h1) (core v w' h2)
end
def As(P:Program)(g:FuncId):Prop:=
 ∀(b:Nat) (p v:Value) (w:World),w.heap[b]? =some (.cells #[p,v] qL (0,0))->(p=.pointer none\/p=.pointer (some ⟨b,0,none⟩))->
  Enters P g #[.pointer (some ⟨b,0,none⟩)] w fun r w'=>r=.tuple #[]/\w'=w.setRow b #[.pointer (some ⟨b,0,none⟩),v]
def AO(P:Program)(g:FuncId):Prop:=
 ∀(b:Nat) (p v:Value) (T:TypeId) (xs:List Int) (w:World),w.heap[b]? =some (.cells #[p,v] T (0,0))->rowAt w true l6 1 v xs.length (xs.map (Value.int .u8))->
  Enters P g #[.pointer (some ⟨b,0,none⟩)] w fun r w'=>r=.string ⟨(strOf xs).toArray⟩/\w'.os=w.os/\w'.tape=w.tape/\w'.output=w.output/\w.heap.size<=w'.heap.size/\
   (∀c,c<w.heap.size->bG v≠some c->w'.heap[c]? =w.heap[c]?)/\∀c cur e fz,bG v=some c->w.heap[c]? =some (.cells cur e fz)->∃fz',w'.heap[c]? =some (.cells cur e fz')
section
variable {P:Program}{O:World}{Y:List Nat}{X:Nat->Prop}{D:Nat->Value}{st:ah}{M:Array Value}{w:World}{B:Oper}
theorem am.aea(S:am O Y X D st M w){o s:Nat}{t:aY}{xs:List (den t)}(hl:look st.sites o=some (.row s t xs)){w':World}(h1:w'.os=w.os)(h2:w'.tape=w.tape)(h3:w'.output=w.output)(ax:w.heap.size<=w'.heap.size)
  (bk:∀c,c<w.heap.size->bG (D o)≠some c->w'.heap[c]? =w.heap[c]?) (cl:∀c cur e fz,bG (D o)=some c->w.heap[c]? =some (.cells cur e fz)->∃fz',w'.heap[c]? =some (.cells cur e fz')):
  am O Y X D {st with sites:=ci st.sites o (.db s t xs)} M w':=by
 have cJ:cd st.sites o:=⟨_,hl,rfl⟩;have d':∀aa,cd (ci st.sites o (.db s t xs)) aa->cd st.sites aa/\aa≠o:=by
  rintro aa ⟨ab,h1,h2⟩;rw[cV] at h1;by_cases e:o=aa
  ·subst e;simp at h1;subst h1;cases h2
  ·simp only[e,if_false] at h1;exact⟨⟨ab,h1,h2⟩,fun h=>e h.symm⟩
 have b7:∀bH,aw X D (ci st.sites o (.db s t xs)) bH->aw X D st.sites bH:=by
  rintro bH (h|⟨aa,h1,h2⟩)
  ·exact .inl h
  ·exact .inr ⟨aa,(d' aa h1).1,h2⟩
 have aV:=S.frame;refine S.p' (fun aa ab bN=>?_) (fun bH h hb=>bk bH hb (fun af=>h (.inr ⟨o,cJ,af⟩))) (fun bH h _ af=>h (b7 bH af)) (fun go aa ab bN=>?_) (fun aa ρ bH h1 h2=>S.dT aa ρ bH (d' aa h1).1 (d' ρ h2).1)
  (fun aa bH h=>S.cf aa bH (d' aa h).1) (fun aa bH h hb=>Nat.lt_of_lt_of_le (S.fu (d' aa h).1 hb) ax)
  ⟨h1.trans aV.os,h2.trans aV.tape,h3.trans aV.output,Nat.le_trans aV.size ax,fun b hb hn=>by
   have hs:=aV.size;rw[bk b (by omega) (fun af=>by
    rcases(S.cf o b cJ af).2 with af|af
    ·exact hn af
    ·omega)]
   exact aV.block b hb hn⟩ ax
 ·rw[cV];by_cases e:o=aa
  ·subst e;rw[hl] at bN;cases bN;exact⟨.db s t xs,by simp,Nat.le_refl _,fun _=>rfl⟩
  ·exact⟨ab,by simp[e,bN],Nat.le_refl _,fun _=>rfl⟩
 ·rw[cV] at bN;by_cases e:o=aa
  ·subst e;simp only[if_true,Option.some.injEq] at bN;subst bN;refine .inr ?_
   show bA _ _ (.sl t xs) (D o)/\Be (D o);obtain⟨cz,cs,aD,az⟩:=S.sites o _ hl;rcases aD.2 with⟨hn,h0⟩|⟨g,cap,cur,fz,hv,_,hg,hnc,_,_,htk⟩
   ·have:xs=[]:=List.eq_nil_of_length_eq_zero h0;subst this;rw[hn];exact⟨.nil t,.inl rfl⟩
   ·obtain⟨fz',hg'⟩:=cl g cur cz fz (by rw[hv];rfl) hg
    rw[hv];refine⟨?_,.inr ⟨_,_,_,rfl⟩⟩;have hlen:cs.length=(flat t xs).length:=by rw[eV];exact aD.1
    refine .sl t xs _ cap cs xs.length rfl hnc (fun _=>?_) hlen (fun j u hu=>?_) (fun j g1 g2=>oB go (az j g1 g2))
    ·rintro(hx|⟨aa,g1,g2⟩)
     ·exact(S.cf o g cJ (by rw[hv];rfl)).1 hx
     ·obtain⟨g3,g4⟩:=d' aa g1;exact g4 (S.dT aa o g g3 cJ g2 (by rw[hv];rfl))
    ·rw[gG,Nat.zero_add,cell_of_row w' g j cur cz fz' hg'];rw[<-htk,List.getElem?_take] at hu;split at hu
     ·simpa using hu
     ·cases hu
  ·simp only[e,if_false] at bN;refine .inl ⟨bN,rfl,fun sL b hb=>bk b (S.fu ⟨_,bN,sL⟩ hb) fun h=>e (S.dT o aa b cJ ⟨_,bN,sL⟩ h hb)⟩
theorem DF{g:FuncId}{vs:List Value}{post:Value->World->Prop}(di:(execOp (Act.eval ⟨M,[]⟩) B).run P w=(callFunc g vs.toArray).run P w)(ey:Enters P g vs.toArray w post){K:Act->World->Prop}{Q:Exit->Act->World->Prop}
  (core:∀v w',post v w'->K ⟨cv M B.dst v,[]⟩ w'):B.wp P ⟨M,[]⟩ w K Q:=by
 rcases ey with⟨h1,h2⟩|⟨v,w',h1,h2⟩
 ·unfold Oper.wp;rw[di,h1,Oper.upon_enter];refine h2.mono fun e w' he=>?_
  cases e with
  |returned v=>
   have:=core v w' he;cases dv:B.dst with
   |none=>rw[dv] at this;simpa[Act.put,cv] using this
   |some t=>rw[dv] at this;simpa[Act.put,cv] using this
  |panicked c=>exact he.elim
  |outgrown=>exact he.elim
 ·exact oo (di.trans h1) (core v w' h2)
theorem aem(S:am O Y X D st M w){g:FuncId}(ey:As P g){cw:List aJ}{vs:List Value}(hl:cw.length=vs.length)
  (hv:∀i (h:i<cw.length) (af:i<vs.length),b_ D st.sites w (aw X D st.sites) (cw[i]) (vs[i])) (Z:ce st B.dst=true) (di:(execOp (Act.eval ⟨M,[]⟩) B).run P w=(callFunc g vs.toArray).run P w):
  Holds (copyV st cw) (cD P O Y X st M w B):=by
 unfold copyV;split
 ·rename_i o s;split
  ·rename_i aG l gp;have gp:look st.sites o=some (.box aG [.dj,l]):=gp;cases lg:aG.beq s with
   |false=>exact .fail
   |true=>
    have:=Nat.eq_of_beq_eq_true lg;subst this;refine Holds.fs ?_
    intro K Q bM;match vs,hl,hv,di with
    |[qR],_,hv,di=>
    obtain⟨qY,hb0,lh⟩:dO D st.sites w (aw X D st.sites) (.ptr o aG 0) qR:=hv 0 (by simp) (by simp)
    have lh:=Ref.at lh gp rfl;obtain⟨b,T,cur,e1,e2,bz,dw,gi,tz⟩:=S.sites o _ gp;rw[e1] at lh;have lh:b=qY:=by cases lh;rfl
    subst lh;subst hb0;match cur,e2,bz,dw,gi,tz with
    |[p,v],e2,_,dw,gi,tz=>
     obtain⟨rfl,hp⟩:=gi rfl;have hp:p=.pointer none\/p=.pointer (some ⟨b,0,none⟩):=by simpa using hp
     refine DF di (ey b p v w e2 hp) ?_
     rintro r w' ⟨rfl,rfl⟩;have ca:am O Y X D {st with sites:=ci st.sites o (.box aG [.dj,l])} M (w.setRow b #[.pointer (some ⟨b,0,none⟩),v]):=by
      refine S.write gp rfl rfl rfl (by rw[e1];rfl) e2 (fun hs hw hg' go=>⟨b,qL,[.pointer (some ⟨b,0,none⟩),v],e1,hg',rfl,fun u hu=>?_,fun _=>⟨rfl,.inr rfl⟩,fun j h af=>?_⟩)
      ·rcases List.mem_cons.1 hu with rfl|hu
       ·rfl
       ·exact dw u (List.mem_cons_of_mem _ hu)
      ·match j,h,af with
       |0,_,_=>trivial
       |1,_,_=>exact go (a:=bX l) (tz 1 (by simp) (by simp))
     exact bM _ _ _ (am.cP (us:=[(o,.box aG [.dj,l])]) ca Z (v:=.jw []) ⟨[],rfl,rfl,fun j h=>by simp at h⟩)
  ·exact .fail
 ·exact .fail
theorem acX{av:Nat->Prop}{xs:List Int}{cs:List Value}(h0:cs.length=xs.length)(h:∀j (h:j<(flat .u8 (xs:List (den .u8))).length) (af:j<cs.length),bA w av ((flat .u8 (xs:List (den .u8)))[j]) (cs[j])):cs=xs.map (Value.int .u8):=by
 refine List.ext_getElem (by rw[List.length_map];exact h0) fun j g1 g2=>?_
 have Xj:j<xs.length:=by simpa using g2
 have:=h j (by rw[eV];simpa[aT] using Xj) g1
 rw[List.getElem_map];generalize Z:(flat .u8 (xs:List (den .u8)))[j]'(by rw[eV];simpa[aT] using Xj)=d at this
 have hd2:d=.int .u8 xs[j]:=by
  rw[<-Z];simp only[rR,List.getElem_map]
 subst hd2;generalize cs[j]=v at this;cases this;rfl
theorem _4(S:am O Y X D st M w){g:FuncId}(ey:AO P g){cw:List aJ}{vs:List Value}(hl:cw.length=vs.length)
  (hv:∀i (h:i<cw.length) (af:i<vs.length),b_ D st.sites w (aw X D st.sites) (cw[i]) (vs[i])) (Z:ce st B.dst=true) (di:(execOp (Act.eval ⟨M,[]⟩) B).run P w=(callFunc g vs.toArray).run P w):
  Holds (rH st cw) (cD P O Y X st M w B):=by
 unfold rH;split
 ·rename_i o s;match vs,hl,hv,di with
  |[qR],_,hv,di=>
  have mH:dO D st.sites w (aw X D st.sites) (.ptr o s 0) qR:=hv 0 (by simp) (by simp)
  split
  ·rename_i Yl lQ;have gp:=gA lQ;obtain⟨b,T,cur,cM,rfl,hg,_,hc⟩:=S.box gp mH;refine Holds.ok ?_
   intro K Q bM;obtain⟨p,r1,rfl,_,hc⟩:=hc.inv;obtain⟨v,r2,rfl,vU,hc⟩:=hc.inv;have:r2=[]:=List.eq_nil_of_length_eq_zero hc.1;subst this;have vU:v=.slice none 0 0:=vU;subst vU;refine DF di (ey b p _ T [] w hg (De w true l6 1)) ?_
   rintro r w' ⟨rfl,aD,az,bD,cQ,fF,h9⟩;have dm:=S.jump (w':=w') (fun c _ hc=>fF c hc (by simp[bG])) cQ ⟨aD.trans S.frame.os,az.trans S.frame.tape,bD.trans S.frame.output,Nat.le_trans S.frame.size cQ,fun c hc hn=>by
    rw[fF c (Nat.lt_of_lt_of_le hc S.frame.size) (by simp[bG])]
    exact S.frame.block c hc hn⟩
   have hM:am O Y X D {st with sites:=bj st.sites []} M w':=dm.shrink fun b hb=>.inl hb
   exact bM _ _ _ (am.cP (us:=[]) hM Z (v:=one (.str [])) (bA.str _ _ rfl))
  ·rename_i Yl aa u lQ;have gp:=gA lQ;obtain⟨b,T,cur,cM,rfl,hg,_,hc⟩:=S.box gp mH;split
   ·rename_i cn xs hrow;have hrow:look st.sites aa=some (.row cn .u8 xs):=hrow;cases aoO:cn.beq u with
    |false=>exact .fail
    |true=>
     have:=Nat.eq_of_beq_eq_true aoO;subst this;refine Holds.fs ?_
     intro K Q bM;obtain⟨p,r1,rfl,_,hc⟩:=hc.inv;obtain⟨v,r2,rfl,vU,hc⟩:=hc.inv;have:r2=[]:=List.eq_nil_of_length_eq_zero hc.1;subst this;have TK:v=D aa:=Ref.at vU.2 hrow rfl;obtain⟨e,cs,h1,h2⟩:=S.sites aa _ hrow;have hlen:cs.length=xs.length:=by have:=h1.1;simpa[aT] using this
     have hcs:cs=List.map (Value.int .u8) xs:=acX hlen h2;have k8:rowAt w true l6 1 v xs.length (List.map (Value.int .u8) xs):=by
      rw[<-hcs,TK];refine⟨h1.1,?_⟩;rcases h1.2 with h|⟨ct,cap,cur',fz,q1,q2,dr⟩
      ·exact .inl h
      ·have:=q2.1 rfl;subst this;exact .inr ⟨ct,cap,cur',fz,q1,q2,dr⟩
     refine DF di (ey b p v T xs w hg k8) ?_
     rintro r w' ⟨rfl,aD,az,bD,cQ,fF,h9⟩;rw[TK] at fF h9;have hM:=S.aea hrow aD az bD cQ fF h9;exact bM _ _ _ (am.cP (us:=[(aa,.db cn .u8 xs)]) hM Z (v:=one (.str (strOf xs))) (bA.str _ _ (by simp)))
   ·exact .fail
  ·exact .fail
 ·exact .fail
end
def zt(P:Program)(g ct:FuncId):Prop:=
 ∀(a b:ByteArray) (w:World),Enters P g #[.string a,.string b] w fun v w'=>∃c7 ep,v=.func (.func ct) #[] #[.pointer (some ⟨w.heap.size+1,0,none⟩),.pointer (some ⟨w.heap.size,0,none⟩),.pointer (some ⟨w.heap.size+2,0,none⟩)]/\
  w'=((w.alloc (.cells #[.string a] c7)).alloc (.cells #[.string b] c7)).alloc (.cells #[.int .i64 0] ep)
def Ar(P:Program)(g:FuncId):Prop:=
 ∀(xs:List Int) (v:Value) (w:World) (av:Nat->Prop),bA w av (.sl .u8 xs) v->Enters P g #[v] w fun v' w'=>∃u T,bA w av (.sl .u8 (xs.take 2000)) u/\v'=.pointer (some ⟨w.heap.size,0,none⟩)/\w'=w.alloc (.cells #[u,.int .i64 0] T)
structure a7(P:Program)(C:Ctx):Prop extends CtxOk P C where
 bK:∀g S,C.bK g=some S->aF P g S
 Kg:P.follows .mixedOrders=true
 lk:∀g ct,C.lk g=some ct->zt P g ct
 op:∀g,C.op g=true->Ar P g
 j5:∀g,C.j5 g=true->As P g
 bs:∀g,C.bs g=true->AO P g
section
variable {P:Program}{O:World}{Y:List Nat}{X:Nat->Prop}{D:Nat->Value}{st:ah}{M:Array Value}{w:World}{B:Oper}
theorem Ng:∀{bw:List (Nat×Nat)} {cs:List (List aZ)} {us:List (Nat×Site)} {bs:List Nat},kV st bw=some (cs,us,bs)->dE st.sites us/\∀o,o∈bs->cd st.sites o:=by
 intro bw;induction bw with
 |nil=>intro cs us bs h;simp only[kV] at h;cases h;exact⟨.nil,fun o h=>by simp at h⟩
 |cons c bw ih=>
  obtain⟨o,s⟩:=c;intro cs us bs h;simp only[kV] at h;split at h
  ·rename_i cells lQ;split at h
   ·rename_i ds u1 rest u2 b2 gv oE;cases h;obtain⟨aD,az⟩:=ih oE;refine⟨(Gb gv).append aD,fun aa bN=>?_⟩
    rcases List.mem_cons.1 bN with rfl|bN
    ·exact⟨_,gA lQ,rfl⟩
    ·exact az aa bN
   ·cases h
  ·cases h
theorem Fs{l gg:aE}{us:List (Nat×Site)}{bs:List Nat}(h:mw st l=some (gg,us,bs)):dE st.sites us/\∀o,o∈bs->cd st.sites o:=by
 unfold mw at h;split at h
 ·cases h;exact⟨.nil,fun o h=>by simp at h⟩
 ·split at h
  ·rename_i hc;cases h;exact Ng hc
  ·cases h
 ·split at h
  ·rename_i Z;cases h;exact⟨QO Z,fun o h=>by simp at h⟩
  ·cases h
theorem adX:∀{ad f_:List aE} {us:List (Nat×Site)} {bs:List Nat},lG st ad=some (f_,us,bs)->dE st.sites us/\∀o,o∈bs->cd st.sites o:=by
 intro ad;induction ad with
 |nil=>intro f_ us bs h;simp only[lG] at h;cases h;exact⟨.nil,fun o h=>by simp at h⟩
 |cons l ad ih=>
  intro f_ us bs h;simp only[lG] at h;split at h
  ·rename_i a u1 b1 as u2 b2 h1 h2;cases h;obtain⟨aD,az⟩:=Fs h1;obtain⟨bD,cQ⟩:=ih h2;refine⟨aD.append bD,fun o bn=>?_⟩
   rcases List.mem_append.1 bn with h|h
   ·exact az o h
   ·exact cQ o h
  ·cases h
theorem ab2:∀{cw:List aJ} {a:jX},iS st cw=some a->dE st.sites a.eK/\∀o,o∈a.fI->cd st.sites o:=by
 intro cw;induction cw with
 |nil=>intro a h;simp only[iS] at h;cases h;exact⟨.nil,fun o h=>by simp at h⟩
 |cons qU cw ih=>
  intro a h;unfold iS at h;split at h
  ·cases ‹qU::cw=[]›
  ·rename_i bZ;cases bZ;split at h
   ·rename_i hr;split at h
    ·cases h;have q:=ih hr;exact q
    ·cases h
   ·cases h
  ·rename_i bZ;cases bZ;split at h
   ·rename_i h1 hr;cases h;obtain⟨aD,az⟩:=Fs h1;obtain⟨bD,cQ⟩:=ih hr;refine⟨aD.append bD,fun o bn=>?_⟩
    rcases List.mem_append.1 bn with h|h
    ·exact az o h
    ·exact cQ o h
   ·cases h
  ·rename_i bZ;cases bZ;split at h
   ·rename_i h1 hr;cases h;obtain⟨aD,az⟩:=adX h1;obtain⟨bD,cQ⟩:=ih hr;refine⟨aD.append bD,fun o bn=>?_⟩
    rcases List.mem_append.1 bn with h|h
    ·exact az o h
    ·exact cQ o h
   ·cases h
  ·cases h
theorem acm{l gg:aE}{gs us:List (Nat×Site)}{bs:List Nat}(h:ow st l=some (gg,gs,us,bs)):dE st.sites us/\∀o,o∈bs->cd st.sites o:=by
 unfold ow at h;split at h
 ·split at h
  ·cases h;exact⟨.nil,fun o h=>by simp at h⟩
  ·cases h
 ·cases h;exact⟨.nil,fun o h=>by simp at h⟩
 ·split at h
  ·rename_i hl;cases h;exact Fs hl
  ·cases h
theorem aar:∀{cw:List aJ} {a:jX},lA st cw=some a->dE st.sites a.eK/\∀o,o∈a.fI->cd st.sites o:=by
 intro cw;induction cw with
 |nil=>intro a h;simp only[lA] at h;cases h;exact⟨.nil,fun o h=>by simp at h⟩
 |cons qU cw ih=>
  intro a h;unfold lA at h;split at h
  ·cases ‹qU::cw=[]›
  ·rename_i bZ;cases bZ;split at h
   ·rename_i h1 hr;cases h;obtain⟨aD,az⟩:=acm h1;obtain⟨bD,cQ⟩:=ih hr;refine⟨aD.append bD,fun o bn=>?_⟩
    rcases List.mem_append.1 bn with h|h
    ·exact az o h
    ·exact cQ o h
   ·cases h
  ·cases h
theorem aap{b:Bool}{cw:List aJ}{a:jX}(h:rJ b st cw=some a):dE st.sites a.eK/\∀o,o∈a.fI->cd st.sites o:=by
 cases b
 ·exact ab2 h
 ·exact aar h
theorem ahI(S:am O Y X D st M w)(C:Ctx):∀(xs:List Operand) (cR:List TypeId),(ga C st xs cR).length=(xs.map (Act.eval ⟨M,[]⟩)).length/\
  ∀i (h:i<(ga C st xs cR).length) (af:i<(xs.map (Act.eval ⟨M,[]⟩)).length),b_ D st.sites w (aw X D st.sites) ((ga C st xs cR)[i]) ((xs.map (Act.eval ⟨M,[]⟩))[i]):=by
 intro xs;induction xs with
 |nil=>intro cR;cases cR<;>exact⟨rfl,fun i h=>by simp[ga] at h⟩
 |cons x xs ih=>
  intro cR;have key:∀(T:TypeId) (JR:List TypeId),ga C st (x::xs) cR=aX C st T x::ga C st xs JR->(ga C st (x::xs) cR).length=((x::xs).map (Act.eval ⟨M,[]⟩)).length/\
    ∀i (h:i<(ga C st (x::xs) cR).length) (af:i<((x::xs).map (Act.eval ⟨M,[]⟩)).length),b_ D st.sites w (aw X D st.sites) ((ga C st (x::xs) cR)[i]) (((x::xs).map (Act.eval ⟨M,[]⟩))[i]):=by
   intro T JR e;obtain⟨aD,az⟩:=ih JR;refine⟨by rw[e];simp[aD],fun i h af=>?_⟩
   simp only[e];cases i with
   |zero=>exact du S C T x
   |succ i=>
    simp only[List.getElem_cons_succ,List.map_cons];exact az i (by simpa[e] using h) (by simpa using af)
  cases cR with
  |nil=>exact key 0 [] rfl
  |cons T cR=>exact key T cR rfl
theorem abg(S:am O Y X D st M w){g ct:FuncId}(ey:zt P g ct){n:Nat}{cw:List aJ}{vs:List Value}(hl:cw.length=vs.length)
  (hv:∀i (h:i<cw.length) (af:i<vs.length),b_ D st.sites w (aw X D st.sites) (cw[i]) (vs[i])) (Z:ce st B.dst=true) (di:(execOp (Act.eval ⟨M,[]⟩) B).run P w=(callFunc g vs.toArray).run P w):
  Holds (rX ct n st cw) (cD P O Y X st M w B):=by
 unfold rX;split
 ·rename_i s p;refine Holds.fs ?_
  intro K Q bM;match vs,hl,hv,di with
  |[qR,vb],_,hv,di=>
  obtain⟨a,ha,fa⟩:=gm (hv 0 (by simp) (by simp))
  obtain⟨b,hb,dP⟩:=gm (hv 1 (by simp) (by simp))
  simp only[List.getElem_cons_zero,List.getElem_cons_succ] at ha hb;subst ha hb;have core:∀v w',(∃c7 ep,v=.func (.func ct) #[] #[.pointer (some ⟨w.heap.size+1,0,none⟩),.pointer (some ⟨w.heap.size,0,none⟩),.pointer (some ⟨w.heap.size+2,0,none⟩)]/\
    w'=((w.alloc (.cells #[.string a] c7)).alloc (.cells #[.string b] c7)).alloc (.cells #[.int .i64 0] ep))->K ⟨cv M B.dst v,[]⟩ w':=by
   rintro v w' ⟨c7,ep,rfl,hw⟩;have hsz:w'.heap.size=w.heap.size+3:=by rw[hw];simp
   have hold:∀b,b<w.heap.size->w'.heap[b]? =w.heap[b]? :=fun b hb=>by
    rw[hw];rw[RowKit.Below.heap_alloc _ _ _ (by simp;omega),RowKit.Below.heap_alloc _ _ _ (by simp;omega),RowKit.Below.heap_alloc _ _ _ hb]
   have h0:w'.heap[w.heap.size]? =some (.cells #[.string a] c7):=by
    rw[hw,RowKit.Below.heap_alloc _ _ _ (by simp only[World.size_alloc];omega),RowKit.Below.heap_alloc _ _ _ (by simp only[World.size_alloc];omega)];exact World.alloc_heap_new w _
   have h1:w'.heap[w.heap.size+1]? =some (.cells #[.string b] c7):=by
    rw[hw,RowKit.Below.heap_alloc _ _ _ (by simp only[World.size_alloc];omega)]
    have:=World.alloc_heap_new (w.alloc (.cells #[.string a] c7)) (.cells #[.string b] c7);rwa[World.size_alloc] at this
   have h2:w'.heap[w.heap.size+2]? =some (.cells #[.int .i64 0] ep):=by
    rw[hw];have:=World.alloc_heap_new ((w.alloc (.cells #[.string a] c7)).alloc (.cells #[.string b] c7)) (.cells #[.int .i64 0] ep);rwa[World.size_alloc,World.size_alloc] at this
   have Jt:Fr Y O w':=⟨by rw[hw];exact S.frame.os,by rw[hw];exact S.frame.tape,by rw[hw];exact S.frame.output,by have:=S.frame.size;omega,fun b hb hn=>by
    have:=S.frame.size;rw[hold b (by omega)];exact S.frame.block b hb hn⟩
   have oD:=S.frame.size;have dm:=S.jump (w':=w') (fun b _ hb=>hold b hb) (by omega) Jt
   have mk:∀{D:Nat->Value} {sites:List (Nat×Site)} {av:Nat->Prop} {m k:Nat} {T:TypeId} {x:Value} {d:aZ},D m=.pointer (some ⟨k,0,none⟩)->w'.heap[k]? =some (.cells #[x] T)->bA w' av d x->
     jN D sites w' av m (.box (bl st m) [.d d]):=by
    intro D sites av m k T x d e1 e2 bz;refine⟨k,T,[x],e1,e2,rfl,fun u hu=>?_,(fun h=>by cases h),fun j h af=>?_⟩
    ·rw[List.mem_singleton.1 hu];exact bz.jl
    ·match j,h,af with
     |0,_,_=>exact bz
   obtain⟨KU,_,_⟩:=dm.u3 (X':=fun b=>(X b\/(w.heap.size<=b/\b<w'.heap.size))/\b≠w.heap.size+1) (n:=n) (bT:=.box (bl st n) [.d (.str p)]) (nv:=.pointer (some ⟨w.heap.size+1,0,none⟩)) (fun b h=>h.1)
    (.inl fun ab h=>ls h) (fun b h=>by simp only[bG,Option.some.injEq] at h;subst h;exact⟨.inr ⟨by omega,by omega⟩,fun h=>h.2 rfl,.inr (by omega)⟩) (fun _ e _ _=>mk e h1 (.str _ _ dP))
   obtain⟨KT,_,_⟩:=KU.u3 (X':=fun b=>((X b\/(w.heap.size<=b/\b<w'.heap.size))/\b≠w.heap.size+1)/\b≠w.heap.size) (n:=n+1) (bT:=.box (bl st (n+1)) [.d (.str s)]) (nv:=.pointer (some ⟨w.heap.size,0,none⟩)) (fun b h=>h.1)
    (.inl fun ab h=>by
     have h:look (ci st.sites n _) (n+1)=some ab:=h;rw[cV,if_neg (by omega)] at h
     exact ls h) (fun b h=>by simp only[bG,Option.some.injEq] at h;subst h;exact⟨⟨.inr ⟨by omega,by omega⟩,by omega⟩,fun h=>h.2 rfl,.inr (by omega)⟩) (fun _ e _ _=>mk e h0 (.str _ _ fa))
   obtain⟨KS,_,_⟩:=KT.u3 (X':=X) (n:=n+2) (bT:=.box (bl st (n+2)) [.d (.int .i64 0)]) (nv:=.pointer (some ⟨w.heap.size+2,0,none⟩)) (fun b h=>by have:=S.old b h;exact⟨⟨.inl h,by omega⟩,by omega⟩)
    (.inl fun ab h=>by
     have h:look (ci (ci st.sites n _) (n+1) _) (n+2)=some ab:=h;rw[cV,if_neg (by omega),cV,if_neg (by omega)] at h
     exact ls h) (fun b h=>by simp only[bG,Option.some.injEq] at h;subst h;exact⟨⟨⟨.inr ⟨by omega,by omega⟩,by omega⟩,by omega⟩,fun h=>by have:=S.old _ h;omega,.inr (by omega)⟩) (fun _ e _ _=>mk e h2 (.int _ _))
   refine bM _ _ w' (am.cP (us:=[(n,.box (bl st n) [.d (.str p)]),(n+1,.box (bl st (n+1)) [.d (.str s)]),(n+2,.box (bl st (n+2)) [.d (.int .i64 0)])]) KS Z (v:=bX (.clo ct _)) ?_);refine⟨[.pointer (some ⟨w.heap.size+1,0,none⟩),.pointer (some ⟨w.heap.size,0,none⟩),.pointer (some ⟨w.heap.size+2,0,none⟩)],rfl,rfl,fun i hi j1=>?_⟩
   match i,hi,j1 with
   |0,_,_=>exact⟨.box (bl st n) [.d (.str p)],by simp[bj,cV],Nat.le_refl _,fun _=>by simp⟩
   |1,_,_=>exact⟨.box (bl st (n+1)) [.d (.str s)],by simp[bj,cV],Nat.le_refl _,fun _=>by simp⟩
   |2,_,_=>exact⟨.box (bl st (n+2)) [.d (.int .i64 0)],by simp[bj,cV],Nat.le_refl _,fun _=>by simp⟩
  rcases ey a b w with⟨h1,h2⟩|⟨v,w',h1,h2⟩
  ·unfold Oper.wp;rw[di,h1,Oper.upon_enter];refine h2.mono fun e w' he=>?_
   cases e with
   |returned v=>
    have:=core v w' he;cases dv:B.dst with
    |none=>rw[dv] at this;simpa[Act.put,cv] using this
    |some t=>rw[dv] at this;simpa[Act.put,cv] using this
   |panicked c=>exact he.elim
   |outgrown=>exact he.elim
  ·exact oo (di.trans h1) (core v w' h2)
 ·exact .fail
theorem adN(S:am O Y X D st M w){g:FuncId}(ey:Ar P g){n:Nat}{cw:List aJ}{vs:List Value}(hl:cw.length=vs.length)
  (hv:∀i (h:i<cw.length) (af:i<vs.length),b_ D st.sites w (aw X D st.sites) (cw[i]) (vs[i])) (Z:ce st B.dst=true) (di:(execOp (Act.eval ⟨M,[]⟩) B).run P w=(callFunc g vs.toArray).run P w):
  Holds (so n st cw) (cD P O Y X st M w B):=by
 unfold so;split
 ·rename_i xs;refine Holds.fs ?_
  intro K Q bM;match vs,hl,hv,di with
  |[qR],_,hv,di=>
  have dH:bA w (aw X D st.sites) (.sl .u8 xs) qR:=hv 0 (by simp) (by simp)
  have core:∀v w',(∃u T,bA w (aw X D st.sites) (.sl .u8 (xs.take 2000)) u/\v=.pointer (some ⟨w.heap.size,0,none⟩)/\w'=w.alloc (.cells #[u,.int .i64 0] T))->K ⟨cv M B.dst v,[]⟩ w':=by
   rintro v w' ⟨u,T,hu,rfl,hw⟩;have hsz:w'.heap.size=w.heap.size+1:=by rw[hw];simp
   have hold:∀b,b<w.heap.size->w'.heap[b]? =w.heap[b]? :=fun b hb=>by
    rw[hw,RowKit.Below.heap_alloc _ _ _ hb]
   have h0:w'.heap[w.heap.size]? =some (.cells #[u,.int .i64 0] T):=by rw[hw];exact World.alloc_heap_new w _
   have Jt:Fr Y O w':=⟨by rw[hw];exact S.frame.os,by rw[hw];exact S.frame.tape,by rw[hw];exact S.frame.output,by have:=S.frame.size;omega,fun b hb hn=>by
    have:=S.frame.size;rw[hold b (by omega)];exact S.frame.block b hb hn⟩
   have oD:=S.frame.size;have dm:=S.jump (w':=w') (fun b _ hb=>hold b hb) (by omega) Jt
   have gh:∀b,X b->b<w.heap.size:=S.old;have ak0:∀b,aw (fun b=>X b\/(w.heap.size<=b/\b<w'.heap.size)) D st.sites b->b<w'.heap.size:=fun b hb=>dm.lt hb
   have I5:b_ D st.sites w' (aw (fun b=>X b\/(w.heap.size<=b/\b<w'.heap.size)) D st.sites) (one (.sl .u8 (xs.take 2000))) u:=by
    have G:hX D D st.sites st.sites w w' (aw X D st.sites) (aw (fun b=>X b\/(w.heap.size<=b/\b<w'.heap.size)) D st.sites):=
     ⟨fun aa s h=>⟨s,h,Nat.le_refl _,fun _=>rfl⟩,fun b _ dP=>hold b dP,fun b hb dP af=>by
      rcases af with(af|af)|af
      ·exact hb (.inl af)
      ·omega
      ·exact hb (.inr af)⟩
    exact b_.goes (a:=one (.sl .u8 (xs.take 2000))) G (by omega) ak0 hu
   obtain⟨KU,ati,att⟩:=dm.u3 (X':=X) (n:=n) (bT:=.box (bl st n) [.d (.sl .u8 (xs.take 2000)),.d (.int .i64 0)]) (nv:=.pointer (some ⟨w.heap.size,0,none⟩)) (fun b h=>.inl h)
    (.inl fun ab h=>ls h) (fun b h=>by simp only[bG,Option.some.injEq] at h;subst h;exact⟨.inr ⟨by omega,by omega⟩,fun h=>by have:=gh _ h;omega,.inr (by omega)⟩) (fun hs e go _=>by
     have I4:=go I5;refine⟨w.heap.size,T,[u,.int .i64 0],e,h0,rfl,fun x hx=>?_,(fun h=>by cases h),fun j h af=>?_⟩
     ·rcases List.mem_cons.1 hx with rfl|hx
      ·exact bA.jl hu
      ·rw[List.mem_singleton.1 hx];rfl
     ·match j,h,af with
      |0,_,_=>exact I4
      |1,_,_=>exact bA.int .i64 0)
   refine bM _ _ w' (am.cP (us:=[(n,.box (bl st n) [.d (.sl .u8 (xs.take 2000)),.d (.int .i64 0)])]) KU Z (v:=bX (.ptr n (bl st n) 0)) ?_);exact⟨w.heap.size,rfl,.box (bl st n) [.d (.sl .u8 (xs.take 2000)),.d (.int .i64 0)],by simp[bj,cV],Nat.le_refl _,fun _=>by simp⟩
  rcases ey xs qR w _ dH with⟨h1,h2⟩|⟨v,w',h1,h2⟩
  ·unfold Oper.wp;rw[di,h1,Oper.upon_enter];refine h2.mono fun e w' he=>?_
   cases e with
   |returned v=>
    have:=core v w' he;cases dv:B.dst with
    |none=>rw[dv] at this;simpa[Act.put,cv] using this
    |some t=>rw[dv] at this;simpa[Act.put,cv] using this
   |panicked c=>exact he.elim
   |outgrown=>exact he.elim
  ·exact oo (di.trans h1) (core v w' h2)
 ·exact .fail
theorem LJ(S:am O Y X D st M w){C:Ctx}(H:a7 P C){c:Go.Call}{f:Operand}(aC:B.op=.call c)(hf:c.callee=.value f)(Z:ce st B.dst=true)(d:Nat)(T:TypeId):
  Holds (lz C d st (aX C st T f) (ga C st c.args.toList c.argTypes.toList)) (cD P O Y X st M w B):=by
 have bq:=du S C T f;obtain⟨e1,e2⟩:=ahI S C c.args.toList c.argTypes.toList;have run:∀{g:FuncId} {eY:List Value},Act.eval ⟨M,[]⟩ f=.func (.func g) #[] eY.toArray->
   (execOp (Act.eval ⟨M,[]⟩) B).run P w=(callFunc g (c.args.toList.map (Act.eval ⟨M,[]⟩)++eY).toArray).run P w:=by
  intro g eY hv;have wK:(#[]++c.args.map (Act.eval ⟨M,[]⟩))++eY.toArray=(c.args.toList.map (Act.eval ⟨M,[]⟩)++eY).toArray:=by apply Array.ext';simp
  unfold execOp;simp only[aC,resolve,hf,hv,Deferred.ofValue,Sem.run_bind,Sem.run_pure,Result.andThen_ok,invoke,wK]
 have go:∀{g:FuncId} {aq:aH} {a:jX} {cs:List (List aZ)} {us:List (Nat×Site)} {bs:List Nat} {eY:List Value} {gb:Bool},C.bK g=some aq->rJ gb st (ga C st c.args.toList c.argTypes.toList)=some a->
   Act.eval ⟨M,[]⟩ f=.func (.func g) #[] eY.toArray->(dE st.sites us/\∀o,o∈bs->cd st.sites o)->
   (∀{da eT av},fq O Y X D st M w da eT av->(∀p,p∈us->p∈da)->(∀o,o∈bs->o∈eT)->ka w av cs eY)->
   Holds (oG d st aq {a with as:=a.as++nl cs,eK:=a.eK++us,fI:=a.fI++bs}) (cD P O Y X st M w B):=by
  intro g aq a cs us bs eY gb hg ha hv hz hcap;obtain⟨fD,z2⟩:=aap ha;have hfz:dE st.sites (a.eK++us):=fD.append hz.1;have BV:fq O Y X D st M w (a.eK++us) (a.fI++bs) (fun _=>False):=⟨⟨S,hfz⟩,fun b h=>h.elim,fun _ _ _ _ h=>h⟩
  obtain⟨m1,m2,m3,m4⟩:=L2 BV ha e1 e2 (fun p hp=>List.mem_append.2 (.inl hp)) (fun p hp=>List.mem_append.2 (.inl hp))
  refine aep (a:={a with as:=a.as++nl cs,eK:=a.eK++us,fI:=a.fI++bs}) S (H.bK g aq hg) (vs:=c.args.toList.map (Act.eval ⟨M,[]⟩)++eY) ⟨hfz,fun o bn=>?_,m2,fun av dW=>?_,?_,m4⟩ Z (run hv)
  ·rcases List.mem_append.1 bn with h|h
   ·exact z2 o h
   ·exact hz.2 o h
  ·obtain⟨n1,_,_,_⟩:=L2 dW ha e1 e2 (fun p hp=>List.mem_append.2 (.inl hp)) (fun p hp=>List.mem_append.2 (.inl hp))
   have n2:=aaI (hcap dW (fun p hp=>List.mem_append.2 (.inr hp)) (fun p hp=>List.mem_append.2 (.inr hp)))
   have:=n1.append n2;rwa[List.append_nil] at this
  ·show dK (a.as++nl cs) _=_;rw[Lc m1.length,m3,aaK,List.append_nil]
 unfold lz;split
 ·rename_i g bw Ju;rw[Ju] at bq;obtain⟨eY,h1,h2,h3⟩:=bq;split
  ·rename_i ct kq;split
   ·have hcv:eY=[]:=List.eq_nil_of_length_eq_zero (by simpa using h2)
    subst hcv;have r:=run h1;rw[List.append_nil] at r;exact abg S (H.lk g ct kq) e1 e2 Z r
   ·exact .fail
  ·cases Jd:C.op g with
   |true=>
    simp only[cond_true];split
    ·have hcv:eY=[]:=List.eq_nil_of_length_eq_zero (by simpa using h2)
     subst hcv;have r:=run h1;rw[List.append_nil] at r;exact adN S (H.op g Jd) e1 e2 Z r
    ·exact .fail
   |false=>
    simp only[cond_false];have Ri:bw=[]->(execOp (Act.eval ⟨M,[]⟩) B).run P w=(callFunc g (c.args.toList.map (Act.eval ⟨M,[]⟩)).toArray).run P w:=by
     rintro rfl;have hcv:eY=[]:=List.eq_nil_of_length_eq_zero (by simpa using h2)
     subst hcv;have r:=run h1;rwa[List.append_nil] at r
    cases W_:C.j5 g with
    |true=>
     simp only[cond_true];split
     ·exact aem S (H.j5 g W_) e1 e2 Z (Ri rfl)
     ·exact .fail
    |false=>
     simp only[cond_false];cases en:C.bs g with
     |true=>
      simp only[cond_true];split
      ·exact _4 S (H.bs g en) e1 e2 Z (Ri rfl)
      ·exact .fail
     |false=>
      simp only[cond_false];split
      ·rename_i aq a cs us bs hg ha hc;exact go hg ha h1 (Ng hc) (fun dW hu hb=>Nf dW hc hu hb h2 h3)
      ·exact .fail
 ·rename_i g bw Ju;rw[Ju] at bq;obtain⟨eY,h1,_⟩:=ka.Rf bq;split
  ·rename_i aq a hg ha;have:=go (us:=[]) (bs:=[]) (cs:=bw) (gb:=false) hg ha h1 ⟨.nil,fun o h=>by simp at h⟩ (fun {da eT av} dW _ _=>by
    obtain⟨as6,aD,az⟩:=ka.Rf (dW.vH (bq:bA w (aw X D st.sites) (.fn g bw) _));rw[h1] at aD;simp only[Value.func.injEq,Fn.func.injEq,true_and] at aD;have e:=congrArg Array.toList aD;simp only at e;rw[e];exact az)
   simpa only[List.append_nil] using this
  ·exact .fail
 ·exact .fail
theorem aeO(S:am O Y X D st M w){C:Ctx}(H:a7 P C)(Z:ce st B.dst=true):Holds (step C st B) (cD P O Y X st M w B):=by
 unfold step;split
 ·rename_i x aC;exact Holds.ok (Pd S (.inl aC) Z _)
 ·rename_i x aC;exact Holds.ok (Pd S (.inr aC) Z _)
 ·rename_i c a b aC;split
  ·rename_i hc;exact Holds.ok (O8 S aC Z hc)
  ·rename_i hc;exact Holds.ok (O8 S aC Z hc)
  ·exact .fail
 ·rename_i elem aC;split
  ·rename_i o e t n dv be;exact acD S H.toCtxOk be aC Z
  ·rename_i o dv _;split
   ·rename_i z hz;exact Holds.fs (aex S H.toCtxOk aC dv hz Z)
   ·exact .fail
  ·exact .fail
 ·rename_i elem x aC;split
  ·rename_i o e t n dv be;exact agh S H.toCtxOk be aC Z
  ·rename_i o dv _;split
   ·rename_i a ha;cases dG:gW a.cells with
    |false=>exact .fail
    |true=>
     have bq:=du S C elem x;rw[pq ha] at bq;exact Holds.fs (ahO S aC dv bq dG Z)
   ·exact .fail
  ·exact .fail
 ·rename_i t parts aC;split
  ·rename_i bK n z eq be;exact aeq S H.toCtxOk be aC Z
  ·rename_i e ty n be;split
   ·rename_i z hz;exact acA S H.toCtxOk be hz aC Z
   ·exact .fail
  ·exact .fail
 ·rename_i t len parts aC;split
  ·rename_i o e ty bytes dv be;cases hb:(parts.toList.length.beq len&&rL 0 parts.toList&&Nat.ble (len*aT ty) 1000) with
   |false=>exact .fail
   |true=>
    simp only[Bool.and_eq_true] at hb;obtain⟨⟨b1,b2⟩,b3⟩:=hb;simp only[cond_true];split
    ·rename_i as has;split
     ·rename_i xs us jV;exact Holds.fs (Zn S H.toCtxOk be aC dv Z (Nat.eq_of_beq_eq_true b1) b2 (Nat.le_of_ble_eq_true b3) has jV)
     ·exact .fail
    ·exact .fail
  ·exact .fail
 ·rename_i t a aC;split
  ·rename_i e ty n be;exact adT S H.toCtxOk be aC Z
  ·cases hk:(C.tt t).known with
   |false=>exact .fail
   |true=>exact afQ S H.toCtxOk aC Z hk
 ·rename_i t a x aC;split
  ·rename_i v hv;split
   ·rename_i e ty n be;exact abe S H.toCtxOk be aC Z hv
   ·cases hk:(C.tt t).known with
    |false=>exact .fail
    |true=>exact ac2 S H.toCtxOk aC Z hk hv
  ·exact .fail
 ·rename_i x aC;split
  ·rename_i hx;exact Holds.ok (CG S aC Z hx fun vv h=>by obtain⟨b,h,_⟩:=h;exact⟨_,h⟩)
  ·rename_i hx;exact Holds.ok (CG S aC Z hx fun vv h=>by obtain⟨b,B,h,_⟩:=h;exact⟨_,h⟩)
  ·rename_i hx;exact Holds.ok (CG S aC Z hx fun vv h=>by obtain⟨b,h,_⟩:=h;exact⟨_,h⟩)
  ·exact .fail
 ·rename_i op t x y mP aC;cases hn:zX y with
  |true=>exact acq S H.toCtxOk aC Z hn
  |false=>exact agk S H.toCtxOk aC Z
 ·rename_i op t x aC;split
  ·rename_i b hx;exact Holds.ok (Z9 S aC Z hx)
  ·rename_i k n hx;exact Holds.ok (Z_ S aC Z hx)
  ·rename_i k n hx;exact Holds.ok (Z8 (T:=B.type) S aC Z hx)
  ·exact .fail
 ·rename_i src dst x aC;split
  ·rename_i o dv;exact aen S H.toCtxOk aC dv Z
  ·exact .fail
 ·rename_i fn first captured aC
  split
  ·rename_i g;cases hf:first.toList.isEmpty with
   |false=>exact .fail
   |true=>
    simp only[cond_true];split
    ·rename_i bw hc;exact Holds.ok (_u S aC Z hf hc)
    ·exact .fail
  ·exact .fail
 ·rename_i t l c aC;split
  ·rename_i o e ty bytes wD n wE m dv be hl hc;split
   ·rename_i z hz;split
    ·rename_i ds us gv;split
     ·rename_i eO mG;exact Holds.hq fun r hr=>ZK S H.toCtxOk be aC dv Z hl hc hz gv mG r hr
     ·exact .fail
    ·exact .fail
   ·exact .fail
  ·exact .fail
 ·rename_i t x cO hi Ce aC;split
  ·split
   ·rename_i e ty n be;exact abi S H.toCtxOk be aC Z
   ·exact ac7 S H.toCtxOk aC Z
  ·exact .fail
 ·rename_i s x f aC;split
  ·rename_i bK n z eq be;split
   ·rename_i off Kd hf;exact ZW S H.toCtxOk be aC Z hf
   ·exact .fail
  ·exact .fail
 ·rename_i t x i aC;split
  ·rename_i e ty bytes k n be hi;exact ZS S H.toCtxOk be hi aC Z
  ·rename_i e ty m k n be hi;exact Zj S H.toCtxOk be hi aC Z
  ·exact .fail
 ·rename_i t x i aC;split
  ·rename_i s k n be hx hi;exact ad2 S H.toCtxOk aC Z be hx hi
  ·rename_i e ty m k n be hi;exact aci S H.toCtxOk be hi aC Z
  ·exact .fail
 ·rename_i t i aC;split
  ·rename_i as hx;split
   ·rename_i a ha;exact Holds.ok (aaz S aC Z hx ha)
   ·exact .fail
  ·exact .fail
 ·rename_i c aC;split
  ·rename_i f hf;split
   ·exact LJ S H aC hf Z _ _
   ·exact LJ S H aC hf Z _ _
  ·rename_i b hb;obtain⟨callee,args,argTypes⟩:=c;simp only at hb aC ⊢;subst hb;split
   ·rename_i x t nx HK;have e1:args=#[x]:=Array.ext' nx;have e2:argTypes=#[t]:=Array.ext' HK;subst e1 e2;exact aht S H.toCtxOk aC Z
   ·rename_i o s x t u dv nx HK;have e1:args=#[s,x]:=Array.ext' nx;have e2:argTypes=#[t,u]:=Array.ext' HK;subst e1 e2;split
    ·rename_i be gx;exact acC S H.toCtxOk be gx aC dv Z
    ·rename_i be gx;exact aaO S H.toCtxOk be gx aC dv Z
    ·exact .fail
   ·rename_i x y nx;have e1:args=#[x,y]:=Array.ext' nx;subst e1;split
    ·rename_i hx hy;exact Holds.ok (MX (sv:=true) S aC Z hx hy)
    ·exact .fail
   ·rename_i x y z u v nx;have e1:args=#[x,y,z,u,v]:=Array.ext' nx;subst e1;split
    ·rename_i hx hy hz hu hv;exact Holds.ok (afO S aC Z hx hy hz hu hv)
    ·exact .fail
   ·rename_i x y nx;have e1:args=#[x,y]:=Array.ext' nx;subst e1;split
    ·rename_i hx hy;exact Holds.ok (MX (sv:=false) S aC Z hx hy)
    ·exact .fail
   ·exact .fail
  ·exact .fail
 ·exact aas S H.toCtxOk Z
end
section
variable {st al:ah}
theorem me{o:Nat}(h:st.ab o=al.ab o)(s:Nat):rowOf st o s=rowOf al o s:=by unfold rowOf;rw[h]
theorem tL{o:Nat}(h:st.ab o=al.ab o)(s:Nat):fy st o s=fy al o s:=by unfold fy;rw[h]
theorem mc{o:Nat}(h:st.ab o=al.ab o):bl st o=bl al o:=by unfold bl;rw[h]
abbrev cA(st al:ah)(N:List Nat):Prop:=∀o,o∈N->st.ab o=al.ab o
theorem cA.left{N e4:List Nat}(h:cA st al (N++e4)):cA st al N:=fun o bn=>h o (List.mem_append.2 (.inl bn))
theorem cA.right{N e4:List Nat}(h:cA st al (N++e4)):cA st al e4:=fun o bn=>h o (List.mem_append.2 (.inr bn))
theorem cA.head{n:Nat}{e4:List Nat}(h:cA st al (n::e4)):st.ab n=al.ab n:=h n List.mem_cons_self
theorem cA.tail{n:Nat}{e4:List Nat}(h:cA st al (n::e4)):cA st al e4:=fun o bn=>h o (List.mem_cons_of_mem _ bn)
theorem rs{N:List Nat}(h:cA st al (eQ st N)):cA st al N:=by
 induction N with
 |nil=>intro o bn;cases bn
 |cons n N ih=>
  intro o bn;rcases List.mem_cons.1 bn with rfl|bn
  ·exact h.head
  ·exact ih h.tail.right o bn
theorem Oc{N:List Nat}(h:cA st al (eQ st N)){o:Nat}(bn:o∈N):cA st al (xo st o):=by
 induction N with
 |nil=>cases bn
 |cons n N ih=>
  rcases List.mem_cons.1 bn with rfl|bn
  ·exact h.tail.left
  ·exact ih h.tail.right bn
theorem DG{N e4:List Nat}:eQ st (N++e4)=eQ st N++eQ st e4:=by
 induction N with
 |nil=>rfl
 |cons n N ih=>simp[eQ,ih]
theorem Nd{l:aE}(h:cA st al l.names):jC st l=jC al l:=by
 cases l<;>try rfl
 case own o s=>simp only[jC,lS];rw[me (h.head) s,h.head]
 case clo g bw=>cases bw<;>rfl
theorem xf{ad:List aE}(h:cA st al (dy ad)):fL st ad=fL al ad:=by
 induction ad with
 |nil=>rfl
 |cons l ad ih=>
  simp only[dy] at h;simp only[fL,Nd h.left,ih h.right]
theorem CL{o s:Nat}{cells:List aE}(h:fy st o s=some cells):xo st o=dy cells:=by
 unfold fy at h;cases hs:st.ab o with
 |none=>rw[hs] at h;cases h
 |some x=>
  rw[hs] at h;cases x with
  |box aG cs=>
   have h:(bif aG.beq s then some cs else none)=some cells:=h
   unfold xo;rw[hs];cases hb:aG.beq s with
   |true=>simp only[hb,cond_true,Option.some.injEq] at h;subst h;rfl
   |false=>simp[hb] at h
  |row _ _ _=>cases h
  |db _ _ _=>cases h
  |map _ _ _=>cases h
  |dead _=>cases h
theorem _v{agg:Bool}{n:Nat}{a:aJ}(h:cA st al a.names):sr agg n st a=sr agg n al a:=by
 unfold sr;split
 ·rename_i o s off;rw[tL (show st.ab o=al.ab o from h o (by simp[aJ.names,bL.cells,dy,aE.names]))]
 ·rfl
 ·rename_i o s u k off;rw[me (show st.ab o=al.ab o from h o (by simp[aJ.names,bL.cells,dy,aE.names]))]
 ·rfl
theorem Zz{n:Nat}{a:aJ}{v:bL}(h:cA st al a.names)(hv:cA st al (dy v.cells)):rV n st a v=rV n al a v:=by
 unfold rV;congr 1
 split
 ·rename_i o s off;rw[tL (show st.ab o=al.ab o from h o (by simp[aJ.names,bL.cells,dy,aE.names]))]
 ·rename_i o s u k off;rw[show st.ab o=al.ab o from h o (by simp[aJ.names,bL.cells,dy,aE.names]),xf hv]
 ·rfl
theorem YQ{u:aY}{x:aJ}{i:Int}(h:cA st al x.names):rf u st x i=rf u al x i:=by
 unfold rf;split
 ·rfl
 ·rename_i o s;rw[me (show st.ab o=al.ab o from h o (by simp[aJ.names,bL.cells,dy,aE.names]))]
 ·rfl
theorem ZC{ti:b8}{x:aJ}{cO hi:Option aJ}(h:cA st al x.names):rY ti st x cO hi=rY ti al x cO hi:=by
 unfold rY;split
 ·rfl
 ·rfl
 ·rfl
 ·rename_i o s;simp only[lS];rw[me (show st.ab o=al.ab o from h o (by simp[aJ.names,bL.cells,dy,aE.names])),show st.ab o=al.ab o from h o (by simp[aJ.names,bL.cells,dy,aE.names])]
 ·rfl
theorem Ly{l:aE}(h:cA st al l.names):mapOf st l=mapOf al l:=by
 cases l<;>try rfl
 case own o s=>simp only[mapOf];rw[h.head]
 case d v=>cases v<;>rfl
theorem aau{ti:b8}{x:aJ}(h:cA st al x.names):sI ti st x=sI ti al x:=by
 unfold sI;split<;>try rfl
 rotate_left
 ·rename_i l;rw[Ly (l:=l) (fun o bn=>h o (by simp[aJ.names,bL.cells,dy,bn]))]
 rename_i o s;rw[me (show st.ab o=al.ab o from h o (by simp[aJ.names,bL.cells,dy,aE.names]))]
theorem _c{x:aJ}(h:cA st al x.names):sj st x=sj al x:=by
 unfold sj;split<;>try rfl
 rename_i o s;rw[me (show st.ab o=al.ab o from h o (by simp[aJ.names,bL.cells,dy,aE.names]))]
theorem YL{o dst s:Nat}(Z:st.ab dst=al.ab dst):bl (st.h_ o (.dead s)) dst=bl (al.h_ o (.dead s)) dst:=by
 apply mc;rw[ah.wU,ah.wU,Z]
theorem K2{bytes:Nat}{t:aY}{dst:Nat}{s:aJ}{bd:List (den t)}(h:cA st al s.names)(Z:st.ab dst=al.ab dst):pS bytes t dst st s bd=pS bytes t dst al s bd:=by
 unfold pS;split
 ·simp only[mc Z]
 ·rename_i o s;simp only[show st.ab o=al.ab o from h o (by simp[aJ.names,bL.cells,dy,aE.names]),YL Z]
 ·rfl
theorem Zo{bytes:Nat}{t:aY}{dst:Nat}{s x:aJ}(h:cA st al s.names)(hx:cA st al x.names)(Z:st.ab dst=al.ab dst):rT bytes t dst st s x=rT bytes t dst al s x:=by
 unfold rT;rw[_c hx];split
 ·rfl
 ·split
  ·split
   ·exact K2 h Z
   ·rfl
  ·rfl
theorem Zp{bytes:Nat}{t:aY}{dst:Nat}{s x:aJ}(h:cA st al s.names)(Z:st.ab dst=al.ab dst):rU bytes t dst st s x=rU bytes t dst al s x:=by
 unfold rU;split
 ·split
  ·exact K2 h Z
  ·rfl
 ·rfl
theorem L1{o:Nat}{t:aY}{n:Nat}{xs:List (den t)}(Z:st.ab o=al.ab o):qd o st t n xs=qd o al t n xs:=by
 unfold qd;rw[mc Z]
theorem ZZ{o:Nat}{t:aY}{n:Nat}(Z:st.ab o=al.ab o):sg o st t n=sg o al t n:=by
 unfold sg;split<;>first|exact L1 Z|rfl
theorem aaL{o:Nat}{t:aY}{n:Nat}{v:aJ}(Z:st.ab o=al.ab o):sR o st t n v=sR o al t n v:=by
 unfold sR;split
 ·split<;>first|exact L1 Z|rfl
 ·rfl
theorem _w{t:aY}{n:Nat}{a:aJ}(h:cA st al a.names):ss st t n a=ss al t n a:=by
 unfold ss;split
 ·rename_i o s u;rw[me (show st.ab o=al.ab o from h o (by simp[aJ.names,bL.cells,dy,aE.names]))]
 ·rfl
theorem ZA{t:aY}{n:Nat}{a:aJ}{v:bL}(h:cA st al a.names):rW st t n a v=rW al t n a v:=by
 unfold rW;split
 ·rename_i o s u ad;rw[show st.ab o=al.ab o from h o (by simp[aJ.names,bL.cells,dy,aE.names])]
 ·rfl
theorem YR{C:Ctx}{t:aY}{n:Nat}{x:aJ}{i:Int}(h:cA st al x.names):rh C st t n x i=rh C al t n x i:=by
 unfold rh;split
 ·rename_i o s u;rw[me (show st.ab o=al.ab o from h o (by simp[aJ.names,bL.cells,dy,aE.names]))]
 ·rfl
 ·rfl
theorem ZD{t:aY}{n:Nat}{x:aJ}{cO hi:Option aJ}(h:cA st al x.names):rZ st t n x cO hi=rZ al t n x cO hi:=by
 unfold rZ;split
 ·rename_i o s u;simp only[lS];rw[me (show st.ab o=al.ab o from h o (by simp[aJ.names,bL.cells,dy,aE.names])),show st.ab o=al.ab o from h o (by simp[aJ.names,bL.cells,dy,aE.names])]
 ·rfl
theorem aaG{t:aY}{as:List bL}(h:cA st al (rE as)):la t st as=la t al as:=by
 induction as with
 |nil=>rfl
 |cons a as ih=>
  simp only[rE] at h;simp only[la,xf h.left,ih h.right]
theorem _J{C:Ctx}{src dst:TypeId}{o:Nat}{x:aJ}(h:cA st al x.names)(Z:st.ab o=al.ab o):sA C src dst o st x=sA C src dst o al x:=by
 unfold sA;split<;>try rfl
 ·rename_i aa s _ _;rw[me (show st.ab aa=al.ab aa from h aa (by simp[aJ.names,bL.cells,dy,aE.names]))]
 ·rw[mc Z]
theorem Lb{bw:List (Nat×Nat)}(h:cA st al (eQ st (keys bw))):kV st bw=kV al bw:=by
 induction bw with
 |nil=>rfl
 |cons p bw ih=>
  obtain⟨o,s⟩:=p;simp only[keys,eQ] at h;simp only[kV];rw[<-tL h.head,<-ih h.tail.right];cases hb:fy st o s with
  |none=>rfl
  |some cells=>
   have:=h.tail.left;rw[CL hb] at this;simp only[xf this]
theorem CP{l:aE}(h:cA st al (eQ st l.names)):mw st l=mw al l:=by
 have Z:=Nd (rs h);unfold mw;split
 ·rfl
 ·rename_i g c cs;simp only[aE.names] at h;rw[Lb h]
 ·rw[Z]
theorem _y{ad:List aE}(h:cA st al (eQ st (dy ad))):lG st ad=lG al ad:=by
 induction ad with
 |nil=>rfl
 |cons l ad ih=>
  simp only[dy,DG] at h;simp only[lG,CP h.left,ih h.right]
theorem LD{l:aE}(h:cA st al l.names):ny st l=ny al l:=by
 unfold ny;split<;>try rfl
 rename_i o s;rw[show st.ab o=al.ab o from h.head]
theorem aay{ad:List aE}(h:cA st al (dy ad)):kj st ad=kj al ad:=by
 induction ad with
 |nil=>rfl
 |cons l ad ih=>
  simp only[dy] at h;simp only[kj,LD h.left,ih h.right]
def gB:List aJ->List Nat
 |[]=>[]
 |v::vs=>v.names++gB vs
theorem K9{vs:List aJ}(h:cA st al (eQ st (gB vs))):iS st vs=iS al vs:=by
 induction vs with
 |nil=>rfl
 |cons v vs ih=>
  simp only[gB,DG] at h;have ih:=ih h.right;have h:=h.left;cases v with
  |jw as=>rfl
  |av a=>
   cases a with
   |agg ad=>
    simp only[iS];rw[_y (by simpa[aJ.names,bL.cells] using h),ih]
   |ak l=>
    have hl:cA st al (eQ st l.names):=by simpa[aJ.names,bL.cells,dy] using h
    unfold iS;split
    ·rfl
    ·rename_i o s anZ bZ;cases bZ;have hl:cA st al (eQ st [o]):=by simpa[aJ.names,bL.cells,dy,aE.names] using h
     simp only[eQ] at hl;rw[<-tL hl.head,<-ih];cases hb:fy st o s with
     |none=>rfl
     |some cells=>
      have:=hl.tail.left;rw[CL hb] at this;cases iS st vs with
      |none=>rfl
      |some r=>simp only[aay this]
    ·rename_i gg anZ _ bZ;cases bZ;rw[CP hl,ih]
    ·rename_i bZ;cases bZ
    ·rfl
theorem ZV{l:aE}(h:cA st al (eQ st l.names)):ow st l=ow al l:=by
 unfold ow;split
 ·rw[LD (rs h)]
 ·rfl
 ·rw[CP h]
theorem Zg{vs:List aJ}(h:cA st al (eQ st (gB vs))):lA st vs=lA al vs:=by
 induction vs with
 |nil=>rfl
 |cons v vs ih=>
  simp only[gB,DG] at h;have ih:=ih h.right;have h:=h.left;cases v with
  |jw as=>rfl
  |av a=>
   cases a with
   |agg ad=>rfl
   |ak l=>
    have hl:cA st al (eQ st l.names):=by simpa[aJ.names,bL.cells,dy] using h
    simp only[lA,ZV hl,ih]
theorem Zf{b:Bool}{vs:List aJ}(h:cA st al (eQ st (gB vs))):rJ b st vs=rJ b al vs:=by
 cases b
 ·exact K9 h
 ·exact Zg h
theorem tK(hb:∀o,1000000<=o->st.ab o=al.ab o){o:Nat}(h:1000000<=o):bl st o=bl al o:=mc (hb o h)
theorem CM(hb:∀o,1000000<=o->st.ab o=al.ab o):∀{ad:List aE} {n:Nat},1000000<=n->take st n ad=take al n ad:=by
 intro ad;induction ad with
 |nil=>intro n _;rfl
 |cons l ad ih=>
  intro n hn;cases l<;>simp only[take,ih (show 1000000<=n+1 by omega),tK hb hn]
theorem _a(hb:∀o,1000000<=o->st.ab o=al.ab o):∀{as:List bL} {n:Nat},1000000<=n->dR st n as=dR al n as:=by
 intro as;induction as with
 |nil=>intro n _;rfl
 |cons a as ih=>
  intro n hn;cases a with
  |ak l=>simp only[dR];rw[CM hb hn,ih (show 1000000<=n+100 by omega)]
  |agg ad=>simp only[dR];rw[CM hb hn,ih (show 1000000<=n+100 by omega)]
theorem Z'(hb:∀o,1000000<=o->st.ab o=al.ab o):∀{bs:List (Nat×Nat)} {cK:List (List aE)},gH st bs cK=gH al bs cK:=by
 intro bs;induction bs with
 |nil=>intro cK;cases cK<;>rfl
 |cons p bs ih=>
  obtain⟨o,s⟩:=p;intro cK;cases cK with
  |nil=>rfl
  |cons cs cK=>simp only[gH];rw[CM hb (by omega),ih]
theorem LI(hb:∀o,1000000<=o->st.ab o=al.ab o){dst:Nat}{S:aH}{a:jX}:oG dst st S a=oG dst al S a:=by
 unfold oG;simp only[Z' hb,_a hb (show 1000000<=2000000+dst*10000 by omega)]
theorem ZB{g:FuncId}{n:Nat}{vs:List aJ}(hb:∀o,1000000<=o->st.ab o=al.ab o)(hn:1000000<=n):rX g n st vs=rX g n al vs:=by
 unfold rX;rw[tK hb hn,tK hb (show 1000000<=n+1 by omega),tK hb (show 1000000<=n+2 by omega)]
theorem _p{n:Nat}{vs:List aJ}(hb:∀o,1000000<=o->st.ab o=al.ab o)(hn:1000000<=n):so n st vs=so n al vs:=by
 unfold so;rw[tK hb hn]
theorem _I{vs:List aJ}(h:cA st al (eQ st (gB vs))):copyV st vs=copyV al vs:=by
 unfold copyV;split
 ·rename_i o s;rw[show st.ab o=al.ab o from rs h o (by simp[gB,aJ.names,bL.cells,dy,aE.names])]
 ·rfl
theorem Zc{vs:List aJ}(h:cA st al (eQ st (gB vs))):rH st vs=rH al vs:=by
 unfold rH;split
 ·rename_i o s;have h0:o∈gB [aJ.av (.ak (.ptr o s 0))]:=by simp[gB,aJ.names,bL.cells,dy,aE.names]
  rw[<-tL (rs h o h0)];split
  ·rfl
  ·rename_i Yl aa u hb;have:=Oc h h0;rw[CL hb] at this;rw[show st.ab aa=al.ab aa from this aa (by simp[dy,aE.names])]
  ·rfl
 ·rfl
theorem K0{C:Ctx}(hb:∀o,1000000<=o->st.ab o=al.ab o){dst:Nat}{f:aJ}{vs:List aJ}(hf:cA st al (eQ st f.names))(h:cA st al (eQ st (gB vs))):lz C dst st f vs=lz C dst al f vs:=by
 unfold lz;split
 ·rename_i g bw;have:cA st al (eQ st (keys bw)):=by simpa[aJ.names,bL.cells,dy,aE.names] using hf
  simp only[Zf h,Lb this,LI hb,ZB hb (show 1000000<=3000000+dst*10 by omega),_p hb (show 1000000<=4000000+dst by omega),_I h,Zc h]
 ·simp only[K9 h,LI hb]
 ·rfl
theorem aed{C:Ctx}{x:Operand}{T:TypeId}(h:∀t,x=.tmp t->st.get t=al.get t):aX C st T x=aX C al T x:=by
 cases x with
 |tmp t=>exact h t rfl
 |_=>rfl
theorem Zm{ti:b8}{v:Value}:(ux ti v).names=[]:=by
 unfold ux;split<;>try rfl
 all_goals(split<;>rfl)
theorem yg{C:Ctx}{x:Operand}{T:TypeId}:∀{xs:List Operand},x∈xs->∀o,o∈(aX C st T x).names->o∈ng st xs:=by
 intro xs;induction xs with
 |nil=>intro h;cases h
 |cons y xs ih=>
  intro h o bn;rcases List.mem_cons.1 h with rfl|h
  ·cases x with
   |tmp t=>simp only[ng];exact List.mem_append.2 (.inl bn)
   |const v=>simp only[aX,Zm] at bn;cases bn
   |global g=>simp[aX,aJ.names,bL.cells,dy,aE.names,bX] at bn
   |func g=>simp[aX,aJ.names,bL.cells,dy,aE.names,bX,keys] at bn
  ·have:=ih h o bn;cases y<;>simp only[ng]<;>first|exact List.mem_append.2 (.inr this)|exact this
theorem _q{t:Nat}:∀{xs:List Operand},.tmp t∈xs->t∈oh xs:=by
 intro xs;induction xs with
 |nil=>intro h;cases h
 |cons y xs ih=>
  intro h;rcases List.mem_cons.1 h with h|h
  ·subst h;simp only[oh];exact List.mem_cons_self
  ·have:=ih h;cases y<;>simp only[oh]<;>first|exact List.mem_cons_of_mem _ this|exact this
theorem Ma{v:aJ}{a:bL}(h:lT v=some a):dy a.cells=v.names:=by
 cases v with
 |av b=>simp only[lT,Option.some.injEq] at h;subst h;rfl
 |jw _=>cases h
theorem _M{vs:List aJ}:∀{as:List bL},nA vs=some as->∀o,o∈rE as->o∈gB vs:=by
 induction vs with
 |nil=>intro as h;simp only[nA,Option.some.injEq] at h;subst h;intro o bn;cases bn
 |cons v vs ih=>
  intro as h o bn;simp only[nA] at h;split at h
  ·rename_i a nY h1 h2;simp only[Option.some.injEq] at h;subst h;simp only[rE,List.mem_append] at bn;simp only[gB,List.mem_append];rcases bn with bn|bn
   ·exact .inl (by rw[Ma h1] at bn;exact bn)
   ·exact .inr (ih h2 o bn)
  ·cases h
end
theorem _5{C:Ctx}{st al:ah}{B:Oper}(hs:∀t,t∈oh (kY B.op)->st.get t=al.get t)(hn:cA st al (Hb C st B))(hb:zY B.op=true->∀o,1000000<=o->st.ab o=al.ab o):
  step C st B=step C al B:=by
 have he:∀x,x∈kY B.op->∀T,aX C st T x=aX C al T x:=fun x hx T=>aed fun t ap=>hs t (_q (ap▸hx))
 have TX:looks B.op=true->cA st al (eQ st (ng st (kY B.op))):=fun h=>by have:=hn.left.left;rw[h] at this;exact this
 have TO:looks B.op=true->∀x,x∈kY B.op->∀T,cA st al (aX C st T x).names:=fun hl x hx T o bn=>rs (TX hl) o (yg hx o bn)
 have QF:looks B.op=true->∀N:List Nat,(∀o,o∈N->o∈ng st (kY B.op))->cA st al (eQ st N):=by
  intro hl N;have W8:=TX hl;induction N with
  |nil=>intro _ o bn;cases bn
  |cons n N ih=>
   intro h o bn;simp only[eQ,List.mem_cons,List.mem_append] at bn;rcases bn with rfl|bn|bn
   ·exact rs W8 o (h o List.mem_cons_self)
   ·exact Oc W8 (h n List.mem_cons_self) o bn
   ·exact ih (fun aa bN=>h aa (List.mem_cons_of_mem _ bN)) o bn
 have Z:∀d,B.dst=some d->st.ab d=al.ab d:=fun d h=>hn.left.right d (by simp[h])
 have hz:cA st al (G2 C B.op):=hn.right;obtain⟨dst,op,type,pos,after,guard⟩:=B;simp only at he TO QF Z hb hz;cases op<;>(try have gQ:=TO rfl)<;>(try have G':=QF rfl)<;>(try simp only[kY,List.mem_cons,List.not_mem_nil,or_false,forall_eq_or_imp,forall_eq] at he)<;>
  (try simp only[kY,List.mem_cons,List.not_mem_nil,or_false,forall_eq_or_imp,forall_eq] at gQ)<;>simp only[step]<;>try rfl
 case move x=>rw[he]
 case assign x=>rw[he]
 case makeMap t r=>
  simp only[kT];cases dst with
  |none=>rfl
  |some o=>
   have e:=mc (Z o rfl);cases C.tt t<;>try rfl
   cases r with
   |none=>simp only[e]
   |some x=>simp only[he x (by simp[kY]),e]
 case lookup t m k c=>
  simp only[kT];rw[he.1,he.2];have h1:=gQ.1 t;rw[he.1] at h1;generalize aX C al t m=Yc at h1 ⊢;split
  ·rename_i l n _ _;rw[Ly (l:=l) (fun o bn=>h1 o (by simp[aJ.names,bL.cells,dy,bn]))]
  ·rfl
 case mapUpdate t m k x=>
  simp only[kT,kT.r_];rw[he.1,he.2.1,he.2.2];have h1:=gQ.1 t;rw[he.1] at h1;generalize aX C al t m=Yc at h1 ⊢;split
  ·rename_i o s n d _ _ _;rw[show st.ab o=al.ab o from h1 o (by simp[aJ.names,bL.cells,dy,aE.names])]
  ·rfl
 case insert t m k x=>
  simp only[kT,kT.r_];rw[he.1,he.2.1,he.2.2];have h1:=gQ.1 t;rw[he.1] at h1;generalize aX C al t m=Yc at h1 ⊢;split
  ·rename_i o s n d _ _ _;rw[show st.ab o=al.ab o from h1 o (by simp[aJ.names,bL.cells,dy,aE.names])]
  ·rfl
 case pick c a b=>rw[he.1,he.2.1,he.2.2]
 case alloc elem=>
  cases dst with
  |none=>rfl
  |some o=>
   have e:=mc (Z o rfl);cases be:C.tt elem with
   |arr _ t n=>exact ZZ (Z o rfl)
   |_=>simp only[e]
 case box elem x=>
  rw[he];cases dst with
  |none=>rfl
  |some o=>
   have e:=mc (Z o rfl);cases be:C.tt elem with
   |arr _ t n=>exact aaL (Z o rfl)
   |_=>simp only[e]
 case build t ps=>
  have go:∀(bK:List (Nat×Nat)) (r:List (Nat×Operand)) (z:List aE),(∀x,x∈r.map (·.2)->∀T,aX C st T x=aX C al T x)->step.mo C st bK z r=step.mo C al bK z r:=by
    intro bK r;induction r with
    |nil=>intro z _;rfl
    |cons p r ih=>
     obtain⟨i,x⟩:=p;intro z h;simp only[step.mo];rw[h x (by simp)]
     split
     ·rw[ih _ fun x hx=>h x (by simp only[List.map_cons,List.mem_cons];exact .inr hx)]
     ·rfl
  split
  ·exact go _ _ _ he
  ·split
   ·exact go _ _ _ he
   ·rfl
  ·rfl
 case buildSlice t len ps=>
  cases dst with
  |none=>rfl
  |some o=>
   cases h2:C.tt t<;>try rfl
   rename_i e ty bytes;simp only;have h1:some o=some o:=rfl;have em:(ps.toList.map fun p=>aX C st e p.2)=ps.toList.map fun p=>aX C al e p.2:=by
    apply List.map_congr_left;intro p hp;exact he _ (List.mem_map.2 ⟨p,hp,rfl⟩) e
   have ks:cA st al (gB (ps.toList.map fun p=>aX C st e p.2)):=by
    have:∀l:List (Nat×Operand),(∀p,p∈l->p∈ps.toList)->cA st al (gB (l.map fun p=>aX C st e p.2)):=by
     intro l;induction l with
     |nil=>intro _ o bn;cases bn
     |cons p l ih=>
      intro h o bn;simp only[List.map_cons,gB,List.mem_append] at bn;rcases bn with bn|bn
      ·exact gQ _ (List.mem_map.2 ⟨p,h p List.mem_cons_self,rfl⟩) e o bn
      ·exact ih (fun q ar=>h q (List.mem_cons_of_mem _ ar)) o bn
    exact this _ fun _ h=>h
   rw[<-em,mc (Z o h1)];congr 1
   split
   ·rename_i as has;rw[aaG fun aa bN=>ks aa (_M has aa bN)]
   ·rfl
 case load t a=>
  rw[<-he];split
  ·exact _w (gQ _)
  ·rw[_v (gQ _)]
 case store t a x=>
  rw[<-he.1,<-he.2];split
  ·rename_i v hv;split
   ·exact ZA (gQ.1 _)
   ·rw[Zz (gQ.1 _) (by rw[Ma hv];exact gQ.2 _)]
  ·rfl
 case nilCheck x=>rw[he]
 case makeInterface t x=>simp only[kT];rw[he]
 case binOp op t x y ty=>rw[he.1,he.2]
 case unOp op t x=>rw[he]
 case convert src atM x=>
  cases dst with
  |none=>rfl
  |some o=>simp only;rw[<-he,_J (gQ _) (Z o rfl)]
 case makeFunc fn first captured=>
  split
  ·rename_i g;have go:∀(r:List Operand),(∀x,x∈r->∀T,aX C st T x=aX C al T x)->step.nz C st r=step.nz C al r:=by
    intro r;induction r with
    |nil=>intro _;rfl
    |cons x r ih=>
     intro h;simp only[step.nz];rw[h x (by simp),ih fun x hx=>h x (List.mem_cons_of_mem _ hx)]
   rw[go _ he]
  ·rfl
 case makeSlice t l c=>
  rw[<-he.1,<-he.2];cases dst with
  |none=>rfl
  |some o=>
   cases h2:C.tt t<;>try rfl
   rename_i e ty bytes;simp only[G2,h2] at hz;have e1:=mc (Z o rfl);have e2:∀z,(C.tt e).zero=some z->fL st z=fL al z:=fun z hzz=>by
    simp only[hzz] at hz;exact xf hz
   generalize aX C st 0 l=dV;generalize aX C st 0 c=fE;have dw:∀n m aD az,dV=.av (.ak (.d (.int aD n)))->fE=.av (.ak (.d (.int az m)))->
     (match(C.tt e).zero with
      |some z=>match fL st z with
       |some (ds,_)=>match dec ty ds with
        |some eO=>c'.hq (jx bytes n m eO) (fun _=>bX (.own o (bl st o))) fun r=>[(o,.row (bl st o) ty r)]
        |none=>.fail
       |none=>.fail
      |none=>.fail)=(match(C.tt e).zero with
      |some z=>match fL al z with
       |some (ds,_)=>match dec ty ds with
        |some eO=>c'.hq (jx bytes n m eO) (fun _=>bX (.own o (bl al o))) fun r=>[(o,.row (bl al o) ty r)]
        |none=>.fail
       |none=>.fail
      |none=>.fail):=by
    intro n m aD az _ _;cases hzz:(C.tt e).zero with
    |none=>rfl
    |some z=>simp only[e2 z hzz,e1]
   rcases dV with(eb|_)|_<;>try rfl
   cases eb<;>try rfl
   rename_i d1;cases d1<;>try rfl
   rcases fE with(gw|_)|_<;>try rfl
   cases gw<;>try rfl
   rename_i d2;cases d2<;>try rfl
   exact dw _ _ _ _ rfl rfl
 case slice t x cO hi Ce=>
  cases Ce with
  |some _=>rfl
  |none=>
   simp only;have e1:cO.map (aX C st 0)=cO.map (aX C al 0):=by
    cases cO with
    |none=>rfl
    |some y=>simp only[Option.map_some];rw[he.2 y (by simp)]
   have e2:hi.map (aX C st 0)=hi.map (aX C al 0):=by
    cases hi with
    |none=>rfl
    |some y=>simp only[Option.map_some];rw[he.2 y (by simp)]
   rw[<-he.1,e1,e2];split
   ·exact ZD (gQ.1 _)
   ·exact ZC (gQ.1 _)
 case fieldAddr s x f=>rw[he]
 case indexAddr t x i=>
  rw[<-he.1,<-he.2];split
  ·rw[YQ (gQ.1 _)]
  ·rw[YR (gQ.1 _)]
  ·rfl
 case index t x i=>rw[he.1,he.2]
 case extract t i=>rw[he]
 case call c=>
  obtain⟨ap5,args,IG⟩:=c;simp only;cases ap5 with
  |invoke r m=>rfl
  |value f=>
   simp only[kY,List.mem_append,List.mem_cons,List.not_mem_nil,or_false] at G';simp only[zY,forall_const] at hb;simp only[List.mem_append,List.mem_cons,List.not_mem_nil,or_false] at he;have em:∀(xs:List Operand) (cR:List TypeId),(∀x,x∈xs->∀T,aX C st T x=aX C al T x)->ga C st xs cR=ga C al xs cR:=by
    intro xs;induction xs with
    |nil=>intro cR _;cases cR<;>rfl
    |cons x xs ih=>
     intro cR h;cases cR with
     |nil=>simp only[ga];rw[h x (by simp),ih [] fun y hy=>h y (List.mem_cons_of_mem _ hy)]
     |cons T cR=>simp only[ga];rw[h x (by simp),ih cR fun y hy=>h y (List.mem_cons_of_mem _ hy)]
   have Ci:∀(xs bd:List Operand) (cR:List TypeId),(∀x,x∈xs->x∈bd)->∀o,o∈gB (ga C st xs cR)->o∈ng st bd:=by
    intro xs bd;induction xs with
    |nil=>intro cR _ o bn;cases cR<;>cases bn
    |cons x xs ih=>
     intro cR h o bn;cases cR with
     |nil=>
      simp only[ga,gB,List.mem_append] at bn;rcases bn with bn|bn
      ·exact yg (h x List.mem_cons_self) o bn
      ·exact ih [] (fun y hy=>h y (List.mem_cons_of_mem _ hy)) o bn
     |cons T cR=>
      simp only[ga,gB,List.mem_append] at bn;rcases bn with bn|bn
      ·exact yg (h x List.mem_cons_self) o bn
      ·exact ih cR (fun y hy=>h y (List.mem_cons_of_mem _ hy)) o bn
   have h1:cA st al (eQ st (aX C st 0 f).names):=G' _ fun o bn=>yg (List.mem_append.2 (.inl (by simp))) o bn
   have h2:cA st al (eQ st (gB (ga C st args.toList IG.toList))):=G' _ fun o bn=>Ci _ _ _ (fun x hx=>List.mem_append.2 (.inr hx)) o bn
   have h3:=he f (.inl rfl) 0;have ax:=em args.toList IG.toList fun x hx=>he x (.inr hx)
   cases dst with
   |none=>show lz C 0 st _ _=lz C 0 al _ _;rw[<-h3,<-ax];exact K0 hb h1 h2
   |some d=>show lz C d st _ _=lz C d al _ _;rw[<-h3,<-ax];exact K0 hb h1 h2
  |builtin b=>
   simp only[List.nil_append] at he gQ;generalize args.toList=xs at he gQ;generalize IG.toList=b9;cases b<;>try rfl
   case append=>
    rcases dst with _|o
    ·rfl
    rcases xs with _|⟨s,_|⟨x,_|_⟩⟩<;>try rfl
    rcases b9 with _|⟨t,_|⟨u,_|_⟩⟩<;>try rfl
    have e1:=he s (by simp) t
    have e2:=he x (by simp) u
    dsimp only;cases C.tt t<;>try rfl
    cases C.tt u<;>try rfl
    all_goals dsimp only
    all_goals rw[<-e1,<-e2]
    all_goals first|exact Zo (gQ s (by simp) _) (gQ x (by simp) _) (Z o rfl)|exact Zp (gQ s (by simp) _) (Z o rfl)
   case len=>
    rcases xs with _|⟨s,_|⟨x,_|_⟩⟩<;>try rfl
    rcases b9 with _|⟨t,_|⟨u,_|_⟩⟩<;>try rfl
    have e1:=he s (by simp) t
    dsimp only;rw[<-e1];exact aau (gQ s (by simp) _)
   case max=>
    rcases xs with _|⟨s,_|⟨x,_|⟨z,_|⟨u,_|⟨v,_|_⟩⟩⟩⟩⟩<;>try rfl
    ·have e1:=he s (by simp) type
     have e2:=he x (by simp) type
     dsimp only;rw[<-e1,<-e2]
    ·have e1:=he s (by simp) type
     have e2:=he x (by simp) type
     have bz:=he z (by simp) type
     have dw:=he u (by simp) type
     have gi:=he v (by simp) type
     dsimp only;rw[<-e1,<-e2,<-bz,<-dw,<-gi]
   case min=>
    rcases xs with _|⟨s,_|⟨x,_|_⟩⟩<;>try rfl
    have e1:=he s (by simp) type
    have e2:=he x (by simp) type
    dsimp only;rw[<-e1,<-e2]
def eC(r:Option Nat):Fence:={Fence.wide with round:=r}
abbrev fR(r:Option Nat)(P:Program)(c:Code)(Q:Exit->Act->World->Prop)(a:Act)(w:World):Prop:=c.wpIn (eC r) 0 P Q a w
theorem AR(r:Option Nat)(f:FuncId):(eC r).fn f:=trivial
theorem PK(r:Option Nat)(n:Nat):(eC r).room n:=fun _ h=>by simp[eC,Fence.wide] at h
theorem fR.any{r:Option Nat}{P:Program}{c:Code}{Q:Exit->Act->World->Prop}{a:Act}{w:World}(h:fR r P c Q a w)(n:Nat):c.wpIn (eC r) n P Q a w:=
 fun b k cs I' hb _=>h b k cs I' hb (PK r _)
theorem fR.of{r:Option Nat}{P:Program}{c:Code}{Q:Exit->Act->World->Prop}{a:Act}{w:World}{n:Nat}(h:c.wpIn (eC r) n P Q a w):fR r P c Q a w:=
 fun b k cs I' hb _=>h b k cs I' hb (PK r _)
theorem fR.wp{P:Program}{c:Code}{Q:Exit->Act->World->Prop}{a:Act}{w:World}(h:fR none P c Q a w):c.wp P Q a w:=(wpIn_wide (n:=0)).1 h
theorem aaJ{r:Option Nat}{n:Nat}{P:Program}{f:FuncId}{args:Array Value}{w:World}{R:Ending->World->Prop}(h:Calls P f args w R):CallsIn (eC r) n P f args w R:=by
 cases r with
 |none=>exact callsIn_wide.2 h
 |some l=>exact CallsIn.inRound l (callsIn_wide.2 h)
theorem abq{r:Option Nat}{n:Nat}{P:Program}{row:String}{args:Array Value}{w:World}{R:Value->World->Prop}(h:Rows P row args w R):RowsIn (eC r) n P row args w R:=by
 intro c cs _;obtain⟨v,w',hr,hs⟩:=h c cs;exact⟨v,w',hr,stepsIn_wide.2 hs⟩
theorem t_(M:Array Value)(ds:List Deferred)(dst:Option Nat)(v:Value):(⟨M,ds⟩:Act).put dst v=⟨cv M dst v,ds⟩:=by cases dst<;>rfl
theorem G8{P:Program}{B:Oper}{M:Array Value}{w:World}{K:Act->World->Prop}(bM:∀a w,K a w->a.defers=[])(h:B.wp P ⟨M,[]⟩ w K (fun _ _ _=>False))(r:Option Nat)(ds:List Deferred){Q:Exit->Act->World->Prop}:
  B.wpIn (eC r) 0 P ⟨M,ds⟩ w (fun cL w'=>∃v,cL=⟨cv M B.dst v,ds⟩/\K ⟨cv M B.dst v,[]⟩ w') Q:=by
 refine⟨fun f _=>AR r f,?_⟩
 have bq:(⟨M,ds⟩:Act).eval=(⟨M,[]⟩:Act).eval:=by funext x;cases x<;>rfl
 rw[bq];unfold Oper.wp at h;have Z:∀c,B.op≠.defer c:=by
  intro c aC;have:(execOp (Act.eval ⟨M,[]⟩) B)=(do let d <-resolve (Act.eval ⟨M,[]⟩) c B.type;pure (.defer d)):=by
   unfold execOp;simp only[aC]
  rw[this] at h;simp only[Sem.run_bind] at h;cases hr:(resolve (Act.eval ⟨M,[]⟩) c B.type).run P w with
  |ok d w'=>
   rw[hr] at h;simp only[Result.andThen_ok,Sem.run_pure,Oper.upon] at h;have:=bM _ _ h;cases dv:B.dst<;>rw[dv] at this<;>simp[Act.put] at this
  |halt x w'=>
   rw[hr] at h;cases x<;>simp[Result.andThen,Oper.upon] at h
 rw[Oper.semAt_eq _ _ _ Z];generalize(execOp (Act.eval ⟨M,[]⟩) B).run P w=e_ at h;have hp:∀v,(⟨M,ds⟩:Act).put B.dst v=⟨cv M B.dst v,ds⟩:=t_ M ds B.dst;have qy:∀v,(⟨M,[]⟩:Act).put B.dst v=⟨cv M B.dst v,[]⟩:=t_ M [] B.dst;cases e_ with
 |ok x w'=>
  cases x with
  |value v=>simp only[Oper.upon,Oper.uponIn,qy] at h ⊢;exact⟨v,hp v,h⟩
  |skip=>simp only[Oper.upon,Oper.uponIn,qy] at h ⊢;exact⟨undef,hp _,h⟩
  |defer d=>
   simp only[Oper.upon] at h;have:=bM _ _ h;cases dv:B.dst<;>rw[dv] at this<;>simp[Act.put] at this
  |enter f args=>
   simp only[Oper.upon,Oper.uponIn] at h ⊢;refine⟨fun h=>by simp[eC,Fence.wide] at h,(aaJ h).mono fun e Bp he=>?_⟩
   cases e with
   |returned v=>simp only[qy] at he;exact⟨v,hp v,he⟩
   |panicked c=>exact he.elim
   |outgrown=>obtain⟨a0,O,ar⟩:=he;exact ar.elim
  |row row args=>
   simp only[Oper.upon,Oper.uponIn] at h ⊢;refine⟨fun h=>by simp[eC,Fence.wide] at h,(abq h).mono fun v Bp he=>?_⟩
   simp only[qy] at he;exact⟨v,hp v,he⟩
  |_=>simp only[Oper.upon] at h
 |halt x w'=>
  cases x<;>simp only[Oper.upon] at h
def ig:List Oper->List Nat
 |[]=>[]
 |B::r=>B.dst.toList++ig r
def gX:Nat:=1000000000
def ck:Code->List Nat
 |.region _ ops _=>ig ops.toList
 |.seq a b|.cond _ a b=>ck a++ck b
 |.block _ a|.loop a=>ck a
 |.rangeFunc _ ps a b=>gX::(ps.toList++(ck a++ck b))
 |_=>[]
def gD:Code->Bool
 |.seq a b|.cond _ a b=>gD a&&gD b
 |.block _ a|.loop a=>gD a
 |.rangeFunc _ _ _ _=>false
 |_=>true
def mark(aZ:Nat):Deferred:={target:=.collected aZ,args:=#[]}
structure hY(O:World)(Y:List Nat)(X:Nat->Prop)(aN:World)(dA:List Nat)(cX:Nat->Prop):Prop where
 cC:∀w,Fr dA aN w->Fr Y O w
 cf:∀b,(b∈dA\/aN.heap.size<=b)->(b∈Y\/O.heap.size<=b)
 x:∀b,X b->cX b
structure Marks(O:World)(dB:List Nat)(aN:World)(dA:List Nat)(cX:Nat->Prop):Prop where
 nodup:dB.Nodup
 new:∀aZ,aZ∈dB->O.heap.size<=aZ
 gV:∀aZ,aZ∈dB->aN.heap[aZ]? =some (.deferred (some []))/\aZ∉dA/\cX aZ
def er(O:World)(Y:List Nat)(X:Nat->Prop)(ds:List Deferred)(eF:Array Value)(W:List Nat)(st:ah)(a:Act)(w:World):Prop:=
 ∃aN dA cX D dB,hY O Y X aN dA cX/\Marks O dB aN dA cX/\(a.defers=dB.map mark++ds/\(gX∉W->dB=[]))/\am aN dA cX D st a.tmps w/\∀t,t∉W->a.tmps.getD t undef=eF.getD t undef
def e5(O:World)(Y:List Nat)(X:Nat->Prop)(ds:List Deferred)(eF:Array Value)(W:List Nat):Out->Exit->Act->World->Prop
 |.norm st,.normal,a,w=>er O Y X ds eF W st a w
 |.exit id st,.exit iH,a,w=>id=iH/\er O Y X ds eF W st a w
 |.ret st,.ret,a,w=>er O Y X ds eF W st a w
 |_,_,_,_=>False
theorem hY.refl(O:World)(Y:List Nat)(X:Nat->Prop):hY O Y X O Y X:=⟨fun _ h=>h,fun _ h=>h,fun _ h=>h⟩
theorem hY.trans{O aN w2:World}{Y dA eN:List Nat}{X cX cu:Nat->Prop}(h:hY O Y X aN dA cX)(k:hY aN dA cX w2 eN cu):hY O Y X w2 eN cu:=
 ⟨fun w hw=>h.cC w (k.cC w hw),fun b hb=>h.cf b (k.cf b hb),fun b hb=>k.x b (h.x b hb)⟩
theorem Marks.nil(O aN:World)(Y:List Nat)(X:Nat->Prop):Marks O [] aN Y X:=⟨List.nodup_nil,fun _ h=>by simp at h,fun _ h=>by simp at h⟩
theorem Marks.lt{O aN:World}{Y:List Nat}{X:Nat->Prop}{dB:List Nat}(h:Marks O dB aN Y X){aZ:Nat}(fo:aZ∈dB):aZ<aN.heap.size:=by
 have:=(h.gV aZ fo).1;exact(Array.getElem?_eq_some_iff.1 this).1
theorem Marks.trans{O aN w2:World}{Y dA eN:List Nat}{X cX cu:Nat->Prop}{dB Ca:List Nat}(hb:hY O Y X aN dA cX)(h:Marks O dB aN dA cX)(k:hY aN dA cX w2 eN cu)(m:Marks aN Ca w2 eN cu):
  Marks O (Ca++dB) w2 eN cu:=by
 have hf:Fr dA aN w2:=k.cC w2 (Fr.refl _ _);refine⟨List.nodup_append.2 ⟨m.nodup,h.nodup,fun a ha b hb e=>?_⟩,fun aZ fo=>?_,fun aZ fo=>?_⟩
 ·subst e;have h1:=m.new a ha;have h2:=h.lt hb;omega
 ·rcases List.mem_append.1 fo with fo|fo
  ·have h1:=m.new aZ fo;have h2:Fr Y O aN:=hb.cC aN (Fr.refl _ _);have:=h2.size;omega
  ·exact h.new aZ fo
 ·rcases List.mem_append.1 fo with fo|fo
  ·exact m.gV aZ fo
  ·obtain⟨h1,h2,h3⟩:=h.gV aZ fo;have hlt:=h.lt fo;refine⟨(hf.block aZ hlt h2).trans h1,fun ax=>?_,k.x aZ h3⟩
   rcases k.cf aZ (.inl ax) with bk|bk
   ·exact h2 bk
   ·omega
section
variable {O:World}{Y:List Nat}{X:Nat->Prop}{ds:List Deferred}{eF:Array Value}{W:List Nat}
theorem er.of{D:Nat->Value}{st:ah}{M:Array Value}{w:World}(S:am O Y X D st M w)(ap:∀t,t∉W->M.getD t undef=eF.getD t undef):er O Y X ds eF W st ⟨M,ds⟩ w:=
 ⟨O,Y,X,D,[],hY.refl _ _ _,Marks.nil _ _ _ _,⟨rfl,fun _=>rfl⟩,S,ap⟩
theorem er.mono{cY:List Nat}(h:∀t,t∈W->t∈cY){st:ah}{a:Act}{w:World}(k:er O Y X ds eF W st a w):er O Y X ds eF cY st a w:=by
 obtain⟨aN,dA,cX,D,dB,h1,h2,h3,ax,bk⟩:=k;exact⟨aN,dA,cX,D,dB,h1,h2,⟨h3.1,fun hn=>h3.2 fun af=>hn (h _ af)⟩,ax,fun t ap=>bk t fun af=>ap (h t af)⟩
theorem e5.mono{cY:List Nat}(h:∀t,t∈W->t∈cY):∀{B:Out} {e:Exit} {a:Act} {w:World},e5 O Y X ds eF W B e a w->e5 O Y X ds eF cY B e a w:=by
 intro B e a w k;cases B<;>cases e<;>first|exact er.mono h k|exact⟨k.1,er.mono h k.2⟩|exact k.elim
theorem er.trans{aN:World}{dA:List Nat}{cX:Nat->Prop}{dB:List Nat}{W1 jh:List Nat}{hF:Array Value}(hb:hY O Y X aN dA cX)(hm:Marks O dB aN dA cX)(hr:gX∉W1->dB=[])(ap:∀t,t∉W1->hF.getD t undef=eF.getD t undef)
  {st:ah} {a:Act} {w:World} (k:er aN dA cX (dB.map mark++ds) hF jh st a w):er O Y X ds eF (W1++jh) st a w:=by
 obtain⟨w2,eN,cu,D,Ca,h1,h2,h3,ax,bk⟩:=k;refine⟨w2,eN,cu,D,Ca++dB,hb.trans h1,hm.trans hb h1 h2,⟨by rw[h3.1,List.map_append,List.append_assoc],fun hn=>by
  simp only[List.mem_append,not_or] at hn;rw[h3.2 hn.2,hr hn.1];rfl⟩,ax,fun t I6=>?_⟩
 simp only[List.mem_append,not_or] at I6;rw[bk t I6.2,ap t I6.1]
theorem e5.trans{aN:World}{dA:List Nat}{cX:Nat->Prop}{dB:List Nat}{W1 jh:List Nat}{hF:Array Value}(hb:hY O Y X aN dA cX)(hm:Marks O dB aN dA cX)(hr:gX∉W1->dB=[])(ap:∀t,t∉W1->hF.getD t undef=eF.getD t undef)
  {B:Out} {e:Exit} {a:Act} {w:World} (k:e5 aN dA cX (dB.map mark++ds) hF jh B e a w):e5 O Y X ds eF (W1++jh) B e a w:=by
 cases B<;>cases e<;>first|exact er.trans hb hm hr ap k|exact⟨k.1,er.trans hb hm hr ap k.2⟩|exact k.elim
end
def aW(P:Program)(c:Code)(f:hI):Prop:=
 ∀r,r=none\/gD c=true->∀O Y X st y,(f st).comp=some y->∀D M w ds,am O Y X D st M w->fR r P c (e5 O Y X ds M (ck c) ((f st).out y)) ⟨M,ds⟩ w
def fV(P:Program)(C:hA):Code->Nat->Prop
 |.seq a b,p=>(∀f,C.nK p=some f->aW P (.seq a b) f)/\fV P C a (2*p)/\fV P C b (2*p+1)
 |.cond c a b,p=>(∀f,C.nK p=some f->aW P (.cond c a b) f)/\fV P C a (2*p)/\fV P C b (2*p+1)
 |.block id a,p=>(∀f,C.nK p=some f->aW P (.block id a) f)/\fV P C a (2*p)
 |c,p=>∀f,C.nK p=some f->aW P c f
def fJ:Code->Nat->List (Nat×Code)
 |.seq a b,p=>(p,.seq a b)::(fJ a (2*p)++fJ b (2*p+1))
 |.cond c a b,p=>(p,.cond c a b)::(fJ a (2*p)++fJ b (2*p+1))
 |.block id a,p=>(p,.block id a)::fJ a (2*p)
 |c,p=>[(p,c)]
theorem Pa{P:Program}{C:hA}:∀(c:Code) (p:Nat),(∀q fg,(q,fg)∈fJ c p->∀f,C.nK q=some f->aW P fg f)->fV P C c p:=by
 intro c;induction c with
 |seq a b lX qp=>
  intro p h;simp only[fJ] at h;exact⟨h p _ List.mem_cons_self,lX _ fun q fg hm=>h q fg (List.mem_cons_of_mem _ (List.mem_append.2 (.inl hm))),qp _ fun q fg hm=>h q fg (List.mem_cons_of_mem _ (List.mem_append.2 (.inr hm)))⟩
 |cond B a b lX qp=>
  intro p h;simp only[fJ] at h;exact⟨h p _ List.mem_cons_self,lX _ fun q fg hm=>h q fg (List.mem_cons_of_mem _ (List.mem_append.2 (.inl hm))),qp _ fun q fg hm=>h q fg (List.mem_cons_of_mem _ (List.mem_append.2 (.inr hm)))⟩
 |block id a lX=>
  intro p h;simp only[fJ] at h;exact⟨h p _ List.mem_cons_self,lX _ fun q fg hm=>h q fg (List.mem_cons_of_mem _ hm)⟩
 |_=>intro p h;exact h p _ (by simp[fJ])
section
variable {P:Program}{O:World}{Y:List Nat}{X:Nat->Prop}{D:Nat->Value}{st:ah}{M:Array Value}{w:World}
theorem am.mm(S:am O Y X D st M w){t:Nat}{v:aJ}(hv:b_ D st.sites w (aw X D st.sites) v (M.getD t undef)):am O Y X D (st.set t v) M w:=by
 refine⟨S.nt,fun u=>?_,S.sites,S.dT,S.cf,S.frame,S.old,S.eX⟩
 rw[ah.FU];by_cases h:t=u
 ·subst h;simp only[if_true];exact hv
 ·simp only[h,if_false];exact S.cE u
variable {R:Type}{C:Ctx}{ops:Array Oper}
theorem MR(S:am O Y X D st M w)(H:a7 P C){B:Oper}{K:ah->Option R}{r:R}(h:j9 C st B K=some r){N:Act->World->Prop}{Q:Exit->Act->World->Prop}
  (bM:∀al aI bU w',K al=some r->am O Y X aI al bU w'->N ⟨bU,[]⟩ w'):B.wp P ⟨M,[]⟩ w N Q:=by
 unfold j9 at h;cases Z:ce st B.dst with
 |false=>simp[Z] at h
 |true=>
  simp only[Z,cond_true] at h;have hs:=aeO S H Z;cases hc:(step C st B).comp with
  |none=>simp[hc] at h
  |some y=>
   simp only[hc,Option.bind_some] at h;cases hk:(step C st B).qM y with
   |false=>simp[hk] at h
   |true=>
    simp only[hk,cond_true] at h;exact hs y hc hk N Q fun aI bU w' ca=>bM _ aI bU w' h ca
theorem _9{T e:TypeId}(h:P.underlying T=some (.slice e))(a:Option Addr)(n c:Nat)(neg:Bool):
  (binOp (if neg then .neq else .eql) T (.slice a n c) (.slice none 0 0)).run P w=.ok (.bool (if neg then !a.isNone else a.isNone)) w:=by
 have e:(Op.equal T (.slice a n c) (.slice none 0 0)).run P w=.ok a.isNone w:=by
  have key:∀d:Nat,(Op.equalIn (d+1) T (.slice a n c) (.slice none 0 0)).run P w=.ok a.isNone w:=fun d=>by cases a<;>simp[Op.equalIn,run_underlying h]
  exact key 9999
 cases neg
 ·show((do pure (.bool (<-Op.equal T (.slice a n c) (.slice none 0 0)))):Sem Value).run P w=_
  simp only[Sem.run_bind,e,Result.andThen_ok,Sem.run_pure];rfl
 ·show((do pure (.bool (!(<-Op.equal T (.slice a n c) (.slice none 0 0))))):Sem Value).run P w=_
  simp only[Sem.run_bind,e,Result.andThen_ok,Sem.run_pure];rfl
theorem YN{op:BinOp}{T:TypeId}{x y:Operand}{a b:Option Addr}{n c tx fg:Nat}:(eqGuard op T x y (.slice a n c) (.slice b tx fg)).run P w=.ok () w:=by
 unfold eqGuard;cases op<;>rfl
theorem aal{B:Oper}{t:aY}{xs:List (den t)}{neg:Bool}(h:GB C st B=some (⟨t,xs⟩,neg)):∃T x mP e ty bytes,B.op=.binOp (if neg then .neq else .eql) T x (.const (.slice none 0 0)) mP/\C.tt T=.slice e ty bytes/\aX C st T x=.av (.ak (.d (.sl t xs))):=by
 unfold GB at h;split at h
 ·rename_i op T x mP aC;split at h
  ·rename_i e ty bytes be;split at h
   ·split at h
    ·rename_i bi iD hx;cases h;exact⟨T,x,mP,e,ty,bytes,aC,be,hx⟩
    ·cases h
   ·split at h
    ·rename_i bi iD hx;cases h;exact⟨T,x,mP,e,ty,bytes,aC,be,hx⟩
    ·cases h
   ·cases h
  ·cases h
 ·cases h
theorem Za{t:aY}{xs:List (den t)}{a b:Option R}{r:R}(h:pu xs a b=some r):b=some r/\(xs=[]->a=some r):=by
 unfold pu at h;split at h
 ·rename_i Xb;exact⟨h,fun he=>(Xb he).trans h⟩
 ·cases h
theorem adb(S:am O Y X D st M w)(H:a7 P C){B:Oper}{K:ah->Option R}{r:R}(h:uQ C st B K=some r){N:Act->World->Prop}{Q:Exit->Act->World->Prop}
  (bM:∀al aI bU w',K al=some r->am O Y X aI al bU w'->N ⟨bU,[]⟩ w'):B.wp P ⟨M,[]⟩ w N Q:=by
 unfold uQ at h;split at h
 ·rename_i t xs neg hn;cases Z:ce st B.dst with
  |false=>simp[Z] at h
  |true=>
   simp only[Z,cond_true] at h;obtain⟨h2,h1⟩:=Za h;obtain⟨T,x,mP,e,ty,bytes,aC,be,hx⟩:=aal hn;have hs:=du S C T x;rw[hx] at hs;have bE:=H.tt T;rw[be] at bE;have run:∀{a:Option Addr} {n c:Nat},Act.eval ⟨M,[]⟩ x=.slice a n c->(execOp (Act.eval ⟨M,[]⟩) B).run P w=.ok (.value (.bool (if neg then !a.isNone else a.isNone))) w:=by
    intro a n c hv;unfold execOp;have hc:Act.eval ⟨M,[]⟩ (.const (.slice none 0 0))=.slice none 0 0:=rfl;simp only[aC,hv,hc,Sem.run_bind,YN,_9 bE.1.1,Result.andThen_ok,Sem.run_pure]
   have fin:∀b:Bool,(execOp (Act.eval ⟨M,[]⟩) B).run P w=.ok (.value (.bool b)) w->K (st.cP B.dst (one (.bool b)) [])=some r->B.wp P ⟨M,[]⟩ w N Q:=by
    intro b hr hk;refine oo hr (bM _ _ _ _ hk (am.cP (us:=[]) S Z ?_));exact bA.bool b
   have hs:bA w (aw X D st.sites) (.sl t xs) (Act.eval ⟨M,[]⟩ x):=hs;generalize iB:Act.eval ⟨M,[]⟩ x=v at hs;cases hs with
   |nil=>
    have:=run iB;cases neg
    ·exact fin true this (h1 rfl)
    ·exact fin false this (h1 rfl)
   |sl t xs a cap cs n ik hcap hb hl hc hr=>
    have:=run iB;cases neg
    ·exact fin false this h2
    ·exact fin true this h2
 ·exact MR S H h bM
theorem abj(S:am O Y X D st M w){B:Oper}{K:ah->Option R}{r:R}(h:r3 st B K=some r){N:Act->World->Prop}
  (bM:∀al aI bU w',K al=some r->am O Y X aI al bU w'->N ⟨bU,[]⟩ w'):N ((⟨M,[]⟩:Act).put B.dst undef) w:=by
 unfold r3 at h;cases Z:ce st B.dst with
 |false=>simp[Z] at h
 |true=>
  simp only[Z,cond_true] at h;have:(⟨M,[]⟩:Act).put B.dst undef=⟨cv M B.dst undef,[]⟩:=by cases B.dst<;>rfl
  rw[this];exact bM _ _ _ _ h (am.cP (us:=[]) S Z rfl)
theorem iQ{M:Array Value}{dst:Option Nat}{v:Value}{t:Nat}(h:t∉dst.toList):(cv M dst v).getD t undef=M.getD t undef:=by
 cases dst with
 |none=>rfl
 |some d=>
  have:d≠t:=fun e=>h (by simp[e])
  simp[cv,Array.getD_eq_getD_getElem?,Array.getElem?_setIfInBounds_ne this]
variable {rn:Option Nat}{ds:List Deferred}
theorem D5(S:am O Y X D st M w)(H:a7 P C){B:Oper}{K:ah->Option R}{r:R}(h:uQ C st B K=some r){N:Act->World->Prop}{Q:Exit->Act->World->Prop}
  (bM:∀al aI bU w',K al=some r->am O Y X aI al bU w'->(∀t,t∉B.dst.toList->bU.getD t undef=M.getD t undef)->N ⟨bU,ds⟩ w'):B.wpIn (eC rn) 0 P ⟨M,ds⟩ w N Q:=by
 refine Oper.wpIn_mono ?_ (G8 (K:=fun a w=>a.defers=[]/\∃al aI,K al=some r/\am O Y X aI al a.tmps w) (fun _ _ h=>h.1) (adb S H h fun al aI bU w' hk ca=>⟨rfl,al,aI,hk,ca⟩) rn ds)
 rintro a w' ⟨v,rfl,_,al,aI,hk,ca⟩;exact bM al aI _ w' hk ca fun t ap=>iQ ap
theorem mY(S:am O Y X D st M w)(H:a7 P C){B:Oper}{K:ah->Option R}{r:R}(h:j9 C st B K=some r){N:Act->World->Prop}{Q:Exit->Act->World->Prop}
  (bM:∀al aI bU w',K al=some r->am O Y X aI al bU w'->(∀t,t∉B.dst.toList->bU.getD t undef=M.getD t undef)->N ⟨bU,ds⟩ w'):B.wpIn (eC rn) 0 P ⟨M,ds⟩ w N Q:=by
 refine Oper.wpIn_mono ?_ (G8 (K:=fun a w=>a.defers=[]/\∃al aI,K al=some r/\am O Y X aI al a.tmps w) (fun _ _ h=>h.1) (MR S H h fun al aI bU w' hk ca=>⟨rfl,al,aI,hk,ca⟩) rn ds)
 rintro a w' ⟨v,rfl,_,al,aI,hk,ca⟩;exact bM al aI _ w' hk ca fun t ap=>iQ ap
theorem xn(S:am O Y X D st M w){B:Oper}{K:ah->Option R}{r:R}(h:r3 st B K=some r){N:Act->World->Prop}
  (bM:∀al aI bU w',K al=some r->am O Y X aI al bU w'->(∀t,t∉B.dst.toList->bU.getD t undef=M.getD t undef)->N ⟨bU,ds⟩ w'):N ((⟨M,ds⟩:Act).put B.dst undef) w:=by
 rw[t_];refine abj (N:=fun a w=>∀t0,a.tmps=t0->t0=cv M B.dst undef->N ⟨t0,ds⟩ w) S h (fun al aI bU w' hk ca t0 e1 e2=>?_) (cv M B.dst undef) (by rw[t_]) rfl
 subst e1;exact bM al aI _ w' hk ca fun t ap=>by have e2:bU=cv M B.dst undef:=e2;rw[e2];exact iQ ap
theorem abp(H:a7 P C){r:R}{W:List Nat}:∀(n k:Nat),ops.size=k+n->(∀B,B∈ops.toList.drop k->∀t,t∈B.dst.toList->t∈W)->∀(st:ah) (D:Nat->Value) (M:Array Value) (w:World) (K:ah->Option R) (Q:Exit->Act->World->Prop),am O Y X D st M w->
  uD C ops (ops.toList.drop k) st K=some r->(∀al aI bU w',K al=some r->am O Y X aI al bU w'->(∀t,t∉W->bU.getD t undef=M.getD t undef)->Q .normal ⟨bU,ds⟩ w')->wpOpsIn (eC rn) 0 P ops Q (List.range' k n) ⟨M,ds⟩ w:=by
 intro n;induction n with
 |zero=>
  intro k hk _ st D M w K Q S h bM;rw[List.drop_eq_nil_of_le (by simp;omega)] at h
  exact bM st D M w h S fun _ _=>rfl
 |succ n ih=>
  intro k hk hW st D M w K Q S h bM;have hlt:k<ops.size:=by omega
  have aC:ops[k]? =some ops[k]:=Array.getElem?_eq_getElem hlt;have uY:ops.toList.drop k=ops[k]::ops.toList.drop (k+1):=by
   rw[List.drop_eq_getElem_cons (by simpa using hlt)];simp
  rw[uY] at h hW;simp only[uD] at h;rw[show List.range' k (n+1)=k::List.range' (k+1) n from rfl]
  simp only[wpOpsIn,aC];have apt:=hW _ List.mem_cons_self;have JC:=fun B aC=>hW B (List.mem_cons_of_mem _ aC)
  have next:∀al aI bU w',uD C ops (ops.toList.drop (k+1)) al K=some r->am O Y X aI al bU w'->(∀t,t∉(ops[k]).dst.toList->bU.getD t undef=M.getD t undef)->wpOpsIn (eC rn) 0 P ops Q (List.range' (k+1) n) ⟨bU,ds⟩ w':=
   fun al aI bU w' af ca ap=>ih (k+1) (by omega) JC al aI bU w' K Q ca af fun vG hZ oU w2 hk2 hM I9=>bM vG hZ oU w2 hk2 hM fun t WU=>(I9 t WU).trans (ap t fun af=>WU (apt t af))
  generalize ops[k]=B at h next ⊢
  have n6:∀f,B.about P w (Act.eval ⟨M,ds⟩)=some f->(eC rn).fn f:=fun f _=>AR rn f
  unfold Py at h;cases hg:B.guard with
  |none=>
   simp only[hg] at h;rw[if_pos (by simp[Region.wanted,hg])]
   exact D5 S H h next
  |some Kj=>
   obtain⟨j,want⟩:=Kj;simp only[hg] at h;have hw:Region.wanted B (yielded ops M)=(yielded ops M j==some want):=by simp[Region.wanted,hg]
   cases hj:(ops[j]?).bind (·.dst) with
   |none=>simp[hj] at h
   |some t=>
    simp only[hj] at h;have iU:=S.cE t;split at h
    ·rename_i b hb;rw[hb] at iU;have hv:=jn iU;have hy:yielded ops M j=some b:=by
      have ap:t<M.size:=by
       rcases Nat.lt_or_ge t M.size with af|af
       ·exact af
       ·simp[Array.getD,Nat.not_lt.2 af,undef] at hv
      have:M[t]? =some (.bool b):=by
       rw[Array.getElem?_eq_getElem ap];simpa[Array.getD,ap] using hv
      simp[yielded,hj,this]
     rw[hy] at hw;have go:∀bH,b=bH->am O Y X D (st.set t (one (.bool bH))) M w:=fun bH e=>S.mm (by rw[hv,e];exact .bool _)
     cases b<;>cases want<;>simp only[cond_true,cond_false,Bool.not_true,Bool.not_false] at h
     ·rw[if_pos (by rw[hw];rfl)];exact D5 (go false rfl) H h next
     ·rw[if_neg (by rw[hw];decide)];exact⟨n6,xn (go false rfl) h next⟩
     ·rw[if_neg (by rw[hw];decide)];exact⟨n6,xn (go true rfl) h next⟩
     ·rw[if_pos (by rw[hw];rfl)];exact D5 (go true rfl) H h next
    ·rename_i x hb;rw[hb] at iU;have hv:M.getD t undef=.tuple x:=iU;have hy:yielded ops M j=none:=by
      simp only[yielded,hj,Option.bind_some];cases ap:M[t]? with
      |none=>rfl
      |some v=>
       have:M.getD t undef=v:=by simp[Array.getD_eq_getD_getElem?,ap]
       rw[this] at hv;rw[hv]
     rw[hy] at hw;rw[if_neg (by rw[hw];simp)]
     exact⟨n6,xn S h next⟩
    ·cases h
end
abbrev n_:=Nat⊕Nat
def ef(st:ah):n_->aJ⊕Option Site
 |.inl t=>.inl (st.get t)
 |.inr o=>.inr (st.ab o)
def m'{aB:Type}:List (Nat×aB)->Nat->Option aB
 |[],_=>none
 |(k,v)::r,n=>match m' r n with
  |some x=>some x
  |none=>bif k.beq n then some v else none
def Rec.wr(x:Rec):n_->Option (aJ⊕Option Site)
 |.inl t=>match x.B.dst with
  |some d=>bif d.beq t then some (.inl x.v) else none
  |none=>none
 |.inr o=>(m' x.us o).map fun s=>.inr (some s)
theorem abb:∀(us:List (Nat×Site)) (st:ah) (o:Nat),(st.hU us).ab o=match m' us o with|some s=>some s|none=>st.ab o:=by
 intro us;induction us with
 |nil=>intro st o;rfl
 |cons p us ih=>
  obtain⟨k,s⟩:=p;intro st o;simp only[ah.hU,ih,m'];cases m' us o with
  |some x=>rfl
  |none=>
   simp only[ah.wU];by_cases h:k=o
   ·subst h;simp
   ·simp[h,ju h]
theorem Nu:∀(us:List (Nat×Site)) (st:ah) (t:Nat),(st.hU us).get t=st.get t:=by
 intro us;induction us with
 |nil=>intro st t;rfl
 |cons p us ih=>intro st t;simp only[ah.hU,ih,ah._B]
theorem Ot:∀(us:List (Nat×Site)) (st:ah),(st.hU us).nt=st.nt:=by
 intro us;induction us with
 |nil=>intro st;rfl
 |cons p us ih=>intro st;simp only[ah.hU,ih,ah.aak]
theorem G1(st:ah)(d:Option Nat)(v:aJ)(us:List (Nat×Site)):(st.cP d v us).nt=st.nt:=by
 cases d<;>simp only[ah.cP,ah.ahq,Ot]
theorem xL(st:ah)(x:Rec)(l:n_):ef (st.cP x.B.dst x.v x.us) l=match x.wr l with|some u=>u|none=>ef st l:=by
 cases l with
 |inl t=>
  simp only[ef,Rec.wr];cases x.B.dst with
  |none=>simp only[ah.cP,Nu]
  |some d=>
   simp only[ah.cP,ah.FU,Nu];by_cases h:d=t
   ·subst h;simp
   ·simp[h,ju h]
 |inr o=>
  simp only[ef,Rec.wr];have:(st.cP x.B.dst x.v x.us).ab o=(st.hU x.us).ab o:=by cases x.B.dst<;>simp only[ah.cP,ah.ac8]
  rw[this,abb];cases m' x.us o<;>rfl
def ej(L:Nat->Bool):Nat->List Rec->ah->ah
 |_,[],st=>st
 |k,x::r,st=>ej L (k+1) r (bif L k then st.cP x.B.dst x.v x.us else st)
theorem EF{L:Nat->Bool}:∀{xs:List Rec} {k:Nat} {st:ah},(ej L k xs st).nt=st.nt:=by
 intro xs;induction xs with
 |nil=>intro k st;rfl
 |cons x xs ih=>intro k st;simp only[ej,ih];cases L k<;>simp[G1]
theorem CY{L L':Nat->Bool}:∀{xs:List Rec} {k:Nat} {st al:ah} {l:n_},ef st l=ef al l->(∀j x,xs[j]? =some x->x.wr l≠none->L (k+j)=L' (k+j))->ef (ej L k xs st) l=ef (ej L' k xs al) l:=by
 intro xs;induction xs with
 |nil=>intro k st al l h _;exact h
 |cons x xs ih=>
  intro k st al l h dW;simp only[ej];refine ih ?_ fun j y hy hw=>?_
  ·cases hw:x.wr l with
   |none=>
    have e1:∀s:ah,ef (s.cP x.B.dst x.v x.us) l=ef s l:=fun s=>by rw[xL,hw]
    cases L k<;>cases L' k<;>simp only[cond_true,cond_false,e1,h]
   |some u=>
    have:=dW 0 x rfl (by rw[hw];intro h;cases h)
    simp only[Nat.add_zero] at this;rw[this];cases L' k with
    |true=>simp only[cond_true,xL,hw]
    |false=>simp only[cond_false,h]
  ·have:=dW (j+1) y (by simpa using hy) hw
   rw[show k+(j+1)=k+1+j from by omega] at this
   exact this
theorem CZ{xs:List Rec}:∀{k:Nat} {st:ah} {L:Nat->Bool},(∀j,k<=j->L j=false)->ej L k xs st=st:=by
 induction xs with
 |nil=>intro k st L _;rfl
 |cons x xs ih=>
  intro k st L h;simp only[ej,h k (Nat.le_refl _),cond_false];exact ih fun j hj=>h j (by omega)
theorem LK{L L':Nat->Bool}:∀{xs:List Rec} {k k':Nat} {st:ah},(∀j,j<xs.length->L (k+j)=L' (k'+j))->ej L k xs st=ej L' k' xs st:=by
 intro xs;induction xs with
 |nil=>intro k k' st _;rfl
 |cons x xs ih=>
  intro k k' st h;simp only[ej];have h0:=h 0 (by simp)
  simp only[Nat.add_zero] at h0;rw[h0];exact ih fun j hj=>by have:=h (j+1) (by simpa using hj);rw[show k+(j+1)=k+1+j from by omega,show k'+(j+1)=k'+1+j from by omega] at this;exact this
theorem aaN{L:Nat->Bool}:∀{xs:List Rec} {k i:Nat} {st:ah} {l:n_} {x:Rec} {u:aJ⊕Option Site},xs[i]? =some x->L (k+i)=true->x.wr l=some u->
  (∀j y,i<j->xs[j]? =some y->y.wr l≠none->L (k+j)=false)->ef (ej L k xs st) l=u:=by
 intro xs;induction xs with
 |nil=>intro k i st l x u h;cases h
 |cons y xs ih=>
  intro k i st l x u h dW hw hj;simp only[ej];cases i with
  |zero=>
   simp only[List.getElem?_cons_zero,Option.some.injEq] at h;subst h;simp only[Nat.add_zero] at dW;rw[dW];simp only[cond_true];have e:ef (st.cP y.B.dst y.v y.us) l=u:=by rw[xL,hw]
   rw[<-e];have e2:st.cP y.B.dst y.v y.us=ej (fun _=>false) (k+1) xs (st.cP y.B.dst y.v y.us):=(CZ fun _ _=>rfl).symm
   conv=>rhs;rw[e2]
   refine CY rfl fun j z hz I2=>?_
   have:=hj (j+1) z (by omega) (by simpa using hz) I2
   rw[show k+(j+1)=k+1+j from by omega] at this
   exact this
  |succ i=>
   refine ih (by simpa using h) (by rw[show k+1+i=k+(i+1) from by omega];exact dW) hw fun j z o6 hz I2=>?_
   have:=hj (j+1) z (by omega) (by simpa using hz) I2
   rw[show k+(j+1)=k+1+j from by omega] at this
   exact this
section
variable {P:Program}{ops:Array Oper}
def Bl(ops:Array Oper)(L:Nat->Bool)(i:Nat):Prop:=∀B,ops[i]? =some B->∀e,e∈B.after.toList->Region.binds .any e=true->L e.on=true
def At(ops:Array Oper)(L:Nat->Bool):Prop:=∀j,L j=true->Bl ops L j
def ts(ops:Array Oper)(k i:Nat):Prop:=∀L,At ops L->Bl ops L i->L k=true
theorem Ph{aB:Type}{l:List (Nat×aB)}{n:Nat}{v:aB}(h:look l n=some v):(n,v)∈l:=by
 induction l with
 |nil=>cases h
 |cons p l ih=>
  obtain⟨m,u⟩:=p;simp only[look] at h;cases hb:m.beq n with
  |true=>
   simp only[hb,cond_true,Option.some.injEq] at h;rw[<-Nat.eq_of_beq_eq_true hb,h];exact List.mem_cons_self
  |false=>simp only[hb,cond_false] at h;exact List.mem_cons_of_mem _ (ih h)
theorem aet{acc:List (Nat×Rec×List Nat)}(ha:∀k x b,(k,x,b)∈acc->∀m,m∈b->ts ops m k){i:Nat}:∀{es:List Edge} {m:Nat},m∈lK acc es->∀L,At ops L->
  (∀e,e∈es->Region.binds .any e=true->L e.on=true)->L m=true:=by
 intro es;induction es with
 |nil=>intro m h;cases h
 |cons e es ih=>
  intro m h L hc hf;simp only[lK] at h;cases hb:Region.binds .any e with
  |false=>
   simp only[hb,cond_false] at h;exact ih h L hc fun cz l3=>hf cz (List.mem_cons_of_mem _ l3)
  |true=>
   simp only[hb,cond_true] at h;have h0:=hf e List.mem_cons_self hb;split at h
   ·rename_i x hx;rcases List.mem_cons.1 h with rfl|h
    ·exact h0
    ·rcases List.mem_append.1 h with h|h
     ·have hm:(e.on,x)∈acc:=Ph hx;obtain⟨dV,fE⟩:=x;exact ha _ _ _ hm m h L hc (hc _ h0)
     ·exact ih h L hc fun cz l3=>hf cz (List.mem_cons_of_mem _ l3)
   ·exact ih h L hc fun cz l3=>hf cz (List.mem_cons_of_mem _ l3)
structure sE(C:Ctx)(ops:Array Oper)(st:ah)(B:Oper)(x:Rec):Prop where
 gV:x.B=B
 guard:∀j want,B.guard=some (j,want)->∃t,(ops[j]?).bind (·.dst)=some t/\t∈x.kB/\((∃b,st.get t=one (.bool b)/\(x.go=(b==want)))\/((∃u,st.get t=bX (.cN (.tuple u)))/\x.go=false))
 free:B.guard=none->x.go=true
 skip:x.go=false->x.v=zx/\x.us=[]
 run:x.go=true->∃y,(step C st B).comp=some y/\(step C st B).qM y=true/\x.v=(step C st B).val y/\x.us=(step C st B).us y/\(∀t,t∈oh (kY B.op)->t∈x.kB)/\(∀o,o∈Hb C st B->o∈x.rn)/\(zY B.op=true->x.BZ=true)
inductive kI(C:Ctx)(ops:Array Oper):List Oper->Nat->List (Nat×Rec×List Nat)->ah->List Rec->ah->Prop where
 |nil {i acc st}:kI C ops [] i acc st [] st
 |cons {B r i acc st x xs al} (Z:ce st B.dst=true) (he:rS i B.after.toList=true) (hx:sE C ops st B x) (hk:r6 (lK acc B.after.toList) x acc=true)
   (h:kI C ops r (i+1) ((i,x,lK acc B.after.toList)::acc) (st.cP B.dst x.v x.us) xs al):kI C ops (B::r) i acc st (x::xs) al
theorem aca{R:Type}{g:Bool}{v:aJ}{K:aJ->Option R}{r:R}(h:HE g v K=some r):K v=some r:=by
 unfold HE at h;cases g with
 |false=>exact h
 |true=>
  simp only[cond_true] at h;split at h
  ·rename_i b;cases b<;>exact h
  ·exact h
theorem _F{R:Type}{C:Ctx}{g:Bool}{st:ah}{B:Oper}{K:Rec->Option R}{r:R}(h:G0 C ops g st B K=some r):∃x,sE C ops st B x/\K x=some r:=by
 have run:∀gs,zp C g st B gs K=some r->(∀j want,B.guard=some (j,want)->∃t,(ops[j]?).bind (·.dst)=some t/\t∈gs/\∃b,st.get t=one (.bool b)/\(b==want)=true)->∃x,sE C ops st B x/\K x=some r:=by
  intro gs h hg;unfold zp at h;obtain⟨y,hy,h⟩:=Option.bind_eq_some_iff.1 h;cases hc:(step C st B).qM y with
  |false=>simp[hc] at h
  |true=>
   simp only[hc,cond_true] at h;refine⟨_,⟨rfl,fun j want hj=>?_,fun _=>rfl,fun h=>(by cases h),fun _=>⟨y,hy,hc,rfl,rfl,fun t ap=>List.mem_append.2 (.inr ap),fun _ h=>h,fun h=>h⟩⟩,aca h⟩
   obtain⟨t,h1,h2,b,h3,ax⟩:=hg j want hj;exact⟨t,h1,List.mem_append.2 (.inl h2),.inl ⟨b,h3,ax.symm⟩⟩
 have skip:∀gs,ED B gs K=some r->(∃j want,B.guard=some (j,want)/\∃t,(ops[j]?).bind (·.dst)=some t/\t∈gs/\((∃b,st.get t=one (.bool b)/\(b==want)=false)\/∃u,st.get t=bX (.cN (.tuple u))))->∃x,sE C ops st B x/\K x=some r:=by
  intro gs h hg;obtain⟨j,want,hj,t,h1,h2,h3⟩:=hg;refine⟨_,⟨rfl,fun Ym asH jA=>?_,fun h=>(by rw[hj] at h;cases h),fun _=>⟨rfl,rfl⟩,fun h=>(by cases h)⟩,h⟩
  rw[hj] at jA;cases jA;refine⟨t,h1,h2,?_⟩;rcases h3 with⟨b,h3,ax⟩|h3
  ·exact .inl ⟨b,h3,ax.symm⟩
  ·exact .inr ⟨h3,rfl⟩
 unfold G0 at h;split at h
 ·rename_i hg;exact run [] h fun j want hj=>by rw[hg] at hj;cases hj
 ·rename_i j want hg;split at h
  ·rename_i t ap;split at h
   ·rename_i b hb;cases b<;>cases want<;>simp only[cond_true,cond_false,Bool.not_true,Bool.not_false] at h
    ·exact run [t] h fun Ym w' jA=>by rw[hg] at jA;cases jA;exact⟨t,ap,List.mem_singleton.2 rfl,false,hb,rfl⟩
    ·exact skip [t] h ⟨j,true,hg,t,ap,List.mem_singleton.2 rfl,.inl ⟨false,hb,rfl⟩⟩
    ·exact skip [t] h ⟨j,false,hg,t,ap,List.mem_singleton.2 rfl,.inl ⟨true,hb,rfl⟩⟩
    ·exact run [t] h fun Ym w' jA=>by rw[hg] at jA;cases jA;exact⟨t,ap,List.mem_singleton.2 rfl,true,hb,rfl⟩
   ·rename_i u hu;exact skip [t] h ⟨j,want,hg,t,ap,List.mem_singleton.2 rfl,.inr ⟨u,hu⟩⟩
   ·cases h
  ·cases h
theorem acv{R:Type}{C:Ctx}{K:ah->Option R}{r:R}:∀{os:List Oper} {i:Nat} {acc:List (Nat×Rec×List Nat)} {st:ah},An C ops os i acc st K=some r->∃xs al,kI C ops os i acc st xs al/\K al=some r:=by
 intro os;induction os with
 |nil=>intro i acc st h;exact⟨[],st,.nil,h⟩
 |cons B os ih=>
  intro i acc st h;simp only[An] at h;cases Z:ce st B.dst&&rS i B.after.toList with
  |false=>simp[Z] at h
  |true=>
   simp only[Z,cond_true] at h;obtain⟨x,hx,h⟩:=_F h;cases hk:r6 (lK acc B.after.toList) x acc with
   |false=>simp[hk] at h
   |true=>
    simp only[hk,cond_true] at h;obtain⟨xs,al,h1,h2⟩:=ih h;simp only[Bool.and_eq_true] at Z;exact⟨x::xs,al,.cons Z.1 Z.2 hx hk h1,h2⟩
theorem kI.length{C:Ctx}{os:List Oper}{i:Nat}{acc:List (Nat×Rec×List Nat)}{st al:ah}{xs:List Rec}(h:kI C ops os i acc st xs al):xs.length=os.length:=by
 induction h with
 |nil=>rfl
 |cons _ _ _ _ _ ih=>simp[ih]
theorem kI.alj{C:Ctx}{os:List Oper}{i:Nat}{acc:List (Nat×Rec×List Nat)}{st al:ah}{xs:List Rec}(h:kI C ops os i acc st xs al):∀k,ej (fun _=>true) k xs st=al:=by
 induction h with
 |nil=>intro k;rfl
 |cons _ _ hx _ _ ih=>intro k;simp only[ej,cond_true,hx.gV];exact ih _
theorem kI.at_{C:Ctx}{os:List Oper}{i:Nat}{acc:List (Nat×Rec×List Nat)}{st al:ah}{xs:List Rec}(h:kI C ops os i acc st xs al):∀j x,xs[j]? =some x->
  ∃B,os[j]? =some B/\ce st B.dst=true/\rS (i+j) B.after.toList=true/\sE C ops (ej (fun k=>decide (k<j)) 0 xs st) B x:=by
 induction h with
 |nil=>intro j x h;cases h
 |@cons B r i acc st x xs al Z he hx hk h ih=>
  intro j y hy;cases j with
  |zero=>
   simp only[List.getElem?_cons_zero,Option.some.injEq] at hy;subst hy;refine⟨B,rfl,Z,he,?_⟩;rw[CZ fun j _=>by simp[Nat.blt]]
   exact hx
  |succ j=>
   obtain⟨cU,h1,h2,h3,ax⟩:=ih j y (by simpa using hy)
   refine⟨cU,by simpa using h1,?_,by rw[show i+(j+1)=i+1+j from by omega];exact h3,?_⟩
   ·revert h2;cases cU.dst<;>simp[ce,G1]
   ·simp only[ej];have eS:decide (0<j+1)=true:=by simp
    rw[eS,cond_true,hx.gV];rw[LK (L':=fun k=>decide (k<j)) (k':=0) fun m _=>by simp only[decide_eq_decide];omega]
    exact ax
theorem MW{n:Nat}{l:List Nat}:fK n l=true <-> n∈l:=by
 induction l with
 |nil=>simp[fK]
 |cons m l ih=>
  simp only[fK,Bool.or_eq_true,ih,List.mem_cons];constructor
  ·rintro(h|h)
   ·exact .inl (Nat.eq_of_beq_eq_true h)
   ·exact .inr h
  ·rintro(h|h)
   ·exact .inl (by rw[h];exact Nat.beq_refl m)
   ·exact .inr h
theorem aaj{wi:List Nat}{x:Rec}:∀{acc:List (Nat×Rec×List Nat)},r6 wi x acc=true->∀k y b,(k,y,b)∈acc->k∈wi\/lO y x=false:=by
 intro acc;induction acc with
 |nil=>intro _ k y b h;cases h
 |cons p acc ih=>
  obtain⟨j,z,atN⟩:=p;intro h k y b hm;simp only[r6,Bool.and_eq_true,Bool.or_eq_true] at h;rcases List.mem_cons.1 hm with hm|hm
  ·cases hm;rcases h.1 with h1|h1
   ·exact .inl (MW.1 h1)
   ·exact .inr (by simpa using h1)
  ·exact ih h.2 k y b hm
theorem kI.aoh{C:Ctx}{os:List Oper}{i:Nat}{acc:List (Nat×Rec×List Nat)}{st al:ah}{xs:List Rec}(h:kI C ops os i acc st xs al):∀(pre:List Rec),pre.length=i->(∀j,ops[i+j]? =os[j]?)->
  (∀k y,pre[k]? =some y->∃b,(k,y,b)∈acc)->(∀k x b,(k,x,b)∈acc->∀m,m∈b->ts ops m k)->∀j x,xs[j]? =some x->∀k y,k<i+j->(pre++xs)[k]? =some y->ts ops k (i+j)\/lO y x=false:=by
 induction h with
 |nil=>intro pre _ _ _ _ j x h;cases h
 |@cons B r i acc st x xs al Z he hx hk h ih=>
  intro pre hlen TN TM iW j y hy k z apa hz;have TY:∀m,m∈lK acc B.after.toList->ts ops m i:=fun m hm L hc hf=>by
   refine aet iW (i:=i) hm L hc fun e he hb=>hf B ?_ e he hb
   have:=TN 0;simpa using this
  cases j with
  |zero=>
   simp only[List.getElem?_cons_zero,Option.some.injEq] at hy;subst hy;simp only[Nat.add_zero] at apa ⊢;rw[List.getElem?_append_left (by omega)] at hz
   obtain⟨b,hb⟩:=TM k z hz;rcases aaj hk k z b hb with h1|h1
   ·exact .inl (TY k h1)
   ·exact .inr h1
  |succ j=>
   have:=ih (pre++[x]) (by simp[hlen]) (fun j=>by have:=TN (j+1);rw[show i+1+j=i+(j+1) from by omega];simpa using this)
    (fun k y hy=>?_) (fun k h6 b hm m WW=>?_) j y (by simpa using hy) k z (by omega) (by simpa using hz)
   ·rw[show i+(j+1)=i+1+j from by omega];exact this
   ·rcases Nat.lt_or_ge k pre.length with af|af
    ·rw[List.getElem?_append_left af] at hy;obtain⟨b,hb⟩:=TM k y hy;exact⟨b,List.mem_cons_of_mem _ hb⟩
    ·rw[List.getElem?_append_right af] at hy;have h0:k-pre.length=0:=by
      rcases Nat.eq_zero_or_pos (k-pre.length) with h0|h0
      ·exact h0
      ·rw[List.getElem?_eq_none (by simp;omega)] at hy;cases hy
     rw[h0] at hy;simp only[List.getElem?_cons_zero,Option.some.injEq] at hy;subst hy;have:k=i:=by omega
     subst this;exact⟨_,List.mem_cons_self⟩
   ·rcases List.mem_cons.1 hm with hm|hm
    ·cases hm;exact TY m WW
    ·exact iW k h6 b hm m WW
end
section
variable {P:Program}{O:World}{Y:List Nat}{X:Nat->Prop}{D:Nat->Value}{st al:ah}{M:Array Value}{w:World}
theorem am.same(S:am O Y X D st M w)(hv:∀l,ef st l=ef al l)(hn:st.nt=al.nt):am O Y X D al M w:=by
 have hs:∀o,look st.sites o=look al.sites o:=fun o=>by have:=hv (.inr o);simpa[ef,ah.ab] using this
 have hg:∀t,st.get t=al.get t:=fun t=>by have:=hv (.inl t);simpa[ef] using this
 have hl:∀o,cd st.sites o <-> cd al.sites o:=fun o=>by unfold cd;rw[hs]
 have ha:aw X D al.sites=aw X D st.sites:=by
  funext b
  unfold aw;simp only[hl]
 have G:hX D D st.sites al.sites w w (aw X D st.sites) (aw X D al.sites):=by
  rw[ha];exact⟨fun o ab h=>⟨ab,by rw[<-hs];exact h,Nat.le_refl _,fun _=>rfl⟩,fun _ _ _=>rfl,fun _ h _=>h⟩
 have hlt:∀b,aw X D al.sites b->b<w.heap.size:=fun b hb=>S.lt (by rw[<-ha];exact hb)
 refine⟨S.nt.trans hn,fun t=>?_,fun o ab h=>?_,fun o aa b h1 h2=>S.dT o aa b ((hl o).2 h1) ((hl aa).2 h2),fun o b h=>S.cf o b ((hl o).2 h),S.frame,S.old,S.eX⟩
 ·rw[<-hg];exact(S.cE t).goes G (Nat.le_refl _) hlt
 ·exact(S.sites o ab (by rw[hs];exact h)).goes G (Nat.le_refl _) hlt rfl (fun _ _ _=>rfl)
theorem am.drawn(S:am O Y X D st M w)(n:Nat):am O Y X D st M {w with drawn:=n}:=by
 have G:hX D D st.sites st.sites w {w with drawn:=n} (aw X D st.sites) (aw X D st.sites):=
  ⟨fun o ab h=>⟨ab,h,Nat.le_refl _,fun _=>rfl⟩,fun _ _ _=>rfl,fun _ h _=>h⟩
 refine⟨S.nt,fun t=>(S.cE t).goes G (Nat.le_refl _) fun b hb=>S.lt hb,fun o ab h=>(S.sites o ab h).goes G (Nat.le_refl _) (fun b hb=>S.lt hb) rfl (fun _ _ _=>rfl),S.dT,S.cf,⟨S.frame.os,S.frame.tape,S.frame.output,S.frame.size,S.frame.block⟩,S.old,S.eX⟩
theorem Zh{aB:Type}:∀{us:List (Nat×aB)} {o:Nat} {s:aB},m' us o=some s->o∈keys us:=by
 intro us;induction us with
 |nil=>intro o s h;cases h
 |cons p us ih=>
  obtain⟨k,v⟩:=p;intro o s h;simp only[m'] at h;split at h
  ·rename_i x hx;exact List.mem_cons_of_mem _ (ih hx)
  ·cases hb:k.beq o with
   |true=>rw[<-Nat.eq_of_beq_eq_true hb];exact List.mem_cons_self
   |false=>simp[hb] at h
theorem Dj{n:Nat}{l:List Nat}:fK n l=true <-> n∈l:=MW
theorem rr{l m:List Nat}{n:Nat}(h1:n∈l)(h2:n∈m):eW l m=false:=by
 induction l with
 |nil=>cases h1
 |cons k l ih=>
  simp only[eW];rcases List.mem_cons.1 h1 with rfl|h1
  ·rw[Dj.2 h2];rfl
  ·rw[ih h1,Bool.and_false]
theorem Md{l:List Nat}{n:Nat}(h1:n∈l)(h2:1000000<=n):uK l=true:=by
 induction l with
 |nil=>cases h1
 |cons k l ih=>
  simp only[uK,Bool.or_eq_true];rcases List.mem_cons.1 h1 with rfl|h1
  ·exact .inl (Nat.ble_eq_true_of_le h2)
  ·exact .inr (ih h1)
def Rec.at_(x:Rec):n_->Prop
 |.inl t=>t∈x.kB
 |.inr o=>o∈x.rn\/(x.BZ=true/\1000000<=o)
theorem zw{x:Rec}{t:Nat}(h:x.wr (.inl t)≠none):x.B.dst=some t:=by
 simp only[Rec.wr] at h;split at h
 ·rename_i d Z;cases hb:d.beq t with
  |true=>rw[Z,Nat.eq_of_beq_eq_true hb]
  |false=>simp[hb] at h
 ·exact absurd rfl h
theorem zv{x:Rec}{o:Nat}(h:x.wr (.inr o)≠none):o∈keys x.us:=by
 simp only[Rec.wr] at h;cases hl:m' x.us o with
 |none=>simp[hl] at h
 |some s=>exact Zh hl
theorem afY{a b:Rec}{l:n_}(h1:a.wr l≠none)(h2:b.at_ l):lO a b=true:=by
 unfold lO;cases l with
 |inl t=>
  have:=zw h1;have h2:t∈b.kB:=h2;simp[this,sH,Dj.2 h2]
 |inr o=>
  have:=zv h1;rcases h2 with h2|⟨h2,h3⟩
  ·have:eW (keys a.us) (b.rn++keys b.us)=false:=rr this (List.mem_append.2 (.inl h2));simp[this]
  ·have:=Md this h3;simp[this,h2]
theorem afZ{a b:Rec}{l:n_}(h1:a.at_ l)(h2:b.wr l≠none):lO a b=true:=by
 unfold lO;cases l with
 |inl t=>
  have:=zw h2;have h1:t∈a.kB:=h1;simp[this,sH,Dj.2 h1]
 |inr o=>
  have:=zv h2;rcases h1 with h2|⟨h2,h3⟩
  ·have:eW (keys b.us) a.rn=false:=rr this h2;simp[this]
  ·have:=Md this h3;simp[this,h2]
theorem afX{a b:Rec}{l:n_}(h1:a.wr l≠none)(h2:b.wr l≠none):lO a b=true:=by
 unfold lO;cases l with
 |inl t=>
  have e1:=zw h1;have e2:=zw h2;simp[e1,e2,sH,fK]
 |inr o=>
  have e1:=zv h1;have e2:=zv h2;have:eW (keys a.us) (b.rn++keys b.us)=false:=rr e1 (List.mem_append.2 (.inr e2));simp[this]
variable {C:Ctx}{ops:Array Oper}{rn:Option Nat}{ds:List Deferred}
def nH(L:Nat->Bool)(i:Nat):Nat->Bool:=fun j=>L j||decide (j=i)
theorem acu(H:a7 P C){xs:List Rec}{bu:ah}{i:Nat}{B:Oper}{x:Rec}(hx:xs[i]? =some x)(Z:ce bu B.dst=true)(hr:sE C ops (ej (fun k=>decide (k<i)) 0 xs bu) B x)
  (qh:∀j y,xs[j]? =some y->∀k z,k<j->xs[k]? =some z->ts ops k j\/lO z y=false) {L:Nat->Bool} (hc:At ops L) (hi:L i=false) (hf:Bl ops L i) (ao5:ops[i]? =some B)
  (S:am O Y X D (ej L 0 xs bu) M w) {Q:Exit->Act->World->Prop} {K:Act->World->Prop} (bM:∀aI bU w',am O Y X aI (ej (nH L i) 0 xs bu) bU w'->(∀t,t∉B.dst.toList->bU.getD t undef=M.getD t undef)->K ⟨bU,ds⟩ w'):wpOpIn (eC rn) 0 P ops Q i K ⟨M,ds⟩ w:=by
 have IL:∀l,x.at_ l->ef (ej (fun k=>decide (k<i)) 0 xs bu) l=ef (ej L 0 xs bu) l:=fun l hl=>by
  refine(CY rfl fun j y hy hw=>?_).symm
  simp only[Nat.zero_add];rcases Nat.lt_trichotomy j i with h|h|h
  ·rcases qh i x hx j y h hy with h1|h1
   ·rw[h1 L hc hf];simp[h]
   ·rw[afY hw hl] at h1;cases h1
  ·subst h;rw[hi];simp
  ·have:L j=false:=by
    cases qJ:L j with
    |false=>rfl
    |true=>
     rcases qh j y hy i x h hx with h1|h1
     ·have:=h1 L hc (hc j qJ);rw[hi] at this;cases this
     ·rw[afZ hl hw] at h1;cases h1
   rw[this];simp;omega
 have RY:∀t,t∈x.kB->(ej (fun k=>decide (k<i)) 0 xs bu).get t=(ej L 0 xs bu).get t:=fun t ap=>by
  have:=IL (.inl t) ap;simpa[ef] using this
 have AA:∀l,ef ((ej L 0 xs bu).cP x.B.dst x.v x.us) l=ef (ej (nH L i) 0 xs bu) l:=fun l=>by
  rw[xL];cases hw:x.wr l with
  |none=>
   simp only;refine CY rfl fun j y hy I3=>?_
   simp only[Nat.zero_add,nH];by_cases h:j=i
   ·subst h;rw[hx] at hy;cases hy;exact absurd hw I3
   ·simp[h]
  |some u=>
   simp only;refine(aaN hx (by simp[nH]) hw fun j y o6 hy I3=>?_).symm
   simp only[Nat.zero_add,nH];have:L j=false:=by
    cases qJ:L j with
    |false=>rfl
    |true=>
     rcases qh j y hy i x o6 hx with h1|h1
     ·have:=h1 L hc (hc j qJ);rw[hi] at this;cases this
     ·rw[afX (by rw[hw];intro h;cases h) I3] at h1;cases h1
   rw[this];simp;omega
 have W9:ce (ej L 0 xs bu) B.dst=true:=by revert Z;cases B.dst<;>simp[ce,EF]
 have fin:∀aI bU w',am O Y X aI ((ej L 0 xs bu).cP x.B.dst x.v x.us) bU w'->(∀t,t∉B.dst.toList->bU.getD t undef=M.getD t undef)->K ⟨bU,ds⟩ w':=fun aI bU w' ca=>bM aI bU w' (ca.same AA (by rw[G1,EF,EF]))
 unfold wpOpIn;rw[ao5];simp only;have AC:Region.wanted B (yielded ops M)=x.go:=by
  cases hg:B.guard with
  |none=>rw[hr.free hg];simp[Region.wanted,hg]
  |some Kj=>
   obtain⟨j,want⟩:=Kj;obtain⟨t,h1,h2,h3⟩:=hr.guard j want hg;rw[show Region.wanted B (yielded ops M)=(yielded ops M j==some want) by simp[Region.wanted,hg]]
   have iU:=S.cE t;rw[<-RY t h2] at iU;rcases h3 with⟨b,h3,ax⟩|⟨⟨u,h3⟩,ax⟩
   ·rw[h3] at iU;have hv:=jn iU;have hy:yielded ops M j=some b:=by
     have ap:t<M.size:=by
      rcases Nat.lt_or_ge t M.size with af|af
      ·exact af
      ·simp[Array.getD,Nat.not_lt.2 af,undef] at hv
     have:M[t]? =some (.bool b):=by
      rw[Array.getElem?_eq_getElem ap];simpa[Array.getD,ap] using hv
     simp[yielded,h1,this]
    rw[hy,ax];cases b<;>cases want<;>rfl
   ·rw[h3] at iU;have hv:M.getD t undef=.tuple u:=iU;have hy:yielded ops M j=none:=by
     simp only[yielded,h1,Option.bind_some];cases ap:M[t]? with
     |none=>rfl
     |some v=>
      have:M.getD t undef=v:=by simp[Array.getD_eq_getD_getElem?,ap]
      rw[this] at hv;rw[hv]
    rw[hy,ax];rfl
 cases td:x.go with
 |false=>
  rw[td] at AC;rw[if_neg (by rw[AC];decide)]
  obtain⟨e1,e2⟩:=hr.skip td;refine⟨fun f _=>AR rn f,xn (R:=ah) (r:=(ej L 0 xs bu).cP B.dst zx []) S (K:=some) (by simp[r3,W9]) fun eA gu hF aN h1 dm=>?_⟩
  cases h1;refine fin gu hF aN ?_
  rw[hr.gV,e1,e2];exact dm
 |true=>
  rw[td] at AC;rw[if_pos AC];obtain⟨y,g1,g2,g3,g4,g5,g6,g7⟩:=hr.run td;have dG:step C (ej (fun k=>decide (k<i)) 0 xs bu) B=step C (ej L 0 xs bu) B:=by
   refine _5 (fun t ap=>RY t (g5 t ap)) (fun o bn=>?_) fun aiY o bn=>?_
   ·have:=IL (.inr o) (.inl (g6 o bn));simpa[ef] using this
   ·have:=IL (.inr o) (.inr ⟨g7 aiY,bn⟩);simpa[ef] using this
  revert y
  rw[dG];intro y g1 g2 g3 g4;refine mY (R:=ah) (r:=(ej L 0 xs bu).cP B.dst x.v x.us) S H (K:=some) ?_ fun eA gu hF aN h1 dm=>?_
  ·unfold j9;rw[W9,cond_true,g1];simp only[Option.bind_some,g2,cond_true,g3,g4]
  ·cases h1;refine fin gu hF aN ?_
   rw[hr.gV];exact dm
def vF(listed:Array Bool):Nat:=listed.toList.count false
def gn(listed:Array Bool):Nat->Bool:=fun j=>listed.getD j false
theorem aeJ{listed:Array Bool}{i:Nat}(h:listed.getD i true=false):vF (listed.setIfInBounds i true)+1=vF listed:=by
 unfold vF;have hlt:i<listed.size:=by
  rcases Nat.lt_or_ge i listed.size with af|af
  ·exact af
  ·simp[Array.getD,Nat.not_lt.2 af] at h
 have hv:listed.toList[i]'(by simpa using hlt)=false:=by simpa[Array.getD,hlt] using h
 rw[Array.toList_setIfInBounds,List.count_set (by simpa using hlt)]
 rw[hv];have:0<listed.toList.count false:=List.count_pos_iff.2 (by rw[<-hv];exact List.getElem_mem _)
 have e1:(if(false==false)=true then 1 else 0)=1:=rfl
 have e2:(if(true==false)=true then 1 else 0)=0:=rfl
 rw[e1,e2];omega
theorem Na{B:Oper}{t:Nat}:∀{l:List Oper},B∈l->t∈B.dst.toList->t∈ig l:=by
 intro l;induction l with
 |nil=>intro h;cases h
 |cons p l ih=>
  intro h ap;simp only[ig,List.mem_append];rcases List.mem_cons.1 h with rfl|h
  ·exact .inl ap
  ·exact .inr (ih h ap)
theorem aei(H:a7 P C){bu Bu:ah}{xs:List Rec}(be:kI C ops ops.toList 0 [] bu xs Bu){Q:Exit->Act->World->Prop}{eF:Array Value}(Cg:∀D M w,am O Y X D Bu M w->(∀t,t∉ig ops.toList->M.getD t undef=eF.getD t undef)->Q .normal ⟨M,ds⟩ w):
  ∀(lR:Nat) (listed:Array Bool) (D:Nat->Value) (M:Array Value) (w:World),listed.size=ops.size->vF listed<=lR->At ops (gn listed)->am O Y X D (ej (gn listed) 0 xs bu) M w->
   (∀t,t∉ig ops.toList->M.getD t undef=eF.getD t undef)->wpAnyIn (eC rn) 0 P .any ops Q lR listed ⟨M,ds⟩ w:=by
 have hlen:xs.length=ops.size:=by rw[be.length];simp
 have qh:∀j y,xs[j]? =some y->∀k z,k<j->xs[k]? =some z->ts ops k j\/lO z y=false:=fun j y hy k z hk hz=>by
  have:=be.aoh [] rfl (fun j=>by simp) (fun k y h=>by simp at h) (fun k x b h=>by simp at h) j y hy k z (by omega) (by simpa using hz)
  simpa using this
 have all:∀listed:Array Bool,listed.size=ops.size->(∀j,j<ops.size->gn listed j=true)->∀D M w,am O Y X D (ej (gn listed) 0 xs bu) M w->(∀t,t∉ig ops.toList->M.getD t undef=eF.getD t undef)->Q .normal ⟨M,ds⟩ w:=fun listed hs hl D M w S ap=>by
  refine Cg D M w ?_ ap;rw[<-be.alj 0];rw[LK (L':=gn listed) (k':=0) fun j hj=>by simp only[Nat.zero_add];rw[hl j (by omega)]]
  exact S
 have done:∀listed:Array Bool,listed.size=ops.size->Region.ready .any ops listed=[]->∀j,j<ops.size->gn listed j=true:=fun listed hs hr j=>by
  induction j using Nat.strongRecOn with
  |_ j ih=>
   intro hj;cases qJ:gn listed j with
   |true=>rfl
   |false=>
    exfalso
    have hx:xs[j]? =some (xs[j]'(by omega)):=List.getElem?_eq_getElem _
    obtain⟨B,h1,_,h3,_⟩:=be.at_ j _ hx;have h1:ops[j]? =some B:=by simpa using h1
    have hm:j∈Region.ready .any ops listed:=by
     rw[mem_ready];refine⟨?_,B,h1,fun e he hb=>?_⟩
     ·have hlt:j<listed.size:=by omega
      simpa[gn,Array.getD,hlt] using qJ
     ·have:e.on<j:=by
       have l3:e∈B.after.toList:=by simpa using he
       clear he hr;revert h3
       simp only[Nat.zero_add];generalize B.after.toList=es at l3;induction es with
       |nil=>cases l3
       |cons cz es aoC=>
        intro h3;simp only[rS,Bool.and_eq_true] at h3;rcases List.mem_cons.1 l3 with rfl|l3
        ·rw[hb] at h3;simpa using h3.1
        ·exact aoC l3 h3.2
      have:=ih e.on this (by omega)
      simpa[gn] using this
    rw[hr] at hm;cases hm
 intro lR;induction lR with
 |zero=>
  intro listed D M w hs hu hc S ap;have mz:∀j,j<ops.size->gn listed j=true:=fun j hj=>by
   have h0:listed.toList.count false=0:=Nat.le_zero.1 hu;rw[List.count_eq_zero] at h0;cases qJ:gn listed j with
   |true=>rfl
   |false=>
    exfalso
    have hlt:j<listed.size:=by omega
    apply h0;have:listed.toList[j]'(by simpa using hlt)=false:=by simpa[gn,Array.getD,hlt] using qJ
    rw[<-this];exact List.getElem_mem _
  refine⟨?_,all listed hs mz D M w S ap⟩;rw[List.eq_nil_iff_forall_not_mem];intro j hj;rw[mem_ready] at hj;obtain⟨h1,B,h2,_⟩:=hj;have hj:j<ops.size:=(Array.getElem?_eq_some_iff.1 h2).1;have:=mz j hj;have hlt:j<listed.size:=by omega
  simp[gn,Array.getD,hlt] at this h1;rw[h1] at this;cases this
 |succ lR ih=>
  intro listed D M w hs hu hc S ap;refine⟨fun hr=>all listed hs (done listed hs hr) D M w S ap,fun i hi=>?_⟩
  have j1:=mem_ready.1 hi;obtain⟨h1,B,h2,h3⟩:=j1;have tc:i<ops.size:=(Array.getElem?_eq_some_iff.1 h2).1;have hx:xs[i]? =some (xs[i]'(by omega)):=List.getElem?_eq_getElem _
  obtain⟨cU,g1,g2,g3,g4⟩:=be.at_ i _ hx;have g1:ops[i]? =some cU:=by simpa using g1
  rw[h2] at g1;cases g1;have hlt:i<listed.size:=by omega
  have apy:gn listed i=false:=by simpa[gn,Array.getD,hlt] using h1
  have hf:Bl ops (gn listed) i:=fun o2 vX e he hb=>by
   rw[h2] at vX;cases vX;have:=h3 e (by simpa using he) hb
   simpa[gn] using this
  have vh:gn (listed.setIfInBounds i true)=nH (gn listed) i:=by
   funext j
   simp only[gn,nH];by_cases h:j=i
   ·subst h;simp[hlt]
   ·simp[h,Array.getElem?_setIfInBounds_ne (show i≠j from fun e=>h e.symm)]
  refine acu H hx g2 g4 qh hc apy hf h2 S fun aI bU w' ca qw=>ih _ aI bU w' (by simpa using hs) (by have:=aeJ h1;omega) ?_ (by rw[vh];exact ca) fun t htn=>(qw t fun af=>htn (Na (l:=ops.toList) (by simpa using Array.mem_of_getElem? h2) af)).trans (ap t htn)
  rw[vh];intro j hj o2 vX e he hb;simp only[nH,Bool.or_eq_true,decide_eq_true_eq] at hj;simp only[nH,Bool.or_eq_true,decide_eq_true_eq];rcases hj with hj|hj
  ·exact .inl (hc j hj o2 vX e he hb)
  ·subst hj;exact .inl (hf o2 vX e he hb)
theorem acn:∀l:List Nat,dE st.sites (Ag st l):=by
 intro l;induction l with
 |nil=>exact .nil
 |cons t l ih=>
  refine dE.append ?_ ih;unfold Ry;split
  ·rename_i o s _;split
   ·rename_i aG t xs hs;cases hb:aG.beq s with
    |false=>exact .nil
    |true=>
     intro aa ab hm;simp only[cond_true,List.mem_singleton,Prod.mk.injEq] at hm;obtain⟨rfl,rfl⟩:=hm;exact⟨aG,t,xs,rfl,.inl hs⟩
   ·exact .nil
  ·exact .nil
theorem aaE(H:a7 P C)(hm:P.follows .mixedOrders=true){R:Type}{r:R}{K:ah->Option R}{id:Nat}{Q:Exit->Act->World->Prop}(S:am O Y X D st M w)(h:PE C ops st K=some r)
  (bM:∀al aI bU w',K al=some r->am O Y X aI al bU w'->(∀t,t∉ig ops.toList->bU.getD t undef=M.getD t undef)->Q .normal ⟨bU,ds⟩ w'):fR rn P (Code.region id ops true) Q ⟨M,ds⟩ w:=by
 obtain⟨xs,Bu,be,hk⟩:=acv h;have S:am O Y X D (st.hU (Ag st (D2 ops.toList ops.toList))) M w:=by rw[ah.ue];exact S.zm (acn _)
 refine wpIn_region_any hm (aei H be (fun D M w S=>bM Bu D M w hk S) _ _ D M _ (by simp) ?_ ?_ ?_ (fun _ _=>rfl))
 ·unfold vF;simp
 ·intro j hj;simp only[gn] at hj;exfalso
  rw[Array.getD_eq_getD_getElem?,Array.getElem?_replicate] at hj;split at hj<;>cases hj
 ·rw[CZ fun j _=>by
   simp only[gn];rw[Array.getD_eq_getD_getElem?,Array.getElem?_replicate];split<;>rfl]
  exact S.drawn _
end
def sF(r:Option Nat)(c:Code):Prop:=r=none\/gD c=true
theorem sF.left{r:Option Nat}{a b:Bool}(h:r=none\/(a&&b)=true):r=none\/a=true:=by
 rcases h with h|h
 ·exact .inl h
 ·simp only[Bool.and_eq_true] at h;exact .inr h.1
theorem sF.right{r:Option Nat}{a b:Bool}(h:r=none\/(a&&b)=true):r=none\/b=true:=by
 rcases h with h|h
 ·exact .inl h
 ·simp only[Bool.and_eq_true] at h;exact .inr h.2
theorem jm{P:Program}{C:hA}(H:a7 P C.toCtx){R:Type}{r:R}{rn:Option Nat}:∀(c:Code) (p:Nat),(rn=none\/gD c=true)->fV P C c p->∀(O:World) (Y:List Nat) (X:Nat->Prop) (st:ah) (D:Nat->Value) (M:Array Value) (w:World)
  (ds:List Deferred) (K:Out->Option R)
  (Q:Exit->Act->World->Prop),exec C c p st K=some r->am O Y X D st M w->(∀B e a w',K B=some r->e5 O Y X ds M (ck c) B e a w'->Q e a w')->fR rn P c Q ⟨M,ds⟩ w:=by
 have piece:∀(c:Code) (p:Nat),(rn=none\/gD c=true)->(∀f,C.nK p=some f->aW P c f)->∀(O:World) (Y:List Nat) (X:Nat->Prop) (st:ah) (D:Nat->Value) (M:Array Value) (w:World) (ds:List Deferred) (K:Out->Option R) (Q:Exit->Act->World->Prop) (x:Option R),
   wrap C p st K x=some r->am O Y X D st M w->(∀B e a w',K B=some r->e5 O Y X ds M (ck c) B e a w'->Q e a w')->(x=some r->fR rn P c Q ⟨M,ds⟩ w)->fR rn P c Q ⟨M,ds⟩ w:=by
  intro c p hn hf O Y X st D M w ds K Q x h S bM hx;unfold wrap at h;cases aC:C.nK p with
  |none=>simp only[aC] at h;exact hx h
  |some f=>
   simp only[aC] at h;cases hc:(f st).comp with
   |none=>simp[hc] at h
   |some y=>
    simp only[hc,Option.bind_some,(f st).run_eq] at h;exact wpIn_mono (hf f aC rn hn O Y X st y hc D M w ds S) fun e a w' hl=>bM _ e a w' h hl
 intro c;induction c with
 |skip=>
  intro p _ _ O Y X st D M w ds K Q h S bM;exact wpIn_skip (bM (.norm st) .normal _ _ h (er.of S fun _ _=>rfl))
 |region id ops draw=>
  intro p hn ec O Y X st D M w ds K Q h S bM;cases draw with
  |false=>
   simp only[exec] at h;refine piece _ p hn ec O Y X st D M w ds K Q _ h S bM fun af=>?_
   refine wpIn_region ?_
   rw[List.range_eq_range'];refine abp H (W:=ig ops.toList) ops.size 0 (by omega) (fun B aC t ap=>Na (by simpa using aC) ap) st D M w _ Q S af ?_
   intro al aI bU w' hk ca ap;exact bM (.norm al) .normal _ _ hk (er.of ca ap)
  |true=>
   simp only[exec] at h;refine piece _ p hn ec O Y X st D M w ds K Q _ h S bM fun af=>?_
   exact aaE H H.Kg S af fun al aI bU w' hk ca ap=>bM (.norm al) .normal _ _ hk (er.of ca ap)
 |seq a b lX qp=>
  intro p hn ec O Y X st D M w ds K Q h S bM;simp only[exec] at h;refine piece _ p hn ec.1 O Y X st D M w ds K Q _ h S bM fun af=>?_
  refine wpIn_seq (lX _ (sF.left hn) ec.2.1 O Y X st D M w ds _ _ af S ?_);intro B e cL w' hk hl;have up:∀{B e cL w'},e5 O Y X ds M (ck a) B e cL w'->e5 O Y X ds M (ck (.seq a b)) B e cL w':=fun hl=>hl.mono fun t ap=>List.mem_append.2 (.inl ap)
  cases B with
  |norm al=>
   cases e<;>try exact hl.elim
   obtain⟨aN,dA,cX,aI,dB,h1,h2,h3,ca,bk⟩:=hl;obtain⟨bU,Kq⟩:=cL;obtain⟨h3,apJ⟩:=h3;have h3:Kq=dB.map mark++ds:=h3;subst h3;exact qp _ (sF.right hn) ec.2.2 aN dA cX al aI bU w' _ K Q hk ca fun B e a2 w2 hk2 nR=>bM B e a2 w2 hk2 (e5.trans h1 h2 apJ bk nR)
  |exit id al=>
   cases e<;>try exact hl.elim
   exact bM _ _ _ _ hk (up hl)
  |ret al=>
   cases e<;>try exact hl.elim
   exact bM _ _ _ _ hk (up hl)
 |cond B a b lX qp=>
  intro p hn ec O Y X st D M w ds K Q h S bM;simp only[exec] at h;refine piece _ p hn ec.1 O Y X st D M w ds K Q _ h S bM fun af=>?_
  split at af
  ·rename_i t ap;have hv:=F9 S ap;have hv:Act.eval ⟨M,ds⟩ B=.bool t:=by cases B<;>exact hv
   cases t with
   |true=>exact wpIn_cond hv (lX _ (sF.left hn) ec.2.1 O Y X st D M w ds K Q af S fun B e a2 w2 hk2 nR=>bM B e a2 w2 hk2 (nR.mono fun t ap=>List.mem_append.2 (.inl ap)))
   |false=>exact wpIn_cond hv (qp _ (sF.right hn) ec.2.2 O Y X st D M w ds K Q af S fun B e a2 w2 hk2 nR=>bM B e a2 w2 hk2 (nR.mono fun t ap=>List.mem_append.2 (.inr ap)))
  ·cases af
 |block id a lX=>
  intro p hn ec O Y X st D M w ds K Q h S bM;simp only[exec] at h;refine piece _ p hn ec.1 O Y X st D M w ds K Q _ h S bM fun af=>?_
  refine wpIn_block (lX _ hn ec.2 O Y X st D M w ds _ _ af S ?_);intro B e cL w' hk hl;cases B with
  |norm al=>
   cases e<;>try exact hl.elim
   exact bM _ _ _ _ hk hl
  |exit iH al=>
   cases e<;>try exact hl.elim
   rename_i atj;obtain⟨rfl,hl⟩:=hl;simp only[Exit.inBlock];cases hb:iH.beq id with
   |true=>
    simp only[hb,cond_true] at hk;have:=Nat.eq_of_beq_eq_true hb;subst this;simp only[if_true];exact bM _ _ _ _ hk hl
   |false=>
    simp only[hb,cond_false] at hk;have:iH≠id:=by rintro rfl;rw[Nat.beq_refl] at hb;cases hb
    simp only[this,if_false];exact bM _ _ _ _ hk ⟨rfl,hl⟩
  |ret al=>
   cases e<;>try exact hl.elim
   exact bM _ _ _ _ hk hl
 |loop a _=>
  intro p hn ec O Y X st D M w ds K Q h S bM;simp only[exec] at h;exact piece _ p hn ec O Y X st D M w ds K Q _ h S bM fun af=>by cases af
 |rangeFunc=>
  intro p hn ec O Y X st D M w ds K Q h S bM;simp only[exec] at h;exact piece _ p hn ec O Y X st D M w ds K Q _ h S bM fun af=>by cases af
 |exit id=>
  intro p _ _ O Y X st D M w ds K Q h S bM;exact wpIn_exit (bM (.exit id st) (.exit id) _ _ h ⟨rfl,er.of S fun _ _=>rfl⟩)
 |ret=>
  intro p _ _ O Y X st D M w ds K Q h S bM;exact wpIn_ret (bM (.ret st) .ret _ _ h (er.of S fun _ _=>rfl))
 |_=>
  intro p _ _ O Y X st D M w ds K Q h S bM;simp only[exec] at h;cases h
inductive dx:Type where
 |int (k:IntKind)
 |bool
 |str
 |sl (t:aY)
 |map (t:aY)
 |err (T:Nat)
@[reducible] def dx.J:dx->Type
 |.int _=>Int
 |.bool=>Bool
 |.str=>F
 |.sl t=>List (den t)
 |.map t=>List (F×den t)
 |.err _=>Option Int
def dx.mk:(s:dx)->s.J->aZ
 |.int k,n=>.int k n
 |.bool,b=>.bool b
 |.str,s=>.str s
 |.sl t,xs=>.sl t xs
 |.map t,es=>.map t es
 |.err T,B=>.err T B
def dx.ex:(s:dx)->aZ->Option s.J
 |.int k,.int k' n=>if k=k' then some n else none
 |.bool,.bool b=>some b
 |.str,.str s=>some s
 |.sl t,.sl bi xs=>if h:bi=t then some (h▸xs) else none
 |.map t,.map bi es=>if h:bi=t then some (h▸es) else none
 |.err T,.err gj B=>if gj=T then some B else none
 |_,_=>none
theorem dx.Rk{s:dx}{d:aZ}{y:s.J}(h:s.ex d=some y):s.mk y=d:=by
 unfold dx.ex at h;split at h
 ·split at h
  ·rename_i e;cases h;subst e;rfl
  ·cases h
 ·cases h;rfl
 ·cases h;rfl
 ·split at h
  ·rename_i e;cases h;subst e;rfl
  ·cases h
 ·split at h
  ·rename_i e;cases h;subst e;rfl
  ·cases h
 ·split at h
  ·rename_i e;cases h;subst e;rfl
  ·cases h
 ·cases h
@[reducible] def kx:List dx->Type
 |[]=>Unit
 |s::r=>s.J×kx r
def fk:(aR:List dx)->kx aR->List aZ
 |[],_=>[]
 |s::r,(y,z)=>s.mk y::fk r z
def vo:(aR:List dx)->List aZ->Option (kx aR)
 |[],[]=>some ()
 |s::r,d::ds=>match s.ex d,vo r ds with
  |some y,some z=>some (y,z)
  |_,_=>none
 |_,_=>none
theorem Pe:∀{aR:List dx} {ds:List aZ} {y:kx aR},vo aR ds=some y->fk aR y=ds:=by
 intro aR;induction aR with
 |nil=>intro ds y h;cases ds with
  |nil=>rfl
  |cons=>cases h
 |cons s aR ih=>
  intro ds y h;cases ds with
  |nil=>cases h
  |cons d ds=>
   simp only[vo] at h;split at h
   ·rename_i a b h1 h2;cases h;simp only[fk,dx.Rk h1,ih h2]
   ·cases h
@[reducible] def vr:List (List dx)->Type
 |[]=>Unit
 |s::r=>kx s×vr r
def uT:(aR:List (List dx))->vr aR->List (List aZ)
 |[],_=>[]
 |s::r,(y,z)=>fk s y::uT r z
def AJ:(aR:List (List dx))->List (List aZ)->Option (vr aR)
 |[],[]=>some ()
 |s::r,d::ds=>match vo s d,AJ r ds with
  |some y,some z=>some (y,z)
  |_,_=>none
 |_,_=>none
theorem adP:∀{aR:List (List dx)} {ds:List (List aZ)} {y:vr aR},AJ aR ds=some y->uT aR y=ds:=by
 intro aR;induction aR with
 |nil=>intro ds y h;cases ds with
  |nil=>rfl
  |cons=>cases h
 |cons s aR ih=>
  intro ds y h;cases ds with
  |nil=>cases h
  |cons d ds=>
   simp only[AJ] at h;split at h
   ·rename_i a b h1 h2;cases h;simp only[uT,Pe h1,ih h2]
   ·cases h
inductive e3:Type where
 |any
 |d (s:dx)
 |fn (g:FuncId) (cK:List (List dx))
 |et (aR:List dx) (off:Nat)
 |own (n:Nat)
 |ptr (n off:Nat)
 |clo (g:FuncId) (ns:List Nat)
 |dj
 |AZ -- sY nil interface
 |eR (n:Nat) (t:aY)
@[reducible] def e3.J:e3->Type
 |.d s=>s.J
 |.fn _ cK=>vr cK
 |.et aR _=>kx aR
 |_=>Unit
def e3.mk:(s:e3)->s.J->aE
 |.any,_=>.any
 |.d s,y=>.d (s.mk y)
 |.fn g cK,y=>.d (.fn g (uT cK y))
 |.et aR off,y=>.et (fk aR y) off
 |.own n,_=>.own n 0
 |.ptr n off,_=>.ptr n 0 off
 |.clo g ns,_=>.clo g (ns.map fun n=>(n,0))
 |.dj,_=>.dj
 |.AZ,_=>.cN .nilIface
 |.eR n t,_=>.eR n 0 t 0 0
abbrev Ren:=List (Nat×Option (Nat×Nat))
def mr(ρ:Ren)(n o s:Nat):Bool:=match look ρ n with
 |some (some (VP,aG))=>VP.beq o&&aG.beq s
 |_=>false
def ui(ρ:Ren):List Nat->List (Nat×Nat)->Bool
 |[],[]=>true
 |n::ns,(o,s)::cs=>mr ρ n o s&&ui ρ ns cs
 |_,_=>false
def mi(ρ:Ren):List Nat
 :=match ρ with
 |[]=>[]
 |(_,some (o,_))::r=>o::mi r
 |(_,none)::r=>mi r
def e3.ex(st:ah)(ρ:Ren):(s:e3)->aE->Option s.J
 |.any,_=>some ()
 |.d s,.d v=>s.ex v
 |.d (.sl t),.nil _=>some ([]:List (den t))
 |.d (.err _),.cN .nilIface=>some (none:Option Int)
 |.d (.sl t),.own o s=>match st.ab o with
  |some (.db aG bi xs)=>bif aG.beq s then(if h:bi=t then some (h▸xs:List (den t)) else none) else none
  |_=>none
 |.d (.map t),.own o s=>match st.ab o with
  |some (.map aG bi es)=>bif aG.beq s&&!fK o (mi ρ) then(if h:bi=t then some (h▸es:List (F×den t)) else none) else none
  |_=>none
 |.fn g cK,.d (.fn ct cs)=>bif Nat.beq g ct then AJ cK cs else none
 |.fn g [],.clo ct []=>bif Nat.beq g ct then some () else none
 |.et aR off,.et ds oK=>bif Nat.beq off oK then vo aR ds else none
 |.own n,.own o s=>bif mr ρ n o s then some () else none
 |.own n,.nil _=>match look ρ n with|some none=>some ()|_=>none
 |.ptr n off,.ptr o s oK=>bif mr ρ n o s&&Nat.beq off oK then some () else none
 |.clo g ns,.clo ct cs=>bif Nat.beq g ct&&ui ρ ns cs then some () else none
 |.dj,.dj=>some ()
 |.AZ,.cN .nilIface=>some ()
 |.eR n t,.eR o s bi 0 0=>bif mr ρ n o s then(if bi=t then some () else none) else none
 |_,_=>none
@[reducible] def qm:List e3->Type
 |[]=>Unit
 |s::r=>s.J×qm r
def sp:(aR:List e3)->qm aR->List aE
 |[],_=>[]
 |s::r,(y,z)=>s.mk y::sp r z
def p4(st:ah)(ρ:Ren):(aR:List e3)->List aE->Option (qm aR)
 |[],[]=>some ()
 |s::r,l::ad=>match s.ex st ρ l,p4 st ρ r ad with
  |some y,some z=>some (y,z)
  |_,_=>none
 |_,_=>none
inductive eZ:Type where
 |ak (s:e3)
 |agg (aR:List e3)
@[reducible] def eZ.J:eZ->Type
 |.ak s=>s.J
 |.agg aR=>qm aR
def eZ.mk:(s:eZ)->s.J->aJ
 |.ak s,y=>bX (s.mk y)
 |.agg aR,y=>.av (.agg (sp aR y))
def eZ.ex(st:ah)(ρ:Ren):(s:eZ)->aJ->Option s.J
 |.ak s,.av (.ak l)=>s.ex st ρ l
 |.agg aR,.av (.agg ad)=>p4 st ρ aR ad
 |_,_=>none
@[reducible] def uL:List (Nat×eZ)->Type
 |[]=>Unit
 |s::r=>s.2.J×uL r
def un:(aR:List (Nat×eZ))->uL aR->List (Nat×aJ)
 |[],_=>[]
 |s::r,(y,z)=>(s.1,s.2.mk y)::un r z
def zn(st:ah)(ρ:Ren):(aR:List (Nat×eZ))->Option (uL aR)
 |[]=>some ()
 |s::r=>match s.2.ex st ρ (st.get s.1),zn st ρ r with
  |some y,some z=>some (y,z)
  |_,_=>none
inductive eo:Type where
 |row (t:aY)
 |qa (t:aY) (n:Nat) -- atP asx row,asG length gV told
 |box (aR:List e3)
 |map (t:aY)
@[reducible] def eo.J:eo->Type
 |.row t=>List (den t)
 |.qa t _=>List (den t)
 |.box aR=>qm aR
 |.map t=>List (F×den t)
def AY{aB:Type}(z:aB):Nat->List aB->List aB
 |0,_=>[]
 |n+1,xs=>xs.headD z::AY z n xs.tail
theorem O_{aB:Type}(z:aB):∀(xs:List aB),AY z xs.length xs=xs
 |[]=>rfl
 |x::xs=>by simp only[List.length_cons,AY,List.headD_cons,List.tail_cons,O_ z xs]
def pad{t:aY}(n:Nat)(xs:List (den t)):List (den t):=match wv t with
 |some z=>AY z n xs
 |none=>xs
theorem aho{t:aY}{n:Nat}{xs:List (den t)}(h:xs.length=n):pad n xs=xs:=by
 subst h;unfold pad;split
 ·exact O_ _ _
 ·rfl
def eo.mk:(s:eo)->s.J->Site
 |.row t,xs=>.row 0 t xs
 |.qa t n,xs=>.row 0 t (pad n xs)
 |.box aR,y=>.box 0 (sp aR y)
 |.map t,es=>.map 0 t es
def eo.ex(st:ah)(ρ:Ren):(s:eo)->Option (Nat×Nat)->Option s.J
 |.row t,none=>some ([]:List (den t))
 |.row t,some (o,s)=>match st.ab o with
  |some (.row aG bi xs)=>bif aG.beq s then(if h:bi=t then some (h▸xs:List (den t)) else none) else none
  |_=>none
 |.qa _ _,none=>none
 |.qa t n,some (o,s)=>match st.ab o with
  |some (.row aG bi xs)=>bif aG.beq s then(if h:bi=t then(if xs.length=n then some (h▸xs:List (den t)) else none) else none) else none
  |_=>none
 |.box aR,some (o,s)=>match fy st o s with
  |some cells=>p4 st ρ aR cells
  |none=>none
 |.box _,none=>none
 |.map t,some (o,s)=>match st.ab o with
  |some (.map aG bi es)=>bif aG.beq s then(if h:bi=t then some (h▸es:List (F×den t)) else none) else none
  |_=>none
 |.map _,none=>none
inductive Loc:Type where
 |same
 |slot (t j:Nat)
 |cell (o j:Nat)
def aiF(st:ah):Loc->Option aE
 |.same=>none
 |.slot t j=>match st.get t with
  |.av (.ak l)=>bif Nat.beq j 0 then some l else none
  |.av (.agg ad)=>ad[j]?
  |_=>none
 |.cell o j=>match st.ab o with
  |some (.box _ cells)=>cells[j]?
  |_=>none
def G9(st:ah)(n:Nat)(l:Loc):Option (Option (Nat×Nat)):=
 match l with
 |.same=>match st.ab n with|some s=>some (some (n,s.cq))|none=>none
 |l=>match aiF st l with
  |some (.own o s)=>some (some (o,s))
  |some (.ptr o s _)=>some (some (o,s))
  |some (.eR o s _ _ _)=>some (some (o,s))
  |some (.nil _)=>some none
  |_=>none
@[reducible] def sh:List (Nat×eo×Loc)->Type
 |[]=>Unit
 |s::r=>s.2.1.J×sh r
def j7:(aR:List (Nat×eo×Loc))->sh aR->List (Nat×Site)
 |[],_=>[]
 |s::r,(y,z)=>(s.1,s.2.1.mk y)::j7 r z
def zo(st:ah)(ρ:Ren):(aR:List (Nat×eo×Loc))->Option (sh aR)
 |[]=>some ()
 |s::r=>match(look ρ s.1).bind fun B=>s.2.1.ex st ρ B,zo st ρ r with
  |some y,some z=>some (y,z)
  |_,_=>none
def pX(st:ah):List (Nat×eo×Loc)->Option Ren
 |[]=>some []
 |s::r=>match G9 st s.1 s.2.2,pX st r with
  |some B,some ρ=>some ((s.1,B)::ρ)
  |_,_=>none
structure Shape where
 cE:List (Nat×eZ)
 sites:List (Nat×eo×Loc)
 nt:Nat
@[reducible] def Shape.J(aQ:Shape):Type:=uL aQ.cE×sh aQ.sites
def Shape.st(aQ:Shape)(y:aQ.J):ah:=⟨un aQ.cE y.1,j7 aQ.sites y.2,aQ.nt⟩
def A7(st:ah):e3->aE->List (Nat×Site)
 |.d (.sl _),.own o s=>match st.ab o with
  |some (.row aG t xs)=>bif aG.beq s then [(o,.db s t xs)] else []
  |_=>[]
 |_,_=>[]
def A6(st:ah):List e3->List aE->List (Nat×Site)
 |s::aR,l::ad=>A7 st s l++A6 st aR ad
 |_,_=>[]
def T4(st:ah):eZ->aJ->List (Nat×Site)
 |.ak s,.av (.ak l)=>A7 st s l
 |.agg aR,.av (.agg ad)=>A6 st aR ad
 |_,_=>[]
def pG(st:ah):List (Nat×eZ)->List (Nat×Site)
 |[]=>[]
 |s::r=>T4 st s.2 (st.get s.1)++pG st r
def T3(st:ah):eo->Option (Option (Nat×Nat))->List (Nat×Site)
 |.box aR,some (some (o,s))=>match fy st o s with
  |some cells=>A6 st aR cells
  |none=>[]
 |_,_=>[]
def pH(st:ah):List (Nat×eo×Loc)->List (Nat×Site)
 |[]=>[]
 |s::r=>T3 st s.2.1 (G9 st s.1 s.2.2)++pH st r
def Shape.ex(aQ:Shape)(bu:ah):Option aQ.J:=
 let st:=bu.hU (pG bu aQ.cE++pH bu aQ.sites)
 bif st.nt.beq aQ.nt then
  match pX st aQ.sites with
  |some ρ=>bif fv (keys ρ)&&fv (mi ρ) then
    match zn st ρ aQ.cE,zo st ρ aQ.sites with
    |some y,some z=>some (y,z)
    |_,_=>none
   else none
  |none=>none
 else none
theorem PC{st:ah}{s:e3}{l:aE}:dE st.sites (A7 st s l):=by
 unfold A7;split
 ·rename_i o s;split
  ·rename_i aG t xs hl;cases hb:aG.beq s with
   |false=>exact .nil
   |true=>
    have:=Nat.eq_of_beq_eq_true hb;subst this;intro aa ab hm;simp only[cond_true,List.mem_singleton,Prod.mk.injEq] at hm;obtain⟨rfl,rfl⟩:=hm;exact⟨_,_,_,rfl,.inl hl⟩
  ·exact .nil
 ·exact .nil
theorem PB{st:ah}:∀{aR:List e3} {ad:List aE},dE st.sites (A6 st aR ad):=by
 intro aR;induction aR with
 |nil=>intro ad;cases ad<;>exact .nil
 |cons s aR ih=>
  intro ad;cases ad with
  |nil=>exact .nil
  |cons l ad=>exact PC.append ih
theorem _C{st:ah}:∀{aR:List (Nat×eZ)},dE st.sites (pG st aR):=by
 intro aR;induction aR with
 |nil=>exact .nil
 |cons s aR ih=>
  refine dE.append ?_ ih;unfold T4;split
  ·exact PC
  ·exact PB
  ·exact .nil
theorem _D{st:ah}:∀{aR:List (Nat×eo×Loc)},dE st.sites (pH st aR):=by
 intro aR;induction aR with
 |nil=>exact .nil
 |cons s aR ih=>
  refine dE.append ?_ ih;unfold T3;split
  ·split
   ·exact PB
   ·exact .nil
  ·exact .nil
def sD(st:ah)(ρ:Ren)(bS:List (Nat×Site)):Prop:=
 ∀n B,look ρ n=some B->(∃aG,look bS n=some aG/\aG.cq=0)/\∀o s,B=some (o,s)->∃ab,look st.sites o=some ab/\ab.cq=s/\ab.live=true
def fw(D:Nat->Value)(ρ:Ren)(n:Nat):Value:=
 match look ρ n with
 |some (some (o,_))=>D o
 |some none=>.slice none 0 0
 |none=>undef
theorem aaa{ρ:Ren}{n o s:Nat}(h:mr ρ n o s=true):look ρ n=some (some (o,s)):=by
 unfold mr at h;split at h
 ·rename_i VP aG hl;simp only[Bool.and_eq_true] at h;rw[hl,Nat.eq_of_beq_eq_true h.1,Nat.eq_of_beq_eq_true h.2]
 ·cases h
section
variable {O:World}{Y:List Nat}{X:Nat->Prop}{D:Nat->Value}{st:ah}{M:Array Value}{w:World}{ρ:Ren}{bS:List (Nat×Site)}{b':Nat->Prop}
theorem yU(S:am O Y X D st M w)(hR:sD st ρ bS){n o s:Nat}(h:mr ρ n o s=true){p j4:Prop}(hr:Ref st.sites o s p)(hp:fw D ρ n=D o->p->j4):Ref bS n 0 j4:=by
 have hl:=aaa h;obtain⟨⟨aG,h1,h2⟩,h3⟩:=hR n _ hl;obtain⟨ab,ax,bk,_⟩:=h3 o s rfl;exact Ref.mk h1 h2 (hp (by simp[fw,hl]) (Ref.at hr ax bk))
theorem aab(S:am O Y X D st M w)(hR:sD st ρ bS):∀{ns:List Nat} {cs:List (Nat×Nat)} {vs:List Value},ui ρ ns cs=true->vs.length=cs.length->
  (∀i (h:i<cs.length) (af:i<vs.length),Ref st.sites (cs[i]).1 (cs[i]).2 (vs[i]=D (cs[i]).1))->
  vs.length=(ns.map fun n=>(n,0)).length/\∀i (h:i<(ns.map fun n=>((n,0):Nat×Nat)).length) (af:i<vs.length),Ref bS ((ns.map fun n=>((n,0):Nat×Nat))[i]).1 ((ns.map fun n=>((n,0):Nat×Nat))[i]).2 (vs[i]=fw D ρ ((ns.map fun n=>((n,0):Nat×Nat))[i]).1):=by
 intro ns;induction ns with
 |nil=>
  intro cs vs h hl _;match cs,h with
  |[],_=>exact⟨by simpa using hl,fun i h=>by simp at h⟩
 |cons n ns ih=>
  intro cs vs h hl hr;match cs,h with
  |(o,s)::cs,h=>
   simp only[ui,Bool.and_eq_true] at h;match vs,hl with
   |v::vs,hl=>
    obtain⟨aD,az⟩:=ih (vs:=vs) h.2 (by simpa using hl) (fun i g1 g2=>hr (i+1) (by simpa using g1) (by simpa using g2))
    refine⟨by simpa using aD,fun i g1 g2=>?_⟩
    cases i with
    |zero=>exact yU S hR h.1 (hr 0 (by simp) (by simp)) (fun e p=>p.trans e.symm)
    |succ i=>exact az i (by simpa using g1) (by simpa using g2)
def AS(D:Nat->Value)(st:ah)(ρ:Ren)(b':Nat->Prop):Prop:=∀o,cd st.sites o->fK o (mi ρ)=false->∀b,bG (D o)=some b->¬b' b
theorem e3.fU(S:am O Y X D st M w)(hR:sD st ρ bS)(b7:∀b,b' b->aw X D st.sites b)(ec:AS D st ρ b'){s:e3}{l:aE}{y:s.J}{v:Value}(h:s.ex st ρ l=some y)(hv:dO D st.sites w (aw X D st.sites) l v):
  dO (fw D ρ) bS w b' (s.mk y) v:=by
 have gN:∀{d:aZ} {v:Value},bA w (aw X D st.sites) d v->bA w b' d v:=fun h=>b_.gN (D:=D) (sites:=[]) (a:=one _) b7 (fun b hb=>S.lt (b7 b hb)) h
 unfold e3.ex at h;split at h
 ·trivial
 ·rename_i s v';have:s.mk y=v':=dx.Rk h;show bA w b' (s.mk y) v;rw[this];exact gN hv
 ·rename_i t u;cases h;have hv:v=.slice none 0 0:=hv;rw[hv];exact bA.nil t
 ·rename_i T;cases h;have hv:v=.nilIface:=hv;rw[hv];exact bA.vp T
 ·rename_i t o s;split at h
  ·rename_i aG bi xs hl;cases hb:aG.beq s with
   |false=>simp[hb] at h
   |true=>
    simp only[hb,cond_true] at h;split at h
    ·rename_i e;subst e;cases h;have hs:=Nat.eq_of_beq_eq_true hb;subst hs;have hl:look st.sites o=some (.db aG bi xs):=hl;have mI:v=D o:=Ref.at hv.2 hl rfl;rw[mI];exact gN (S.sites o _ hl).1
    ·cases h
  ·cases h
 ·rename_i t o s;split at h
  ·rename_i aG bi es hl;cases hb:(aG.beq s&&!fK o (mi ρ)) with
   |false=>simp[hb] at h
   |true=>
    simp only[hb,cond_true] at h;simp only[Bool.and_eq_true,Bool.not_eq_true'] at hb;split at h
    ·rename_i e;subst e;cases h;have hs:=Nat.eq_of_beq_eq_true hb.1;subst hs;have hl:look st.sites o=some (.map aG bi es):=hl;have mI:v=D o:=Ref.at hv.2 hl rfl;obtain⟨b,h1,h2⟩:=S.sites o _ hl;rw[mI,h1];exact bA.map bi es b (ec o ⟨_,hl,rfl⟩ hb.2 b (by rw[h1];rfl)) h2
    ·cases h
  ·cases h
 ·rename_i g cK ct cs;cases hb:Nat.beq g ct with
  |false=>simp[hb] at h
  |true=>
   simp only[hb,cond_true] at h;have:=Nat.eq_of_beq_eq_true hb;subst this;show bA w b' (.fn g (uT cK y)) v;rw[adP h];exact gN hv
 ·rename_i g ct;cases hb:Nat.beq g ct with
  |false=>simp[hb] at h
  |true=>
   have:=Nat.eq_of_beq_eq_true hb;subst this;obtain⟨vs,h1,h2,_⟩:=hv;rw[List.eq_nil_of_length_eq_zero h2] at h1;rw[h1];exact ka.fn (bw:=[]) (vs:=[]) trivial
 ·rename_i aR off ds oK;cases hb:Nat.beq off oK with
  |false=>simp[hb] at h
  |true=>
   simp only[hb,cond_true] at h;have:=Nat.eq_of_beq_eq_true hb;subst this;have e:=Pe h;obtain⟨b,B,h1,h2,h3,cs,ax,bk,cl⟩:=hv;show dO (fw D ρ) bS w b' (.et (fk aR y) off) v;rw[e];exact⟨b,B,h1,fun hx=>h2 (b7 b hx),h3,cs,ax,bk,fun j g1 g2=>gN (cl j g1 g2)⟩
 ·rename_i n o s;cases hb:mr ρ n o s with
  |false=>simp[hb] at h
  |true=>exact⟨hv.1,yU S hR hb hv.2 (fun e p=>p.trans e.symm)⟩
 ·rename_i n t;split at h
  ·rename_i hl;have hv:v=.slice none 0 0:=hv;obtain⟨⟨aG,h1,h2⟩,_⟩:=hR n _ hl;exact⟨by rw[hv];rfl,Ref.mk h1 h2 (by simp[fw,hl,hv])⟩
  ·cases h
 ·rename_i n off o s oK;cases hb:(mr ρ n o s&&Nat.beq off oK) with
  |false=>simp[hb] at h
  |true=>
   simp only[Bool.and_eq_true] at hb;have:=Nat.eq_of_beq_eq_true hb.2;subst this;obtain⟨b,h1,h2⟩:=hv;exact⟨b,h1,yU S hR hb.1 h2 (fun e p=>e.trans p)⟩
 ·rename_i g ns ct cs;cases hb:(Nat.beq g ct&&ui ρ ns cs) with
  |false=>simp[hb] at h
  |true=>
   simp only[Bool.and_eq_true] at hb;have:=Nat.eq_of_beq_eq_true hb.1;subst this;obtain⟨vs,h1,h2,h3⟩:=hv;obtain⟨aD,az⟩:=aab S hR hb.2 h2 h3;exact⟨vs,h1,aD,az⟩
 ·trivial
 ·exact hv
 ·rename_i n t o s bi;cases hb:mr ρ n o s with
  |false=>simp[hb] at h
  |true=>
   simp only[hb,cond_true] at h;split at h
   ·rename_i e;subst e;obtain⟨b,h1,h2⟩:=hv;exact⟨b,h1,yU S hR hb h2 (fun e p=>by rw[e];exact p)⟩
   ·cases h
 ·cases h
theorem aaC{aR:List e3}{ad:List aE}{y:qm aR}(h:p4 st ρ aR ad=some y)(bP:(sp aR y).head?=some .dj):ad.head?=some .dj:=by
 cases aR with
 |nil=>cases bP
 |cons s aR=>
  cases ad with
  |nil=>cases h
  |cons l ad=>
   simp only[p4] at h;split at h
   ·rename_i a b h1 h2;cases h;simp only[sp,List.head?_cons,Option.some.injEq] at bP ⊢;cases s with
    |dj=>cases l<;>first|rfl|cases h1
    |_=>cases bP
   ·cases h
theorem Ob(S:am O Y X D st M w)(hR:sD st ρ bS)(b7:∀b,b' b->aw X D st.sites b)(ec:AS D st ρ b'):∀{aR:List e3} {ad:List aE} {y:qm aR} {vs:List Value},p4 st ρ aR ad=some y->
  cr D st.sites w (aw X D st.sites) ad vs->cr (fw D ρ) bS w b' (sp aR y) vs:=by
 intro aR;induction aR with
 |nil=>
  intro ad y vs h hv;match ad,h with
  |[],_=>rw[hv.nj];exact .nil
 |cons s aR ih=>
  intro ad y vs h hv;match ad,h with
  |l::ad,h=>
   simp only[p4] at h;split at h
   ·rename_i a b h1 h2;cases h;obtain⟨v,ch,rfl,aD,az⟩:=hv.inv;exact .cons (e3.fU S hR b7 ec h1 aD) (ih h2 az)
   ·cases h
theorem eZ.fU(S:am O Y X D st M w)(hR:sD st ρ bS)(b7:∀b,b' b->aw X D st.sites b)(ec:AS D st ρ b'){s:eZ}{a:aJ}{y:s.J}{v:Value}(h:s.ex st ρ a=some y)(hv:b_ D st.sites w (aw X D st.sites) a v):
  b_ (fw D ρ) bS w b' (s.mk y) v:=by
 unfold eZ.ex at h;split at h
 ·exact e3.fU S hR b7 ec h hv
 ·obtain⟨vs,h1,h2,h3⟩:=hv;have:=Ob S hR b7 ec h ⟨h2,h3⟩;exact⟨vs,h1,this.1,this.2⟩
 ·cases h
theorem aaA:∀{aR:List (Nat×eZ)} {y:uL aR},zn st ρ aR=some y->∀t v,look (un aR y) t=some v->∃s:eZ,∃y':s.J,s.ex st ρ (st.get t)=some y'/\v=s.mk y':=by
 intro aR;induction aR with
 |nil=>intro y h t v hl;cases hl
 |cons s aR ih=>
  intro y h t v hl;simp only[zn] at h;split at h
  ·rename_i a b h1 h2;cases h;simp only[un,look] at hl;cases hb:s.1.beq t with
   |true=>
    simp only[hb,cond_true,Option.some.injEq] at hl;have:=Nat.eq_of_beq_eq_true hb;subst this;exact⟨s.2,a,h1,hl.symm⟩
   |false=>
    simp only[hb,cond_false] at hl;exact ih h2 t v hl
  ·cases h
theorem aaB:∀{aR:List (Nat×eo×Loc)} {y:sh aR},zo st ρ aR=some y->∀n bT,look (j7 aR y) n=some bT->∃z:eo,∃y':z.J,∃B,look ρ n=some B/\z.ex st ρ B=some y'/\bT=z.mk y':=by
 intro aR;induction aR with
 |nil=>intro y h n bT hl;cases hl
 |cons s aR ih=>
  intro y h n bT hl;simp only[zo] at h;split at h
  ·rename_i a b h1 h2;cases h;simp only[j7,look] at hl;cases hb:s.1.beq n with
   |true=>
    simp only[hb,cond_true,Option.some.injEq] at hl;have:=Nat.eq_of_beq_eq_true hb;subst this;obtain⟨B,aD,az⟩:=Option.bind_eq_some_iff.1 h1;exact⟨s.2.1,a,B,aD,az,hl.symm⟩
   |false=>
    simp only[hb,cond_false] at hl;exact ih h2 n bT hl
  ·cases h
theorem eo.cq(z:eo)(y:z.J):(z.mk y).cq=0:=by cases z<;>rfl
theorem aao{eA:ah}:∀{aR:List (Nat×eo×Loc)} {ρ:Ren} {y:sh aR},pX eA aR=some ρ->∀n B,look ρ n=some B->(∃aG,look (j7 aR y) n=some aG/\aG.cq=0):=by
 intro aR;induction aR with
 |nil=>intro ρ y h n B hl;simp only[pX] at h;cases h;cases hl
 |cons s aR ih=>
  intro ρ y h n B hl;simp only[pX] at h;split at h
  ·rename_i a b h1 h2;cases h;obtain⟨eB,fe⟩:=y;simp only[j7,look] at hl ⊢;cases hb:s.1.beq n with
   |true=>simp only[cond_true];exact⟨_,rfl,eo.cq _ _⟩
   |false=>
    simp only[hb,cond_false] at hl ⊢;exact ih h2 n B hl
  ·cases h
theorem aan{eA:ah}:∀{aR:List (Nat×eo×Loc)} {ρ:Ren},pX eA aR=some ρ->(keys ρ).Nodup->∀n z,(n,z,Loc.same)∈aR->∃s,look ρ n=some (some (n,s)):=by
 intro aR;induction aR with
 |nil=>intro ρ h _ n z hm;simp at hm
 |cons s aR ih=>
  intro ρ h hn n z hm;simp only[pX] at h;split at h
  ·rename_i a b h1 h2;cases h;simp only[keys,List.nodup_cons] at hn;rcases List.mem_cons.1 hm with hm|hm
   ·subst hm;simp only[G9] at h1;split at h1
    ·cases h1;exact⟨_,by simp[look];rfl⟩
    ·cases h1
   ·obtain⟨aG,fC⟩:=ih h2 hn.2 n z hm;refine⟨aG,?_⟩;simp only[look];have:¬s.1=n:=by
     rintro rfl;have key:∀{ρ:Ren} {n:Nat} {B},look ρ n=some B->n∈keys ρ:=by
      intro ρ;induction ρ with
      |nil=>intro n B h;cases h
      |cons p ρ aoE=>
       obtain⟨m,q⟩:=p;intro n B h;simp only[look] at h;cases hb:m.beq n with
       |true=>have:=Nat.eq_of_beq_eq_true hb;subst this;exact List.mem_cons_self
       |false=>simp only[hb,cond_false] at h;exact List.mem_cons_of_mem _ (aoE h)
     exact hn.1 (key fC)
    rw[ju this];exact fC
  ·cases h
theorem CF:∀{ρ:Ren} {n o s:Nat},look ρ n=some (some (o,s))->o∈mi ρ:=by
 intro ρ;induction ρ with
 |nil=>intro n o s h;cases h
 |cons p ρ ih=>
  obtain⟨m,B⟩:=p;intro n o s h;simp only[look] at h;cases hb:m.beq n with
  |true=>
   simp only[hb,cond_true,Option.some.injEq] at h;subst h;exact List.mem_cons_self
  |false=>
   simp only[hb,cond_false] at h;have:=ih h;cases B with
   |none=>exact this
   |some q=>exact List.mem_cons_of_mem _ this
theorem _i:∀{ρ:Ren} {n m o s aG:Nat},(mi ρ).Nodup->look ρ n=some (some (o,s))->look ρ m=some (some (o,aG))->n=m:=by
 intro ρ;induction ρ with
 |nil=>intro n m o s aG _ h;cases h
 |cons p ρ ih=>
  obtain⟨k,B⟩:=p;intro n m o s aG Z h af;simp only[look] at h af;have qG:(mi ρ).Nodup:=by
   cases B with
   |none=>exact Z
   |some q=>exact(List.nodup_cons.1 Z).2
  cases hb:k.beq n with
  |true=>
   simp only[hb,cond_true,Option.some.injEq] at h;subst h;cases dP:k.beq m with
   |true=>rw[<-Nat.eq_of_beq_eq_true hb,<-Nat.eq_of_beq_eq_true dP]
   |false=>
    simp only[dP,cond_false] at af;exact absurd (CF af) (List.nodup_cons.1 Z).1
  |false=>
   simp only[hb,cond_false] at h;cases dP:k.beq m with
   |true=>
    simp only[dP,cond_true,Option.some.injEq] at af;subst af;exact absurd (CF h) (List.nodup_cons.1 Z).1
   |false=>
    simp only[dP,cond_false] at af;exact ih qG h af
theorem Shape.fU(S:am O Y X D st M w){aQ:Shape}{y:aQ.J}(h:aQ.ex st=some y):∃aI,am O Y X aI (aQ.st y) M w/\∀n z,(n,z,Loc.same)∈aQ.sites->aI n=D n:=by
 unfold Shape.ex at h;have fm:dE st.sites (pG st aQ.cE++pH st aQ.sites):=_C.append _D;have dm:=S.zm fm;rw[<-ah.ue] at dm;generalize st.hU (pG st aQ.cE++pH st aQ.sites)=eA at h dm;cases qz:eA.nt.beq aQ.nt with
 |false=>simp[qz] at h
 |true=>
  simp only[qz,cond_true] at h;split at h
  ·rename_i ρ WO;cases hc:(fv (keys ρ)&&fv (mi ρ)) with
   |false=>simp[hc] at h
   |true=>
    simp only[hc,cond_true] at h;simp only[Bool.and_eq_true,re] at hc;split at h
    ·rename_i eB fe h1 h2;cases h;have facts:=aaB h2;have Q8:∀{z:eo} {y':z.J} {o s:Nat},z.ex eA ρ (some (o,s))=some y'->∃ab,look eA.sites o=some ab/\ab.cq=s/\ab.live=true:=by
      intro z y' o s hz;cases z with
      |row t=>
       simp only[eo.ex] at hz;split at hz
       ·rename_i aG bi xs hl;cases hb:aG.beq s with
        |false=>simp[hb] at hz
        |true=>exact⟨_,hl,Nat.eq_of_beq_eq_true hb,rfl⟩
       ·cases hz
      |qa t n=>
       simp only[eo.ex] at hz;split at hz
       ·rename_i aG bi xs hl;cases hb:aG.beq s with
        |false=>simp[hb] at hz
        |true=>exact⟨_,hl,Nat.eq_of_beq_eq_true hb,rfl⟩
       ·cases hz
      |box aR=>
       simp only[eo.ex] at hz;split at hz
       ·rename_i hl;exact⟨_,gA hl,rfl,rfl⟩
       ·cases hz
      |map t=>
       simp only[eo.ex] at hz;split at hz
       ·rename_i aG bi xs hl;cases hb:aG.beq s with
        |false=>simp[hb] at hz
        |true=>exact⟨_,hl,Nat.eq_of_beq_eq_true hb,rfl⟩
       ·cases hz
     have hR:sD eA ρ (j7 aQ.sites fe):=by
      intro n B hn;obtain⟨aG,kr,qx⟩:=aao (y:=fe) WO n B hn;refine⟨⟨aG,kr,qx⟩,fun o s e=>?_⟩
      obtain⟨z,y',cU,aD,az,_⟩:=facts n aG kr;rw[hn] at aD;cases aD;subst e;exact Q8 az
     have live:∀n,cd (j7 aQ.sites fe) n->∀b,bG (fw D ρ n)=some b->∃o s,look ρ n=some (some (o,s))/\cd eA.sites o/\fw D ρ n=D o:=by
      rintro n ⟨bT,hn,_⟩ b hb;obtain⟨z,y',B,aD,az,_⟩:=facts n bT hn;cases B with
      |none=>simp[fw,aD,bG] at hb
      |some q=>
       obtain⟨o,s⟩:=q;obtain⟨ab,q1,_,dr⟩:=Q8 az;exact⟨o,s,aD,⟨ab,q1,dr⟩,by simp[fw,aD]⟩
     have b7:∀b,aw X (fw D ρ) (j7 aQ.sites fe) b->aw X D eA.sites b:=by
      rintro b (hb|⟨n,hn,hb⟩)
      ·exact .inl hb
      ·obtain⟨o,s,_,q2,dr⟩:=live n hn b hb;exact .inr ⟨o,q2,by rw[<-dr];exact hb⟩
     have gN:∀{d:aZ} {v:Value},bA w (aw X D eA.sites) d v->bA w (aw X (fw D ρ) (j7 aQ.sites fe)) d v:=
      fun h=>b_.gN (D:=D) (sites:=[]) (a:=one _) b7 (fun b hb=>dm.lt (b7 b hb)) h
     have ec:AS D eA ρ (aw X (fw D ρ) (j7 aQ.sites fe)):=by
      rintro o cJ hm b hb (hx|⟨n,hn,vY⟩)
      ·exact(dm.cf o b cJ hb).1 hx
      ·obtain⟨aa,s,q1,q2,dr⟩:=live n hn b vY;rw[dr] at vY;have e:=dm.dT o aa b cJ q2 hb vY;subst e;have hin:=CF q1;rw[<-t'] at hin;rw[hm] at hin;cases hin
     refine⟨fw D ρ,⟨?_,fun t=>?_,fun n bT hn=>?_,fun n m b eb gw g1 g2=>?_,fun n b eb g1=>?_,dm.frame,dm.old,dm.eX⟩,fun n z hm=>?_⟩
     ·rw[dm.nt];exact Nat.eq_of_beq_eq_true qz
     ·show b_ _ _ _ _ (ah.get _ t) _;unfold ah.get;cases hl:look (un aQ.cE eB) t with
      |none=>simp only[Shape.st,hl];trivial
      |some v=>
       simp only[Shape.st,hl];obtain⟨s,y',aD,az⟩:=aaA h1 t v hl;rw[az];exact eZ.fU dm hR b7 ec aD (dm.cE t)
     ·have hn:look (j7 aQ.sites fe) n=some bT:=hn;obtain⟨z,y',B,aD,az,bD⟩:=facts n bT hn;rw[bD];cases z with
      |row t=>
       cases B with
       |none=>
        simp only[eo.ex] at az;cases az;exact⟨0,[],⟨by simp,.inl ⟨by simp[fw,aD],rfl⟩⟩,fun j h=>by simp[flat] at h⟩
       |some q=>
        obtain⟨o,s⟩:=q;simp only[eo.ex] at az;split at az
        ·rename_i aG bi xs hl;cases hb:aG.beq s with
         |false=>simp[hb] at az
         |true=>
          simp only[hb,cond_true] at az;split at az
          ·rename_i e;subst e;cases az;obtain⟨e,cs,q1,q2⟩:=dm.sites o _ hl;refine⟨e,cs,?_,fun j g1 g2=>gN (q2 j g1 g2)⟩
           have:fw D ρ n=D o:=by simp[fw,aD]
           rw[this];exact q1
          ·cases az
        ·cases az
      |qa t m=>
       cases B with
       |none=>cases az
       |some q=>
        obtain⟨o,s⟩:=q;simp only[eo.ex] at az;split at az
        ·rename_i aG bi xs hl;cases hb:aG.beq s with
         |false=>simp[hb] at az
         |true=>
          simp only[hb,cond_true] at az;split at az
          ·rename_i e;subst e;split at az
           ·rename_i hlen;cases az;obtain⟨e,cs,q1,q2⟩:=dm.sites o _ hl;simp only[eo.mk,aho hlen];refine⟨e,cs,?_,fun j g1 g2=>gN (q2 j g1 g2)⟩
            have:fw D ρ n=D o:=by simp[fw,aD]
            rw[this];exact q1
           ·cases az
          ·cases az
        ·cases az
      |box aR=>
       cases B with
       |none=>cases az
       |some q=>
        obtain⟨o,s⟩:=q;simp only[eo.ex] at az;split at az
        ·rename_i cells hl;obtain⟨b,T,cur,q1,q2,dr,lm,aoe,Cd⟩:=dm.sites o _ (gA hl);have:=Ob dm hR b7 ec az ⟨dr,Cd⟩;exact⟨b,T,cur,by simp[fw,aD,q1],q2,this.1,lm,fun bP=>aoe (aaC az bP),this.2⟩
        ·cases az
      |map t=>
       cases B with
       |none=>cases az
       |some q=>
        obtain⟨o,s⟩:=q;simp only[eo.ex] at az;split at az
        ·rename_i aG bi es hl;cases hb:aG.beq s with
         |false=>simp[hb] at az
         |true=>
          simp only[hb,cond_true] at az;split at az
          ·rename_i e;subst e;cases az;obtain⟨b,q1,q2⟩:=dm.sites o _ hl;have:fw D ρ n=D o:=by simp[fw,aD]
           exact⟨b,this.trans q1,q2⟩
          ·cases az
        ·cases az
     ·obtain⟨o,s,a1,a2,a3⟩:=live n eb b g1;obtain⟨aa,aG,b1,b2,b3⟩:=live m gw b g2;rw[a3] at g1;rw[b3] at g2;have:=dm.dT o aa b a2 b2 g1 g2;subst this;exact _i hc.2 a1 b1
     ·obtain⟨o,s,a1,a2,a3⟩:=live n eb b g1;rw[a3] at g1;exact dm.cf o b a2 g1
     ·obtain⟨s,hs⟩:=aan WO hc.1 n z hm;simp[fw,hs]
    ·cases h
  ·cases h
end
inductive Kind:Type where
 |norm
 |exit (id:Nat)
 |ret
abbrev aO:=Kind×Shape
@[reducible] def ay:List aO->Type
 |[]=>Empty
 |[B]=>B.2.J
 |B::cU::r=>Sum B.2.J (ay (cU::r))
def Kind.mk:Kind->ah->Out
 |.norm,st=>.norm st
 |.exit id,st=>.exit id st
 |.ret,st=>.ret st
def lf:(os:List aO)->ay os->Out
 |[B],y=>B.1.mk (B.2.st y)
 |B::cU::r,y=>match y with
  |.inl y=>B.1.mk (B.2.st y)
  |.inr y=>lf (cU::r) y
def Kind.gV:Kind->Out->Option ah
 |.norm,.norm st=>some st
 |.exit id,.exit iH st=>bif Nat.beq id iH then some st else none
 |.ret,.ret st=>some st
 |_,_=>none
def gR:(os:List aO)->Out->Option (ay os)
 |[],_=>none
 |[B],x=>match B.1.gV x with
  |some st=>B.2.ex st
  |none=>none
 |B::cU::r,x=>match B.1.gV x with
  |some st=>(B.2.ex st).map Sum.inl
  |none=>(gR (cU::r) x).map Sum.inr
section
variable {O:World}{Y:List Nat}{X:Nat->Prop}{ds:List Deferred}{eF:Array Value}{W:List Nat}
theorem er.ex{st:ah}{aQ:Shape}{y:aQ.J}{a:Act}{w:World}(hy:aQ.ex st=some y)(h:er O Y X ds eF W st a w):er O Y X ds eF W (aQ.st y) a w:=by
 obtain⟨aN,dA,cX,D,dB,h1,h2,h3,S,bk⟩:=h;obtain⟨aI,ca,_⟩:=Shape.fU S hy;exact⟨aN,dA,cX,aI,dB,h1,h2,h3,ca,bk⟩
theorem Kind.Er{k:Kind}{x:Out}{st:ah}{aQ:Shape}{y:aQ.J}{e:Exit}{a:Act}{w:World}(h:k.gV x=some st)(hy:aQ.ex st=some y)(hl:e5 O Y X ds eF W x e a w):e5 O Y X ds eF W (k.mk (aQ.st y)) e a w:=by
 cases k<;>cases x<;>simp only[Kind.gV] at h<;>try(cases h;done)
 ·cases h;cases e<;>try exact hl.elim
  exact er.ex hy hl
 ·rename_i id iH al;cases hb:Nat.beq id iH with
  |false=>simp[hb] at h
  |true=>
   simp only[hb,cond_true,Option.some.injEq] at h;subst h;cases e<;>try exact hl.elim
   exact⟨(Nat.eq_of_beq_eq_true hb).trans hl.1,er.ex hy hl.2⟩
 ·cases h;cases e<;>try exact hl.elim
  exact er.ex hy hl
theorem tW:∀{os:List aO} {x:Out} {y:ay os} {e:Exit} {a:Act} {w:World},gR os x=some y->e5 O Y X ds eF W x e a w->e5 O Y X ds eF W (lf os y) e a w:=by
 intro os;induction os with
 |nil=>intro x y;exact y.elim
 |cons B os ih=>
  intro x y e a w h hl;cases os with
  |nil=>
   simp only[gR] at h;split at h
   ·rename_i st hk;exact Kind.Er hk h hl
   ·cases h
  |cons cU r=>
   simp only[gR] at h;split at h
   ·rename_i st hk;obtain⟨eB,aD,az⟩:=Option.map_eq_some_iff.1 h;subst az;exact Kind.Er hk aD hl
   ·obtain⟨eB,aD,az⟩:=Option.map_eq_some_iff.1 h;subst az;exact ih aD hl
end
section
variable {J bp:Type}
def iter(f:J->Option (Sum J bp)):Nat->J->Option bp
 |0,_=>none
 |n+1,y=>match f y with
  |none=>none
  |some (.inl y')=>iter f n y'
  |some (.inr b)=>some b
theorem M3{f:J->Option (Sum J bp)}:∀{n m:Nat} {y:J} {b:bp},n<=m->iter f n y=some b->iter f m y=some b:=by
 intro n;induction n with
 |zero=>intro m y b _ h;cases h
 |succ n ih=>
  intro m y b hle h;obtain⟨m,rfl⟩:∃k,m=k+1:=⟨m-1,by omega⟩
  simp only[iter] at h ⊢;split at h
  ·cases h
  ·exact ih (by omega) h
  ·exact h
open Classical in
noncomputable def bx(f:J->Option (Sum J bp))(y:J):Option bp:=
 if h:∃n b,iter f n y=some b then some (Classical.choose (Classical.choose_spec h)) else none
theorem Dl{f:J->Option (Sum J bp)}{y:J}{b:bp}:bx f y=some b <-> ∃n,iter f n y=some b:=by
 unfold bx;constructor
 ·intro h;split at h
  ·rename_i af;cases h;exact⟨_,Classical.choose_spec (Classical.choose_spec af)⟩
  ·cases h
 ·rintro⟨n,hn⟩;have h:∃n b,iter f n y=some b:=⟨n,b,hn⟩;rw[dif_pos h];have h1:=Classical.choose_spec (Classical.choose_spec h);have h2:=M3 (Nat.le_max_left (Classical.choose h) n) h1;have h3:=M3 (Nat.le_max_right (Classical.choose h) n) hn;rw[h2] at h3;exact h3
theorem x8(f:J->Option (Sum J bp))(y:J):bx f y=match f y with
  |none=>none
  |some (.inl y')=>bx f y'
  |some (.inr b)=>some b:=by
 apply Option.ext;intro b;rw[Dl];cases hf:f y with
 |none=>
  simp only;constructor
  ·rintro⟨n,hn⟩;cases n with
   |zero=>cases hn
   |succ n=>simp only[iter,hf] at hn;cases hn
  ·intro h;cases h
 |some s=>
  cases s with
  |inl y'=>
   simp only;rw[Dl];constructor
   ·rintro⟨n,hn⟩;cases n with
    |zero=>cases hn
    |succ n=>simp only[iter,hf] at hn;exact⟨n,hn⟩
   ·rintro⟨n,hn⟩;exact⟨n+1,by simp only[iter,hf];exact hn⟩
  |inr bH=>
   simp only;constructor
   ·rintro⟨n,hn⟩;cases n with
    |zero=>cases hn
    |succ n=>simp only[iter,hf] at hn;exact hn
   ·intro h;exact⟨1,by simp only[iter,hf];exact h⟩
theorem least{p:Nat->Prop}(h:∃n,p n):∃n,p n/\∀m,p m->n<=m:=by
 obtain⟨n,hn⟩:=h;induction n using Nat.strongRecOn with
 |_ n ih=>
  by_cases af:∃m,m<n/\p m
  ·obtain⟨m,h1,h2⟩:=af;exact ih m h1 h2
  ·exact⟨n,hn,fun m hm=>Nat.le_of_not_lt fun hlt=>af ⟨m,hlt,hm⟩⟩
end
noncomputable def r4(C:hA)(c:Code)(p:Nat)(aQ:Shape)(os:List aO)(y:aQ.J):Option (Sum aQ.J (ay os)):=
 exec C c (2*p) (aQ.st y) fun
  |.norm st=>(aQ.ex st).map .inl
  |x=>(gR os x).map .inr
def AN:(os:List aO)->(R:Type)->ay os->(Out->Option R)->Option R
 |[B],R,y,K=>K (B.1.mk (B.2.st y))
 |B::cU::r,R,y,K=>match y with
  |.inl y=>K (B.1.mk (B.2.st y))
  |.inr y=>AN (cU::r) R y K
theorem Og:∀(os:List aO) (R:Type) (y:ay os) (K:Out->Option R),AN os R y K=K (lf os y):=by
 intro os;induction os with
 |nil=>intro R y;exact y.elim
 |cons B os ih=>
  intro R y K;cases os with
  |nil=>rfl
  |cons cU r=>
   cases y with
   |inl y=>rfl
   |inr y=>exact ih R y K
def a_(aQ:Shape)(os:List aO)(g:aQ.J->Option (ay os)):hI:=fun st=>⟨ay os,(aQ.ex st).bind g,lf os,AN os,Og os⟩
section
variable {P:Program}{C:hA}
theorem ab7(H:a7 P C.toCtx){c:Code}{p:Nat}{aQ:Shape}{os:List aO}(ec:fV P C c (2*p)){g:aQ.J->Option (ay os)}(hg:∀y,g y=bx (r4 C c p aQ os) y):
  aW P (.loop c) (a_ aQ os g):=by
 intro rn hn O Y X st y hy D M w ds S;simp only[a_] at hy y ⊢;obtain⟨dq,h1,h2⟩:=Option.bind_eq_some_iff.1 hy;obtain⟨lU,n9,_⟩:=Shape.fU S h1;rw[hg] at h2;obtain⟨n0,qA⟩:=Dl.1 h2;have arX:∃eU:Nat->Act->World->Prop,∀n a w,eU n a w <-> ∃z,iter (r4 C c p aQ os) n z=some y/\er O Y X ds M (ck c) (aQ.st z) a w:=⟨_,fun _ _ _=>Iff.rfl⟩
 obtain⟨eU,ma⟩:=arX;classical
 refine wpIn_loop (I:=fun a w=>∃n,eU n a w) (μ:=fun a w=>if h:∃n,eU n a w then Classical.choose (least h) else 0) ⟨n0,(ma _ _ _).2 ⟨dq,qA,er.of n9 fun _ _=>rfl⟩⟩ ?_
 intro a w' dl;have akV:=(Classical.choose_spec (least dl)).1;obtain⟨z,hz,aN,dA,cX,gu,dB,b1,b2,b3,dm,wM⟩:=(ma _ _ _).1 akV;obtain⟨hF,Kq⟩:=a;obtain⟨b3,ap6⟩:=b3;have b3:Kq=dB.map mark++ds:=b3;subst b3;have join:∀{B:Out} {e:Exit} {a2:Act} {w2:World},e5 aN dA cX (dB.map mark++ds) hF (ck c) B e a2 w2->e5 O Y X ds M (ck c) B e a2 w2:=fun hl=>
  (e5.trans b1 b2 ap6 wM hl).mono fun t ap=>(List.mem_append.1 ap).elim id id
 cases ik:Classical.choose (least dl) with
 |zero=>rw[ik] at hz;cases hz
 |succ n=>
  rw[ik] at hz;simp only[iter] at hz;have go:∀s,r4 C c p aQ os z=some s->fR rn P c (fun e a w=>match s with
    |.inl eO=>e5 O Y X ds M (ck c) (.norm (aQ.st eO)) e a w
    |.inr b=>e5 O Y X ds M (ck c) (lf os b) e a w/\e≠.normal) ⟨hF,dB.map mark++ds⟩ w':=by
   intro s hs;refine jm H c (2*p) hn ec aN dA cX (aQ.st z) gu hF w' _ _ _ hs dm ?_
   intro B e a w2 hk hl;have hl:=join hl;cases B with
   |norm vG=>
    obtain⟨eO,q1,q2⟩:=Option.map_eq_some_iff.1 hk;subst q2;exact Kind.Er (k:=.norm) rfl q1 hl
   |exit id vG=>
    obtain⟨eO,q1,q2⟩:=Option.map_eq_some_iff.1 hk;subst q2;exact⟨tW q1 hl,by rintro rfl;exact hl⟩
   |ret vG=>
    obtain⟨eO,q1,q2⟩:=Option.map_eq_some_iff.1 hk;subst q2;exact⟨tW q1 hl,by rintro rfl;exact hl⟩
  cases hr:r4 C c p aQ os z with
  |none=>rw[hr] at hz;cases hz
  |some s=>
   cases s with
   |inl eO=>
    rw[hr] at hz;refine wpIn_mono (go _ hr) fun e a2 w2 hl=>?_
    cases e<;>try exact hl.elim
    have JD:eU n a2 w2:=(ma _ _ _).2 ⟨eO,hz,hl⟩;refine⟨⟨n,JD⟩,?_⟩;have hex:∃n,eU n a2 w2:=⟨n,JD⟩;simp only[dif_pos hex,dif_pos dl,ik];have:Classical.choose (least hex)<=n:=(Classical.choose_spec (least hex)).2 n JD;omega
   |inr b=>
    rw[hr] at hz;simp only[Option.some.injEq] at hz;subst hz;refine wpIn_mono (go _ hr) fun e a2 w2 hl=>?_
    cases e<;>first|exact absurd rfl hl.2|exact hl.1
noncomputable def P'(C:hA)(c:Code)(p:Nat)(aQ:Shape)(os:List aO)(y:aQ.J):Option (ay os):=exec C c p (aQ.st y) (gR os)
theorem aai(H:a7 P C.toCtx){c:Code}{p:Nat}{aQ:Shape}{os:List aO}(ec:fV P C c p){g:aQ.J->Option (ay os)}(hg:∀y,g y=P' C c p aQ os y):aW P c (a_ aQ os g):=by
 intro rn hn O Y X st y hy D M w ds S;simp only[a_] at hy y ⊢;obtain⟨dq,h1,h2⟩:=Option.bind_eq_some_iff.1 hy;obtain⟨lU,n9,_⟩:=Shape.fU S h1;rw[hg] at h2;exact jm H c p hn ec O Y X (aQ.st dq) lU M w _ _ _ h2 n9 fun B e a w' hk hl=>tW hk hl
end
def aE.Pb:aE->Bool
 |.fresh _ _=>false
 |_=>true
def lx:List aE->Bool
 |[]=>true
 |l::ad=>l.Pb&&lx ad
def pI(i:Nat):List Arg->Option (List (Nat×aJ))
 |[]=>some []
 |.av a::r=>bif lx a.cells then(pI (i+1) r).map fun l=>(i,.av a)::l else none
 |.fh _::r=>(pI (i+1) r).map fun l=>(i,bX (.ptr (500000+i) 0 0))::l
def jI(i:Nat):List Arg->List (Nat×Nat)
 |[]=>[]
 |.av _::r=>jI (i+1) r
 |.fh _::r=>(500000+i,0)::jI (i+1) r
def Aq:List Arg->List (List aE)
 |[]=>[]
 |.av _::r=>Aq r
 |.fh cs::r=>cs::Aq r
def nd(i:Nat):List Arg->List Nat
 |[]=>[]
 |.av _::r=>nd (i+1) r
 |.fh _::r=>i::nd (i+1) r
def k2:List (Nat×Nat)->List (Nat×Site)
 |[]=>[]
 |(o,s)::r=>(o,.dead s)::k2 r
def Am(nt:Nat)(as:List Arg)(l:List (Nat×aJ)):ah:=⟨l,k2 (jI 0 as),nt⟩
def GZ(nt:Nat)(as:List Arg)(l:List (Nat×aJ)):List (Nat×Site):=gH (Am nt as l) (jI 0 as) (Aq as)
def entry(nt:Nat)(as:List Arg):Option ah:=bif Nat.ble as.length nt then(match pI 0 as with
 |some l=>bif fv (keys (GZ nt as l)) then some ⟨l,bj (k2 (jI 0 as)) (GZ nt as l),nt⟩ else none
 |none=>none) else none
def nb(st:ah):List Nat->Option (List (List aE)×List (Nat×Site))
 |[]=>some ([],[])
 |t::b9=>match st.get t with
  |.av (.ak (.ptr o s 0))=>match fy st o s,nb st b9 with
   |some cells,some (cK,us)=>match kj st cells with
    |some (cs,gone)=>some (cs::cK,(o,.dead s)::(gone++us))
    |none=>none
   |_,_=>none
  |_=>none
def tm:List Nat->List Nat->Bool
 |[],[]=>true
 |n::r,m::s=>n.beq m&&tm r s
 |_,_=>false
def ai0(st:ah):bL->Option (bL×List (Nat×Site))
 |.ak l=>(ny st l).map fun p=>(.ak p.1,p.2)
 |.agg ad=>(kj st ad).map fun p=>(.agg p.1,p.2)
def G6(tt:TypeId->b8)(st:ah):ResultVar->Option bL
 |.tmp t=>lT (st.get t)
 |.cell a T=>match tt T with
  |.arr _ t n=>match st.get a with
   |.av (.ak (.eR o s u 0 0))=>match rowOf st o s with
    |some ⟨bi,xs⟩=>if bi=t/\bi=u then(long n xs).map fun xs=>.agg (A_ bi xs n) else none
    |none=>none
   |_=>none
  |ti=>match st.get a with
   |.av (.ak (.ptr o s off))=>bif ti.known then(match fy st o s with
    |some cells=>(cut ti.agg off ti.size cells).bind lT
    |none=>none) else none
   |_=>none
def nk(tt:TypeId->b8)(st:ah):List ResultVar->Option (List bL×List (Nat×Site))
 |[]=>some ([],[])
 |t::b9=>match G6 tt st t with
  |some a=>match ai0 st a,nk tt st b9 with
   |some (cL,us),some (as,vs)=>some (cL::as,us++vs)
   |_,_=>none
  |none=>none
def akI(aQ:Shape):Out->Option aQ.J
 |.ret st=>aQ.ex st
 |.norm st=>aQ.ex st
 |.exit _ _=>none
noncomputable def He(C:hA)(c:Code)(ke fp:Shape)(a:ke.J):Option fp.J:=exec C c 1 (ke.st a) (akI fp)
noncomputable def om(tt:TypeId->b8)(nt:Nat)(ke fp:Shape)(outs:List ResultVar)(fc:List Nat)(f:ke.J->Option fp.J):aH:=fun as=>
 match entry nt as with
 |some st=>bif tm (nd 0 as) fc then⟨fp.J,(ke.ex st).bind f,fun y=>(match nb (fp.st y) fc with|some r=>r.1|none=>[]),fun y=>match nk tt (fp.st y) outs with|some r=>r.1|none=>[]⟩ else vt.fail
 |none=>vt.fail
section
variable {w:World}{av:Nat->Prop}
theorem Zk:∀{ad:List aE} {vs:List Value} {bs:List Nat},lx ad=true->k4 w av ad vs bs->bs=[]/\cr lN [] w av ad vs:=by
 intro ad;induction ad with
 |nil=>
  intro vs bs _ h;match vs,h with
  |[],h=>exact⟨h,.nil⟩
 |cons l ad ih=>
  intro vs bs hn h;simp only[lx,Bool.and_eq_true] at hn;match vs,h with
  |v::vs,⟨b1,b2,h1,h2,h3⟩=>
   obtain⟨aD,az⟩:=ih hn.2 h3;have:b1=[]/\dO lN [] w av l v:=by
    cases l<;>first|exact h2|cases hn.1
   exact⟨by rw[h1,this.1,aD];rfl,.cons this.2 az⟩
theorem Zl{a:bL}{v:Value}{bs:List Nat}(hn:lx a.cells=true)(h:AQ w av a v bs):bs=[]/\gO lN [] w av a v:=by
 cases a with
 |ak l=>
  simp only[bL.cells,lx,Bool.and_true] at hn;cases l<;>first|exact h|cases hn
 |agg ad=>
  obtain⟨vs,h1,h2⟩:=h;obtain⟨aD,az⟩:=Zk hn h2;exact⟨aD,vs,h1,az.1,az.2⟩
def nD:Value->Nat
 |.pointer (some a)=>a.block
 |_=>0
theorem ZJ{ad:List aE}(h:lx ad=true){l:aE}(hl:l∈ad):l.Pb=true:=by
 induction ad with
 |nil=>cases hl
 |cons a ad ih=>
  simp only[lx,Bool.and_eq_true] at h;rcases List.mem_cons.1 hl with rfl|hl
  ·exact h.1
  ·exact ih h.2 hl
theorem aev{D:Nat->Value}{b':Nat->Prop}{a:bL}{v:Value}{sites:List (Nat×Site)}(hn:lx a.cells=true)(h:gO lN [] w av a v)(hle:∀b,b' b->av b)(hlt:∀b,b' b->b<w.heap.size):gO D sites w b' a v:=by
 cases a with
 |ak l=>exact CT (fun t xs e=>by subst e;cases hn) h hle hlt
 |agg ad=>
  obtain⟨vs,h1,h2,h3⟩:=h;exact⟨vs,h1,h2,fun j g1 g2=>CT (fun t xs e=>by have:=ZJ hn (List.getElem_mem g1);rw[e] at this;cases this) (h3 j g1 g2) hle hlt⟩
theorem CC:∀{as:List Arg} {i o s:Nat},(o,s)∈jI i as->s=0:=by
 intro as;induction as with
 |nil=>intro i o s h;cases h
 |cons a as ih=>
  intro i o s h;cases a with
  |av a=>exact ih h
  |fh c=>
   rcases List.mem_cons.1 h with h|h
   ·cases h;rfl
   ·exact ih h
theorem L4{L:List (Nat×Nat)}(h:∀o s,(o,s)∈L->s=0){o s:Nat}(hm:(o,s)∈L):look (k2 L) o=some (.dead 0):=by
 induction L with
 |nil=>cases hm
 |cons p L ih=>
  obtain⟨k,r⟩:=p;simp only[k2,look];cases hb:k.beq o with
  |true=>simp only[cond_true];rw[h k r List.mem_cons_self]
  |false=>
   simp only[cond_false];refine ih (fun o s hm=>h o s (List.mem_cons_of_mem _ hm)) ?_
   rcases List.mem_cons.1 hm with e|e
   ·cases e;rw[Nat.beq_refl] at hb;cases hb
   ·exact e
theorem L_{L:List (Nat×Nat)}{o:Nat}{ab:Site}(h:look (k2 L) o=some ab):∃s,ab=.dead s:=by
 induction L with
 |nil=>cases h
 |cons p L ih=>
  obtain⟨k,r⟩:=p;simp only[k2,look] at h;cases hb:k.beq o with
  |true=>simp only[hb,cond_true,Option.some.injEq] at h;exact⟨r,h.symm⟩
  |false=>simp only[hb,cond_false] at h;exact ih h
theorem _N{D:Nat->Value}:∀{as:List Arg} {i:Nat} {l:List (Nat×aJ)} {vs:List Value} {bs:List Nat},pI i as=some l->iP w av as vs bs->(∀j,D (500000+i+j)=vs.getD j undef)->
  iT w av (dK as vs) (Aq as) bs/\mO D (jI i as) (dK as vs)/\dK as vs=(nd i as).map (fun t=>nD (vs.getD (t-i) undef))/\(∀t,t∈nd i as->i<=t)/\
  ∀t v,look l t=some v->i<=t/\((∃a,v=.av a/\lx a.cells=true/\gO lN [] w av a (vs.getD (t-i) undef))\/(v=bX (.ptr (500000+t) 0 0)/\(500000+t,0)∈jI i as/\∃b,vs.getD (t-i) undef=.pointer (some ⟨b,0,none⟩))):=by
 intro as;induction as with
 |nil=>
  intro i l vs bs h bP cM;simp only[pI] at h;cases h;match vs,bP with
  |[],bP=>exact⟨bP,trivial,rfl,fun t h=>(by cases h),fun t v h=>(by cases h)⟩
 |cons a as ih=>
  intro i l vs bs h bP cM;match vs,bP with
  |v::vs,⟨b1,b2,e,h2,h3⟩=>
  have jT:∀j,D (500000+(i+1)+j)=vs.getD j undef:=fun j=>by
   have:=cM (j+1);rw[List.getD_cons_succ] at this;rw[<-this];congr 1;omega
  have shift:∀t,i+1<=t->(v::vs).getD (t-i) undef=vs.getD (t-(i+1)) undef:=fun t ap=>by
   obtain⟨m,hm⟩:∃m,t-i=m+1:=⟨t-i-1,by omega⟩
   have l1:t-(i+1)=m:=by omega
   rw[hm,List.getD_cons_succ,l1]
  have TB:∀{L:List Nat},(∀t,t∈L->i+1<=t)->L.map (fun t=>nD (vs.getD (t-(i+1)) undef))=L.map (fun t=>nD ((v::vs).getD (t-i) undef)):=fun dW=>List.map_congr_left fun t ap=>by rw[shift t (dW t ap)]
  cases a with
  |fh c=>
   simp only[pI] at h;obtain⟨gg,h1,ax⟩:=Option.map_eq_some_iff.1 h;subst ax;obtain⟨b,hv,Jy⟩:=h2;obtain⟨aD,az,bD,cQ,fF⟩:=ih h1 h3 jT;have eM:dK (.fh c::as) (v::vs)=b::dK as vs:=by subst hv;rfl
   refine⟨by rw[eM];exact⟨b1,b2,e,Jy,aD⟩,by rw[eM];exact⟨by have:=cM 0;rw[Nat.add_zero] at this;rw[this];exact hv,az⟩,?_,fun t ap=>?_,fun t u hl=>?_⟩
   ·rw[eM,bD,TB cQ];simp only[nd,List.map_cons,Nat.sub_self,List.getD_cons_zero,hv,nD]
   ·rcases List.mem_cons.1 ap with rfl|ap
    ·exact Nat.le_refl _
    ·exact Nat.le_trans (Nat.le_succ _) (cQ t ap)
   ·simp only[look] at hl;cases hb:i.beq t with
    |true=>
     have:=Nat.eq_of_beq_eq_true hb;subst this;simp only[hb,cond_true,Option.some.injEq] at hl;subst hl;exact⟨Nat.le_refl _,.inr ⟨rfl,List.mem_cons_self,b,by simp only[Nat.sub_self,List.getD_cons_zero];exact hv⟩⟩
    |false=>
     simp only[hb,cond_false] at hl;obtain⟨q1,q2⟩:=fF t u hl;refine⟨by omega,?_⟩
     rw[shift t q1];rcases q2 with q2|⟨r1,r2,im⟩
     ·exact .inl q2
     ·exact .inr ⟨r1,List.mem_cons_of_mem _ r2,im⟩
  |av a=>
   simp only[pI] at h;cases hn:lx a.cells with
   |false=>simp[hn] at h
   |true=>
    simp only[hn,cond_true] at h;obtain⟨gg,h1,ax⟩:=Option.map_eq_some_iff.1 h;subst ax;obtain⟨g1,g2⟩:=Zl hn h2;obtain⟨aD,az,bD,cQ,fF⟩:=ih h1 h3 jT;have eM:dK (.av a::as) (v::vs)=dK as vs:=by cases v<;>rfl
    refine⟨by rw[eM,e,g1];exact aD,by rw[eM];exact az,by rw[eM,bD,TB cQ];rfl,fun t ap=>Nat.le_trans (Nat.le_succ _) (cQ t ap),fun t u hl=>?_⟩
    simp only[look] at hl;cases hb:i.beq t with
    |true=>
     have:=Nat.eq_of_beq_eq_true hb;subst this;simp only[hb,cond_true,Option.some.injEq] at hl;subst hl;exact⟨Nat.le_refl _,.inl ⟨a,rfl,hn,by simp only[Nat.sub_self,List.getD_cons_zero];exact g2⟩⟩
    |false=>
     simp only[hb,cond_false] at hl;obtain⟨q1,q2⟩:=fF t u hl;refine⟨by omega,?_⟩
     rw[shift t q1];exact q2
theorem ahK:∀{l m:List Nat},tm l m=true->l=m:=by
 intro l;induction l with
 |nil=>intro m h;cases m<;>first|rfl|cases h
 |cons n l ih=>
  intro m h;cases m with
  |nil=>cases h
  |cons k m=>
   simp only[tm,Bool.and_eq_true] at h;rw[Nat.eq_of_beq_eq_true h.1,ih h.2]
end
section
variable {P:Program}{O:World}{Y:List Nat}{X:Nat->Prop}{D:Nat->Value}{st:ah}{M:Array Value}{w:World}{da:List (Nat×Site)}{eT:List Nat}{av:Nat->Prop}
def pV(M:Array Value)(r:ResultVar):Sem Value:=
 match r with
 |.tmp t=>pure (M.getD t undef)
 |.cell a t=>do loadVar t (<-asAddr (M.getD a undef))
theorem adL(S:am O Y X D st M w){C:Ctx}(H:CtxOk P C){r:ResultVar}{a:bL}(h:G6 C.tt st r=some a):∃v,(pV M r).run P w=.ok v w/\gO D st.sites w (aw X D st.sites) a v:=by
 cases r with
 |tmp t=>
  have hs:=S.cE t;rw[pq h] at hs;exact⟨_,by simp only[pV,Sem.run_pure],hs⟩
 |cell x T=>
  simp only[G6] at h;split at h
  ·rename_i e t n be;split at h
   ·rename_i o s u hx;have hs:=S.cE x;rw[hx] at hs;split at h
    ·rename_i bi xs hrow;split at h
     ·rename_i jc;obtain⟨rfl,rfl⟩:=jc;obtain⟨bd,hy,aoI⟩:=Option.map_eq_some_iff.1 h;obtain⟨rfl,hlen⟩:=tR hy;subst aoI;have bE:=H.tt T;rw[be] at bE;obtain⟨he,_,_,eO,_,mG,_⟩:=mW bE.2.2;obtain⟨b,c,cs,hv,_,hc,hr⟩:=S.arr hrow hs;have hcl:cs.length=n:=by rw[hr.1,eV,he,hlen,Nat.mul_one]
      have di:=tH (P:=P) (w:=w) bE (by rintro h;cases h) ⟨b,0,none⟩ cs hcl (fun j u hu=>by rw[gG];exact hc j u hu)
      refine⟨.agg cs.toArray,?_,?_⟩
      ·simp only[pV,hv,asAddr,Sem.run_bind,Sem.run_pure,Result.andThen_ok,di];rfl
      ·subst hlen;have:=g' (D:=D) (sites:=st.sites) hr.1 hr.2;rw[<-PH mG] at this;exact⟨cs,rfl,this.1,this.2⟩
     ·cases h
    ·cases h
   ·cases h
  split at h
  ·rename_i o s off hx;have hs:=S.cE x;rw[hx] at hs;cases hk:(C.tt T).known with
   |false=>simp[hk] at h
   |true=>
    simp only[hk,cond_true] at h;split at h
    ·rename_i cells hb;obtain⟨v,hc,hv⟩:=Option.bind_eq_some_iff.1 h;have hv:=pq hv;subst hv;obtain⟨b,gj,cur,h1,h2,h3,ax,bk⟩:=S.box (gA hb) hs;obtain⟨aD,az⟩:=QP hc EH bk;refine⟨_,?_,az⟩;have hl:(loadVar T ⟨b,off,none⟩).run P w=.ok (sn (C.tt T).agg ((cur.drop off).take (C.tt T).size)) w:=by
      refine tH (H.tt T) (Eo hk) _ _ (by simp;omega) fun j u hu=>?_
      rw[gG];have:=((hP.row h3).drop off).take (C.tt T).size j u hu;simpa using this
     simp only[pV,h2,asAddr,Sem.run_bind,Sem.run_pure,Result.andThen_ok,hl]
    ·cases h
  ·cases h
theorem L7{C:Ctx}(H:CtxOk P C)(L:fq O Y X D st M w da eT av):∀{outs:List ResultVar} {as:List bL} {us:List (Nat×Site)},nk C.tt st outs=some (as,us)->
  ∃rv,(outs.mapM (pV M)).run P w=.ok rv w/\kW w av as rv (c9 D (keys us))/\gJ st.sites us:=by
 intro outs;induction outs with
 |nil=>intro as us h;simp only[nk] at h;cases h;exact⟨[],by simp,rfl,.nil⟩
 |cons t outs ih=>
  intro as us h;simp only[nk] at h;split at h
  ·rename_i a ha;split at h
   ·rename_i cL u1 nY u2 h1 h2;cases h;obtain⟨rv,ln,aD,az⟩:=ih h2;obtain⟨v,q0,hs⟩:=adL L.fz.old H ha;have:AQ w av cL v (c9 D (keys u1))/\gJ st.sites u1:=by
     cases a with
     |ak l=>
      obtain⟨p,q1,q2⟩:=Option.map_eq_some_iff.1 h1;cases q2;exact x_ L q1 hs
     |agg ad=>
      obtain⟨p,q1,q2⟩:=Option.map_eq_some_iff.1 h1;cases q2;obtain⟨vs,e1,e2,bz⟩:=hs;obtain⟨r1,r2⟩:=FT L q1 ⟨e2,bz⟩;exact⟨⟨vs,e1,r1⟩,r2⟩
    refine⟨v::rv,?_,⟨_,_,by rw[jF,oa],this.1,aD⟩,this.2.append az⟩
    simp only[List.mapM_cons,Sem.run_bind,q0,Result.andThen_ok,ln,Sem.run_pure]
   ·cases h
  ·cases h
theorem LB(L:fq O Y X D st M w da eT av):∀{b9:List Nat} {cK:List (List aE)} {us:List (Nat×Site)},nb st b9=some (cK,us)->
  iT w av (b9.map fun t=>nD (M.getD t undef)) cK (c9 D (keys us))/\gJ st.sites us:=by
 intro b9;induction b9 with
 |nil=>intro cK us h;simp only[nb] at h;cases h;exact⟨rfl,.nil⟩
 |cons t b9 ih=>
  intro cK us h;have hs:=L.fz.old.cE t;simp only[nb] at h;split at h
  ·rename_i o s hx;rw[hx] at hs;split at h
   ·rename_i cells as7 mC lQ hr;split at h
    ·rename_i cs gone hg;cases h;obtain⟨aD,az⟩:=ih hr;have jr:=gA lQ;obtain⟨b,T,cur,e1,e2,bz,dw,gi⟩:=L.fz.old.box jr hs;obtain⟨g1,g2⟩:=FT L hg gi;have HL:mu cells T cur b:=by
      obtain⟨b2,ep,T5,q1,q2,_,_,dr,_⟩:=L.fz.old.sites o _ jr;rw[e1] at q1;cases q1;rw[bz] at q2;cases q2;exact dr
     have wJ:nD (M.getD t undef)=b:=by rw[e2];rfl
     have apS:bG (D o)=some b:=by rw[e1];rfl
     refine⟨⟨b::c9 D (keys gone),c9 D (keys mC),?_,?_,aD⟩,?_⟩
     ·simp only[keys,jF,oa,List.cons_append];simp[c9,apS]
     ·show Gf w av (nD (M.getD t undef)) cs _;rw[wJ];exact⟨T,cur,_,rfl,bz,dw,fun bP=>HL (M7 hg bP),g1⟩
     ·intro aa aG hm;rcases List.mem_cons.1 hm with hm|hm
      ·cases hm;exact⟨_,jr,rfl,rfl⟩
      ·exact(gJ.append g2 az) aa aG hm
    ·cases h
   ·cases h
  ·cases h
theorem Lv{fn:Func}{outs:List ResultVar}(h:fn.results=outs.toArray){M:Array Value}{w:World}{rv:List Value}(k:(outs.mapM (pV M)).run P w=.ok rv w):(results fn M).run P w=.ok (np rv) w:=by
 have e:(results fn M)=(do let vs <-fn.results.mapM (pV M);pure (if h:vs.size=1 then vs[0] else .tuple vs)):=by
  unfold results;congr 2
 rw[e,h];simp only[List.mapM_toArray,Sem.run_bind,Sem.run_map];rw[k];match rv with
 |[]=>simp[np]
 |[t]=>simp[np]
 |t::t2::r=>simp[np]
theorem am.akD(S:am O Y X D st M w){aZ:Nat}(gh:X aZ)(fo:O.heap.size<=aZ)(B:Obj):am O Y X D st M (w.putObj aZ B):=by
 have hsz:(w.putObj aZ B).heap.size=w.heap.size:=by simp[World.putObj]
 have HP:∀b,b≠aZ->(w.putObj aZ B).heap[b]? =w.heap[b]? :=fun b hb=>World.putObj_heap_other hb
 have G:hX D D st.sites st.sites w (w.putObj aZ B) (aw X D st.sites) (aw X D st.sites):=
  ⟨fun o ab h=>⟨ab,h,Nat.le_refl _,fun _=>rfl⟩,fun b hb _=>HP b fun e=>hb (.inl (e▸gh)),fun _ h _=>h⟩
 have hlt:∀b,aw X D st.sites b->b<(w.putObj aZ B).heap.size:=fun b hb=>by rw[hsz];exact S.lt hb
 refine⟨S.nt,fun t=>(S.cE t).goes G (by rw[hsz];exact Nat.le_refl _) hlt,fun o ab h=>?_,S.dT,S.cf,?_,fun b hb=>by rw[hsz];exact S.old b hb,S.eX⟩
 ·exact(S.sites o ab h).goes G (by rw[hsz];exact Nat.le_refl _) hlt rfl fun hl b hb=>HP b fun e=>(S.cf o b ⟨ab,h,hl⟩ hb).1 (e▸gh)
 ·exact⟨S.frame.os,S.frame.tape,S.frame.output,by rw[hsz];exact S.frame.size,fun b hb hn=>(HP b (by omega)).trans (S.frame.block b hb hn)⟩
theorem ZL{fn:Func}{R:Ending->World->Prop}:∀(dB:List Nat) (w:World),am O Y X D st M w->dB.Nodup->(∀aZ,aZ∈dB->O.heap.size<=aZ/\X aZ/\w.heap[aZ]? =some (.deferred (some [])))->
  (∀w',am O Y X D st M w'->∃v,(results fn M).run P w'=.ok v w'/\R (.returned v) w')->LeavesInM Fence.wide 0 P fn M R (dB.map mark) .returning w:=by
 intro dB;induction dB with
 |nil=>intro w S _ _ hR;exact hR w S
 |cons aZ dB ih=>
  intro w S hn fo hR;obtain⟨h1,h2,h3⟩:=fo aZ List.mem_cons_self;have hn:=List.nodup_cons.1 hn;refine⟨by simp,.inl ⟨aZ,w.putObj aZ (.deferred none),rfl,run_takeDeferred h3,ih _ (S.akD h2 h1 _) hn.2 (fun KO Xg=>?_) hR⟩⟩
  obtain⟨g1,g2,g3⟩:=fo KO (List.mem_cons_of_mem _ Xg);exact⟨g1,g2,(World.putObj_heap_other (fun e=>hn.1 (by rw[<-e];exact Xg))).trans g3⟩
def O5(dQ:Value->World->Prop):Ending->World->Prop
 |.returned v,w=>dQ v w
 |_,_=>False
theorem aef{nt:Nat}{as:List Arg}{st:ah}{vs:List Value}{dn:List Nat}(he:entry nt as=some st)(bP:iP w (fun b=>X b\/b∈dn) as vs dn)(kt:dn.Nodup)(gh:∀b,b∈dn->¬X b)(hlt:∀b,X b->b<w.heap.size)(hG:iu w dn X):
  (∃D,am w dn X D st (vs.toArray++Array.replicate (nt-vs.toArray.size) undef) w)/\dK as vs=(nd 0 as).map (fun t=>nD (vs.getD t undef))/\(∀t,(vs.toArray++Array.replicate (nt-vs.toArray.size) undef).getD t undef=vs.getD t undef):=by
 unfold entry at he;cases hle:Nat.ble as.length nt with
 |false=>simp[hle] at he
 |true=>
  simp only[hle,cond_true] at he;split at he
  ·rename_i l hl;cases hn:fv (keys (GZ nt as l)) with
   |false=>simp[hn] at he
   |true=>
    simp only[hn,cond_true,Option.some.injEq] at he;subst he;rw[re] at hn;have hlen:=bP.length;have hle:=Nat.le_of_ble_eq_true hle;obtain⟨lU,TI⟩:∃lU:Nat->Value,∀j,lU (500000+0+j)=vs.getD j undef:=⟨fun o=>vs.getD (o-500000) undef,fun j=>by simp⟩
    obtain⟨aD,az,bD,_,fF⟩:=_N hl bP TI;have sM:∀t,(vs.toArray++Array.replicate (nt-vs.toArray.size) undef).getD t undef=vs.getD t undef:=fun t=>by
     simp only[Array.getD_eq_getD_getElem?,List.getD_eq_getElem?_getD,Array.getElem?_append,List.size_toArray];by_cases h:t<vs.length
     ·simp[h]
     ·simp only[h,if_false];rw[List.getElem?_eq_none (Nat.le_of_not_lt h)];rw[Array.getElem?_replicate];split<;>rfl
    have lI:∀o,¬cd (k2 (jI 0 as)) o:=fun o ⟨ab,h1,h2⟩=>by obtain⟨s,rfl⟩:=L_ h1;cases h2
    have BX:∀b,b∈dn->b<w.heap.size:=M6 aD;have b7:∀b,aw (fun b=>X b\/b∈dn++[]) lU (k2 (jI 0 as)) b->X b\/b∈dn:=by
     rintro b (h|⟨o,h,_⟩)
     ·simpa using h
     ·exact(lI o h).elim
    have akX:∀b,aw (fun b=>X b\/b∈dn++[]) lU (k2 (jI 0 as)) b->b<w.heap.size:=fun b h=>(b7 b h).elim (hlt b) (BX b)
    have n9:am w dn (fun b=>X b\/b∈dn++[]) lU (Am nt as l) (vs.toArray++Array.replicate (nt-vs.toArray.size) undef) w:=by
     refine⟨?_,fun t=>?_,fun o ab h=>?_,fun o aa b h=>(lI o h).elim,fun o b h=>(lI o h).elim,Fr.refl _ _,fun b hb=>?_,hG.aiG fun b h=>by simpa using h⟩
     ·show(vs.toArray++_).size=nt;simp;omega
     ·rw[sM];unfold ah.get;show b_ lU (k2 (jI 0 as)) w _ (match look l t with|some v=>v|none=>.av (.ak .any)) _
      cases ap:look l t with
      |none=>simp only;trivial
      |some v=>
       simp only;obtain⟨_,k⟩:=fF t v ap;rw[Nat.sub_zero] at k;rcases k with⟨a,rfl,q1,q2⟩|⟨rfl,q1,b,q2⟩
       ·exact aev q1 q2 b7 akX
       ·refine⟨b,q2,.dead 0,L4 (fun _ _ h=>CC h) q1,Nat.le_refl _,fun _=>?_⟩
        have:=TI t;rw[Nat.add_zero] at this;rw[this,q2]
     ·obtain⟨s,rfl⟩:=L_ h;trivial
     ·exact(show X b\/b∈dn by simpa using hb).elim (hlt b) (BX b)
    obtain⟨gu,T,_⟩:=Nw (av:=fun b=>X b\/b∈dn) (rest:=[]) (Am nt as l) (jI 0 as) n9 az aD (fun o s hm=>by
      have:=CC hm;subst this;exact L4 (fun _ _ h=>CC h) hm)
     ⟨by simpa using kt,fun b hb=>⟨gh b (by simpa using hb),.inl (by simpa using hb)⟩,b7⟩
     (fun m _ ab hs=>by
      have hs:look (k2 (jI 0 as)) m=some ab:=hs;have:(Am nt as l).ab m=some ab:=hs;unfold bl;rw[this];exact Nat.lt_succ_self _) hn
    exact⟨⟨gu,T.i'.shrink fun b hb=>.inl hb⟩,by simpa using bD,sM⟩
  ·cases he
theorem aeL{C:hA}(H:a7 P C.toCtx){g:FuncId}{fn:Func}{c:Code}{ke fp:Shape}{outs:List ResultVar}{fc:List Nat}{f:ke.J->Option fp.J}(mL:P.funcs[g]? =some fn)(sy:fn.body=some c)(p0:(fn.name== "runtime.NumGoroutine")=false)
  (jU:fn.results=outs.toArray) (ec:fV P C c 1) (o5:eW fc (ck c)=true) (qf:∀y,∃r n5,nk C.tt (fp.st y) outs=some r/\nb (fp.st y) fc=some n5/\fv (keys (n5.2++r.2))=true) (hf:∀a,f a=He C c ke fp a):aF P g (om C.tt fn.ntmps ke fp outs fc f):=by
 intro as;unfold om;cases he:entry fn.ntmps as with
 |none=>intro y hy;cases hy
 |some st=>
  simp only;cases nT:tm (nd 0 as) fc with
  |false=>intro y hy;cases hy
  |true=>
  simp only[cond_true];have nT:=ahK nT;rw[Nc] at o5;intro y hy w X vs dn bP kt gh hlt hG;obtain⟨a,Jz,Xc⟩:=Option.bind_eq_some_iff.1 hy;obtain⟨⟨lU,n9⟩,eM,sM⟩:=aef he bP kt gh hlt hG;obtain⟨gu,dm,_⟩:=Shape.fU n9 Jz;rw[hf] at Xc;refine .inl ⟨?_,Calls.mono (R:=O5 _) ((callsIn_wide (n:=0)).1 (callsIn_of_wp_marks mL sy trivial (jm (rn:=none) H c 1 (.inl rfl) ec w dn X _ gu _ w [] _ _ Xc dm fun B e cL w' hk hl=>?_) rfl)) fun e w' h=>by cases e<;>first|exact h|exact h.elim⟩
  ·have ahz:¬fn.name= "runtime.NumGoroutine" :=by simpa using p0
   simp[callFunc,mL,ahz,sy]
  ·-- where it ends
   have fin:∀al,fp.ex al=some y->er w dn X [] (vs.toArray++Array.replicate (fn.ntmps-vs.toArray.size) undef) (ck c) al cL w'->LeavesInM Fence.wide 0 P fn cL.tmps (O5 fun v w'=>∃ei eh rv,Fr dn w w'/\
     iT w' (fun b=>X b\/b∈ei++eh) (dK as vs) (match nb (fp.st y) fc with|some r=>r.1|none=>[]) ei/\
     kW w' (fun b=>X b\/b∈ei++eh) (match nk C.tt (fp.st y) outs with|some r=>r.1|none=>[]) rv eh/\v=np rv/\(ei++eh).Nodup/\∀b,b∈ei++eh->¬X b/\(b∈dn\/w.heap.size<=b)) cL.defers .returning w':=by
    rintro al Jn ⟨aN,dA,cX,hZ,dB,b1,b2,b3,hM,kept⟩;obtain⟨hD,jd,_⟩:=Shape.fU hM Jn;rw[b3.1,List.append_nil];have hL:am w dn cX hD (fp.st y) cL.tmps w':=⟨jd.nt,jd.cE,jd.sites,jd.dT,fun o b h1 h2=>⟨(jd.cf o b h1 h2).1,b1.cf b (jd.cf o b h1 h2).2⟩,b1.cC _ jd.frame,jd.old,⟨hG.ok,hG.Y,jd.eX.X,hG.lt⟩⟩
    refine ZL dB w' hL b2.nodup (fun aZ fo=>⟨b2.new aZ fo,(b2.gV aZ fo).2.2,(jd.frame.block aZ (b2.lt fo) (b2.gV aZ fo).2.1).trans (b2.gV aZ fo).1⟩) fun Bp aqn=>?_
    have lq:=aqn.shrink b1.x;obtain⟨⟨kB,us⟩,⟨cK,qT⟩,hr,Ja,hn⟩:=qf y;rw[re] at hn;have hn:(keys (qT++us)).Nodup:=hn;have BV:fq w dn X hD (fp.st y) cL.tmps Bp [] [] (fun _=>False):=⟨⟨lq,.nil⟩,fun b h=>h.elim,fun _ _ _ _ h=>h⟩
    obtain⟨_,_,_,BY⟩:=L7 H.toCtxOk BV hr;have apL:=(LB BV Ja).2;have mR:=gJ.append apL BY;have Kh:∀o,o∈keys (qT++us)->cd (fp.st y).sites o:=fun o bn=>by
     obtain⟨s,hs⟩:=x9 bn;obtain⟨ab,h1,h2,_⟩:=mR o s hs;exact⟨ab,h1,h2⟩
    have dW:fq w dn X hD (fp.st y) cL.tmps Bp [] [] (fun b=>X b\/b∈c9 hD (keys qT)++c9 hD (keys us)):=by
     refine⟨⟨lq,.nil⟩,fun b hb=>?_,fun _ h=>by simp at h⟩
     rcases hb with hb|hb
     ·exact .inl hb
     ·rw[<-oa,<-jF] at hb;obtain⟨o,h1,h2⟩:=mU.1 hb;exact .inr ⟨o,Kh o h1,h2⟩
    obtain⟨rv,di,dX,_⟩:=L7 H.toCtxOk dW hr;have hB:=(LB dW Ja).1;have apb:(fc.map fun t=>nD (cL.tmps.getD t undef))=dK as vs:=by
     rw[eM,nT];exact List.map_congr_left fun t ap=>by rw[kept t (o5 t ap),sM]
    rw[apb] at hB;refine⟨_,Lv jU di,c9 hD (keys qT),c9 hD (keys us),rv,lq.frame,?_,?_,rfl,?_,fun b hb=>?_⟩
    ·rw[Ja];exact hB
    ·rw[hr];exact dX
    ·rw[<-oa,<-jF];exact Ld lq hn Kh
    ·rw[<-oa,<-jF] at hb;obtain⟨o,h1,h2⟩:=mU.1 hb;exact lq.cf o b (Kh o h1) h2
   cases B with
   |norm al=>
    cases e<;>try exact hl.elim
    exact fin al hk hl
   |ret al=>
    cases e<;>try exact hl.elim
    exact fin al hk hl
   |exit id al=>cases hk
end
def an(c:Code)(q p:Nat):Code:=match look (fJ c q) p with|some c=>c|none=>.skip
def c8:Code->Code
 |.loop c=>c
 |_=>.skip
def codeOf(f:Func):Code:=match f.body with|some c=>c|none=>.skip
def Qq:Code->Bool
 |.loop _=>true
 |_=>false
def sq:List (Nat×hI)->Nat->Option hI
 |[],_=>none
 |(k,v)::r,n=>bif k.beq n then some v else sq r n
def gE(C:Ctx)(cC:List (Nat×hI)):hA:={C with nK:=sq cC}
def k5(P:Program)(c:Code)(q:Nat):List (Nat×hI)->Prop
 |[]=>True
 |(p,f)::r=>aW P (an c q p) f/\k5 P c q r
theorem adS{aB:Type}{l:List (Nat×aB)}{n:Nat}{v:aB}(h:look l n=some v):(n,v)∈l:=by
 induction l with
 |nil=>cases h
 |cons p l ih=>
  obtain⟨m,u⟩:=p;simp only[look] at h;cases hb:m.beq n with
  |true=>
   simp only[hb,cond_true,Option.some.injEq] at h;rw[<-Nat.eq_of_beq_eq_true hb,h];exact List.mem_cons_self
  |false=>simp only[hb,cond_false] at h;exact List.mem_cons_of_mem _ (ih h)
theorem adR{aB:Type}{l:List (Nat×aB)}{n:Nat}{v:aB}(hn:(keys l).Nodup)(h:(n,v)∈l):look l n=some v:=by
 induction l with
 |nil=>simp at h
 |cons p l ih=>
  obtain⟨m,u⟩:=p;simp only[keys,List.nodup_cons] at hn;simp only[look];rcases List.mem_cons.1 h with h|h
  ·cases h;simp
  ·have:¬m=n:=by rintro rfl;exact hn.1 (ab3 h)
   rw[ju this];exact ih hn.2 h
where
 ab3 {aB:Type} {us:List (Nat×aB)} {o:Nat} {s:aB} (h:(o,s)∈us):o∈keys us:=by
  induction us with
  |nil=>simp at h
  |cons p us ih=>
   rcases List.mem_cons.1 h with rfl|h
   ·exact List.mem_cons_self
   ·exact List.mem_cons_of_mem _ (ih h)
theorem kO{P:Program}{C:Ctx}{c:Code}{q:Nat}{cC:List (Nat×hI)}(hu:fv (keys (fJ c q))=true)(h:k5 P c q cC):fV P (gE C cC) c q:=by
 rw[re] at hu;refine Pa c q fun p fg hm f v_=>?_
 have hl:=adR hu hm;have hf:sq cC p=some f:=v_;clear v_;clear hm;induction cC with
 |nil=>cases hf
 |cons x cC ih=>
  obtain⟨k,g⟩:=x;simp only[sq] at hf;cases hb:k.beq p with
  |true=>
   simp only[hb,cond_true,Option.some.injEq] at hf;have:=Nat.eq_of_beq_eq_true hb;subst this hf;have:=h.1;unfold an at this;rw[hl] at this;exact this
  |false=>simp only[hb,cond_false] at hf;exact ih h.2 hf
theorem ag{P:Program}{c:Code}{q:Nat}:k5 P c q []:=trivial
theorem afP{P:Program}{C:Ctx}(H:a7 P C){c:Code}{q p:Nat}{aQ:Shape}{os:List aO}{cC:List (Nat×hI)}{g:aQ.J->Option (ay os)}(hl:Qq (an c q p)=true)
  (hu:fv (keys (fJ (c8 (an c q p)) (2*p)))=true) (fm:k5 P (c8 (an c q p)) (2*p) cC)
  (hg:∀y,g y=bx (r4 (gE C cC) (c8 (an c q p)) p aQ os) y):aW P (an c q p) (a_ aQ os g):=by
 have:an c q p=.loop (c8 (an c q p)):=by
  generalize an c q p=d at hl;cases d<;>first|rfl|cases hl
 rw[this];exact ab7 (C:=gE C cC) H (kO hu fm) hg
theorem cS{P:Program}{C:Ctx}(H:a7 P C){c:Code}{q p:Nat}{aQ:Shape}{os:List aO}{cC:List (Nat×hI)}{g:aQ.J->Option (ay os)}
  (hu:fv (keys (fJ (an c q p) p))=true) (fm:k5 P (an c q p) p cC)
  (hg:∀y,g y=P' (gE C cC) (an c q p) p aQ os y):aW P (an c q p) (a_ aQ os g):=
 aai (C:=gE C cC) H (kO hu fm) hg
theorem ahG{P:Program}{C:Ctx}(H:a7 P C){g:FuncId}{fn:Func}{ke fp:Shape}{outs:List ResultVar}{fc:List Nat}{cC:List (Nat×hI)}{f:ke.J->Option fp.J}(mL:P.funcs[g]? =some fn)(sy:fn.body=some (codeOf fn))
  (p0:(fn.name== "runtime.NumGoroutine")=false) (jU:fn.results=outs.toArray) (hu:fv (keys (fJ (codeOf fn) 1))=true) (fm:k5 P (codeOf fn) 1 cC) (hk:eW fc (ck (codeOf fn))=true)
  (qf:∀y,∃r n5,nk C.tt (fp.st y) outs=some r/\nb (fp.st y) fc=some n5/\fv (keys (n5.2++r.2))=true) (hf:∀a,f a=He (gE C cC) (codeOf fn) ke fp a):aF P g (om C.tt fn.ntmps ke fp outs fc f):=
 aeL (C:=gE C cC) H mL sy p0 jU (kO hu fm) hk qf hf
def su{A bp:Type}(ff:(A->Option bp)->A->Option bp):Nat->A->Option bp
 |0=>fun _=>none
 |n+1=>ff (su ff n)
def AH:Nat:=4611686018427387904
theorem agV{P:Program}{g:FuncId}{tt:TypeId->b8}{nt:Nat}{ll kA:Shape}{outs:List ResultVar}{fc:List Nat}{ff:(ll.J->Option kA.J)->ll.J->Option kA.J}
  (h:∀aV,aF P g (om tt nt ll kA outs fc aV)->aF P g (om tt nt ll kA outs fc (ff aV))):∀n,aF P g (om tt nt ll kA outs fc (su ff n)):=by
 intro n;induction n with
 |zero=>
  intro as;unfold om;cases entry nt as with
  |none=>intro y hy;cases hy
  |some st=>
   simp only;cases tm (nd 0 as) fc with
   |false=>intro y hy;cases hy
   |true=>
    intro y hy;simp only[cond_true,su] at hy;obtain⟨a,_,h2⟩:=Option.bind_eq_some_iff.1 hy;cases h2
 |succ n ih=>exact h _ ih
def AW:List (Nat×b8)->TypeId->b8
 |[],_=>.none
 |(k,v)::r,n=>bif Nat.beq k n then v else AW r n
def Hf(P:Program):List (Nat×b8)->Prop
 |[]=>True
 |(k,v)::r=>v.ok P k/\Hf P r
theorem aeK{P:Program}:∀{l:List (Nat×b8)},Hf P l->∀T,(AW l T).ok P T:=by
 intro l;induction l with
 |nil=>intro _ T;trivial
 |cons p l ih=>
  obtain⟨k,v⟩:=p;intro h T;simp only[AW];cases hb:Nat.beq k T with
  |true=>have:=Nat.eq_of_beq_eq_true hb;subst this;exact h.1
  |false=>exact ih h.2 T
theorem aaw{J bp:Type}{f g:J->Option (Sum J bp)}(h:∀y,f y=g y):∀y,bx f y=bx g y:=by
 have:f=g:=funext h;rw[this];exact fun _=>rfl
def rM:List Arg->Option (F×Int)
 |[.av (.ak (.d (.str s))),.av (.ak (.d (.int .u8 c)))]=>some (s,c)
 |_=>none
def Dw:aH:=fun as=>match rM as with
 |some (s,c)=>⟨Unit,some (),fun _=>[],fun _=>[.ak (.d (.int .i64 (Lib.indexByte s c.toNat.toUInt8)))]⟩
 |none=>.fail
theorem Lz{as:List Arg}{s:F}{c:Int}(h:rM as=some (s,c)):as=[.av (.ak (.d (.str s))),.av (.ak (.d (.int .u8 c)))]:=by
 unfold rM at h;split at h
 ·cases h;rfl
 ·cases h
theorem ZQ{P:Program}{g:FuncId}{fn:Func}(hf:P.funcs[g]? =some fn)(p0:(fn.name== "runtime.NumGoroutine")=false)(hb:fn.body.isNone=true)(hn:Extern.findNext fn=none)
  (he:Extern.find fn=some Extern.BytealgIndexByte.indexByte):aF P g Dw:=by
 intro as;unfold Dw;cases ar:rM as with
 |none=>intro y hy;cases hy
 |some q=>
  obtain⟨s,c⟩:=q;have has:=Lz ar;subst has;intro y hy w X vs dn bP _ _ _ _;match vs,bP with
  |[v1,v2],⟨a1,a2,e1,h1,c1,c2,e2,h2,bz⟩=>
   obtain⟨fD,r1⟩:=h1;obtain⟨z2,r2⟩:=h2;subst fD z2 bz;simp only[List.append_nil] at e2;subst e2;simp only[List.append_nil] at e1;subst e1;obtain⟨b,rfl,dP⟩:=gm r1;have e:=h' r2;subst e;refine .inr ⟨.int .i64 (Lib.indexByte b.data.toList c.toNat.toUInt8),w,?_,[],[],[.int .i64 (Lib.indexByte s c.toNat.toUInt8)],Fr.refl _ _,?_,?_,?_,by simp,fun b hb=>by simp at hb⟩
   ·rw[run_callFunc_extern hf p0 hb hn he];show((Extern.BytealgIndexByte.indexByte #[.string b,.int .u8 c]).run P w).andThen _=_;rw[Lib.run_indexByteString];rfl
   ·simp[dK,iT]
   ·exact⟨[],[],rfl,⟨rfl,.int _ _⟩,rfl⟩
   ·rw[dP];rfl
end Go.Jk
namespace Go.Jk
open Go.RowKit Go.Sort
theorem acZ{P:Program}{w:World}{g:Nat}{name:String}{k:IntKind}{zs:List Int}(hg:P.globalNamed name=some g)(h:nB w g k zs):Lib.TabIs P w name k zs:=by
 obtain⟨T,fz,h⟩:=h;simp[Lib.TabIs,World.var?,hg,h]
theorem ac0{P:Program}{w:World}{g:Nat}{name:String}{k:IntKind}{zs:List Int}(hg:P.globalNamed name=some g)(h:Lib.TabIs P w name k zs):nB w g k zs:=by
 simp only[Lib.TabIs,World.var?,hg,Option.bind_some] at h;split at h
 ·rename_i cs T fz hc;cases h;exact⟨_,_,hc⟩
 ·cases h
def AB:List Arg->Option Int
 |[.av (.ak (.d (.int .i64 n)))]=>some n
 |_=>none
theorem acd{as:List Arg}{n:Int}(h:AB as=some n):as=[.av (.ak (.d (.int .i64 n)))]:=by
 unfold AB at h;split at h
 ·cases h;rfl
 ·cases h
def Ep:aH:=fun as=>match AB as with
 |some n=>⟨Unit,if-9223372036854775808<=n/\n<=9223372036854775807 then some () else none,fun _=>[],fun _=>[.ak (.d (.str (Lib.itoa n)))]⟩
 |none=>.fail
theorem af0(w:World)(k:Nat)(os:Array Obj):Fr [] w (grow (w.drewN k) os):=
 ⟨rfl,rfl,rfl,by simp[grow,World.drewN],fun b hb _=>by
  show(w.heap++os)[b]? =w.heap[b]?;rw[Array.getElem?_append_left hb]⟩
theorem afV{P:Program}{g:FuncId}(he:∀args w,(callFunc g args).run P w=.ok (.enter g args) w)
  (h:∀n:Int,-9223372036854775808<=n->n<=9223372036854775807->∀w,mM w->Calls P g #[.int .i64 n] w fun e w'=>e=.returned (.string ⟨(Lib.itoa n).toArray⟩)/\∃k os,w'=grow (w.drewN k) os):aF P g Ep:=by
 intro as;unfold Ep;cases ar:AB as with
 |some n=>
  have has:=acd ar;subst has;intro y hy w X vs dn bP _ gh hlt hG;have hy:(if-9223372036854775808<=n/\n<=9223372036854775807 then some () else none)=some y:=hy
  split at hy
  ·rename_i hn;match vs,bP with
   |[v1],⟨a1,a2,e1,h1,e2⟩=>
    obtain⟨fD,r1⟩:=h1;subst fD e2;simp only[List.append_nil] at e1;subst e1;have e:=h' r1;subst e;refine .inl ⟨he _ _,(h n hn.1 hn.2 w hG.ok).mono fun e w' hw=>?_⟩
    obtain⟨rfl,k,os,rfl⟩:=hw;exact⟨[],[],[.string ⟨(Lib.itoa n).toArray⟩],af0 w k os,rfl,⟨[],[],rfl,⟨rfl,.str _ _ rfl⟩,rfl⟩,rfl,by simp,fun b hb=>by simp at hb⟩
  ·cases hy
 |none=>intro y hy;cases hy
end Go.Jk
namespace Go.Jk
open Go.ChangeShapes Go.WideShapes Go.RowKit
def Hm:aY->List dx
 |.i64=>[.int .i64]
 |.u8=>[.int .u8]
 |.u32=>[.int .u32]
 |.bool=>[.bool]
 |.str=>[.str]
 |.entry=>[.str,.int .i64,.int .i64,.str]
 |.need=>[.str,.int .i64,.str]
 |.pack=>[.str,.str,.sl .need,.sl .entry]
 |.file|.lt|.source|.piece=>[.str,.str]
 |.recipe=>[.str,.str,.sl .lt,.sl .need,.sl .need,.sl .source,.sl .piece,.sl .str]
 |.hunk=>[.int .i64,.sl .str]
 |.sB=>[.sl .bool]
inductive l9:aZ->Prop where
 |int (k:IntKind) (n:Int):(Lit.int k n).wf=true->l9 (.int k n)
 |bool (b:Bool):l9 (.bool b)
 |str (s:F):s.length<=maxLen->l9 (.str s)
 |sl (t:aY) (xs:List (den t)):xs.length<=maxLen->(∀x,x∈xs->∀d,d∈enc t x->l9 d)->l9 (.sl t xs)
theorem aga:∀(t:aY) (y:kx (Hm t)),∃x,enc t x=fk (Hm t) y:=by
 intro t y;cases t;case recipe=>obtain⟨a,b,c,d,e,f,g,h,_⟩:=y;exact⟨⟨a,b,c,d,e,f,g,h⟩,rfl⟩
 case entry=>obtain⟨a,b,c,d,_⟩:=y;exact⟨⟨a,b,c,d⟩,rfl⟩
 case pack=>obtain⟨a,b,c,d,_⟩:=y;exact⟨⟨a,b,c,d⟩,rfl⟩
 case need=>obtain⟨a,b,c,_⟩:=y;exact⟨⟨a,b,c⟩,rfl⟩
 case file=>obtain⟨a,b,_⟩:=y;exact⟨⟨a,b⟩,rfl⟩
 case lt=>obtain⟨a,b,_⟩:=y;exact⟨⟨a,b⟩,rfl⟩
 case source=>obtain⟨a,b,_⟩:=y;exact⟨⟨a,b⟩,rfl⟩
 case piece=>obtain⟨a,b,_⟩:=y;exact⟨⟨a,b⟩,rfl⟩
 case hunk=>obtain⟨a,b,_⟩:=y;exact⟨⟨a,b⟩,rfl⟩
 all_goals(obtain⟨a,_⟩:=y;exact⟨a,rfl⟩)
instance:DecidableEq dx:=fun a b=>by
 cases a<;>cases b<;>first|exact isTrue rfl|(rename_i x y;exact if h:x=y then isTrue (by rw[h]) else isFalse (fun e=>h (by cases e;rfl)))|exact isFalse (fun e=>by cases e)
def um(P:Program)(r:TypeId->Option (List dx)):List Field->Nat->Option (List dx)
 |[],_=>some []
 |f::bK,B=>match r f.type,um P r bK (B+P.cellsOf f.type) with
  |some a,some b=>if f.offset=B/\P.cellsOf f.type=a.length then some (a++b) else none
  |_,_=>none
def pM(tt:TypeId->b8)(P:Program):Nat->TypeId->Option (List dx)
 |0,_=>none
 |n+1,T=>match P.underlying T with
  |some (.int k)=>some [.int k]
  |some .bool=>some [.bool]
  |some .string=>some [.str]
  |some (.slice e)=>match tt T,pM tt P n e with
   |.slice _ t _,some aR=>if aR=Hm t/\P.cellsOf e=aT t then some [.sl t] else none
   |_,_=>none
  |some (.struct bK)=>match um P (pM tt P n) bK.toList 0 with
   |some aR=>if P.cellsOf T=aR.length then some aR else none
   |none=>none
  |_=>none
def uM(w:World)(av:Nat->Prop)(aR:List dx)(cs:List Value):Prop:=∃y:kx aR,cT w av (fk aR y) cs/\∀d,d∈fk aR y->l9 d
theorem adQ:∀(aR nJ:List dx) (y:kx aR) (y':kx nJ),∃z:kx (aR++nJ),fk (aR++nJ) z=fk aR y++fk nJ y':=by
 intro aR;induction aR with
 |nil=>intro nJ y y';exact⟨y',rfl⟩
 |cons s aR ih=>
  intro nJ y y';obtain⟨a,b⟩:=y;obtain⟨z,hz⟩:=ih nJ b y';exact⟨(a,z),by simp[fk,hz]⟩
theorem cT.bV{w:World}{av:Nat->Prop}{ds kw:List aZ}{vs ch:List Value}(h:cT w av ds vs)(af:cT w av kw ch):cT w av (ds++kw) (vs++ch):=by
 refine⟨by rw[List.length_append,List.length_append,h.1,af.1],fun j g1 g2=>?_⟩
 rw[List.getElem_append,List.getElem_append];have:=h.1;simp only[List.length_append] at g1 g2;by_cases hj:j<ds.length
 ·rw[dif_pos hj,dif_pos (by omega)]
  exact h.2 j hj (by omega)
 ·rw[dif_neg hj,dif_neg (by omega)]
  have:=af.2 (j-ds.length) (by omega) (by omega)
  simpa[h.1] using this
theorem uM.one{w:World}{av:Nat->Prop}{s:dx}{d:aZ}{v:Value}(y:s.J)(Z:s.mk y=d)(h:bA w av d v)(hw:l9 d):uM w av [s] [v]:=
 ⟨(y,()),⟨rfl,fun j h1 h2=>by
  simp only[fk,List.length_cons,List.length_nil] at h1;obtain rfl:j=0:=by omega
  simpa[fk,Z] using h⟩,fun Yu af=>by simp only[fk,List.mem_singleton] at af;rw[af,Z];exact hw⟩
section
variable {H:Type}{jW:TypeId×Value->H}{P:Program}{w:World}{base:Nat}{spare:Nat->Bool}{held:Bool}{av:Nat->Prop}{tt:TypeId->b8}
theorem ZI{r:TypeId->Option (List dx)}{n:Nat}{cs:List Value}(ih:∀{T:TypeId} {aR:List dx} {cs:List Value} {x:DataW H×List MemPlace},r T=some aR->DataW.trod jW P w base spare held n T cs=some x->uM w av aR cs):
  ∀(bK:List Field) (B:Nat) (aR:List dx),um P r bK B=some aR->B+aR.length<=cs.length->(∀(i:Nat) (f:Field),bK[i]? =some f->∃x,DataW.trod jW P w base spare held n f.type ((cs.drop f.offset).take (P.cellsOf f.type))=some x)->
   uM w av aR ((cs.drop B).take aR.length):=by
 intro bK;induction bK with
 |nil=>
  intro B aR h hl _;simp only[um] at h;cases h;exact⟨(),⟨by simp[fk],fun j g=>by simp[fk] at g⟩,fun d Z=>by simp[fk] at Z⟩
 |cons f bK aoB=>
  intro B aR h hl hx;simp only[um] at h;split at h
  ·rename_i a b h1 h2;split at h
   ·rename_i hc;cases h;obtain⟨x,nM⟩:=hx 0 f rfl;have f':B+a.length+b.length<=cs.length:=by simp only[List.length_append] at hl;omega
    rw[hc.1,hc.2] at nM;rw[hc.2] at h2;obtain⟨eB,aD,az⟩:=ih h1 nM;obtain⟨fe,bD,cQ⟩:=aoB (B+a.length) b h2 f' (fun i g hg=>hx (i+1) g (by simpa using hg))
    obtain⟨z,hz⟩:=adQ a b eB fe;have fB:(cs.drop B).take (a++b).length=(cs.drop B).take a.length++(cs.drop (B+a.length)).take b.length:=by
     rw[List.length_append,List.take_add,List.drop_drop]
    refine⟨z,?_,?_⟩
    ·rw[hz,fB];exact aD.bV bD
    ·rw[hz];intro d Z;rcases List.mem_append.1 Z with Z|Z
     ·exact az d Z
     ·exact cQ d Z
   ·cases h
  ·cases h
theorem aah(b7:∀b,¬av b):∀(m:Nat) {T:TypeId} {aR:List dx} {n:Nat} {cs:List Value} {x:DataW H×List MemPlace},pM tt P m T=some aR->DataW.trod jW P w base spare held n T cs=some x->uM w av aR cs:=by
 intro m;induction m with
 |zero=>intro T aR n cs x h;cases h
 |succ m ih=>
  intro T aR n cs x h hx;simp only[pM] at h;split at h
  ·rename_i k hu;cases h;obtain⟨z,rfl,_,hw⟩:=DataW.trod_int hu hx;exact .one (s:=.int k) z rfl (.int k z) (.int k z hw)
  ·rename_i hu;cases h;obtain⟨b,rfl,_⟩:=DataW.trod_bool hu hx;exact .one (s:=.bool) b rfl (.bool b) (.bool b)
  ·rename_i hu;cases h;obtain⟨s,rfl,_,hl⟩:=DataW.trod_string hu hx;exact .one (s:=.str) s.data.toList rfl (.str _ _ rfl) (.str _ (by rw[Array.length_toList];exact hl))
  ·rename_i e hu;split at h
   ·rename_i cz t bytes nJ jc lg;split at h
    ·rename_i hc;cases h;rcases DataW.trod_slice hu hx with⟨rfl,_⟩|⟨a,len,cap,asL,rest,tx,rfl,rfl,_,hb,s_,hcm,l2,bq,_⟩
     ·exact .one (s:=.sl t) [] rfl (.nil t) (.sl t [] (Nat.zero_le _) (fun x h=>by cases h))
     ·have key:∀j,j<=len->∃xs:List (den t),∃cs:List Value,xs.length=j/\cs.length=j*aT t/\(∀i u,cs[i]? =some u->w.cell? (a.add i)=some u)/\cT w av (flat t xs) cs/\∀x,x∈xs->∀d,d∈enc t x->l9 d:=by
       intro j;induction j with
       |zero=>intro _;exact⟨[],[],rfl,by simp,fun i u h=>by simp at h,⟨rfl,fun i h=>by simp[flat] at h⟩,fun x h=>by cases h⟩
       |succ j aoA=>
        intro hj;obtain⟨xs,cs,h1,h2,h3,ax,bk⟩:=aoA (by omega)
        have jA:=bq j (by omega)
        rw[List.getElem?_eq_getElem (by omega)] at jA
        obtain⟨nW,aD,az⟩:=Option.bind_eq_some_iff.1 jA;obtain⟨bD,cQ,fF⟩:=World.cells?_some aD;obtain⟨y,h9,wH⟩:=ih lg az;obtain⟨hc1,qH⟩:=hc;subst hc1;obtain⟨wy,hxe⟩:=aga t y;rw[<-hxe] at h9 wH;have f':nW.length=aT t:=by rw[cQ,qH]
        refine⟨xs++[wy],cs++nW,by simp[h1],by rw[List.length_append,h2,f',Nat.succ_mul],fun i u hi=>?_,?_,fun x hx=>?_⟩
        ·by_cases hlt:i<cs.length
         ·rw[List.getElem?_append_left hlt] at hi;exact h3 i u hi
         ·rw[List.getElem?_append_right (by omega)] at hi
          have oM:i-cs.length<aT t:=by rw[<-f'];exact(List.getElem?_eq_some_iff.1 hi).1
          have:=fF (i-cs.length) (by rw[qH];exact oM)
          rw[Deep.add_add,qH,hi,show j*aT t+(i-cs.length)=i by omega] at this
          exact this
        ·rw[ra,show flat t [wy]=enc t wy by simp[flat]]
         exact ax.bV h9
        ·rcases List.mem_append.1 hx with hx|hx
         ·exact bk x hx
         ·rw[List.mem_singleton.1 hx];exact wH
      obtain⟨xs,cs,h1,h2,h3,ax,bk⟩:=key len (Nat.le_refl _);exact .one (s:=.sl t) xs rfl (.sl t xs a cap cs len h1.symm s_ (fun _=>b7 _) (by rw[h2,eV,h1]) h3 ax.2) (.sl t xs (by omega) bk)
    ·cases h
   ·cases h
  ·rename_i bK hu;split at h
   ·rename_i nJ apk;split at h
    ·rename_i hc;cases h;obtain⟨xs,tx,_,_,hl,hlen,hf⟩:=DataW.trod_struct hu hx;have:=ZI (cs:=cs) (fun h1 h2=>ih h1 h2) bK.toList 0 aR apk (by omega) (fun i f W2=>by
      have:=hf i f (by simpa using W2)
      have hi:i<xs.length:=by
       rw[hlen];have:=(List.getElem?_eq_some_iff.1 W2).1;simpa using this
      exact⟨xs[i],by rw[this,List.getElem?_eq_getElem hi]⟩)
     rw[List.drop_zero,List.take_of_length_le (by omega)] at this
     exact this
    ·cases h
   ·cases h
  ·cases h
theorem uj{w:World}{av:Nat->Prop}{d:aZ}{ds:List aZ}{vs:List Value}(h:cT w av (d::ds) vs):∃v ch,vs=v::ch/\bA w av d v/\cT w av ds ch:=by
 obtain⟨h1,h2⟩:=h;match vs,h1 with
 |v::vs,h1=>
  refine⟨v,vs,rfl,?_,by simpa using h1,fun j g1 g2=>?_⟩
  ·have:=h2 0 (by simp) (by simp)
   simpa using this
  ·have:=h2 (j+1) (by simp only[List.length_cons];omega) (by simp only[List.length_cons];omega)
   simpa using this
theorem ade{w:World}{av:Nat->Prop}:∀{ds:List aZ} {vs:List Value},cT w av ds vs->k4 w av (cx ds) vs []:=by
 intro ds;induction ds with
 |nil=>
  intro vs h;match vs,h.1 with
  |[],_=>rfl
 |cons d ds ih=>
  intro vs h;obtain⟨v,ch,rfl,h1,h2⟩:=uj h;exact⟨[],[],rfl,⟨rfl,h1⟩,ih h2⟩
def vf(P:Program)(T:TypeId):Bool:=match P.underlying T with
 |some (.struct _)=>true
 |_=>false
def u0(b:Bool)(ds:List aZ):Arg:=match b,ds with
 |true,ds=>.av (.agg (cx ds))
 |false,[d]=>.av (.ak (.d d))
 |false,_=>.av (.ak .any)
theorem ahR(b7:∀b,¬av b){m:Nat}{T:TypeId}{aR:List dx}{v:Value}{d:DataW H}{p:List MemPlace}{r:Reach}{qY:Nat}(hp:pM tt P m T=some aR)(iB:Value.okWide P w r qY T v)
  (Z:DataW.Trod jW P w base spare held T v d p):∃y:kx aR,PJ w av (u0 (vf P T) (fk aR y)) v []/\dK [u0 (vf P T) (fk aR y)] [v]=[]/\∀d,d∈fk aR y->l9 d:=by
 obtain⟨n,hn⟩:=Z;obtain⟨y,h1,h2⟩:=aah b7 m hp hn;refine⟨y,?_,?_,h2⟩
 ·cases m with
  |zero=>cases hp
  |succ m=>
   simp only[pM] at hp;unfold vf;split at hp
   ·rename_i k hu;cases hp;rw[hu];obtain⟨z,rfl⟩:=okWide_int hu iB;obtain⟨v',ch,e,h3,ax⟩:=uj h1;cases e;exact⟨rfl,h3⟩
   ·rename_i hu;cases hp;rw[hu];obtain⟨z,rfl⟩:=okWide_bool hu iB;obtain⟨v',ch,e,h3,ax⟩:=uj h1;cases e;exact⟨rfl,h3⟩
   ·rename_i hu;cases hp;rw[hu];obtain⟨z,rfl⟩:=okWide_string hu iB;obtain⟨v',ch,e,h3,ax⟩:=uj h1;cases e;exact⟨rfl,h3⟩
   ·rename_i e hu;split at hp
    ·split at hp
     ·cases hp;rw[hu];obtain⟨a,len,cap,rfl⟩:=okWide_slice hu iB;obtain⟨v',ch,e,h3,ax⟩:=uj h1;cases e;exact⟨rfl,h3⟩
     ·cases hp
    ·cases hp
   ·rename_i bK hu;rw[hu];obtain⟨cs,rfl,_⟩:=okWide_struct hu iB;exact⟨cs.toList,rfl,ade h1⟩
   ·cases hp
 ·unfold u0;split<;>cases v<;>rfl
def ul(tt:TypeId->b8)(P:Program)(m:Nat):List TypeId->Option (List (Bool×List dx))
 |[]=>some []
 |T::cR=>match pM tt P m T,ul tt P m cR with
  |some aR,some r=>some ((vf P T,aR)::r)
  |_,_=>none
@[reducible] def wj:List (Bool×List dx)->Type
 |[]=>Unit
 |p::r=>kx p.2×wj r
def sf:(ps:List (Bool×List dx))->wj ps->List Arg
 |[],_=>[]
 |p::r,(y,z)=>u0 p.1 (fk p.2 y)::sf r z
def H8:(ps:List (Bool×List dx))->wj ps->Prop
 |[],_=>True
 |p::r,(y,z)=>(∀d,d∈fk p.2 y->l9 d)/\H8 r z
theorem agp(b7:∀b,¬av b){m:Nat}{r:Reach}{qY:Nat}:∀{cR:List TypeId} {ps:List (Bool×List dx)} {vs:List Value} {ds:List (DataW H)} {p:List MemPlace},ul tt P m cR=some ps->
  (∀(j:Nat) (t:TypeId) (v:Value),cR[j]? =some t->vs[j]? =some v->Value.okWide P w r qY t v)->DataW.TrodAll jW P w base spare held cR vs ds p->
  ∃y:wj ps,iP w av (sf ps y) vs []/\dK (sf ps y) vs=[]/\H8 ps y:=by
 intro cR;induction cR with
 |nil=>
  intro ps vs ds p hp _ Z;simp only[ul] at hp;cases hp;obtain⟨rfl,rfl,rfl⟩:=trodAll_nil Z;exact⟨(),rfl,rfl,trivial⟩
 |cons T cR ih=>
  intro ps vs ds p hp iB Z;simp only[ul] at hp;split at hp
  ·rename_i aR ew h1 h2;cases hp;obtain⟨v,ch,d,kw,jf,iK,rfl,rfl,rfl,hd1,hd2⟩:=trodAll_cons Z;obtain⟨y,aD,az,bD⟩:=ahR b7 h1 (iB 0 T v rfl rfl) hd1;obtain⟨z,cQ,fF,h9⟩:=ih h2 (fun j t u g1 g2=>iB (j+1) t u (by simpa using g1) (by simpa using g2)) hd2
   refine⟨(y,z),⟨[],[],rfl,aD,cQ⟩,?_,bD,h9⟩;have:=Lc (as:=[u0 (vf P T) (fk aR y)]) (vs:=[v]) (nY:=sf ew z) (ch:=ch) rfl;rw[az,fF] at this;exact this
  ·cases hp
theorem ZO{P:Program}{w:World}:∀{laid:List (String×DataW Unit)} {ps:List MemPlace} {n:String} {d:DataW Unit},DataW.LaidVars P w laid ps->(n,d)∈laid->∃bY,DataW.LaidVars P w [(n,d)] bY:=by
 intro laid;induction laid with
 |nil=>intro ps n d _ hm;cases hm
 |cons x laid ih=>
  obtain⟨n0,d0⟩:=x;intro ps n d h hm;obtain⟨g,t,cs,lR,p,q,h1,h2,h3,ax,bk,cl⟩:=h;rcases List.mem_cons.1 hm with e|hm
  ·cases e;exact⟨_,g,t,cs,lR,p,[],h1,h2,h3,ax,rfl,rfl⟩
  ·exact ih bk hm
theorem N2{P:Program}{W:World}{laid:List (String×DataW Unit)}{name:String}{k:IntKind}{zs:List Int}{g:Nat}{t e:TypeId}{n i:Nat}(hg:P.globalNamed name=some g)(aoQ:(P.globals[g]?).map (·.type)=some t)(ap:P.underlying t=some (.array n e))
  (he:P.underlying e=some (.int k)) (tf:P.cellsOf e=1) (apn:P.cellsOf t=n) (hm:laid[i]? =some (name,Lib.tabData k zs)) (h:laidMet P laid W):nB W g k zs:=by
 obtain⟨ps,h,_⟩:=h;obtain⟨bY,ct,bi,cs,lR,p,q,hg',qw,akN,Z,_,_⟩:=ZO h (List.mem_of_getElem? hm);obtain rfl:=Option.some.inj (hg.symm.trans hg');obtain rfl:=Option.some.inj (aoQ.symm.trans qw);have hc:=Lib.cells_of_tab ap he tf apn Z;refine ac0 hg ?_
 show W.var? P name=_;rw[akN,<-hc]
def LawOk(S:aH)(ps:List (Bool×List dx)):Prop:=∀y:wj ps,H8 ps y->∃r,(S (sf ps y)).comp=some r/\(S (sf ps y)).e_ r=[.ak (.d (.bool true))]
theorem Zb{W cY:World}(hl:laidOutB P=true){sp':Nat->Bool}(kq:∀b,b<W.heap.size->sp' b=true)(hb:Below W.heap.size W cY):∀{cR:List TypeId} {vs:List Value} {ds:List (DataW H)} {p:List MemPlace},
  (∀t,t∈cR->P.readableRec t=true/\t<P.types.size)->(∀x∈p,x.block<W.heap.size)->DataW.TrodAll jW P W 0 (fun _=>true) true cR vs ds p->DataW.TrodAll jW P cY 0 sp' true cR vs ds p:=by
 intro cR;induction cR with
 |nil=>intro vs ds p _ _ Z;obtain⟨rfl,rfl,rfl⟩:=trodAll_nil Z;rfl
 |cons T cR ih=>
  intro vs ds p hr hlt Z;obtain⟨v,ch,d,kw,jf,iK,rfl,rfl,rfl,hd1,hd2⟩:=trodAll_cons Z;refine⟨jf,iK,?_,ih (fun t ap=>hr t (List.mem_cons_of_mem _ ap)) (fun x hx=>hlt x (List.mem_append.2 (.inr hx))) hd2,rfl⟩
  exact WideElems.Trod_stays hl (hr T List.mem_cons_self).1 (hr T List.mem_cons_self).2 hd1 (fun x hx=>hb.same (hlt x (List.mem_append.2 (.inl hx)))) (fun x hx=>kq _ (hlt x (List.mem_append.2 (.inl hx))))
theorem Zy{cR:List TypeId}{vs:List Value}{ds:List (DataW H)}{p:List MemPlace}(h:DataW.TrodAll jW P w base spare held cR vs ds p):ds.length=cR.length:=by
 induction cR generalizing vs ds p with
 |nil=>obtain⟨rfl,rfl,rfl⟩:=trodAll_nil h;rfl
 |cons T cR ih=>
  obtain⟨v,ch,d,kw,jf,iK,rfl,rfl,rfl,_,hd2⟩:=trodAll_cons h;simp[ih hd2]
def AV(P:Program):List String->Bool
 |[]=>true
 |n::ns=>(match P.globalNamed n with
  |some g=>match(P.globals[g]?).map (·.type) with
   |some t=>P.readableRec t&&decide (t<P.types.size)
   |none=>true
  |none=>true)&&AV P ns
theorem Y5{W cY:World}(hl:laidOutB P=true){sp':Nat->Bool}(kq:∀b,b<W.heap.size->sp' b=true)(hb:Below W.heap.size W cY):∀{ns:List String} {gs:List (DataW H)} {q:List MemPlace},
  AV P ns=true->(∀x∈q,x.block<W.heap.size)->DataW.TrodVars jW P W (fun _=>true) ns gs q->DataW.TrodVars jW P cY sp' ns gs q:=by
 intro ns;induction ns with
 |nil=>intro gs q _ _ h;obtain⟨rfl,rfl⟩:=trodVars_none h;rfl
 |cons n ns ih=>
  intro gs q hr hlt h;cases gs with
  |nil=>exact h.elim
  |cons d ds=>
   obtain⟨g,t,cs,lR,p,fl,h1,h2,h3,ax,hs,rfl⟩:=h;simp only[AV,h1,h2,Bool.and_eq_true,decide_eq_true_eq] at hr;have hg:g<W.heap.size:=by
    have JF:=h3;simp only[World.var?,h1,Option.bind_some] at JF;split at JF
    ·rename_i hc;exact(Array.getElem?_eq_some_iff.1 hc).1
    ·cases JF
   have Z:DataW.Trod jW P W 0 (fun _=>true) true t (.agg cs) d p:=⟨lR,ax⟩
   have hx:∀x∈p,x.block<W.heap.size:=fun x hx=>hlt x (List.mem_append.2 (.inl (List.mem_append.2 (.inr hx))))
   obtain⟨ai2,nU⟩:=WideElems.Trod_stays (sp':=sp') hl hr.1.1 hr.1.2 Z (fun x h=>hb.same (hx x h)) (fun x h=>kq _ (hx x h))
   refine⟨g,t,cs,ai2,p,fl,h1,h2,?_,nU,ih hr.2 (fun x h=>hlt x (List.mem_append.2 (.inr h))) hs,rfl⟩
   simp only[World.var?,h1,Option.bind_some] at h3 ⊢;rw[hb.block g hg];exact h3
theorem Zx{lk:Nat->Bool}:∀{ns:List String} {gs:List (DataW H)} {q:List MemPlace},DataW.TrodVars jW P w lk ns gs q->gs.length=ns.length:=by
 intro ns;induction ns with
 |nil=>intro gs q h;obtain⟨rfl,rfl⟩:=trodVars_none h;rfl
 |cons n ns ih=>
  intro gs q h;cases gs with
  |nil=>exact h.elim
  |cons d ds=>
   obtain⟨g,t,cs,lR,p,fl,h1,h2,h3,ax,hs,rfl⟩:=h;simp[ih hs]
theorem ZN{f:FuncId}{fn:Func}{S:aH}{s:ChangeSpec}{Kc:TypeId}{m:Nat}{ps:List (Bool×List dx)}(ey:aF P f S)(he:∀vs w,(callFunc f vs).run P w=.ok (.enter f vs) w)(hl:laidOutB P=true)
  (aiR:∀t,t∈fn.params.toList->P.readableRec t=true/\t<P.types.size) (jU:fn.resultTypes=#[Kc]) (aoT:P.underlying Kc=some .bool) (aiN:AV P s.vars=true)
  (mL:∀ds gs:List (DataW H),ds.length=fn.params.toList.length->gs.length=s.vars.length->s.fn H (ds++gs)={results:=[.lit (.bool true)],args:=ds,vars:=gs}) (nQ:ul tt P m fn.params.toList=some ps) (HT:LawOk S ps)
  (W:World) (hG:mM W) (qY:Nat) (args:Array Value) (ds gs:List (DataW H)) (before:List MemPlace) (iB:∀(j:Nat) t v,fn.params[j]? =some t->args[j]? =some v->Value.okWide P W .any qY t v)
  (hW:DataW.Whole jW P fn.params.toList s.vars false W args.toList ds gs before):
  Calls P f args W fun e cY=>∃v,e=.returned v/\s.post jW P fn false true false false W args v cY:=by
 have hlt:=hW.lt;have JC:=hW;obtain⟨p,q,dX,Yn,rfl,_,_⟩:=hW;obtain⟨y,h1,h2,h3⟩:=agp (av:=fun b=>False\/b∈([]:List Nat)) (fun b hb=>by simp at hb) nQ (fun j t v g1 g2=>iB j t v (by simpa using g1) (by simpa using g2)) dX
 obtain⟨r,ax,bk⟩:=HT y h3;have key:=ey _ r ax W (fun _=>False) args.toList [] h1 List.nodup_nil (fun b hb=>by simp at hb) (fun b hb=>hb.elim) ⟨hG,fun b _ h=>(by cases h),fun _ _ h=>h,apQ hG⟩
 rcases key with⟨_,hc⟩|⟨v,w',hv,_⟩
 ·have e:args.toList.toArray=args:=by simp
  rw[e] at hc;refine hc.mono fun Ci cY h=>?_
  cases Ci with
  |returned v=>
   obtain⟨ei,eh,rv,fm,hB,hR,hv,_,_⟩:=h;refine⟨v,rfl,?_⟩;rw[bk] at hR;match rv,hR with
   |[v1],⟨c1,c2,e1,⟨_,hr⟩,_⟩=>
    have hr:bA cY _ (.bool true) v1:=hr;have oX:v1=.bool true:=by cases hr;rfl
    subst oX;have hv:v=.bool true:=hv;subst hv;have HZ:Below W.heap.size W cY:=⟨fm.os,fm.tape,fm.output,fm.size,fun k hk=>fm.block k hk (by simp)⟩
    have gv:=mL ds gs (Zy dX) (Zx Yn);refine⟨ds,gs,p++q,[],p,q,JC,?_,?_,?_,HZ.frame _,fun h=>by cases h⟩
    ·rw[gv,jU];exact trodAll_mk1 (shut_bool aoT _)
    ·rw[gv];exact Zb hl (fun b hb=>by simpa using hb) HZ aiR (fun x hx=>hlt x (List.mem_append.2 (.inl hx))) dX
    ·rw[gv];exact Y5 hl (fun b hb=>by simpa using hb) HZ aiN (fun x hx=>hlt x (List.mem_append.2 (.inr hx))) Yn
  |panicked c=>exact h.elim
  |outgrown=>exact h.elim
 ·rw[he] at hv;cases hv
end
end Go.Jk
namespace Go.Jk
def bJ(c:UInt8):F->List F
 |[]=>[[]]
 |b::r=>bif b==c then []::bJ c r else match bJ c r with
  |x::xs=>(b::x)::xs
  |[]=>[[b]]
def Fi(st:ah)(ct:FuncId):aJ->Option ((F×UInt8)×List (Nat×Site))
 |.av (.ak (.clo g [(fX,s1),(fW,s2),(hC,gT)]))=>bif Nat.beq g ct&&fv [fX,fW,hC] then
   match fy st fX s1,fy st fW s2,fy st hC gT with
   |some [.d (.str [c])],some [.d (.str s)],some [.d (.int .i64 (.ofNat 0))]=>some ((s,c),[(fX,.dead s1),(fW,.dead s2),(hC,.dead gT)])
   |_,_,_=>none
  else none
 |_=>none
def DI(st:ah):List Nat->List (Nat×aJ)
 |[]=>[]
 |t::r=>(t,st.get t)::DI st r
def ah.back(st:ah)(b9:List Nat):ah:=⟨DI st b9,st.sites,st.nt⟩
def Out.back(b9:List Nat):Out->Out
 |.norm st=>.norm (st.back b9)
 |.exit id st=>.exit id (st.back b9)
 |.ret st=>.ret (st.back b9)
def ie{J bp:Type}(aV:F->J->Option (Sum J bp))(fin:J->Option bp):List F->J->Option bp
 |[],y=>fin y
 |x::xs,y=>match aV x y with
  |none=>none
  |some (.inl y')=>ie aV fin xs y'
  |some (.inr b)=>some b
noncomputable def Gv(C:hA)(assign body:Code)(p eL:Nat)(aQ:Shape)(os:List aO)(x:F)(y:aQ.J):Option (Sum aQ.J (ay os)):=
 exec C assign (2*p) ((aQ.st y).set eL (one (.str x))) fun
  |.norm st=>exec C body (2*p+1) st fun
   |.norm st=>(aQ.ex (st.back (keys aQ.cE))).map .inl
   |B=>(gR os (B.back (keys aQ.cE))).map .inr
  |_=>none
def j':Nat:=4611686018427387904
noncomputable def rz(ct:FuncId)(t:Nat)(aQ:Shape)(os:List aO)(aV:F->aQ.J->Option (Sum aQ.J (ay os)))(fin:aQ.J->Option (ay os)):hI:=fun st=>
 ⟨ay os,(Fi st ct (st.get t)).bind fun q=>(aQ.ex (st.hU q.2)).bind fun y=>bif Nat.ble q.1.1.length j' then ie aV fin (bJ q.1.2 q.1.1) y else none,lf os,AN os,Og os⟩
def uN(P:Program)(ct:FuncId):Prop:=
 (∀args w,(callFunc ct args).run P w=.ok (.enter ct args) w)/\
 ∀(l b1 b2 b3:Nat) (p s:ByteArray) (c:UInt8) (c7 ep fG:TypeId) (W:World) (eU:List F->World->Prop) (jD:World->Prop),p.data.toList=[c]->s.data.toList.length<=j'->b1≠b2->b1≠b3->b2≠b3->
  W.heap[b1]? =some (.cells #[.string p] c7)->W.heap[b2]? =some (.cells #[.string s] ep)->W.heap[b3]? =some (.cells #[.int .i64 0] fG)->
  (∀r W cY,eU r W->Fr [b2] W cY->eU r cY)->(∀W cY,jD W->Fr [b2] W cY->jD cY)->(∀r W,eU r W->iu W [b2] fun _=>False)->(∀W,jD W->iu W [b2] fun _=>False)->
  (∀x rest W il,eU (x::rest) W->b1<W.heap.size->b2<W.heap.size->b3<W.heap.size->il.data.toList=x->YieldAt (eC none) 0 P l #[.string il] W fun e cY=>
   (e=.returned (.bool true)/\eU rest cY/\W.heap.size<=cY.heap.size/\cY.heap[b1]? =W.heap[b1]? /\cY.heap[b2]? =W.heap[b2]? /\cY.heap[b3]? =W.heap[b3]?)\/(e=.returned (.bool false)/\jD cY))->
  eU (bJ c s.data.toList) W->
  CallsIn (eC none) 0 P ct (#[.func (.yield l) #[] #[]]++#[.pointer (some ⟨b1,0,none⟩),.pointer (some ⟨b2,0,none⟩),.pointer (some ⟨b3,0,none⟩)]) W fun e cY=>(∃v,e=.returned v)/\(eU [] cY\/jD cY)
section
variable {P:Program}{O:World}{Y:List Nat}{X:Nat->Prop}{D:Nat->Value}{st:ah}{M:Array Value}{w:World}
theorem aeu(st:ah)(b9:List Nat)(t:Nat):(st.back b9).get t=st.get t/\t∈b9\/(st.back b9).get t=.av (.ak .any):=by
 unfold ah.back ah.get;induction b9 with
 |nil=>exact .inr rfl
 |cons u b9 ih=>
  simp only[DI,look];cases hb:u.beq t with
  |true=>
   have:=Nat.eq_of_beq_eq_true hb;subst this;left;simp only[cond_true,ah.get];exact⟨trivial,List.mem_cons_self⟩
  |false=>
   simp only[cond_false];rcases ih with⟨h1,h2⟩|h
   ·exact .inl ⟨h1,List.mem_cons_of_mem _ h2⟩
   ·exact .inr h
theorem am.back(S:am O Y X D st M w){bU:Array Value}{b9:List Nat}(ap:∀t,t∈b9->M.getD t undef=bU.getD t undef)(hs:bU.size=M.size):am O Y X D (st.back b9) bU w:=by
 refine⟨hs.trans S.nt,fun t=>?_,S.sites,S.dT,S.cf,S.frame,S.old,S.eX⟩
 rcases aeu st b9 t with⟨h,hm⟩|h
 ·rw[h,<-ap t hm];exact S.cE t
 ·rw[h];trivial
theorem am.other(S:am O Y X D st M w){w':World}{L:List Nat}(aV:Fr L w w')(dW:∀b,b∈L->X b/\(b∈Y\/O.heap.size<=b)):am O Y X D st M w':=by
 have BO:∀b,¬aw X D st.sites b->b∉L:=fun b hb h=>hb (.inl (dW b h).1)
 have G:hX D D st.sites st.sites w w' (aw X D st.sites) (aw X D st.sites):=
  ⟨fun o ab h=>⟨ab,h,Nat.le_refl _,fun _=>rfl⟩,fun b hb hlt=>aV.block b hlt (BO b hb),fun _ h _=>h⟩
 have hlt:∀b,aw X D st.sites b->b<w'.heap.size:=fun b hb=>Nat.lt_of_lt_of_le (S.lt hb) aV.size
 refine⟨S.nt,fun t=>(S.cE t).goes G aV.size hlt,fun o ab h=>?_,S.dT,S.cf,?_,fun b hb=>Nat.lt_of_lt_of_le (S.old b hb) aV.size,S.eX⟩
 ·exact(S.sites o ab h).goes G aV.size hlt rfl fun hl b hb=>aV.block b (S.fu ⟨ab,h,hl⟩ hb) fun hm=>(S.cf o b ⟨ab,h,hl⟩ hb).1 (dW b hm).1
 ·refine⟨aV.os.trans S.frame.os,aV.tape.trans S.frame.tape,aV.output.trans S.frame.output,Nat.le_trans S.frame.size aV.size,fun b hb hn=>?_⟩
  have h1:b∉L:=fun h=>by
   rcases(dW b h).2 with h2|h2
   ·exact hn h2
   ·omega
  rw[aV.block b (Nat.lt_of_lt_of_le hb S.frame.size) h1];exact S.frame.block b hb hn
theorem Fr.putObj(w:World)(l:Nat)(B:Obj):Fr [l] w (w.putObj l B):=
 ⟨rfl,rfl,rfl,by simp,fun b _ hn=>World.putObj_heap_other fun e=>hn (by simp[e])⟩
theorem Fr.mono{Y l7:List Nat}{O w:World}(aV:Fr Y O w)(h:∀b,b∈Y->b∈l7):Fr l7 O w:=⟨aV.os,aV.tape,aV.output,aV.size,fun b hb hn=>aV.block b hb fun af=>hn (h b af)⟩
theorem am.zR(S:am O Y X D st M w){l7:List Nat}(h:∀o b,cd st.sites o->bG (D o)=some b->b∈l7)(hg:∀b,b∈l7->b∈Y\/O.heap.size<=b):am w l7 X D st M w:=
 ⟨S.nt,S.cE,S.sites,S.dT,fun o b h1 h2=>⟨(S.cf o b h1 h2).1,.inl (h o b h1 h2)⟩,Fr.refl _ _,S.old,⟨S.kD.1,fun b hb hm=>(hg b hm).elim (S.eX.Y b hb) fun h=>by have:=S.eX.lt b hb;omega,S.eX.X,fun b hb=>(S.kD.2 b hb).2⟩⟩
theorem am.base(S:am O Y X D st M w){l7:List Nat}(h:∀b,b∈l7->b∈Y\/O.heap.size<=b):hY O Y X w l7 X:=by
 refine⟨fun w' aV=>?_,fun b hb=>?_,fun b hb=>hb⟩
 ·refine⟨aV.os.trans S.frame.os,aV.tape.trans S.frame.tape,aV.output.trans S.frame.output,Nat.le_trans S.frame.size aV.size,fun b hb hn=>?_⟩
  have h1:b∉l7:=fun af=>by
   rcases h b af with h2|h2
   ·exact hn h2
   ·omega
  rw[aV.block b (Nat.lt_of_lt_of_le hb S.frame.size) h1];exact S.frame.block b hb hn
 ·rcases hb with hb|hb
  ·exact h b hb
  ·exact .inr (Nat.le_trans S.frame.size hb)
theorem am.zy{aN:World}{dA:List Nat}{cX:Nat->Prop}(bp:hY O Y X aN dA cX)(G:iu O Y X)(S:am aN dA cX D st M w):am O Y cX D st M w:=
 ⟨S.nt,S.cE,S.sites,S.dT,fun o b h1 h2=>⟨(S.cf o b h1 h2).1,bp.cf b (S.cf o b h1 h2).2⟩,bp.cC _ S.frame,S.old,⟨G.ok,G.Y,S.eX.X,G.lt⟩⟩
def D'(sites:List (Nat×Site)):List Nat:=(keys sites).filter fun o=>match look sites o with|some s=>s.live|none=>false
theorem K_{sites:List (Nat×Site)}{o:Nat}:o∈D' sites <-> cd sites o:=by
 unfold D' cd;rw[List.mem_filter];constructor
 ·rintro⟨_,h⟩;split at h
  ·rename_i s hs;exact⟨s,hs,h⟩
  ·cases h
 ·rintro⟨s,hs,hl⟩;refine⟨?_,by simp only[hs];exact hl⟩
  have:=Ph hs;clear hl hs;induction sites with
  |nil=>cases this
  |cons p sites ih=>
   rcases List.mem_cons.1 this with h|h
   ·simp only[keys];rw[<-h];exact List.mem_cons_self
   ·simp only[keys];exact List.mem_cons_of_mem _ (ih h)
def iw(D:Nat->Value)(sites:List (Nat×Site)):List Nat:=c9 D (D' sites)
theorem mZ{sites:List (Nat×Site)}{b:Nat}:b∈iw D sites <-> ∃o,cd sites o/\bG (D o)=some b:=by
 unfold iw;rw[mU];constructor
 ·rintro⟨o,h1,h2⟩;exact⟨o,K_.1 h1,h2⟩
 ·rintro⟨o,h1,h2⟩;exact⟨o,K_.2 h1,h2⟩
def lF(dQ:ah->Prop):Out->Exit->Prop
 |.norm st,.normal=>dQ st
 |.exit id st,.exit iH=>id=iH/\dQ st
 |.ret st,.ret=>dQ st
 |_,_=>False
theorem lF.some{dQ:ah->Prop}{B:Out}{e:Exit}(h:lF dQ B e):∃st,dQ st:=by
 cases B<;>cases e<;>first|exact⟨_,h⟩|exact⟨_,h.2⟩|exact h.elim
theorem PD{dQ:ah->Prop}(IY:∀(aQ:Shape) st y,aQ.ex st=some y->dQ st->dQ (aQ.st y)):∀{os:List aO} {x:Out} {y:ay os} {e:Exit},gR os x=some y->lF dQ x e->lF dQ (lf os y) e:=by
 have one:∀{k:Kind} {x:Out} {st:ah} {aQ:Shape} {y:aQ.J} {e:Exit},k.gV x=some st->aQ.ex st=some y->lF dQ x e->lF dQ (k.mk (aQ.st y)) e:=by
  intro k x st aQ y e h hy hl;cases k<;>cases x<;>simp only[Kind.gV] at h<;>try(cases h;done)
  ·cases h;cases e<;>try exact hl.elim
   exact IY aQ _ y hy hl
  ·rename_i id iH al;cases hb:Nat.beq id iH with
   |false=>simp[hb] at h
   |true=>
    simp only[hb,cond_true,Option.some.injEq] at h;subst h;cases e<;>try exact hl.elim
    exact⟨(Nat.eq_of_beq_eq_true hb).trans hl.1,IY aQ _ y hy hl.2⟩
  ·cases h;cases e<;>try exact hl.elim
   exact IY aQ _ y hy hl
 intro os;induction os with
 |nil=>intro x y;exact y.elim
 |cons B os ih=>
  intro x y e h hl;cases os with
  |nil=>
   simp only[gR] at h;split at h
   ·rename_i st hk;exact one hk h hl
   ·cases h
  |cons cU r=>
   simp only[gR] at h;split at h
   ·rename_i st hk;obtain⟨eB,aD,az⟩:=Option.map_eq_some_iff.1 h;subst az;exact one hk aD hl
   ·obtain⟨eB,aD,az⟩:=Option.map_eq_some_iff.1 h;subst az;exact ih aD hl
theorem _d{ct:FuncId}{v:aJ}{q:(F×UInt8)×List (Nat×Site)}(h:Fi st ct v=some q):∃fX s1 fW s2 hC gT c s,v=.av (.ak (.clo ct [(fX,s1),(fW,s2),(hC,gT)]))/\(fX≠fW/\fX≠hC/\fW≠hC)/\
  fy st fX s1=some [.d (.str [c])]/\fy st fW s2=some [.d (.str s)]/\fy st hC gT=some [.d (.int .i64 0)]/\q=((s,c),[(fX,.dead s1),(fW,.dead s2),(hC,.dead gT)]):=by
 unfold Fi at h;split at h
 ·rename_i g fX s1 fW s2 hC gT;cases hb:Nat.beq g ct&&fv [fX,fW,hC] with
  |false=>simp[hb] at h
  |true=>
   simp only[hb,cond_true] at h;simp only[Bool.and_eq_true] at hb;have hg:=Nat.eq_of_beq_eq_true hb.1;subst hg;have hn:=(re _).1 hb.2;simp only[List.nodup_cons,List.mem_cons,List.not_mem_nil,or_false,not_or,not_false_eq_true,List.nodup_nil,and_true] at hn;split at h
   ·rename_i c s h1 h2 h3;cases h;exact⟨fX,s1,fW,s2,hC,gT,c,s,rfl,⟨hn.1.1,hn.1.2,hn.2⟩,h1,h2,h3,rfl⟩
   ·cases h
 ·cases h
theorem CV{J bp:Type}{aV:F->J->Option (Sum J bp)}{fin:J->Option bp}{x:F}{xs:List F}{y:J}{b:bp}(h:ie aV fin (x::xs) y=some b):(∃y',aV x y=some (.inl y')/\ie aV fin xs y'=some b)\/aV x y=some (.inr b):=by
 simp only[ie] at h;split at h
 ·cases h
 ·rename_i y' hy;exact .inl ⟨y',hy,h⟩
 ·rename_i bH hy;cases h;exact .inr hy
end
theorem Hc{aQ:Shape}{st:ah}{y:aQ.J}(h:aQ.ex st=some y):st.nt=aQ.nt:=by
 unfold Shape.ex at h;simp only at h;cases hb:(st.hU (pG st aQ.cE++pH st aQ.sites)).nt.beq aQ.nt with
 |false=>rw[hb] at h;cases h
 |true=>rw[<-Ot (pG st aQ.cE++pH st aQ.sites) st];exact Nat.eq_of_beq_eq_true hb
def sC(n:Nat):List aO->Bool
 |[]=>true
 |B::r=>Nat.beq B.2.nt n&&sC n r
def Out.st:Out->ah
 |.norm st|.exit _ st|.ret st=>st
theorem Pr{k:Kind}{x:Out}{st:ah}(h:k.gV x=some st):x.st=st:=by
 cases k<;>cases x<;>simp only[Kind.gV] at h<;>try(cases h;done)
 ·cases h;rfl
 ·rename_i id iH al;cases hb:Nat.beq id iH with
  |false=>simp[hb] at h
  |true=>simp only[hb,cond_true,Option.some.injEq] at h;exact h
 ·cases h;rfl
theorem ahH{n:Nat}:∀{os:List aO} {x:Out} {y:ay os},gR os x=some y->sC n os=true->x.st.nt=n:=by
 intro os;induction os with
 |nil=>intro x y;exact y.elim
 |cons B os ih=>
  intro x y h hn;simp only[sC,Bool.and_eq_true] at hn;have hno:=Nat.eq_of_beq_eq_true hn.1;cases os with
  |nil=>
   simp only[gR] at h;split at h
   ·rename_i st hk;rw[Pr hk,Hc h,hno]
   ·cases h
  |cons cU r=>
   simp only[gR] at h;split at h
   ·rename_i st hk;obtain⟨eB,aD,_⟩:=Option.map_eq_some_iff.1 h;rw[Pr hk,Hc aD,hno]
   ·obtain⟨eB,aD,_⟩:=Option.map_eq_some_iff.1 h;exact ih aD hn.2
section
variable {P:Program}{C:hA}
theorem aac(H:a7 P C.toCtx){ct:FuncId}(tF:uN P ct){t eL p:Nat}{assign body:Code}{aQ:Shape}{os:List aO}(apx:fV P C assign (2*p))(apw:fV P C body (2*p+1))
  {aV:F->aQ.J->Option (Sum aQ.J (ay os))} {fin:aQ.J->Option (ay os)} (fm:∀x y,aV x y=Gv C assign body p eL aQ os x y) (vi:∀y,fin y=gR os (.norm (aQ.st y)))
  (HX:eW (keys aQ.cE) (eL::(ck assign++ck body))=true) (HR:gD assign=true) (HQ:gD body=true) (HM:eL<aQ.nt) (qz:sC aQ.nt os=true):
  aW P (.rangeFunc (.tmp t) #[eL] assign body) (rz ct t aQ os aV fin):=by
 intro rn hn O Y X st y hy D M w ds S;have ao0:rn=none:=hn.elim id fun h=>by cases h
 subst ao0;simp only[rz] at hy y ⊢;obtain⟨q,ar,hy⟩:=Option.bind_eq_some_iff.1 hy;obtain⟨dq,IZ,oF⟩:=Option.bind_eq_some_iff.1 hy;obtain⟨fX,s1,fW,s2,hC,gT,c,s,hv,⟨iF,IP,iE⟩,hb1,hb2,hb3,rfl⟩:=_d ar;obtain⟨hlen,oF⟩:s.length<=j'/\ie aV fin (bJ c s) dq=some y:=by
  cases hb:Nat.ble s.length j' with
  |false=>rw[hb] at oF;cases oF
  |true=>rw[hb] at oF;exact⟨Nat.le_of_ble_eq_true hb,oF⟩
 have iU:=S.cE t;rw[hv] at iU;obtain⟨vs,iB,lY,qg⟩:=iU;match vs,lY with
 |[v1,v2,v3],_=>
 have r1:v1=D fX:=Ref.at (qg 0 (by simp) (by simp)) (gA hb1) rfl
 have r2:v2=D fW:=Ref.at (qg 1 (by simp) (by simp)) (gA hb2) rfl
 have im:v3=D hC:=Ref.at (qg 2 (by simp) (by simp)) (gA hb3) rfl
 have Hd:∀{o k:Nat} {d:aZ},fy st o k=some [.d d]->∃b T u,D o=.pointer (some ⟨b,0,none⟩)/\w.heap[b]? =some (.cells #[u] T)/\bA w (aw X D st.sites) d u:=by
  intro o k d h;obtain⟨b,T,cur,g1,g2,g3,g4,_,g5⟩:=S.sites o _ (gA h);match cur,g3 with
  |[u],_=>exact⟨b,T,u,g1,g2,g5 0 (by simp) (by simp)⟩
 obtain⟨b1,c7,u1,i1,h1,d1⟩:=Hd hb1;obtain⟨b2,ep,u2,i2,h2,d2⟩:=Hd hb2;obtain⟨b3,fG,arD,i3,h3,d3⟩:=Hd hb3;obtain⟨j4,rfl,BN⟩:=gm d1;obtain⟨aG,rfl,fC⟩:=gm d2;have bz:arD=.int .i64 0:=h' d3;subst bz;have IS:cd st.sites fX:=⟨_,gA hb1,rfl⟩;have BA:cd st.sites fW:=⟨_,gA hb2,rfl⟩;have IR:cd st.sites hC:=⟨_,gA hb3,rfl⟩;have aD:bG (D fX)=some b1:=by rw[i1];rfl
 have az:bG (D fW)=some b2:=by rw[i2];rfl
 have bD:bG (D hC)=some b3:=by rw[i3];rfl
 have m12:b1≠b2:=fun e=>iF (S.dT fX fW b1 IS BA aD (e▸az))
 have m13:b1≠b3:=fun e=>IP (S.dT fX hC b1 IS IR aD (e▸bD))
 have m23:b2≠b3:=fun e=>iE (S.dT fW hC b2 BA IR az (e▸bD))
 have vO:=S.fu IS aD;have WK:=S.fu BA az;have vN:=S.fu IR bD;have aiE:=(S.cf fW b2 BA az).2;obtain⟨cX,aps,dm,IV,WN,WM⟩:∃cX:Nat->Prop,(∀b,X b->cX b)/\am O Y cX D (st.hU [(fX,.dead s1),(fW,.dead s2),(hC,.dead gT)]) M w/\cX b1/\cX b2/\cX b3:=by
  have A:=S.kill (gA hb1) rfl;have gw:look (ci st.sites fX (.dead s1)) fW=some (.box s2 [.d (.str s)]):=by rw[cV,if_neg iF];exact gA hb2
  have bp:=A.kill (st:={st with sites:=ci st.sites fX (.dead s1)}) gw rfl
  have wB:look (ci (ci st.sites fX (.dead s1)) fW (.dead s2)) hC=some (.box gT [.d (.int .i64 0)]):=by rw[cV,if_neg iE,cV,if_neg IP];exact gA hb3
  have aZ:=bp.kill (st:={st with sites:=ci (ci st.sites fX (.dead s1)) fW (.dead s2)}) wB rfl
  exact⟨_,fun b hb=>.inl (.inl (.inl hb)),aZ,.inl (.inl (.inr aD)),.inl (.inr az),.inr bD⟩
 obtain⟨hZ,hM,_⟩:=Shape.fU dm IZ;have atl:M.size=aQ.nt:=hM.nt;refine fR.of (n:=0) (wpIn_rangeFunc ?_);intro fn _;obtain⟨rec,nF⟩:∃rec:LoopState->Option Code->Loop,rec=fun st arJ=>{state:=st,pending:=arJ,fn,tmps:=M,params:=#[eL],assign,body,defers:=w.heap.size}:=⟨_,rfl⟩
 obtain⟨W1,hW1⟩:∃W1,(w.alloc (.deferred (some []))).alloc (.loop (rec .ready none))=W1:=⟨_,rfl⟩;obtain⟨l,hl⟩:∃l,l=w.heap.size+1:=⟨_,rfl⟩;obtain⟨aZ,fo⟩:∃aZ,aZ=w.heap.size:=⟨_,rfl⟩;have hsz:W1.heap.size=w.heap.size+2:=by rw[<-hW1];simp
 have apz:W1.heap[l]? =some (.loop (rec .ready none)):=by
  rw[<-hW1,hl];have:=World.alloc_heap_new (w.alloc (.deferred (some []))) (.loop (rec .ready none));rwa[World.size_alloc] at this
 have Xf:W1.heap[aZ]? =some (.deferred (some [])):=by
  rw[<-hW1,fo];exact(RowKit.Below.heap_alloc _ _ _ (by simp only[World.size_alloc];omega)).trans (World.alloc_heap_new w _)
 have hold:∀b,b<w.heap.size->W1.heap[b]? =w.heap[b]? :=fun b hb=>by
  rw[<-hW1,RowKit.Below.heap_alloc _ _ _ (by simp only[World.size_alloc];omega),RowKit.Below.heap_alloc _ _ _ hb]
 have ak8:Fr Y O W1:=⟨by rw[<-hW1];exact S.frame.os,by rw[<-hW1];exact S.frame.tape,by rw[<-hW1];exact S.frame.output,by have:=S.frame.size;omega,fun b hb hn=>by
  have:=S.frame.size;rw[hold b (by omega)];exact S.frame.block b hb hn⟩
 have oD:=S.frame.size;have hL:=hM.jump (w':=W1) (fun b _ hb=>hold b hb) (by omega) ak8
 obtain⟨cu,l5⟩:∃cu:Nat->Prop,cu=fun b=>cX b\/(w.heap.size<=b/\b<W1.heap.size):=⟨_,rfl⟩
 rw[<-l5] at hL;have J9:cu l:=by rw[l5];exact .inr ⟨by omega,by omega⟩
 have J_:cu aZ:=by rw[l5];exact .inr ⟨by omega,by omega⟩
 have dV:cu b1:=by rw[l5];exact .inl IV
 have fE:cu b2:=by rw[l5];exact .inl WN
 have je:cu b3:=by rw[l5];exact .inl WM
 have JA:∀b,X b->cu b:=fun b hb=>by rw[l5];exact .inl (aps b hb)
 obtain⟨fb,vj⟩:∃fb,fb=l::b2::iw hZ (aQ.st dq).sites:=⟨_,rfl⟩;have Qa:∀b,b∈iw hZ (aQ.st dq).sites->¬cu b/\(b∈Y\/O.heap.size<=b):=fun b hb=>by
  obtain⟨o,g1,g2⟩:=mZ.1 hb;exact hL.cf o b g1 g2
 have arP:l∈fb:=by rw[vj];exact List.mem_cons_self
 have Xl:b2∈fb:=by rw[vj];exact List.mem_cons_of_mem _ List.mem_cons_self
 have asr:aZ∉fb:=by
  rw[vj];intro h;rcases List.mem_cons.1 h with h|h
  ·omega
  ·rcases List.mem_cons.1 h with h|h
   ·omega
   ·exact(Qa aZ h).1 J_
 have QL:∀b,b∈fb->b∈Y\/O.heap.size<=b:=fun b hb=>by
  rw[vj] at hb;rcases List.mem_cons.1 hb with h|h
  ·exact .inr (by omega)
  ·rcases List.mem_cons.1 h with h|h
   ·rw[h];exact aiE
   ·exact(Qa b h).2
 have lq:am W1 fb cu hZ (aQ.st dq) M W1:=hL.zR (fun o b g1 g2=>by rw[vj];exact List.mem_cons_of_mem _ (List.mem_cons_of_mem _ (mZ.2 ⟨o,g1,g2⟩))) QL
 have arq:hY O Y X W1 fb cu:=by
  have:=hL.base QL;exact⟨this.cC,this.cf,JA⟩
 obtain⟨eU,ma⟩:∃eU:List F->World->Prop,∀r W,eU r W <-> ∃D z,am W1 fb cu D (aQ.st z) M W/\ie aV fin r z=some y/\W.heap[l]? =some (.loop (rec .ready none))/\W.heap[aZ]? =some (.deferred (some [])):=⟨_,fun _ _=>Iff.rfl⟩
 obtain⟨jD,wc⟩:∃jD:World->Prop,∀W,jD W <-> ∃j e,((j=.ret/\e=.ret)\/∃id,j=.exit id/\e=.exit id)/\lF (fun st=>∃D,am W1 fb cu D st M W) (lf os y) e/\
   W.heap[l]? =some (.loop (rec .done (some j)))/\W.heap[aZ]? =some (.deferred (some [])):=⟨_,fun _=>Iff.rfl⟩
 have Rx:∀{D:Nat->Value} {st:ah} {W:World},am W1 fb cu D st M W->iu W [b2] fun _=>False:=fun S=>
  ⟨S.kD.1,fun b hb h=>S.eX.Y b hb (by rw[List.mem_singleton.1 h];exact Xl),fun _ _ h=>h,fun b hb=>(S.kD.2 b hb).2⟩
 have arO:l<W1.heap.size:=by omega
 have arQ:aZ<W1.heap.size:=by omega
 have TC:l≠b2:=by omega
 have VO:aZ≠b2:=by omega
 have afL:∀{dQ X8:ah->Prop} {B:Out} {e:Exit},(∀st,dQ st->X8 st)->lF dQ B e->lF X8 B e:=fun h k=>by
  rename_i B e;cases B<;>cases e<;>first|exact h _ k|exact⟨k.1,h _ k.2⟩|exact k.elim
 have Q':∀{D:Nat->Value} {st:ah} {W cY:World},am W1 fb cu D st M W->Fr [b2] W cY->am W1 fb cu D st M cY:=fun S aV=>S.other aV fun b hb=>by
  rw[List.mem_singleton.1 hb];exact⟨fE,.inl Xl⟩
 have G4:∀{D:Nat->Value} {st:ah} {M:Array Value} {W:World} {X':Nat->Prop} (B:Obj),(∀b,cu b->X' b)->am W1 fb X' D st M W->am W1 fb X' D st M (W.putObj l B):=fun B hx S=>S.other (Fr.putObj _ l B) fun b hb=>by
  rw[List.mem_singleton.1 hb];exact⟨hx _ J9,.inl arP⟩
 refine⟨l,[mark aZ],W1,{target:=.fn (.func ct) #[.pointer (some ⟨b1,0,none⟩),.pointer (some ⟨b2,0,none⟩),.pointer (some ⟨b3,0,none⟩)],args:=#[.func (.yield l) #[] #[]]},W1,ct,
  #[.func (.yield l) #[] #[]]++#[.pointer (some ⟨b1,0,none⟩),.pointer (some ⟨b2,0,none⟩),.pointer (some ⟨b3,0,none⟩)],W1,?_,?_,fun _ _=>trivial,?_,fun h=>by simp[eC,Fence.wide] at h,?_⟩
 ·rw[<-hW1,nF,hl,fo];exact run_enterLoop_outer _ _ _ _ _
 ·have aiO:Act.eval ⟨M,ds⟩ (.tmp t)=.func (.func ct) #[] #[.pointer (some ⟨b1,0,none⟩),.pointer (some ⟨b2,0,none⟩),.pointer (some ⟨b3,0,none⟩)]:=by
   show M.getD t undef=_;rw[iB,r1,r2,im,i1,i2,i3]
  simp only[rangeCall,resolve,aiO];simp[Deferred.ofValue,Act.eval]
 ·simp[invoke,tF.1]
 ·refine CallsIn.mono (tF.2 l b1 b2 b3 j4 aG c c7 ep fG W1 eU jD BN (by rw[fC];exact hlen) m12 m13 m23 ((hold b1 vO).trans h1) ((hold b2 WK).trans h2) ((hold b3 vN).trans h3) ?_ ?_ ?_ ?_ ?_ ?_) ?_
  ·-- agl two rounds sY asu turns aoz asB box
   intro r W cY hj aV;obtain⟨D,z,g1,g2,g3,g4⟩:=(ma _ _).1 hj;have qC:=Nat.lt_of_lt_of_le arO g1.frame.size;have tk:=Nat.lt_of_lt_of_le arQ g1.frame.size;exact(ma _ _).2 ⟨D,z,Q' g1 aV,g2,(aV.block l qC (by simpa using TC)).trans g3,(aV.block aZ tk (by simpa using VO)).trans g4⟩
  ·intro W cY hj aV;obtain⟨j,e,g1,g2,g3,g4⟩:=(wc _).1 hj;have qC:l<W.heap.size:=(Array.getElem?_eq_some_iff.1 g3).1;have tk:aZ<W.heap.size:=(Array.getElem?_eq_some_iff.1 g4).1;exact(wc _).2 ⟨j,e,g1,afL (fun st ⟨D,h⟩=>⟨D,Q' h aV⟩) g2,(aV.block l qC (by simpa using TC)).trans g3,(aV.block aZ tk (by simpa using VO)).trans g4⟩
  ·intro r W hj;obtain⟨D,z,g1,_⟩:=(ma _ _).1 hj;exact Rx g1
  ·intro W hj;obtain⟨j,e,_,g2,_⟩:=(wc _).1 hj;obtain⟨st,D,g1⟩:=g2.some;exact Rx g1
  ·-- atx asM
   intro x rest W il hj q1 q2 dr vR;obtain⟨D,z,n7,hz,qC,tk⟩:=(ma _ _).1 hj;have hlt:l<W.heap.size:=(Array.getElem?_eq_some_iff.1 qC).1;have akY:aZ<W.heap.size:=(Array.getElem?_eq_some_iff.1 tk).1;refine⟨fn,M.setIfInBounds eL (.string il),assign,body,?_,?_⟩
   ·have:=run_yield (P:=P) (args:=#[.string il]) qC (by rw[nF];rfl)
    rw[nF] at this;simpa using this
   refine roundIn_of_wpIn (n:=0) trivial ?_
   show fR (some l) P assign _ _ _;obtain⟨s,hs⟩:∃s,aV x z=some s:=by
    rcases CV hz with⟨eO,h,_⟩|h
    ·exact⟨_,h⟩
    ·exact⟨_,h⟩
   have BK:=hs;rw[fm] at hs;have tD:am W1 fb cu D ((aQ.st z).set eL (one (.str x))) (M.setIfInBounds eL (.string il)) W:=n7.put (t:=eL) HM (bA.str _ _ vR);have akF:∀o b,cd ((aQ.st z).set eL (one (.str x))).sites o->bG (D o)=some b->b∈iw D (aQ.st z).sites:=fun o b g1 g2=>mZ.2 ⟨o,g1,g2⟩
   have wR:=tD.zR akF fun b hb=>by
    obtain⟨o,g1,g2⟩:=mZ.1 hb;exact(n7.cf o b g1 g2).2
   have R4:∀b,b∈iw D (aQ.st z).sites->¬cu b/\(b∈fb\/W1.heap.size<=b):=fun b hb=>by
    obtain⟨o,g1,g2⟩:=mZ.1 hb;exact n7.cf o b g1 g2
   have KR:hY W1 fb cu W (iw D (aQ.st z).sites) cu:=tD.base fun b hb=>(R4 b hb).2
   refine jm (rn:=some l) H assign (2*p) (.inr HR) apx W _ cu _ D _ W [] _ _ hs wR ?_
   intro o1 e1 a1 aN qD h5;cases o1 with
   |exit id eA=>cases qD
   |ret eA=>cases qD
   |norm eA=>
   cases e1<;>try exact h5.elim
   obtain⟨Cc,Kn,kG,kl,YF,ph,_,_,Xq,aiK⟩:=h5;have tG:Fr (iw D (aQ.st z).sites) W aN:=ph.cC _ Xq.frame;have Yj:∀b,cu b->b∉iw D (aQ.st z).sites:=fun b hb h=>(R4 b h).1 hb
   have h5:aN.heap[l]? =some (.loop (rec .ready none)):=(tG.block l hlt (Yj l J9)).trans qC;refine⟨aN.putObj l (.loop {rec .ready none with state:=.busy}),run_beginRound h5 (by rw[nF]),?_⟩
   obtain⟨w2,vS⟩:∃w2,w2=aN.putObj l (.loop {rec .ready none with state:=.busy}):=⟨_,rfl⟩
   rw[<-vS];have aql:am W1 fb kG kl eA a1.tmps aN:=am.zy (KR.trans ph) lq.eX Xq;have n8:am W1 fb kG kl eA a1.tmps w2:=by rw[vS];exact G4 _ ph.x aql
   have Hr:∀b,b∈iw kl eA.sites->¬kG b/\(b∈fb\/W1.heap.size<=b):=fun b hb=>by
    obtain⟨o,g1,g2⟩:=mZ.1 hb;exact n8.cf o b g1 g2
   have Cn:=n8.zR (l7:=iw kl eA.sites) (fun o b g1 g2=>mZ.2 ⟨o,g1,g2⟩) fun b hb=>(Hr b hb).2
   have cZ:hY W1 fb kG w2 (iw kl eA.sites) kG:=n8.base fun b hb=>(Hr b hb).2
   have nR:w2.heap[l]? =some (.loop {rec .ready none with state:=.busy}):=by rw[vS];exact World.putObj_heap_same (Nat.lt_of_lt_of_le hlt tG.size)
   have an9:w2.heap.size=aN.heap.size:=by rw[vS];simp
   show fR (some l) P body _ a1 _;have Jz:a1=⟨a1.tmps,a1.defers⟩:=rfl;rw[Jz];refine jm (rn:=some l) H body (2*p+1) (.inr HQ) apw w2 _ kG eA kl a1.tmps w2 a1.defers _ _ qD Cn ?_
   intro B e a cj hk fN;have WI:∀b,kG b->b∉iw kl eA.sites:=fun b hb h=>(Hr b h).1 hb
   have TE:∀{tu eN wQ},hY w2 (iw kl eA.sites) kG tu eN wQ->Fr eN tu cj->∀b,cu b->b<W.heap.size->b≠l->cj.heap[b]? =W.heap[b]? :=fun bp aV b hb oM hne=>by
    have wT:=bp.cC _ aV;have hb1:b<aN.heap.size:=Nat.lt_of_lt_of_le oM tG.size;rw[wT.block b (by omega) (WI b (ph.x b hb)),vS,World.putObj_heap_other hne,tG.block b oM (Yj b hb)]
   have fin:∀(fY:ah),fY.nt=aQ.nt->er w2 (iw kl eA.sites) kG a1.defers a1.tmps (ck body) fY a cj->∀(jump:Option Code),
     (Instr.endRound l jump).run P cj=.ok (.bool jump.isNone) (cj.putObj l (.loop (rec (if jump.isNone then .ready else .done) jump)))/\
     (∃hD,am W1 fb cu hD (fY.back (keys aQ.cE)) M (cj.putObj l (.loop (rec (if jump.isNone then .ready else .done) jump))))/\
     (cj.putObj l (.loop (rec (if jump.isNone then .ready else .done) jump))).heap[l]? =some (.loop (rec (if jump.isNone then .ready else .done) jump))/\
     (cj.putObj l (.loop (rec (if jump.isNone then .ready else .done) jump))).heap[aZ]? =some (.deferred (some []))/\
     W.heap.size<=(cj.putObj l (.loop (rec (if jump.isNone then .ready else .done) jump))).heap.size/\
     (∀b,cu b->b<W.heap.size->b≠l->(cj.putObj l (.loop (rec (if jump.isNone then .ready else .done) jump))).heap[b]? =W.heap[b]?):=by
    rintro fY as3 ⟨tu,eN,wQ,hD,YE,wu,_,_,jd,aiJ⟩ jump;have wT:=wu.cC _ jd.frame;have hlt2:l<w2.heap.size:=by rw[an9];exact Nat.lt_of_lt_of_le hlt tG.size
    have BP:cj.heap[l]? =some (.loop {rec .ready none with state:=.busy}):=(wT.block l hlt2 (WI l (ph.x l J9))).trans nR
    have akZ:=Nat.lt_of_lt_of_le hlt2 wT.size;have TV:=run_endRound (P:=P) jump BP;have ali:({({rec .ready none with state:=.busy}:Loop) with state:=if jump.isNone then .ready else .done,pending:=jump}:Loop)=rec (if jump.isNone then .ready else .done) jump:=by rw[nF]
    rw[ali] at TV;have aqk:am W1 fb wQ hD fY a.tmps cj:=am.zy ((cZ.trans wu)) n8.eX jd;have aqj:am W1 fb cu hD fY a.tmps cj:=aqk.shrink fun b hb=>wu.x b (ph.x b hb)
    have aqi:=G4 (.loop (rec (if jump.isNone then .ready else .done) jump)) (fun _ h=>h) aqj
    have ja:∀bi,bi∈keys aQ.cE->bi≠eL/\bi∉ck assign/\bi∉ck body:=fun bi qw=>by
     have hm:bi∉(eL::(ck assign++ck body)):=fun h=>by
      have:=rr qw h;rw[HX] at this;cases this
     simp only[List.mem_cons,List.mem_append,not_or] at hm;exact⟨hm.1,hm.2.1,hm.2.2⟩
    refine⟨TV,⟨hD,aqi.back (fun bi qw=>?_) ?_⟩,World.putObj_heap_same akZ,?_,?_,fun b hb oM hne=>?_⟩
    ·obtain⟨g1,g2,g3⟩:=ja bi qw;rw[aiJ bi g3,aiK bi g2];simp only[Array.getD_eq_getD_getElem?,Array.getElem?_setIfInBounds_ne (show eL≠bi from fun e=>g1 e.symm)]
    ·have e1:a.tmps.size=fY.nt:=jd.nt;omega
    ·rw[World.putObj_heap_other (by omega)]
     exact(TE wu jd.frame aZ J_ akY (by omega)).trans tk
    ·simp only[World.putObj_size];have:=tG.size;have:=wT.size;omega
    ·rw[World.putObj_heap_other hne];exact TE wu jd.frame b hb oM hne
   have AA:∀(fY:ah) (je:Out) (j:Code) (bz:Exit),((j=.ret/\bz=.ret)\/∃id,j=.exit id/\bz=.exit id)->je.st=fY->(∀dQ:ah->Prop,dQ (fY.back (keys aQ.cE))->lF dQ (je.back (keys aQ.cE)) bz)->
     (gR os (je.back (keys aQ.cE))).map Sum.inr=some s->er w2 (iw kl eA.sites) kG a1.defers a1.tmps (ck body) fY a cj->
     ∃v w',(Instr.endRound l (some j)).run P cj=.ok v w'/\((Ending.returned v=.returned (.bool true)/\eU rest w'/\W.heap.size<=w'.heap.size/\w'.heap[b1]? =W.heap[b1]? /\w'.heap[b2]? =W.heap[b2]? /\w'.heap[b3]? =W.heap[b3]?)\/(Ending.returned v=.returned (.bool false)/\jD w')):=by
    intro fY je j bz Jo aoK HO hex l4;obtain⟨b,hb,en⟩:=Option.map_eq_some_iff.1 hex;have ao8:fY.nt=aQ.nt:=by
     have:=ahH hb qz;have e:(je.back (keys aQ.cE)).st.nt=je.st.nt:=by cases je<;>rfl
     rw[e,aoK] at this;exact this
    obtain⟨f1,⟨hD,f2⟩,f3,f4,f5,f6⟩:=fin fY ao8 l4 (some j);refine⟨_,_,f1,.inr ⟨rfl,(wc _).2 ⟨j,bz,Jo,?_,f3,f4⟩⟩⟩;have jB:b=y:=by
     rcases CV hz with⟨eO,h,_⟩|h
     ·rw[BK] at h;cases h;cases en
     ·rw[BK] at h;cases h;cases en;rfl
    subst jB;refine PD (fun aoc al y' HW ⟨aI,ca⟩=>?_) hb (HO _ ⟨hD,f2⟩)
    obtain⟨Hg,JY,_⟩:=Shape.fU ca HW;exact⟨Hg,JY⟩
   cases B with
   |norm fY=>
    cases e<;>try exact fN.elim
    obtain⟨eO,mG,hzs⟩:=Option.map_eq_some_iff.1 hk;obtain⟨f1,⟨hD,f2⟩,f3,f4,f5,f6⟩:=fin fY (show(fY.back (keys aQ.cE)).nt=aQ.nt from Hc mG) fN none
    obtain⟨ani,f7,_⟩:=Shape.fU f2 mG;refine⟨_,_,f1,.inl ⟨rfl,(ma _ _).2 ⟨ani,eO,f7,?_,f3,f4⟩,f5,f6 b1 dV q1 (by omega),f6 b2 fE q2 (by omega),f6 b3 je dr (by omega)⟩⟩
    rcases CV hz with⟨z2,h,h2⟩|h
    ·rw[BK] at h;cases h;cases hzs;exact h2
    ·rw[BK] at h;cases h;cases hzs
   |exit id fY=>
    cases e<;>try exact fN.elim
    obtain⟨rfl,fN⟩:=fN;exact AA fY (.exit id fY) (.exit id) (.exit id) (.inr ⟨id,rfl,rfl⟩) rfl (fun dQ h=>⟨rfl,h⟩) hk fN
   |ret fY=>
    cases e<;>try exact fN.elim
    exact AA fY (.ret fY) .ret .ret (.inl ⟨rfl,rfl⟩) rfl (fun dQ h=>h) hk fN
  ·exact(ma _ _).2 ⟨hZ,dq,lq,by rw[fC];exact oF,apz,Xf⟩
  ·-- asF atv asv
   have land:∀{jh:World} {e:Exit} (cU:Obj),lF (fun st=>∃D,am W1 fb cu D st M jh) (lf os y) e->jh.heap[l]? ≠none->jh.heap[aZ]? =some (.deferred (some []))->
     e5 O Y X ds M (ck (.rangeFunc (.tmp t) #[eL] assign body)) (lf os y) e ⟨M,[mark aZ]++ds⟩ (jh.putObj l cU):=by
    intro jh e cU h _ ats;have mk:∀st,(∃D,am W1 fb cu D st M jh)->er O Y X ds M (ck (.rangeFunc (.tmp t) #[eL] assign body)) st ⟨M,[mark aZ]++ds⟩ (jh.putObj l cU):=by
     rintro st ⟨D,S⟩;refine⟨W1,fb,cu,D,[aZ],arq,⟨by simp,fun KO h=>by rw[List.mem_singleton.1 h];omega,fun KO h=>by rw[List.mem_singleton.1 h];exact⟨Xf,asr,J_⟩⟩,⟨rfl,fun h=>absurd List.mem_cons_self h⟩,G4 _ (fun _ h=>h) S,fun _ _=>rfl⟩
    cases hm:lf os y<;>rw[hm] at h<;>cases e<;>first|exact mk _ h|exact⟨h.1,mk _ h.2⟩|exact h.elim
   rintro e jh ⟨⟨v,rfl⟩,hj|hj⟩
   ·obtain⟨D,z,g1,g2,g3,g4⟩:=(ma _ _).1 hj;refine⟨none,jh.putObj l (.loop {rec .ready none with state:=.exhausted}),?_,?_⟩
    ·have:=run_endLoop (P:=P) g3 (by rw[nF];simp)
     rw[nF] at this ⊢;exact this
    ·simp only[ie,vi] at g2;refine land _ ?_ (by rw[g3];simp) g4
     refine PD (fun aoc al y' HW ⟨aI,ca⟩=>?_) g2 ⟨D,g1⟩
     obtain⟨Hg,JY,_⟩:=Shape.fU ca HW;exact⟨Hg,JY⟩
   ·obtain⟨j,e,Jo,g1,g3,g4⟩:=(wc _).1 hj;refine⟨some j,jh.putObj l (.loop {rec .done (some j) with state:=.exhausted}),?_,?_⟩
    ·have:=run_endLoop (P:=P) g3 (by rw[nF];simp)
     rw[nF] at this ⊢;exact this
    ·have:=land (.loop {rec .done (some j) with state:=.exhausted}) g1 (by rw[g3];simp) g4
     rcases Jo with⟨rfl,rfl⟩|⟨id,rfl,rfl⟩
     ·exact wpIn_ret this
     ·exact wpIn_exit this
end
def opsOf:Code->Array Oper
 |.region _ B _=>B
 |_=>#[]
section
variable {P:Program}
theorem Nl{B:Oper}{M:Array Value}{ds:List Deferred}{W:World}{a b:Nat}{ty:Array TypeId}{l:Nat}{il:ByteArray}{K:Act->World->Prop}{Q:Exit->Act->World->Prop}{R:Ending->World->Prop}
  (aC:B.op=.call {callee:=.value (.tmp a),args:=#[.tmp b],argTypes:=ty}) (ha:M.getD a undef=.func (.yield l) #[] #[]) (hb:M.getD b undef=.string il)
  (arS:YieldAt (eC none) 0 P l #[.string il] W R) (hR:∀e cY,R e cY->∃v,e=.returned v/\K ⟨cv M B.dst v,ds⟩ cY):B.wpIn (eC none) 0 P ⟨M,ds⟩ W K Q:=by
 obtain⟨fn,tmps,assign,body,hy,apv⟩:=arS;refine⟨fun f _=>AR none f,?_⟩
 have di:(B.semAt none (Act.eval ⟨M,ds⟩)).run P W=.ok (.round l fn tmps assign body) W:=by
  rw[Oper.semAt_none];have wK:Act.eval ⟨M,ds⟩ (.tmp a)=.func (.yield l) #[] #[]:=ha;have wJ:Act.eval ⟨M,ds⟩ (.tmp b)=.string il:=hb;unfold execOp;simp only[aC,resolve,wK,Deferred.ofValue,Sem.run_bind,Sem.run_pure,Result.andThen_ok,invoke,List.map_toArray,List.map_cons,List.map_nil,wJ];simpa using hy
 show B.uponIn (eC none) 0 P _ K Q ((B.semAt none (Act.eval ⟨M,ds⟩)).run P W);rw[di];refine⟨fun h=>by simp[eC,Fence.wide] at h,RoundIn.mono apv fun e cY he=>?_⟩
 obtain⟨v,rfl,hk⟩:=hR e cY he;rw[<-t_] at hk;exact hk
def e8(k:Nat)(more:List (Nat×eZ)):Shape:=⟨[(1,.ak (.et [.str] 0)),(2,.ak (.ptr 1001 0)),(3,.ak (.et [.int .i64] 0))]++more,[(1001,.box [.d .str],.same)],k⟩
structure iZ(b1 b2 b3:Nat)(p:ByteArray)(c7 fG:TypeId)(l k:Nat)(r:F)(M:Array Value)(W:World):Prop where
 size:M.size=k
 dq:M.getD 0 undef=.func (.yield l) #[] #[]
 eB:M.getD 1 undef=.pointer (some ⟨b1,0,none⟩)
 fe:M.getD 2 undef=.pointer (some ⟨b2,0,none⟩)
 l':M.getD 3 undef=.pointer (some ⟨b3,0,none⟩)
 h1:W.heap[b1]? =some (.cells #[.string p] c7)
 h2:∃s ep,W.heap[b2]? =some (.cells #[.string s] ep)/\s.data.toList=r
 h3:W.heap[b3]? =some (.cells #[.int .i64 0] fG)
 kD:iu W [b2] fun _=>False
theorem iZ.i'{b1 b2 b3:Nat}{p:ByteArray}{c7 fG:TypeId}{l k:Nat}{r:F}{M:Array Value}{W:World}(I:iZ b1 b2 b3 p c7 fG l k r M W)(iF:b1≠b2)(iE:b2≠b3){c:UInt8}(hp:p.data.toList=[c]):
  am W [b2] (fun _=>False) (fun _=>.pointer (some ⟨b2,0,none⟩)) ((e8 k []).st ((([c],()),((),(((0,()),())))),(((r,()),())))) M W:=by
 obtain⟨s,ep,h2,hs⟩:=I.h2;have vO:b1<W.heap.size:=(Array.getElem?_eq_some_iff.1 I.h1).1;have WK:b2<W.heap.size:=(Array.getElem?_eq_some_iff.1 h2).1;have vN:b3<W.heap.size:=(Array.getElem?_eq_some_iff.1 I.h3).1;have uI:((e8 k []).st ((([c],()),((),(((0,()),())))),(((r,()),())))).sites=[(1001,.box 0 [.d (.str r)])]:=rfl;have cJ:∀o,cd [(1001,Site.box 0 [.d (.str r)])] o->o=1001:=fun o ⟨s,h,_⟩=>by
  simp only[look] at h;cases hb:Nat.beq 1001 o with
  |true=>exact(Nat.eq_of_beq_eq_true hb).symm
  |false=>simp[hb] at h
 have b7:∀b,aw (fun _=>False) (fun _=>Value.pointer (some ⟨b2,0,none⟩)) [(1001,Site.box 0 [.d (.str r)])] b->b=b2:=by
  rintro b (h|⟨o,_,h⟩)
  ·exact h.elim
  ·simp only[bG,Option.some.injEq] at h;exact h.symm
 refine⟨I.size,fun t=>?_,fun o ab h=>?_,fun o aa b h1 h2 _ _=>?_,fun o b h1 h2=>?_,Fr.refl _ _,fun b h=>h.elim,I.kD⟩
 ·rw[uI];show b_ _ _ _ _ (match look [(1,bX (.et [.str [c]] 0)),(2,bX (.ptr 1001 0 0)),(3,bX (.et [.int .i64 0] 0))] t with|some v=>v|none=>.av (.ak .any)) _
  simp only[look];by_cases e1:t=1
  ·subst e1;refine⟨b1,0,I.eB,fun h=>iF (b7 _ h),vO,[.string p],rfl,fun j u hu=>?_,fun j h af=>?_⟩
   ·match j,hu with
    |0,hu=>cases hu;simp[World.cell?,I.h1]
   ·match j,h,af with
    |0,_,_=>exact .str _ _ hp
  ·by_cases e2:t=2
   ·subst e2;exact⟨b2,I.fe,_,rfl,Nat.le_refl _,fun _=>rfl⟩
   ·by_cases bz:t=3
    ·subst bz;refine⟨b3,0,I.l',fun h=>iE (b7 _ h).symm,vN,[.int .i64 0],rfl,fun j u hu=>?_,fun j h af=>?_⟩
     ·match j,hu with
      |0,hu=>cases hu;simp[World.cell?,I.h3]
     ·match j,h,af with
      |0,_,_=>exact .int _ _
    ·rw[ju (fun e=>e1 e.symm),ju (fun e=>e2 e.symm),ju (fun e=>bz e.symm)]
     trivial
 ·rw[uI] at h ⊢;simp only[look] at h;cases hb:Nat.beq 1001 o with
  |false=>simp[hb] at h
  |true=>
   simp only[hb,cond_true,Option.some.injEq] at h;subst h;refine⟨b2,ep,[.string s],rfl,h2,rfl,fun u hu=>?_,(fun h=>by cases h),fun j h af=>?_⟩
   ·rw[List.mem_singleton.1 hu];rfl
   ·match j,h,af with
    |0,_,_=>exact bA.str _ _ hs
 ·rw[cJ o h1,cJ aa h2]
 ·simp only[bG,Option.some.injEq] at h2;exact⟨fun h=>h,.inl (by simp[h2])⟩
theorem iZ.of{b1 b2 b3:Nat}{p:ByteArray}{c7 fG:TypeId}{l k:Nat}{r ew:F}{M bU:Array Value}{W cY:World}(I:iZ b1 b2 b3 p c7 fG l k r M W)(iF:b1≠b2)(iE:b2≠b3){more:List (Nat×eZ)}{y:(e8 k more).J}{D:Nat->Value}
  {X:Nat->Prop} (S:am W [b2] X D ((e8 k more).st y) bU cY) (ap:∀t,t<4->bU.getD t undef=M.getD t undef) (hy:y.2=((ew,()),())):iZ b1 b2 b3 p c7 fG l k ew bU cY:=by
 have vO:b1<W.heap.size:=(Array.getElem?_eq_some_iff.1 I.h1).1;have vN:b3<W.heap.size:=(Array.getElem?_eq_some_iff.1 I.h3).1;refine⟨S.nt,(ap 0 (by omega)).trans I.dq,(ap 1 (by omega)).trans I.eB,(ap 2 (by omega)).trans I.fe,(ap 3 (by omega)).trans I.l',(S.frame.block b1 vO (by simp[iF])).trans I.h1,?_,(S.frame.block b3 vN (by simp[iE.symm])).trans I.h3,⟨S.kD.1,S.eX.Y,fun _ _ h=>h,fun b hb=>(S.kD.2 b hb).2⟩⟩
 have gp:look ((e8 k more).st y).sites 1001=some (.box 0 [.d (.str ew)]):=by
  show look (j7 (e8 k more).sites y.2) 1001=_;rw[hy];rfl
 have iU:=S.cE 2;have hg:((e8 k more).st y).get 2=bX (.ptr 1001 0 0):=rfl;rw[hg] at iU;obtain⟨b,hb,hr⟩:=iU;have cM:=Ref.at hr gp rfl;rw[ap 2 (by omega),I.fe] at hb
 simp only[Value.pointer.injEq,Option.some.injEq,Addr.mk.injEq,and_true] at hb;obtain⟨bH,T,cur,g1,g2,g3,g4,_,g5⟩:=S.sites 1001 _ gp;rw[cM] at g1;simp only[Value.pointer.injEq,Option.some.injEq,Addr.mk.injEq,and_true] at g1;match cur,g3 with
 |[u],_=>
  obtain⟨s,kr,qx⟩:=gm (g5 0 (by simp) (by simp))
  simp only[List.getElem_cons_zero] at kr;subst kr;exact⟨s,T,by rw[hb,g1];exact g2,qx⟩
end
theorem pn(c:UInt8)(s:F):bJ c s≠[]:=by
 cases s with
 |nil=>simp[bJ]
 |cons b r=>
  simp only[bJ];cases b==c
  ·simp only[cond_false];split<;>simp
  ·simp
theorem _f{c:UInt8}{s:F}(h:Lib.indexByte s c<0):bJ c s=[s]:=by
 induction s with
 |nil=>rfl
 |cons b r ih=>
  simp only[Lib.indexByte] at h;split at h
  ·omega
  ·rename_i hb;split at h
   ·rename_i h1;have h1:Lib.indexByte r c=-1:=by simpa using h1
    have:=ih (by omega)
    have hb:(b==c)=false:=by simpa using hb
    simp only[bJ,hb,cond_false,this]
   ·rename_i h1;have:=Lib.indexByte_ge r c;have h1:¬Lib.indexByte r c=-1:=by simpa using h1
    omega
theorem _e{c:UInt8}{s:F}(h:0<=Lib.indexByte s c):bJ c s=s.take (Lib.indexByte s c).toNat::bJ c (s.drop ((Lib.indexByte s c).toNat+1))/\(Lib.indexByte s c).toNat<s.length:=by
 induction s with
 |nil=>simp[Lib.indexByte] at h
 |cons b r ih=>
  simp only[Lib.indexByte] at h ⊢;by_cases hb:(b==c)=true
  ·simp only[hb,if_true] at h ⊢;simp[bJ,hb]
  ·have dP:(b==c)=false:=by simpa using hb
   simp only[dP,Bool.false_eq_true,if_false] at h ⊢;by_cases h1:(Lib.indexByte r c==-1)=true
   ·simp only[h1,if_true] at h;omega
   ·have h1':(Lib.indexByte r c==-1)=false:=by simpa using h1
    simp only[h1',Bool.false_eq_true,if_false] at h ⊢;have hge:=Lib.indexByte_ge r c;have h1:¬Lib.indexByte r c=-1:=by simpa using h1
    obtain⟨g1,g2⟩:=ih (by omega)
    have e:(Lib.indexByte r c+1).toNat=(Lib.indexByte r c).toNat+1:=by omega
    rw[e];refine⟨?_,by simp;omega⟩
    simp only[bJ,dP,cond_false,g1,List.take_succ_cons,List.drop_succ_cons]
def kC(k:Nat)(c:UInt8)(r:F):(e8 k []).J:=((([c],()),((),((0,()),()))),((r,()),()))
def mF(k:Nat)(c:UInt8)(r:F):ah:=(e8 k []).st (kC k c r)
def A2(k:Nat):Out->Option (e8 k []).J
 |.norm st=>(e8 k []).ex st
 |_=>none
def HI(k t7 t8:Nat):Out->Option (Sum (e8 k []).J ((Int×F)×(e8 k []).J))
 |.norm st=>match st.get t7,st.get t8 with
  |.av (.ak (.d (.int .i64 i))),.av (.ak (.d (.str x)))=>((e8 k []).ex st).map fun y=>.inr ((i,x),y)
  |_,_=>none
 |_=>none
noncomputable def vP(C:hA)(k t7 t8:Nat)(r7:Code)(p7:Nat):Out->Option (Sum (e8 k []).J ((Int×F)×(e8 k []).J))
 |.exit id st=>bif Nat.beq id 2 then((e8 k []).ex st).map .inl else none
 |.norm st=>exec C r7 p7 st (HI k t7 t8)
 |_=>none
noncomputable def A1(C:hA)(k t7 t8:Nat)(c6 r7:Code)(p6 p7:Nat):Out->Option (Sum (e8 k []).J ((Int×F)×(e8 k []).J))
 |.norm st=>exec C c6 p6 st (vP C k t7 t8 r7 p7)
 |_=>none
noncomputable def two(k:Nat)(C:Ctx)(st:ah)(o0 o1:Oper)(a b:Nat):Option ((Value×F)×(e8 k []).J):=
 j9 C st o0 fun st=>j9 C st o1 fun st=>match st.get a,st.get b with
  |.av (.ak (.cN v)),.av (.ak (.d (.str x)))=>((e8 k []).ex st).map fun y=>((v,x),y)
  |_,_=>none
noncomputable def sG(k:Nat)(C:Ctx)(st:ah)(o3:Oper)(t42:Nat):Option (Bool×(e8 k []).J):=
 j9 C st o3 fun st=>match st.get t42 with
  |.av (.ak (.d (.bool b)))=>((e8 k []).ex st).map fun y=>(b,y)
  |_=>none
section
variable {P:Program}{O:World}{Y:List Nat}{X:Nat->Prop}{D:Nat->Value}{st:ah}{M:Array Value}{w:World}
theorem NJ(S:am O Y X D st M w){t:Nat}{k:IntKind}{n:Int}(h:st.get t=.av (.ak (.d (.int k n)))):M.getD t undef=.int k n:=by
 have:=S.cE t;rw[h] at this;exact h' this
theorem NI(S:am O Y X D st M w){t:Nat}{x:F}(h:st.get t=.av (.ak (.d (.str x)))):∃b,M.getD t undef=.string b/\b.data.toList=x:=by
 have:=S.cE t;rw[h] at this;exact gm this
theorem Dd(S:am O Y X D st M w){t:Nat}{x:Bool}(h:st.get t=.av (.ak (.d (.bool x)))):M.getD t undef=.bool x:=by
 have:=S.cE t;rw[h] at this;exact jn this
theorem ac6(S:am O Y X D st M w){t:Nat}{x:Value}(h:st.get t=.av (.ak (.cN x))):M.getD t undef=x:=by
 have:=S.cE t;rw[h] at this;exact this
theorem PP{C:Ctx}(H:a7 P C){k:Nat}{o0 o1:Oper}{a b:Nat}{v:Value}{x:F}{y:(e8 k []).J}(h:two k C st o0 o1 a b=some ((v,x),y))(S:am O Y X D st M w){ds:List Deferred}{K:Act->World->Prop}{Q:Exit->Act->World->Prop}
  (bM:∀bU w' il aI,bU.getD a undef=v->bU.getD b undef=.string il->il.data.toList=x->(∀t,t∉o0.dst.toList++o1.dst.toList->bU.getD t undef=M.getD t undef)->
   am O Y X aI ((e8 k []).st y) bU w'->K ⟨bU,ds⟩ w'):o0.wpIn (eC none) 0 P ⟨M,ds⟩ w (fun cL w'=>o1.wpIn (eC none) 0 P cL w' K Q) Q:=by
 refine mY S H h fun eA gu hF aN e1 dm I_=>?_
 refine mY dm H e1 fun vG hZ oU w2 e2 hM I9=>?_
 split at e2
 ·rename_i v' h6 ha hb;obtain⟨y',hy,he⟩:=Option.map_eq_some_iff.1 e2;cases he;obtain⟨il,g1,g2⟩:=NI hM hb;obtain⟨hD,hL,_⟩:=Shape.fU hM hy;refine bM oU w2 il hD (ac6 hM ha) g1 g2 (fun t ap=>?_) hL
  simp only[List.mem_append,not_or] at ap;rw[I9 t ap.2,I_ t ap.1]
 ·cases e2
theorem afM{C:Ctx}(H:a7 P C){k:Nat}{o3:Oper}{t42:Nat}{b:Bool}{y:(e8 k []).J}(h:sG k C st o3 t42=some (b,y))(S:am O Y X D st M w){ds:List Deferred}{K:Act->World->Prop}{Q:Exit->Act->World->Prop}
  (bM:∀bU w' aI,bU.getD t42 undef=.bool b->(∀t,t∉o3.dst.toList->bU.getD t undef=M.getD t undef)->am O Y X aI ((e8 k []).st y) bU w'->K ⟨bU,ds⟩ w'):o3.wpIn (eC none) 0 P ⟨M,ds⟩ w K Q:=by
 refine mY S H h fun eA gu hF aN e1 dm I_=>?_
 split at e1
 ·rename_i bH hb;obtain⟨y',hy,he⟩:=Option.map_eq_some_iff.1 e1;cases he;obtain⟨hD,hL,_⟩:=Shape.fU dm hy;exact bM hF aN hD (Dd dm hb) I_ hL
 ·cases e1
structure aey(P:Program)(C:hA)(ct:FuncId)(fn:Func)(k:Nat)(A r5 c6 r7 r9:Code)(o0 o1 o2 o3 q0 q1 q2:Oper)(pA p5 p6 p7 p9 t7 t8 a1 a2 t41 t42 u1 u2:Nat)(ty Br:Array TypeId):Prop where
 TG:P.funcs[ct]? =some fn
 nt:fn.ntmps=k
 cQ:4<=k
 e_:fn.results=#[]
 Xk:∀args w,(callFunc ct args).run P w=.ok (.enter ct args) w
 body:∃i8 i10,fn.body=some (.seq A (.seq (.block 2 (.loop (.block 3 (.seq r5 (.seq c6 (.seq r7 (.seq (.seq (.region i8 #[o0,o1,o2,o3] false) (.cond (.tmp t42) .ret .skip)) r9))))))) (.region i10 #[q0,q1,q2] false)))
 wA:(gD A&&(gD r5&&(gD c6&&(gD r7&&gD r9))))=true
 wr:eW [0,1,2,3] (ck A++(ck r5++(ck c6++(ck r7++ck r9))))=true
 bf:o0.guard=none/\o1.guard=none/\o2.guard=none/\o3.guard=none/\q0.guard=none/\q1.guard=none/\q2.guard=none
 Yb:eW [0,1,2,3,t7] (o0.dst.toList++(o1.dst.toList++(o3.dst.toList++[t41])))=true
 Ya:eW [0,1,2,3] (q0.dst.toList++q1.dst.toList)=true
 d2:o2.dst=some t41
 HD:t41<k
 c2:o2.op=.call {callee:=.value (.tmp a1),args:=#[.tmp a2],argTypes:=ty}
 d5:q2.op=.call {callee:=.value (.tmp u1),args:=#[.tmp u2],argTypes:=Br}
 kg:fV P C A pA/\fV P C r5 p5/\fV P C c6 p6/\fV P C r7 p7/\fV P C r9 p9
 dX:∀c r,exec C A pA (mF k c r) (A2 k)=some (kC k c r)
 hB:∀c r,exec C r5 p5 (mF k c r) (A1 C k t7 t8 c6 r7 p6 p7)=bif decide (Lib.indexByte r c<0) then some (.inl (kC k c r)) else(br r 0 (IntKind.i64.wrap (Lib.indexByte r c+0))).bind fun x=>some (.inr ((Lib.indexByte r c,x),kC k c r))
 be:∀c r i x v,two k C.toCtx ((((mF k c r).set t7 (one (.int .i64 i))).set t8 (one (.str x))).set 0 (bX (.cN v))) o0 o1 a1 a2=some ((v,x),kC k c r)
 h3:∀c r b,sG k C.toCtx ((mF k c r).set t41 (one (.bool b))) o3 t42=some (!b,kC k c r)
 Xh:(j9 C.toCtx ⟨[(t41,one (.bool false))],[],k⟩ o3 fun st=>match st.get t42 with|.av (.ak (.d (.bool b)))=>some b|_=>none)=some true
 wI:∀c r i,exec C r9 p9 ((mF k c r).set t7 (one (.int .i64 i))) (A2 k)=(br r (IntKind.i64.wrap (i+(([c]:F).length:Int))) r.length).bind fun x=>some (kC k c x)
 Cg:∀c r v,two k C.toCtx ((mF k c r).set 0 (bX (.cN v))) q0 q1 u1 u2=some ((v,r),kC k c r)
end
end Go.Jk
