/- For all packs and each name, the program's Needers returns what the reference's returns: names of the packs that need it, at first or through others, ascending; its answer is memory of its own. (part 5 of 6: JnQPuIa, JnQPl, JnQFH59, JnQF23, JnQPuIb, JnQF24, JnQF27v0, JnQF28, JnQF4, JnQPuIc) Conditions: none beyond the statement. -/
import Derived.Test.YthllakklnccioaaGreatDoorZFnExactNeeders3
import Derived.Shelf.Sort.Plain
import Derived.Shelf.Slices.In.SortNone
import Derived.Test.YthllakklnccioaaGreatDoorProg
import Derived.Tactics
import Derived.Deep.RegionLaw
import Derived.Shelf.Abstract
import Derived.KernelRfl
set_option maxRecDepth 100000
set_option linter.unusedVariables false
set_option linter.unusedSimpArgs false
namespace Go.Proofs
open Go.Jk
abbrev px(l:List G):Prop:=l.Pairwise fun x y=>Op.bytesLess x y=true
def ot(l:List G)(s:G):List G:=match l.dropWhile fun x=>Op.bytesLess x s with
 |[]=>(l.takeWhile fun x=>Op.bytesLess x s)++[s]
 |y::r=>bif y==s then l else(l.takeWhile fun x=>Op.bytesLess x s)++s::y::r
theorem Xs{F b7:Type}{g:F->Option (Sum F b7)}(st:Nat->F)(n:Nat){b:b7}(h:∀i,i<n->g (st i)=some (.inl (st (i+1))))(he:g (st n)=some (.inr b)):∀k i,i+k=n->bH g (st i)=some b:=by
 intro k;induction k with
 |zero=>
  intro i af;obtain rfl:i=n:=by omega
  exact fH he
 |succ k ih=>
  intro i af;rw[gN (h i (by omega))]
  exact ih (i+1) (by omega)
theorem Kh(p:G->Bool):∀(l:List G),∃T R,l.takeWhile p=T/\l.dropWhile p=R/\l=T++R/\(∀x,x∈T->p x=true)/\(R=[]\/∃y r,R=y::r/\p y=false):=by
 intro l;induction l with
 |nil=>exact⟨[],[],rfl,rfl,rfl,fun x h=>(by cases h),.inl rfl⟩
 |cons x l ih=>
  obtain⟨T,R,h1,h2,Y,aP,bq⟩:=ih;cases hx:p x with
  |false=>exact⟨[],x::l,by simp[List.takeWhile_cons,hx],by simp[List.dropWhile_cons,hx],rfl,fun x h=>(by cases h),.inr ⟨x,l,rfl,hx⟩⟩
  |true=>
   refine⟨x::T,R,by simp[List.takeWhile_cons,hx,h1],by simp[List.dropWhile_cons,hx,h2],by rw[Y];rfl,fun y aq=>?_,bq⟩
   rcases List.mem_cons.1 aq with rfl|aq
   ·exact hx
   ·exact aP y aq
theorem Wy(a)(L:a.1.1.length<=4194304):f57 a=some ((ot a.1.1 a.1.2.1,()),()):=by
 obtain⟨⟨l,s,u⟩,bW⟩:=a;have L:l.length<=4194304:=L;obtain⟨T,R,h1,h2,Y,aP,bq⟩:=Kh (fun x=>Op.bytesLess x s) l
 have hlen:l.length=T.length+R.length:=by rw[Y,List.length_append]
 have key:xL ((l,(s,((),(((0:Nat):Int),())))),(([]:List G),()))=some ((l,(s,((),((T.length:Int),())))),(([]:List G),())):=by
  refine Xs (fun i=>((l,(s,((),(((i:Nat):Int),())))),(([]:List G),()))) T.length (fun i af=>?_) ?_ _ 0 (Nat.zero_add _)
  ·have hx:l[i]? =some T[i]:=by rw[Y,List.getElem?_append_left af,List.getElem?_eq_getElem af]
   have am:Op.bytesLess T[i] s=true:=aP _ (List.getElem_mem af);have hw:aN i:=by unfold aN;omega
   simp only[xV,cU (c8 hx),cond_true,cI,hx,Option.bind_some,am,cH hw]
  ·rcases bq with rfl|⟨y,r,rfl,am⟩
   ·have hl:l.length=T.length:=by simpa using hlen
    simp only[xV,hl,du,cond_false]
   ·have aq:l[T.length]? =some y:=by rw[Y,List.getElem?_append_right (Nat.le_refl _),Nat.sub_self];rfl
    have am:Op.bytesLess y s=false:=am;simp only[xV,cU (c8 aq),cond_true,cI,aq,Option.bind_some,am,cond_false]
 have key:xL ((l,(s,((),((0:Int),())))),(([]:List G),()))=_:=key;have a1:dc 16 ([]:List G) T=some T:=jM (by decide) (by unfold aN;simp only[List.length_nil];omega)
 have a2:dc 16 T [s]=some (T++[s]):=jM (by decide) (by unfold aN;simp only[List.length_singleton];omega)
 have a3:dc 16 (T++[s]) R=some (T++[s]++R):=jM (by decide) (by unfold aN;simp only[List.length_append,List.length_singleton];omega)
 have fin:(cO l (0:Int) (T.length:Int)).bind (fun _H=>(dc 16 ([]:List G) _H).bind fun _G=>(dc 16 _G ([s]:List G)).bind fun _F=>
   (cO l (T.length:Int) (l.length:Int)).bind fun _E=>(dc 16 _F _E).bind fun _D=>some (((_D,()),()):Eo.F))=
   some (((T++[s]++R),()),()):=by
  rw[qs (by omega),Ad (by omega),show l.take T.length=T from by rw[Y];exact List.take_left,show l.drop T.length=R from by rw[Y];exact List.drop_left]
  simp only[Option.bind_some,a1,a2,a3]
 simp only[f57,key,Option.bind_some,C0,ot,h1,h2];rcases bq with rfl|⟨y,r,rfl,am⟩
 ·have hl:l.length=T.length:=by simpa using hlen
  have U:decide ((T.length:Int)<(l.length:Int))=false:=by rw[hl];exact du
  rw[List.append_nil] at fin;simp only[U,cond_false,Option.bind_some];exact fin
 ·have aq:l[T.length]? =some y:=by rw[Y,List.getElem?_append_right (Nat.le_refl _),Nat.sub_self];rfl
  simp only[cU (c8 aq),cond_true,cI,aq,Option.bind_some];cases y==s with
  |true=>rfl
  |false=>simp only[cond_false];exact fin.trans (by simp)
theorem s'{l:List G}(bo:px l)(s:G):px (ot l s)/\∀x,x∈ot l s <-> x∈l\/x=s:=by
 obtain⟨T,R,h1,h2,hl,KI,bq⟩:=Kh (fun x=>Op.bytesLess x s) l
 simp only[ot,h1,h2];rcases bq with rfl|⟨y,r,rfl,am⟩
 ·rw[List.append_nil] at hl;subst hl;refine⟨List.pairwise_append.2 ⟨bo,List.pairwise_singleton _ _,fun x hx z aM=>?_⟩,fun x=>by simp⟩
  rw[List.mem_singleton.1 aM];exact KI x hx
 ·simp only;cases he:y==s with
  |true=>
   have:=eq_of_beq he;subst this;simp only[cond_true];refine⟨bo,fun x=>⟨.inl,fun h=>h.elim id fun h=>?_⟩⟩
   show x∈l;rw[h,hl];simp
  |false=>
   have On:=J8 y s am he;rw[hl] at bo;obtain⟨u6,si,ae4⟩:=List.pairwise_append.1 bo;simp only[cond_false];refine⟨List.pairwise_append.2 ⟨u6,List.pairwise_cons.2 ⟨fun z aM=>?_,si⟩,fun x hx z aM=>?_⟩,fun x=>?_⟩
   ·rcases List.mem_cons.1 aM with rfl|aM
    ·exact On
    ·exact sU _ _ _ On ((List.pairwise_cons.1 si).1 z aM)
   ·rcases List.mem_cons.1 aM with rfl|aM
    ·exact KI x hx
    ·exact ae4 x hx z aM
   ·rw[hl];simp only[List.mem_append,List.mem_cons];constructor
    ·rintro(h|h|h|h)
     ·exact .inl (.inl h)
     ·exact .inr h
     ·exact .inl (.inr (.inl h))
     ·exact .inl (.inr (.inr h))
    ·rintro((h|h|h)|h)
     ·exact .inl h
     ·exact .inr (.inr (.inl h))
     ·exact .inr (.inr (.inr h))
     ·exact .inr (.inl h)
theorem px.nodup{l:List G}(h:px l):l.Nodup:=by
 refine List.Pairwise.imp ?_ h;intro a b uQ e;subst e;rw[qR] at uQ;cases uQ
def j_(p:a')(l:List G):Bool:=p.bZ.any fun d=>l.contains d.name
theorem Tq(a)(hn:a.1.1.2.2.1.length<=2097152)(L:a.1.2.1.length<=2097152):f56 a=some ((j_ ⟨a.1.1.1,a.1.1.2.1,a.1.1.2.2.1,a.1.1.2.2.2.1⟩ a.1.2.1,()),()):=by
 obtain⟨⟨⟨PZ,vs,ap,es,oL⟩,l,u⟩,bW⟩:=a;have hn:ap.length<=2097152:=hn;have L:l.length<=2097152:=L;have key:CQ ((l,((),((0:Int),()))),((PZ,(vs,(ap,(es,())))),()))=some (bif allI (fun _ (d:dE)=>!(l.contains d.name)) 0 ap then .inr ((),()) else .inl ((true,()),())):=by
  refine hi xW ap (fun i=>((l,((),((i:Int),()))),((PZ,(vs,(ap,(es,())))),()))) _ _ _ (fun i d U=>?_) ?_
  ·have af:=c8 U;have hw:aN i:=by unfold aN;omega
   have e:=Wx ((l,(d.name,())),()) L;simp only[xW,cU af,cond_true,cI,U,Option.bind_some,e,cH hw];cases l.contains d.name<;>rfl
  ·simp only[xW,du,cond_false]
 rw[ig] at key;have e:ap.all (fun d=>!(l.contains d.name))=!(ap.any fun d=>l.contains d.name):=by rw[List.not_any_eq_all_not]
 rw[e] at key;simp only[f56,key,Option.bind_some,j_];cases ap.any fun d=>l.contains d.name<;>rfl
def im(n:G):List G->List a'->List G
 |D,[]=>D
 |D,p::r=>im n (bif !(p.name==n)&&j_ p (n::D) then ot D p.name else D) r
def lo(ps:List a')(n:G):Nat->List G->List G
 |0,D=>D
 |k+1,D=>lo ps n k (im n D ps)
structure gV(ps:List a')(D:List G):Prop where
 mM:px D
 of:∀s,s∈D->s∈ps.map (·.name)
theorem gV.len{ps:List a'}{D:List G}(h:gV ps D):D.length<=ps.length:=by
 have:=sN D _ h.mM.nodup h.of;simpa using this
theorem gV.add{ps:List a'}{D:List G}(h:gV ps D){p:a'}(am:p∈ps):gV ps (ot D p.name):=by
 obtain⟨h1,h2⟩:=s' h.mM p.name;exact⟨h1,fun s L=>((h2 s).1 L).elim (h.of s) fun e=>by rw[e];exact List.mem_map.2 ⟨p,am,rfl⟩⟩
theorem gV.round{ps:List a'}{n:G}:∀{r:List a'} {D:List G},gV ps D->(∀p,p∈r->p∈ps)->gV ps (im n D r):=by
 intro r;induction r with
 |nil=>intro D h _;exact h
 |cons p r ih=>
  intro D h hr;refine ih ?_ fun q aD=>hr q (List.mem_cons_of_mem _ aD)
  cases !(p.name==n)&&j_ p (n::D) with
  |true=>exact h.add (hr p List.mem_cons_self)
  |false=>exact h
theorem gV.rounds{ps:List a'}{n:G}:∀{k:Nat} {D:List G},gV ps D->gV ps (lo ps n k D):=by
 intro k;induction k with
 |zero=>intro D h;exact h
 |succ k ih=>intro D h;exact ih (h.round fun p am=>am)
def jP(ps:List a')(n:G):List G:=bif iq ps==0 then lo ps n ps.length [] else []
theorem TF(a)(hb:k3 a.1.1)(hl:a.1.1.length<=2000000):f21 a=some ((jP a.1.1 a.1.2.1,()),()):=by
 obtain⟨⟨ps,n,u⟩,bW⟩:=a;have hl:ps.length<=2000000:=hl;have inner:∀(j:Nat) (r:List a') (i:Nat) (D:List G),ps.drop i=r->i<=ps.length->gV ps D->
   v6 ((ps,(n,(D,((j:Int),((i:Int),()))))),())=some ((ps,(n,(im n D r,((j:Int),())))),()):=by
  intro j r;induction r with
  |nil=>
   intro i D hr af an;have:=drop_nil hr;have d1:decide ((i:Int)<(ps.length:Int))=false:=by simp only[decide_eq_false_iff_not];omega
   refine fH ?_
   simp only[wa,d1,cond_false,im]
  |cons p r ih=>
   intro i D hr af an;obtain⟨bI,bB,cC⟩:=drop_cons hr;have Ow:=List.mem_of_getElem? bI;have hw:aN i:=by unfold aN;omega
   have oy:=an.len;have e1:dc 16 ([n]:List G) D=some (n::D):=jM (xs:=[n]) (by decide) (by unfold aN;simp only[List.length_singleton];omega)
   have e2:=Tq (((p.name,(p.b_,(p.bZ,(p.cE,())))),(n::D,())),()) (hb.2 p Ow).2.2.1.1 (by simp only[List.length_cons];omega)
   have cf:=Wy ((D,(p.name,())),()) (by show D.length<=4194304;omega)
   have step:wa ((ps,(n,(D,((j:Int),((i:Int),()))))),())=some (.inl ((ps,(n,((bif !(p.name==n)&&j_ p (n::D) then ot D p.name else D),((j:Int),(((i+1:Nat):Int),()))))),())):=by
    simp only[wa,zX,cU cC,cond_true,cI,bI,Option.bind_some];cases aD:(p.name==n) with
    |true=>simp only[Bool.not_true,cond_false,Option.bind_some,Bool.false_and,cH hw]
    |false=>
     simp only[Bool.not_false,cond_true,e1,e2,Option.bind_some,Bool.true_and];cases ah:j_ ⟨p.name,p.b_,p.bZ,p.cE⟩ (n::D) with
     |true=>simp only[cond_true,cI,bI,Option.bind_some,cf,cH hw]
     |false=>simp only[cond_false,cH hw]
   refine(gN step).trans (ih (i+1) _ bB cC ?_);cases !(p.name==n)&&j_ p (n::D) with
   |true=>exact an.add Ow
   |false=>exact an
 have outer:∀(k j:Nat) (D:List G),j+k=ps.length->gV ps D->wT ((ps,(n,(D,((j:Int),())))),())=some ((lo ps n k D,()),()):=by
  intro k;induction k with
  |zero=>
   intro j D bF an;obtain rfl:j=ps.length:=by omega
   refine fH ?_
   simp only[B_,du,cond_false,lo]
  |succ k ih=>
   intro j D bF an;have hw:aN j:=by unfold aN;omega
   have e1:=inner j ps 0 D rfl (Nat.zero_le _) an;have e1:v6 ((ps,(n,(D,((j:Int),((0:Int),()))))),())=_:=e1;refine(gN ?_).trans (ih (j+1) (im n D ps) (by omega) (an.round fun p am=>am))
   simp only[B_,cU (show j<ps.length by omega),cond_true,e1,Option.bind_some,cH hw]
 have hg:=Tp ((ps,()),()) hb;have e1:=outer ps.length 0 [] (by omega) ⟨List.Pairwise.nil,fun s L=>by cases L⟩
 have e1:wT ((ps,(n,(([]:List G),((0:Int),())))),())=_:=e1;simp only[f21,hg,Option.bind_some,e1,jP];rcases hc:iq ps==0 with _|_
 ·have:(iq ps !=0)=true:=by simp only[bne,hc,Bool.not_false]
  rw[this];rfl
 ·have:(iq ps !=0)=false:=by simp only[bne,hc,Bool.not_true]
  rw[this];rfl
inductive jF(ps:List a')(n:G):G->Prop where
 |mk (p:a') (am:p∈ps) (hn:p.name≠n) (d:dE) (U:d∈p.bZ) (h:d.name=n):jF ps n p.name
 |zo (p:a') (am:p∈ps) (hn:p.name≠n) (d:dE) (U:d∈p.bZ) (h:jF ps n d.name):jF ps n p.name
theorem Gi{p:a'}{l:List G}:j_ p l=true <-> ∃d,d∈p.bZ/\d.name∈l:=by
 simp only[j_,List.any_eq_true,List.contains_iff_mem]
def uY(ps:List a')(n:G)(D:List G):Prop:=∀p,p∈ps->p.name≠n->∀d,d∈p.bZ->d.name=n\/d.name∈D->p.name∈D
theorem CI{ps:List a'}{n:G}{D:List G}(h1:∀s,s∈D->jF ps n s)(h2:uY ps n D)(s:G):s∈D <-> jF ps n s:=by
 refine⟨h1 s,fun h=>?_⟩
 induction h with
 |mk p am hn d U h=>exact h2 p am hn d U (.inl h)
 |zo p am hn d U _ ih=>exact h2 p am hn d U (.inr ih)
theorem AO{ps:List a'}{n:G}:∀{r:List a'} {D:List G},gV ps D->(∀p,p∈r->p∈ps)->(∀s,s∈D->jF ps n s)->∀s,s∈im n D r->jF ps n s:=by
 intro r;induction r with
 |nil=>intro D _ _ h;exact h
 |cons p r ih=>
  intro D an hr h;have am:=hr p List.mem_cons_self;simp only[im];cases hc:!(p.name==n)&&j_ p (n::D) with
  |false=>exact ih an (fun q aD=>hr q (List.mem_cons_of_mem _ aD)) h
  |true=>
   simp only[Bool.and_eq_true,Bool.not_eq_true',beq_eq_false_iff_ne,Gi] at hc;obtain⟨hn,d,U,lZ⟩:=hc;refine ih (an.add am) (fun q aD=>hr q (List.mem_cons_of_mem _ aD)) fun s L=>?_
   rcases((s' an.mM p.name).2 s).1 L with L|rfl
   ·exact h s L
   ·rcases List.mem_cons.1 lZ with e|e
    ·exact .mk p am hn d U e
    ·exact .zo p am hn d U (h _ e)
theorem Ae{ps:List a'}{n:G}:∀{r:List a'} {D:List G},gV ps D->(∀p,p∈r->p∈ps)->∀s,s∈D->s∈im n D r:=by
 intro r;induction r with
 |nil=>intro D _ _ s h;exact h
 |cons p r ih=>
  intro D an hr s L;simp only[im];cases !(p.name==n)&&j_ p (n::D) with
  |false=>exact ih an (fun q aD=>hr q (List.mem_cons_of_mem _ aD)) s L
  |true=>exact ih (an.add (hr p List.mem_cons_self)) (fun q aD=>hr q (List.mem_cons_of_mem _ aD)) s (((s' an.mM p.name).2 s).2 (.inl L))
theorem Vr{ps:List a'}{n:G}:∀{r:List a'} {D:List G},gV ps D->(∀p,p∈r->p∈ps)->∀p,p∈r->p.name≠n->∀d,d∈p.bZ->d.name=n\/d.name∈D->p.name∈im n D r:=by
 intro r;induction r with
 |nil=>intro D _ _ p h;cases h
 |cons q r ih=>
  intro D an hr p am hn d U lZ;have cp:∀p,p∈r->p∈ps:=fun q aD=>hr q (List.mem_cons_of_mem _ aD)
  simp only[im];rcases List.mem_cons.1 am with rfl|am
  ·have hc:(!(p.name==n)&&j_ p (n::D))=true:=by
    simp only[Bool.and_eq_true,Bool.not_eq_true',beq_eq_false_iff_ne,Gi];exact⟨hn,d,U,List.mem_cons.2 lZ⟩
   rw[hc];exact Ae (an.add (hr p List.mem_cons_self)) cp _ (((s' an.mM p.name).2 _).2 (.inr rfl))
  ·cases !(q.name==n)&&j_ q (n::D) with
   |false=>exact ih an cp p am hn d U lZ
   |true=>exact ih (an.add (hr q List.mem_cons_self)) cp p am hn d U (lZ.imp id fun h=>((s' an.mM q.name).2 _).2 (.inl h))
theorem T5{ps:List a'}{n:G}:∀(k:Nat) (D:List G),gV ps D->(∀s,s∈D->jF ps n s)->(∀s,s∈lo ps n k D->jF ps n s)/\(uY ps n (lo ps n k D)\/D.length+k<=(lo ps n k D).length):=by
 intro k;induction k with
 |zero=>intro D _ h;exact⟨h,.inr (Nat.le_refl _)⟩
 |succ k ih=>
  intro D an h;have rV:=an.round (n:=n) (r:=ps) fun p am=>am
  obtain⟨h1,h2⟩:=ih (im n D ps) rV (AO an (fun p am=>am) h)
  refine⟨h1,?_⟩;rcases h2 with h2|h2
  ·exact .inl h2
  ·by_cases hc:uY ps n (im n D ps)
   ·-- then Fx stays ae1
    refine .inl ?_
    have stay:∀(k:Nat) (D:List G),gV ps D->uY ps n D->(∀s,s∈D->jF ps n s)->uY ps n (lo ps n k D):=by
     intro k;induction k with
     |zero=>intro D _ h _;exact h
     |succ k um=>
      intro D an hc L;have rV:=an.round (n:=n) (r:=ps) fun p am=>am
      have eA:=AO (n:=n) an (fun p am=>am) L
      refine um _ rV (fun p am hn d U lZ=>?_) eA
      have:p.name∈D:=(CI L hc _).2 (by
       rcases lZ with e|e
       ·exact .mk p am hn d U e
       ·exact .zo p am hn d U (eA _ e))
      exact Ae an (fun p am=>am) _ this
    exact stay k _ rV hc (AO an (fun p am=>am) h)
   ·-- afR agu
    refine .inr ?_
    have:D.length+1<=(im n D ps).length:=by
     by_cases iR:∀s,s∈im n D ps->s∈D
     ·exfalso
      refine hc fun p am hn d U lZ=>?_
      exact Vr an (fun p am=>am) p am hn d U (lZ.imp id fun h=>iR _ h)
     ·obtain⟨s,L⟩:=Classical.not_forall.1 iR;obtain⟨mF,nH⟩:=Classical.not_imp.1 L;have:=sN (s::D) (im n D ps) (List.nodup_cons.2 ⟨nH,an.mM.nodup⟩) (fun x hx=>by
       rcases List.mem_cons.1 hx with rfl|hx
       ·exact mF
       ·exact Ae an (fun p am=>am) x hx)
      simpa using this
    show D.length+(k+1)<=_;exact Nat.le_trans (by omega) h2
theorem VS{ps:List a'}{n:G}(hc:iq ps=0)(s:G):s∈jP ps n <-> jF ps n s:=by
 have aQ:gV ps []:=⟨List.Pairwise.nil,fun s L=>by cases L⟩
 have he:jP ps n=lo ps n ps.length []:=by unfold jP;rw[hc];rfl
 obtain⟨h1,h2⟩:=T5 (n:=n) ps.length [] aQ (fun s L=>by cases L)
 have an:=aQ.rounds (n:=n) (k:=ps.length);rw[he];refine CI h1 ?_ s;rcases h2 with h2|h2
 ·exact h2
 ·intro p am _ d _ _;refine Classical.byContradiction fun tN=>?_
  have:=sN (p.name::lo ps n ps.length []) (ps.map (·.name)) (List.nodup_cons.2 ⟨tN,an.mM.nodup⟩) (fun x hx=>by
   rcases List.mem_cons.1 hx with rfl|hx
   ·exact List.mem_map.2 ⟨p,am,rfl⟩
   ·exact an.of x hx)
  simp only[List.length_cons,List.length_map,List.length_nil] at this h2;omega
theorem VU(ps:List a')(n:G):px (jP ps n):=by
 have aQ:gV ps []:=⟨List.Pairwise.nil,fun s L=>by cases L⟩
 unfold jP;cases iq ps==0 with
 |true=>exact(aQ.rounds (n:=n) (k:=ps.length)).mM
 |false=>exact List.Pairwise.nil
end Go.Proofs
namespace Go.Proofs
open Go.Shelf
def Tryz.RY:Go.Shelf.Ren:=⟨fun|190=>59|125=>103|258=>102|128=>173|129=>174|302=>164|303=>165|304=>166|305=>167|306=>168|307=>169|308=>170|309=>171|310=>172|333=>216|329=>217|330=>218|334=>219|335=>220|336=>175|344=>255|n=>n,fun|31=>38|9=>9|3=>3|46=>131|0=>0|51=>189|53=>191|4=>4|183=>182|182=>181|131=>92|5=>5|218=>216|222=>220|228=>245|229=>246|n=>n,fun|n=>n⟩
theorem Tryz.I':Go.Proofs.Lays.n190 ao Tryz.RY:={
 mixed:=by kernel_rfl
 f125:=Tryz.func103.trans (congrArg some (by kernel_rfl))
 f128:=Tryz.func173.trans (congrArg some (by kernel_rfl))
 f129:=Tryz.func174.trans (congrArg some (by kernel_rfl))
 f190:=Tryz.func59.trans (congrArg some (by kernel_rfl))
 f258:=Tryz.func102.trans (congrArg some (by kernel_rfl))
 f302:=Tryz.func164.trans (congrArg some (by kernel_rfl))
 f303:=Tryz.func165.trans (congrArg some (by kernel_rfl))
 f304:=Tryz.func166.trans (congrArg some (by kernel_rfl))
 f305:=Tryz.func167.trans (congrArg some (by kernel_rfl))
 f306:=Tryz.func168.trans (congrArg some (by kernel_rfl))
 f307:=Tryz.func169.trans (congrArg some (by kernel_rfl))
 f308:=Tryz.func170.trans (congrArg some (by kernel_rfl))
 f309:=Tryz.func171.trans (congrArg some (by kernel_rfl))
 f310:=Tryz.func172.trans (congrArg some (by kernel_rfl))
 f329:=Tryz.func217.trans (congrArg some (by kernel_rfl))
 f330:=Tryz.func218.trans (congrArg some (by kernel_rfl))
 f333:=Tryz.func216.trans (congrArg some (by kernel_rfl))
 f334:=Tryz.func219.trans (congrArg some (by kernel_rfl))
 f335:=Tryz.func220.trans (congrArg some (by kernel_rfl))
 f336:=Tryz.func175.trans (congrArg some (by kernel_rfl))
 f344:=Tryz.func255.trans (congrArg some (by kernel_rfl))
 t0:=Tryz.underlying0
 a0:=Tryz.isAgg0
 z0:=Tryz.sizeOf0
 v0:=Tryz.zeroValue0
 t3:=Tryz.underlying3
 a3:=Tryz.isAgg3
 z3:=Tryz.sizeOf3
 v3:=Tryz.zeroValue3
 t4:=Tryz.underlying4
 a4:=Tryz.isAgg4
 z4:=Tryz.sizeOf4
 v4:=Tryz.zeroValue4
 t5:=Tryz.underlying5
 a5:=Tryz.isAgg5
 z5:=Tryz.sizeOf5
 v5:=Tryz.zeroValue5
 t9:=Tryz.underlying9
 a9:=Tryz.isAgg9
 z9:=Tryz.sizeOf9
 v9:=Tryz.zeroValue9
 t31:=Tryz.underlying38
 a31:=Tryz.isAgg38
 z31:=Tryz.sizeOf38
 v31:=Tryz.zeroValue38
 t46:=Tryz.underlying131
 a46:=Tryz.isAgg131
 z46:=Tryz.sizeOf131
 v46:=Tryz.zeroValue131
 t51:=Tryz.underlying189
 a51:=Tryz.isAgg189
 z51:=Tryz.sizeOf189
 v51:=Tryz.zeroValue189
 t53:=Tryz.underlying191
 a53:=Tryz.isAgg191
 z53:=Tryz.sizeOf191
 v53:=Tryz.zeroValue191
 t131:=Tryz.underlying92
 a131:=Tryz.isAgg92
 z131:=Tryz.sizeOf92
 v131:=Tryz.zeroValue92
 t182:=Tryz.underlying181
 a182:=Tryz.isAgg181
 z182:=Tryz.sizeOf181
 v182:=Tryz.zeroValue181
 t183:=Tryz.underlying182
 a183:=Tryz.isAgg182
 z183:=Tryz.sizeOf182
 v183:=Tryz.zeroValue182
 t218:=Tryz.underlying216
 a218:=Tryz.isAgg216
 z218:=Tryz.sizeOf216
 v218:=Tryz.zeroValue216
 t222:=Tryz.underlying220
 a222:=Tryz.isAgg220
 z222:=Tryz.sizeOf220
 v222:=Tryz.zeroValue220
 t228:=Tryz.underlying245
 a228:=Tryz.isAgg245
 z228:=Tryz.sizeOf245
 v228:=Tryz.zeroValue245
 t229:=Tryz.underlying246
 a229:=Tryz.isAgg246
 z229:=Tryz.sizeOf246
 v229:=Tryz.zeroValue246}
open Go.Sort Go.RowKit in
theorem Tryz.slices_Sort_string(aZ off cap:Nat)(aL:List (List UInt8))(w:World)(Fy:Holds encStr w aZ off aL.toArray)(fv:aZ<w.heap.size)(eJ:aL.length<4611686018427387904):
  Calls ao 59 #[.slice (some ⟨aZ,off,none⟩) aL.length cap] w fun e w'=>
   e=.returned (.tuple #[])/\∃n os,w'=grow (putRow encStr (Sort.ahead w n) aZ off (aL.mergeSort fun x y=>decide (x<=y)).toArray) os:=Any.slices_Sort_string Tryz.I' aZ off cap aL w Fy fv eJ
open Go.RowKit Go.Sort in
theorem Tryz.slices_Sort_string_none(p:Option Addr)(cap:Nat)(w:World):
  Calls ao 59 #[.slice p 0 cap] w fun e w'=>e=.returned (.tuple #[])/\w'=w:=Any.slices_Sort_string_none Tryz.I' p cap w
end Go.Proofs
namespace Go.Proofs
open Go.Jk
noncomputable def Mw:bp:=AJ
theorem Z7:bu ao 59 Mw:=WJ (fun _ _=>enters_of Tryz.func59 (by kernel_rfl) rfl _ _) (fun b D c aL w h1 h2 Y=>Tryz.slices_Sort_string b D c aL w h1 h2 Y) (fun p c w=>Tryz.slices_Sort_string_none p c w)
noncomputable abbrev aeB:cb:=[(58,Pb),(59,Mw)]
theorem uX:bG ao (b9 aV aeB):=b8 ⟨abI,Z7,⟨⟩⟩
abbrev vz:Shape:=⟨[bc 1,b3 7 3000448,dK 9 9 0,aW 28 .pack,aj 29,aj 30,aW 35 .need,aj 36,aj 37],[(3000448,.ef,.slot 7 0),dJ 9 [bY,bY,fE .need,fE .entry]],99⟩
abbrev z_:List bh:=[(.exit 2,⟨[bc 1,b3 7 3000448,aW 28 .pack,aj 29,aj 30],[(3000448,.ef,.slot 7 0)],99⟩)]
noncomputable def An(y:vz.F):cq vz z_:=
 bif(decide (y.1.2.2.2.2.2.2.2.2.1<y.1.2.2.2.2.2.2.2.1)) then
(bf y.1.2.2.2.2.2.2.1 y.1.2.2.2.2.2.2.2.2.1).bind fun a=>
(o4 y.2.1 a.name).bind fun b=>
(dc 16 b.2 ([y.2.2.1.1]:List G)).bind fun c=>
 some (.inl ((y.1.1,(),(),y.1.2.2.2.1,y.1.2.2.2.2.1,y.1.2.2.2.2.2.1,y.1.2.2.2.2.2.2.1,y.1.2.2.2.2.2.2.2.1,(IntKind.i64.wrap (y.1.2.2.2.2.2.2.2.2.1+(1:Int))),()),(cT b.1 a.name (some c)),(y.2.2.1.1,y.2.2.1.2.1,y.2.2.1.2.2.1,y.2.2.1.2.2.2.1,()),()))
else
 some (.inr ((y.1.1,(),y.1.2.2.2.1,y.1.2.2.2.2.1,y.1.2.2.2.2.2.1,()),y.2.1,()))
noncomputable def vG:vz.F->Option (a7 z_):=bH An
theorem T8:bx ao (aU (eH (aU (codeOf Tryz.f23) 1 122)) 244 31334) (bK vz z_ vG):=cG uX (by kernel_rfl) aH fun y=>by kernel_rfl
abbrev wv:Shape:=⟨[bc 1,b3 7 3000448,aW 28 .pack,aj 29,aj 30],[(3000448,.ef,.slot 7 0)],99⟩
abbrev Bn:List bh:=[(.exit 0,⟨[bc 1,b3 7 3000448],[(3000448,.ef,.slot 7 0)],99⟩)]
noncomputable def B8(y:wv.F):cq wv Bn:=
 bif(decide (y.1.2.2.2.2.1<y.1.2.2.2.1)) then
(bf y.1.2.2.1 y.1.2.2.2.2.1).bind fun a=>
(vG ((y.1.1,(),(),y.1.2.2.1,y.1.2.2.2.1,y.1.2.2.2.2.1,a.bZ,(a.bZ.length:Int),(0:Int),()),y.2.1,(a.name,a.b_,a.bZ,a.cE,()),())).bind fun b=>
 some (.inl ((b.1.1,(),b.1.2.2.1,b.1.2.2.2.1,(IntKind.i64.wrap (b.1.2.2.2.2.1+(1:Int))),()),b.2.1,()))
else
 some (.inr ((y.1.1,(),()),y.2.1,()))
noncomputable def wS:wv.F->Option (a7 Bn):=bH B8
theorem WX:bx ao (aU (codeOf Tryz.f23) 1 122) (bK wv Bn wS):=cG uX (by kernel_rfl) (bR T8 aH) fun y=>by kernel_rfl
abbrev vo:Shape:=⟨[(7,.ak (.d (.map .strs))),b3 12 3000768,b3 13 3000832,b3 14 3000896,aW 69 .str,aj 70,aj 71],[(3000768,.map .i64,.slot 12 0),(3000832,.tail .str,.slot 13 0),cL 3000896 .str 14 0],99⟩
abbrev zS:List bh:=[(.exit 6,⟨[(7,.ak (.d (.map .strs))),b3 12 3000768,b3 13 3000832,b3 14 3000896],[(3000768,.map .i64,.slot 12 0),(3000832,.tail .str,.slot 13 0),cL 3000896 .str 14 0],99⟩)]
noncomputable def vt(y:vo.F):cq vo zS:=
 bif(decide (y.1.2.2.2.2.2.2.1<y.1.2.2.2.2.2.1)) then
(bf y.1.2.2.2.2.1 y.1.2.2.2.2.2.2.1).bind fun a=>
 bif(!((dm y.2.1 a).isSome)) then
(dc 16 y.2.2.1 ([a]:List G)).bind fun b=>
(dc 16 y.2.2.2.1 ([a]:List G)).bind fun c=>
 some (.inl ((y.1.1,(),(),(),y.1.2.2.2.2.1,y.1.2.2.2.2.2.1,(IntKind.i64.wrap (y.1.2.2.2.2.2.2.1+(1:Int))),()),(cT y.2.1 a (y.2.1.length:Int)),b,c,()))
else
 some (.inl ((y.1.1,(),(),(),y.1.2.2.2.2.1,y.1.2.2.2.2.2.1,(IntKind.i64.wrap (y.1.2.2.2.2.2.2.1+(1:Int))),()),y.2.1,y.2.2.1,y.2.2.2.1,()))
else
 some (.inr ((y.1.1,(),(),(),()),y.2.1,y.2.2.1,y.2.2.2.1,()))
noncomputable def vq:vo.F->Option (a7 zS):=bH vt
theorem SA:bx ao (aU (eH (aU (codeOf Tryz.f23) 1 1020)) 2040 130606) (bK vo zS vq):=cG uX (by kernel_rfl) aH fun y=>by kernel_rfl
abbrev vS:Shape:=⟨[(7,.ak (.d (.map .strs))),b3 12 3000768,b3 13 3000832,b3 14 3000896],[(3000768,.map .i64,.slot 12 0),(3000832,.tail .str,.slot 13 0),cL 3000896 .str 14 0],99⟩
abbrev AE:List bh:=[(.exit 4,⟨[b3 14 3000896],[cL 3000896 .str 14 0],99⟩)]
noncomputable def A6(y:vS.F):cq vS AE:=
 bif(decide ((y.2.2.1.length:Int)>(0:Int))) then
(e0 y.2.2.1.length (0:Int)).bind fun a=>
(y.2.2.1[a]?).bind fun b=>
(cO y.2.2.1 (1:Int) (y.2.2.1.length:Int)).bind fun c=>
(vq ((y.1.1,(),(),(),((dm y.1.1 b).getD ([]:List G)),(((dm y.1.1 b).getD ([]:List G)).length:Int),(0:Int),()),y.2.1,c,y.2.2.2.1,())).bind fun d=>
 some (.inl ((d.1.1,(),(),(),()),d.2.1,d.2.2.1,d.2.2.2.1,()))
else
 some (.inr (((),()),y.2.2.2.1,()))
noncomputable def sP:vS.F->Option (a7 AE):=bH A6
theorem VD:bx ao (aU (codeOf Tryz.f23) 1 1020) (bK vS AE sP):=cG uX (by kernel_rfl) (bR SA aH) fun y=>by kernel_rfl
abbrev i23:Shape:=⟨[aW 0 .pack,bc 1],[],99⟩
abbrev N7:Shape:=⟨[b3 4 3000256],[cL 3000256 .str 4 0],99⟩
noncomputable def f23(a:i23.F):Option N7.F:=
(f58 ((a.1.1,()),())).bind fun b=>
 bif(b.1.2.1 !=(0:Int)) then
 some (((),()),([]:List G),())
else
(wS ((a.1.2.1,(),a.1.1,(a.1.1.length:Int),(0:Int),()),([]:List (G×Option (List G))),())).bind fun c=>
((((nl c.2.1).bind fun q=>some (q,(),(),(),())).bind fun z=>some (z,(cT ([]:List (G×Int)) c.1.1 (0:Int)),([c.1.1]:List G),([]:List G),())).bind sP).bind fun d=>
(qH d.2.1).bind fun e=>
 some (((),()),(gP d.2.1),())
noncomputable def Po:bp:=bN aV Tryz.f23 i23 N7 [] f23
theorem abQ:bu ao 23 Po:=bP uX Tryz.func23 (by kernel_rfl) (bR WX (bR VD aH)) (fun y=>by kernel_rfl) fun a=>by kernel_rfl
def jv(m:List (G×List G)):List (G×Option (List G)):=m.map fun p=>(p.1,some p.2)
def fU(m:List (G×List G))(k:G):List G:=(dm m k).getD []
def tZ(m:List (G×List G))(k s:G):List (G×List G):=cT m k (fU m k++[s])
theorem XF{aA:Type}(m:List (G×aA))(k:G)(v:aA)(k':G):dm (cT m k v) k'=bif k==k' then some v else dm m k':=by
 induction m with
 |nil=>rfl
 |cons p m ih=>
  obtain⟨a,w⟩:=p;simp only[cT];cases h:a==k with
  |true=>
   have:=eq_of_beq h;subst this;simp only[cond_true,dm];cases a==k'<;>rfl
  |false=>
   simp only[cond_false,dm,ih];cases h1:a==k' with
   |false=>rfl
   |true=>
    have:=eq_of_beq h1;subst this;have:(k==a)=false:=by
     cases h2:k==a with
     |false=>rfl
     |true=>rw[eq_of_beq h2] at h;simp at h
    simp[this]
theorem XG(m:List (G×List G))(k:G):dm (jv m) k=(dm m k).map some:=by
 induction m with
 |nil=>rfl
 |cons p m ih=>
  simp only[jv,List.map_cons,dm];cases p.1==k with
  |true=>rfl
  |false=>exact ih
theorem Xj{aA:Type}(m:List (G×aA))(k:G)(v w:aA):cT (cT m k v) k w=cT m k w:=by
 induction m with
 |nil=>simp[cT]
 |cons p m ih=>
  simp only[cT];cases h:p.1==k with
  |true=>simp only[cond_true,cT,h]
  |false=>simp only[cond_false,cT,h,ih]
theorem IW(m:List (G×List G))(k:G)(v:List G):cT (jv m) k (some v)=jv (cT m k v):=GL some k v m
theorem Vb(m:List (G×List G))(k:G):∃e,o4 (jv m) k=some (e,fU m k)/\∀v,cT e k (some v)=jv (cT m k v):=by
 unfold o4 fU;rw[XG];cases dm m k with
 |none=>exact⟨jv m,rfl,IW m k⟩
 |some xs=>exact⟨cT (jv m) k none,rfl,fun v=>by rw[Xj,IW]⟩
theorem UU(m:List (G×List G)):nl (jv m)=some m:=by
 induction m with
 |nil=>rfl
 |cons p m ih=>
  have ih:nl (m.map fun p=>(p.1,some p.2))=some m:=ih
  simp only[jv,List.map_cons,nl,ih]
def k1(s:G):List (G×List G)->List dE->List (G×List G)
 |m,[]=>m
 |m,d::r=>k1 s (tZ m d.name s) r
def mv:List (G×List G)->List a'->List (G×List G)
 |m,[]=>m
 |m,p::r=>mv (k1 p.name m p.bZ) r
def lJ(m:List (G×List G))(T:Nat):Prop:=∀k,(fU m k).length<=T
theorem HI(m:List (G×List G))(k s k':G):fU (tZ m k s) k'=bif k==k' then fU m k++[s] else fU m k':=by
 unfold tZ;show(dm (cT m k _) k').getD []=_;rw[XF];cases k==k'<;>rfl
theorem lJ.add{m:List (G×List G)}{T:Nat}(h:lJ m T)(k s:G):lJ (tZ m k s) (T+1):=by
 intro k';rw[HI];have h1:=h k;have h2:=h k';cases k==k' with
 |true=>simp only[cond_true,List.length_append,List.length_singleton];omega
 |false=>simp only[cond_false];omega
theorem lJ.k1{s:G}:∀{r:List dE} {m:List (G×List G)} {T:Nat},lJ m T->lJ (k1 s m r) (T+r.length):=by
 intro r;induction r with
 |nil=>intro m T h;exact h
 |cons d r ih=>
  intro m T h;have:=ih (h.add d.name s);simp only[List.length_cons];rw[show T+(r.length+1)=T+1+r.length from by omega]
  exact this
theorem V1{s:G}:∀{r:List dE} {m:List (G×List G)} (k x:G),x∈fU (k1 s m r) k <-> x∈fU m k\/(x=s/\∃d,d∈r/\d.name=k):=by
 intro r;induction r with
 |nil=>intro m k x;simp[Go.Proofs.k1]
 |cons d r ih=>
  intro m k x;simp only[Go.Proofs.k1];rw[ih,HI];cases h:d.name==k with
  |true=>
   have:=eq_of_beq h;subst this;simp only[cond_true,List.mem_append,List.mem_singleton];constructor
   ·rintro((h|h)|⟨h1,sq,h2,Y⟩)
    ·exact .inl h
    ·exact .inr ⟨h,d,List.mem_cons_self,rfl⟩
    ·exact .inr ⟨h1,sq,List.mem_cons_of_mem _ h2,Y⟩
   ·rintro(h|⟨h1,_⟩)
    ·exact .inl (.inl h)
    ·exact .inl (.inr h1)
  |false=>
   simp only[cond_false];refine or_congr Iff.rfl (and_congr Iff.rfl ⟨fun⟨sq,h1,h2⟩=>⟨sq,List.mem_cons_of_mem _ h1,h2⟩,fun⟨sq,h1,h2⟩=>?_⟩)
   rcases List.mem_cons.1 h1 with rfl|h1
   ·rw[h2] at h;simp at h
   ·exact⟨sq,h1,h2⟩
theorem V0:∀{r:List a'} {m:List (G×List G)} (k x:G),x∈fU (mv m r) k <-> x∈fU m k\/∃p,p∈r/\x=p.name/\∃d,d∈p.bZ/\d.name=k:=by
 intro r;induction r with
 |nil=>intro m k x;simp[mv]
 |cons p r ih=>
  intro m k x;simp only[mv];rw[ih,V1,or_assoc];refine or_congr Iff.rfl ⟨?_,?_⟩
  ·rintro(⟨h1,h2⟩|⟨q,h1,h2⟩)
   ·exact⟨p,List.mem_cons_self,h1,h2⟩
   ·exact⟨q,List.mem_cons_of_mem _ h1,h2⟩
  ·rintro⟨q,h1,h2⟩;rcases List.mem_cons.1 h1 with rfl|h1
   ·exact .inl h2
   ·exact .inr ⟨q,h1,h2⟩
theorem X5{aA:Type}{xs ys:List aA}(h:xs.length+ys.length<=8796093022208):dc 16 xs ys=some (xs++ys):=by
 unfold dc;rw[if_pos ⟨by unfold room;omega,by unfold maxLen;omega⟩]
theorem HH{i:Nat}(h:i<=8796093022208):IntKind.i64.wrap ((i:Int)+1)=((i+1:Nat):Int):=by
 rw[fr (by omega) (by omega)];omega
theorem Yf(ps:List a')(n:G)(p:a')(c:Nat)(hn:p.bZ.length<=2097152):∀(r:List dE) (i:Nat) (m:List (G×List G)) (T:Nat),p.bZ.drop i=r->i<=p.bZ.length->lJ m T->T+r.length<=8796093022207->
  vG ((n,((),((),(ps,((ps.length:Int),((c:Int),(p.bZ,((p.bZ.length:Int),((i:Int),()))))))))),(jv m,((p.name,(p.b_,(p.bZ,(p.cE,())))),())))=
   some ((n,((),(ps,((ps.length:Int),((c:Int),()))))),(jv (k1 p.name m r),())):=by
 intro r;induction r with
 |nil=>
  intro i m T hr af dj aS;have:=drop_nil hr;have d1:decide ((i:Int)<(p.bZ.length:Int))=false:=by simp only[decide_eq_false_iff_not];omega
  refine fH ?_
  simp only[An,d1,cond_false,k1]
 |cons d r ih=>
  intro i m T hr af dj aS;obtain⟨bI,bB,cC⟩:=drop_cons hr;have hw:aN i:=by unfold aN;omega
  simp only[List.length_cons] at aS;obtain⟨e,h1,h2⟩:=Vb m d.name;have Y:dc 16 (fU m d.name) [p.name]=some (fU m d.name++[p.name]):=X5 (by have:=dj d.name;simp only[List.length_singleton];omega)
  refine(gN ?_).trans (ih (i+1) (tZ m d.name p.name) (T+1) bB cC (dj.add _ _) (by omega))
  simp only[An,cU cC,cond_true,cI,bI,Option.bind_some,h1,Y,h2,cH hw];rfl
theorem Ye(ps:List a')(n:G)(hb:k3 ps)(hl:ps.length<=2000000):∀(r:List a') (i:Nat) (m:List (G×List G)),ps.drop i=r->i<=ps.length->lJ m (i*2097152)->
  wS ((n,((),(ps,((ps.length:Int),((i:Int),()))))),(jv m,()))=some ((n,((),())),(jv (mv m r),()))/\lJ (mv m r) (ps.length*2097152):=by
 intro r;induction r with
 |nil=>
  intro i m hr af dj;have:=drop_nil hr;have d1:decide ((i:Int)<(ps.length:Int))=false:=by simp only[decide_eq_false_iff_not];omega
  have la:i=ps.length:=by omega
  refine⟨fH ?_,by rw[<-la];exact dj⟩
  simp only[B8,d1,cond_false,mv]
 |cons p r ih=>
  intro i m hr af dj;obtain⟨bI,bB,cC⟩:=drop_cons hr;have hw:aN i:=by unfold aN;omega
  have EN:p.bZ.length<=2097152:=(hb.2 p (List.mem_of_getElem? bI)).2.2.1.1;have la:i<2000000:=by omega
  have e1:=Yf ps n p i EN p.bZ 0 m (i*2097152) rfl (Nat.zero_le _) dj (by omega)
  have e1:vG ((n,((),((),(ps,((ps.length:Int),((i:Int),(p.bZ,((p.bZ.length:Int),((0:Int),()))))))))),(jv m,((p.name,(p.b_,(p.bZ,(p.cE,())))),())))=_:=e1;have zk:lJ (k1 p.name m p.bZ) ((i+1)*2097152):=fun k=>Nat.le_trans (dj.k1 (r:=p.bZ) k) (by omega)
  obtain⟨ay,ai⟩:=ih (i+1) (k1 p.name m p.bZ) bB cC zk;refine⟨(gN ?_).trans ay,ai⟩;simp only[B8,cU cC,cond_true,cI,bI,Option.bind_some,e1,cH hw]
theorem V'(es:List (G×Int))(x:G):(dm es x).isSome=(hV es).contains x:=by
 induction es with
 |nil=>rfl
 |cons p es ih=>
  simp only[dm,hV,List.map_cons,List.contains_cons];have hc:(x==p.1)=(p.1==x):=by
   rw[Bool.eq_iff_iff,beq_iff_eq,beq_iff_eq];exact eq_comm
  rw[hc];cases p.1==x with
  |true=>rfl
  |false=>simp only[cond_false,Bool.false_or];exact ih
def kg(n:G):List G->List G->List G
 |N,[]=>N
 |N,x::r=>kg n (bif(n::N).contains x then N else N++[x]) r
structure mN(ps:List a')(n:G)(N:List G):Prop where
 Ep:(n::N).Nodup
 of:∀s,s∈N->s∈ps.map (·.name)
 sj:∀s,s∈N->jF ps n s
theorem mN.len{ps:List a'}{n:G}{N:List G}(h:mN ps n N):N.length<=ps.length:=by
 have:=sN N _ (List.nodup_cons.1 h.Ep).2 h.of;simpa using this
theorem mN.add{ps:List a'}{n:G}{N:List G}(h:mN ps n N){x:G}(hx:x≠n->jF ps n x/\x∈ps.map (·.name)):mN ps n (bif(n::N).contains x then N else N++[x]):=by
 cases hc:(n::N).contains x with
 |true=>exact h
 |false=>
  have lQ:x∉n::N:=by simpa using hc
  have Oi:x≠n:=fun e=>lQ (by rw[e];exact List.mem_cons_self)
  have EB:x∉N:=fun e=>lQ (List.mem_cons_of_mem _ e)
  obtain⟨h1,h2⟩:=hx Oi;obtain⟨b1,cM⟩:=List.nodup_cons.1 h.Ep;refine⟨List.nodup_cons.2 ⟨fun hm=>?_,?_⟩,fun s L=>?_,fun s L=>?_⟩
  ·rcases List.mem_append.1 hm with hm|hm
   ·exact b1 hm
   ·exact Oi (List.mem_singleton.1 hm).symm
  ·refine List.nodup_append.2 ⟨cM,by simp,fun a bo b hb e=>?_⟩
   rw[List.mem_singleton.1 hb] at e;exact EB (e▸bo)
  ·rcases List.mem_append.1 L with L|L
   ·exact h.of s L
   ·rw[List.mem_singleton.1 L];exact h2
  ·rcases List.mem_append.1 L with L|L
   ·exact h.sj s L
   ·rw[List.mem_singleton.1 L];exact h1
theorem V_(n:G):∀(r N:List G),(∃t,kg n N r=N++t)/\∀x,x∈r->x∈n::kg n N r:=by
 intro r;induction r with
 |nil=>intro N;exact⟨⟨[],by simp[kg]⟩,fun x h=>by cases h⟩
 |cons y r ih=>
  intro N;simp only[kg];cases hc:(n::N).contains y with
  |true=>
   obtain⟨⟨t,h1⟩,h2⟩:=ih N;refine⟨⟨t,h1⟩,fun x hx=>?_⟩
   rcases List.mem_cons.1 hx with rfl|hx
   ·have:x∈n::N:=by simpa using hc
    simp only[cond_true,h1];rcases List.mem_cons.1 this with rfl|h
    ·exact List.mem_cons_self
    ·exact List.mem_cons_of_mem _ (List.mem_append.2 (.inl h))
   ·exact h2 x hx
  |false=>
   obtain⟨⟨t,h1⟩,h2⟩:=ih (N++[y]);simp only[cond_false];refine⟨⟨y::t,by rw[h1];simp⟩,fun x hx=>?_⟩
   rcases List.mem_cons.1 hx with rfl|hx
   ·rw[h1];simp
   ·exact h2 x hx
theorem WB(ps:List a')(n:G)(hl:ps.length<=2000000)(m:List (G×List G))(xs:List G)(mC:xs.length<=8796093022207)(fi:∀x,x∈xs->x≠n->jF ps n x/\x∈ps.map (·.name))(k:Nat):∀(r:List G) (i:Nat) (es:List (G×Int)) (N:List G),
  xs.drop i=r->i<=xs.length->mN ps n N->hV es=n::N->k<=N.length+1->
  ∃g',hV g'=n::kg n N r/\mN ps n (kg n N r)/\vq ((m,((),((),((),(xs,((xs.length:Int),((i:Int),()))))))),(es,((n::N).drop k,(N,()))))=
   some ((m,((),((),((),())))),(g',((n::kg n N r).drop k,(kg n N r,())))):=by
 intro r;induction r with
 |nil=>
  intro i es N hr af e8 ah h4;have:=drop_nil hr;have d1:decide ((i:Int)<(xs.length:Int))=false:=by simp only[decide_eq_false_iff_not];omega
  refine⟨es,ah,e8,fH ?_⟩;simp only[vt,d1,cond_false,kg]
 |cons x r ih=>
  intro i es N hr af e8 ah h4;obtain⟨bI,bB,cC⟩:=drop_cons hr;have Ez:=List.mem_of_getElem? bI;have E0:=e8.add (fi x Ez);have hlen:=e8.len;have jR:=V' es x;rw[ah] at jR;simp only[kg];cases hc:(n::N).contains x with
  |true=>
   rw[hc] at jR;simp only[cond_true];obtain⟨g',q1,q2,db⟩:=ih (i+1) es N bB cC e8 ah h4;refine⟨g',q1,q2,(gN ?_).trans db⟩;simp only[vt,cU cC,cond_true,cI,bI,Option.bind_some,jR,Bool.not_true,cond_false,HH (show i<=8796093022208 by omega)]
  |false=>
   rw[hc] at jR E0;simp only[cond_false] at E0 ⊢;have DK:hV (cT es x (es.length:Int))=n::(N++[x]):=by
    rw[zU x _ es (by rw[ah];exact hc)]
    simp only[hV,List.map_append,List.map_cons,List.map_nil];have:es.map (·.1)=n::N:=ah;rw[this];rfl
   obtain⟨g',q1,q2,db⟩:=ih (i+1) (cT es x (es.length:Int)) (N++[x]) bB cC E0 DK (by simp only[List.length_append,List.length_singleton];omega)
   have afk:(n::(N++[x])).drop k=(n::N).drop k++[x]:=by
    rw[show n::(N++[x])=(n::N)++[x] from rfl,List.drop_append_of_le_length (by simp only[List.length_cons];omega)]
   rw[afk] at db;have a1:dc 16 ((n::N).drop k) [x]=some ((n::N).drop k++[x]):=jM (by decide) (by unfold aN;simp only[List.length_drop,List.length_cons,List.length_nil];omega)
   have a2:dc 16 N [x]=some (N++[x]):=jM (by decide) (by unfold aN;simp only[List.length_singleton];omega)
   refine⟨g',q1,q2,(gN ?_).trans db⟩;simp only[vt,cU cC,cond_true,cI,bI,Option.bind_some,jR,Bool.not_false,a1,a2,HH (show i<=8796093022208 by omega)]
theorem Zi(ps:List a')(n:G)(hl:ps.length<=2000000)(m:List (G×List G))(hm:∀k s,s∈fU m k <-> ∃p,p∈ps/\s=p.name/\∃d,d∈p.bZ/\d.name=k)(dj:lJ m (ps.length*2097152)):∀(w k:Nat) (es:List (G×Int)) (N:List G),
  k+w=ps.length+1->mN ps n N->hV es=n::N->k<=N.length+1->(∀x,x∈(n::N).take k->∀s,s∈fU m x->s∈n::N)->
  ∃sr,mN ps n sr/\(∀x,x∈n::sr->∀s,s∈fU m x->s∈n::sr)/\sP ((m,((),((),((),())))),(es,((n::N).drop k,(N,()))))=some (((),()),(sr,())):=by
 have stop:∀(es:List (G×Int)) (N:List G),sP ((m,((),((),((),())))),(es,(([]:List G),(N,()))))=some (((),()),(N,())):=by
  intro es N;refine fH ?_
  have:decide ((([]:List G).length:Int)>(0:Int))=false:=by simp
  simp only[A6,this,cond_false]
 intro w;induction w with
 |zero=>
  intro k es N ac6 e8 ah h4 q';have:=e8.len;have e:(n::N).drop k=[]:=List.drop_eq_nil_of_le (by simp only[List.length_cons];omega)
  have e2:(n::N).take k=n::N:=List.take_of_length_le (by simp only[List.length_cons];omega)
  rw[e2] at q';rw[e];exact⟨N,e8,q',stop es N⟩
 |succ w ih=>
  intro k es N ac6 e8 ah h4 q';cases U:(n::N).drop k with
  |nil=>
   have c3:(n::N).length<=k:=List.drop_eq_nil_iff.1 U;rw[List.take_of_length_le c3] at q';exact⟨N,e8,q',stop es N⟩
  |cons x rest=>
   have hx:(n::N)[k]? =some x:=by
    have:=congrArg List.head? U;rw[List.head?_drop] at this;exact this
   have kW:(n::N).drop (k+1)=rest:=by
    rw[<-List.drop_drop,U];rfl
   have aal:k<(n::N).length:=c8 hx;simp only[List.length_cons] at aal;have Ez:x∈n::N:=List.mem_of_getElem? hx;have acM:∀s,s∈fU m x->s≠n->jF ps n s/\s∈ps.map (·.name):=by
    intro s L Oo;obtain⟨p,am,rfl,d,h8,mJ⟩:=(hm x s).1 L;refine⟨?_,List.mem_map.2 ⟨p,am,rfl⟩⟩;rcases List.mem_cons.1 Ez with rfl|EB
    ·exact .mk p am Oo d h8 mJ
    ·exact .zo p am Oo d h8 (by rw[mJ];exact e8.sj x EB)
   have lR:(fU m x).length<=8796093022207:=Nat.le_trans (dj x) (by omega)
   obtain⟨g',q1,q2,db⟩:=WB ps n hl m (fU m x) lR acM (k+1) (fU m x) 0 es N rfl (Nat.zero_le _) e8 ah (by omega)
   obtain⟨⟨t,aC⟩,nK⟩:=V_ n (fU m x) N;obtain⟨sr,dO,de,h'⟩:=ih (k+1) g' (kg n N (fU m x)) (by omega) q2 q1 (by rw[aC];simp only[List.length_append];omega) (fun y aq s L=>by
    have adO:(n::kg n N (fU m x)).take (k+1)=(n::N).take k++[x]:=by
     rw[aC,show n::(N++t)=(n::N)++t from rfl,List.take_append_of_le_length (by simp only[List.length_cons];omega),List.take_add_one,hx]
     rfl
    rw[adO] at aq;rcases List.mem_append.1 aq with aq|aq
    ·have:=q' y aq s L;rw[aC];rcases List.mem_cons.1 this with rfl|h
     ·exact List.mem_cons_self
     ·exact List.mem_cons_of_mem _ (List.mem_append.2 (.inl h))
    ·rw[List.mem_singleton.1 aq] at L;exact nK s L)
   refine⟨sr,dO,de,(gN ?_).trans h'⟩;rw[kW] at db;have db:vq ((m,((),((),((),((dm m x).getD ([]:List G),((((dm m x).getD ([]:List G)).length:Int),((0:Int),()))))))),(es,(rest,(N,()))))=_:=db;have d0:decide ((((x::rest).length:Nat):Int)>(0:Int))=true:=by simp only[List.length_cons,decide_eq_true_eq];omega
   have d1:e0 (x::rest).length (0:Int)=some 0:=mc (i:=0) (by simp)
   have d2:cO (x::rest) (1:Int) ((x::rest).length:Int)=some rest:=by
    have:=Ad (xs:=x::rest) (a:=1) (by simp)
    exact this
   simp only[A6,d0,cond_true,d1,Option.bind_some,List.getElem?_cons_zero,d2,db]
theorem Z1:∀a b:G,Op.bytesLess a b=true <-> a<b:=by
 intro a;induction a with
 |nil=>
  intro b;cases b with
  |nil=>simp[Op.bytesLess]
  |cons y b=>simp[Op.bytesLess]
 |cons x a ih=>
  intro b;cases b with
  |nil=>simp[Op.bytesLess]
  |cons y b=>
   simp only[Op.bytesLess,Bool.or_eq_true,decide_eq_true_eq,Bool.and_eq_true,beq_iff_eq,List.cons_lt_cons_iff,ih]
theorem TS{l:List G}(h:l.Nodup):px (gP l)/\∀x,x∈gP l <-> x∈l:=by
 have am:(gP l).Perm l:=List.mergeSort_perm l _;have L:(gP l).Pairwise fun x y=>decide (x<=y)=true:=List.pairwise_mergeSort (le:=fun x y:G=>decide (x<=y))
  (fun a b c h1 h2=>by simp only[decide_eq_true_eq] at*;exact List.le_trans h1 h2) (fun a b=>by simp only[Bool.or_eq_true,decide_eq_true_eq];exact List.le_total a b) l
 refine⟨?_,fun x=>am.mem_iff⟩
 have hn:(gP l).Pairwise fun x y=>x≠y:=am.nodup_iff.2 h
 refine(L.and hn).imp ?_
 rintro a b ⟨h1,h2⟩;simp only[decide_eq_true_eq] at h1;refine J8 b a ?_ (by simpa using fun e:b=a=>h2 e.symm)
 cases hb:Op.bytesLess b a with
 |false=>rfl
 |true=>exact absurd ((Z1 b a).1 hb) (List.not_lt.2 h1)
theorem Sf(a)(hb:k3 a.1.1)(hl:a.1.1.length<=2000000):f23 a=some (((),()),((jP a.1.1 a.1.2.1,()))):=by
 obtain⟨⟨ps,n,u⟩,bW⟩:=a;have hl:ps.length<=2000000:=hl;have hg:=Ru ((ps,()),()) hb;obtain⟨e1,dj⟩:=Ye ps n hb hl ps 0 [] rfl (Nat.zero_le _) (fun k=>Nat.zero_le _)
 have e1:wS ((n,((),(ps,((ps.length:Int),((0:Int),()))))),(([]:List (G×Option (List G))),()))=_:=e1;have hm:∀k s,s∈fU (mv [] ps) k <-> ∃p,p∈ps/\s=p.name/\∃d,d∈p.bZ/\d.name=k:=fun k s=>by
  rw[V0];exact⟨fun h=>h.elim (fun h=>by cases h) id,.inr⟩
 have adD:mN ps n []:=⟨by simp,(fun s L=>by cases L),(fun s L=>by cases L)⟩
 obtain⟨N,q1,q2,db⟩:=Zi ps n hl (mv [] ps) hm dj (ps.length+1) 0 (cT ([]:List (G×Int)) n (0:Int)) [] (by omega) adD rfl (Nat.zero_le _) (fun x hx=>by simp at hx)
 have db:sP ((mv [] ps,((),((),((),())))),(cT ([]:List (G×Int)) n (0:Int),([n],(([]:List G),()))))=_:=db;have L:qH N=some ():=by
  unfold qH;rw[if_pos];have:=q1.len;omega
 simp only[f23,hg,Option.bind_some,e1,UU,db,L];show(bif iq ps !=0 then _ else _)=some (((),()),(jP ps n,()))
 rcases hc:iq ps==0 with _|_
 ·have:(iq ps !=0)=true:=by simp only[bne,hc,Bool.not_false]
  rw[this];simp only[cond_true,jP,hc,cond_false]
 ·have:(iq ps !=0)=false:=by simp only[bne,hc,Bool.not_true]
  rw[this];simp only[cond_false];have EV:iq ps=0:=eq_of_beq hc;obtain⟨b1,cM⟩:=List.nodup_cons.1 q1.Ep;obtain⟨s1,s2⟩:=TS cM;have:gP N=jP ps n:=Y6 (key:=fun x=>x) s1 (VU ps n) fun x=>by
   rw[s2,VS EV];refine CI q1.sj (fun p am EN d U lZ=>?_) x
   have nK:p.name∈n::N:=q2 d.name (List.mem_cons.2 lZ) p.name ((hm _ _).2 ⟨p,am,rfl,d,U,rfl⟩);exact(List.mem_cons.1 nK).resolve_left EN
  rw[this]
abbrev xE:Shape:=⟨[aW 0 .str,aW 1 .str,aj 5],[],26⟩
abbrev CB:List bh:=[(.ret,⟨[a6 4],[],26⟩),(.exit 0,⟨[],[],26⟩)]
noncomputable def xZ(y:xE.F):cq xE CB:=
 bif(decide (y.1.2.2.1<(y.1.1.length:Int))) then
(bf y.1.1 y.1.2.2.1).bind fun a=>
(bf y.1.2.1 y.1.2.2.1).bind fun b=>
 bif(!(a==b)) then
 some (.inr (.inl ((false,()),())))
else
 some (.inl ((y.1.1,y.1.2.1,(IntKind.i64.wrap (y.1.2.2.1+(1:Int))),()),()))
else
 some (.inr (.inr ((),())))
noncomputable def CU:xE.F->Option (a7 CB):=bH xZ
theorem YB:bx ao (aU (codeOf Tryz.f24) 1 58) (bK xE CB CU):=cG g0 (by kernel_rfl) aH fun y=>by kernel_rfl
abbrev i24:Shape:=⟨[aW 0 .str,aW 1 .str],[],26⟩
abbrev N6:Shape:=⟨[a6 4],[],26⟩
noncomputable def f24(a:i24.F):Option N6.F:=
 bif((a.1.1.length:Int) !=(a.1.2.1.length:Int)) then
 some ((false,()),())
else
(CU ((a.1.1,a.1.2.1,(0:Int),()),())).bind fun b=>
(match b with
|.inl c=>
 some ((c.1.1,()),())
|.inr d=>
 some ((true,()),()))
noncomputable def Pn:bp:=bN aV Tryz.f24 i24 N6 [] f24
theorem z24:bu ao 24 Pn:=bP g0 Tryz.func24 (by kernel_rfl) (bR YB aH) (fun y=>by kernel_rfl) fun a=>by kernel_rfl
noncomputable abbrev Z3:cb:=[(54,se)]
theorem KY:bG ao (b9 aV Z3):=b8 ⟨ud,⟨⟩⟩
abbrev sI:Shape:=⟨[b3 0 3000000,aj 1,aj 5],[cL 3000000 .str 0 0],20⟩
abbrev AC:List bh:=[(.exit 0,⟨[b3 0 3000000,aj 1],[cL 3000000 .str 0 0],20⟩)]
noncomputable def sR(y:sI.F):cq sI AC:=
 bif(decide (y.1.2.2.1<(y.2.1.length:Int))) then
(f54 ((y.1.2.1,()),())).bind fun a=>
(e0 y.2.1.length y.1.2.2.1).bind fun b=>
((y.2.1[b]?).bind fun q=>some a.1.1).bind fun c=>
 some (.inl (((),(IntKind.i64.wrap (y.1.2.1+(1:Int))),(IntKind.i64.wrap (y.1.2.2.1+(1:Int))),()),(y.2.1.set b c),()))
else
 some (.inr (((),y.1.2.1,()),y.2.1,()))
noncomputable def AT:sI.F->Option (a7 AC):=bH sR
theorem VA:bx ao (aU (codeOf Tryz.f27) 1 26) (bK sI AC AT):=cG KY (by kernel_rfl) aH fun y=>by kernel_rfl
abbrev KB:Shape:=⟨[b3 0 600000,aj 1],[(600000,.row .str,.same)],20⟩
abbrev Ko:Shape:=⟨[b3 0 3000000,aj 4],[cL 3000000 .str 0 0],20⟩
noncomputable def yp(a:KB.F):Option Ko.F:=
(AT (((),a.1.2.1,(0:Int),()),a.2.1,())).bind fun b=>
 some (((),b.1.2.1,()),b.2.1,())
noncomputable def KU:bp:=rl aV Tryz.f27 KB Ko [] [0] yp
theorem Ze:bu ao 27 KU:=sC KY Tryz.func27 (by kernel_rfl) (bR VA aH) (fun y=>by kernel_rfl) fun a=>by kernel_rfl
noncomputable abbrev aez:cb:=[(54,se)]
theorem PI:bG ao (b9 aV aez):=b8 ⟨ud,⟨⟩⟩
abbrev tc:Shape:=⟨[aW 0 .str,aj 1,aj 5],[],22⟩
abbrev Cz:List bh:=[(.ret,⟨[aj 4],[],22⟩),(.exit 0,⟨[aj 1],[],22⟩)]
noncomputable def tk(y:tc.F):cq tc Cz:=
 bif(decide (y.1.2.2.1<(y.1.1.length:Int))) then
(bf y.1.1 y.1.2.2.1).bind fun a=>
(f54 ((y.1.2.1,()),())).bind fun b=>
 bif(!(a==b.1.1)) then
 some (.inr (.inl ((((-1):Int),()),())))
else
 some (.inl ((y.1.1,(IntKind.i64.wrap (y.1.2.1+(1:Int))),(IntKind.i64.wrap (y.1.2.2.1+(1:Int))),()),()))
else
 some (.inr (.inr ((y.1.2.1,()),())))
noncomputable def CS:tc.F->Option (a7 Cz):=bH tk
theorem Yz:bx ao (aU (codeOf Tryz.f28) 1 26) (bK tc Cz CS):=cG PI (by kernel_rfl) aH fun y=>by kernel_rfl
abbrev i28:Shape:=⟨[aW 0 .str,aj 1],[],22⟩
abbrev N4:Shape:=⟨[aj 4],[],22⟩
noncomputable def f28(a:i28.F):Option N4.F:=
(CS ((a.1.1,a.1.2.1,(0:Int),()),())).bind fun b=>
(match b with
|.inl c=>
 some ((c.1.1,()),())
|.inr d=>
 some ((d.1.1,()),()))
noncomputable def Pl:bp:=bN aV Tryz.f28 i28 N4 [] f28
theorem z28:bu ao 28 Pl:=bP PI Tryz.func28 (by kernel_rfl) (bR Yz aH) (fun y=>by kernel_rfl) fun a=>by kernel_rfl
noncomputable abbrev FK:cb:=[(20,Pr),(21,Pq),(22,Pp),(23,Po),(24,Pn),(25,Pm),(26,KV),(27,KU),(28,Pl)]
theorem Qn:bG ao (b9 aV FK):=b8 ⟨z20,z21,abR,abQ,z24,abP,Zf,Ze,z28,⟨⟩⟩
abbrev H5:Shape:=⟨[aW 0 .pack,bc 1,aW 6 .str,b3 8 3000512,aj 9],[cL 3000512 .str 8 0],77⟩
abbrev HS:List bh:=[(.norm,⟨[aW 0 .pack,bc 1,aW 6 .str,b3 8 3000512,a6 49],[cL 3000512 .str 8 0],77⟩)]
noncomputable def A4(y:H5.F):Option (a7 HS):=
 bif(!(decide (y.1.2.2.2.2.1<(0:Int)))) then
(f24 ((y.2.1,y.1.2.2.1,()),())).bind fun a=>
 some ((y.1.1,y.1.2.1,y.1.2.2.1,(),(!a.1.1),()),y.2.1,())
else
 some ((y.1.1,y.1.2.1,y.1.2.2.1,(),true,()),y.2.1,())
theorem Vz:bx ao (aU (codeOf Tryz.f4) 1 32764) (bK H5 HS A4):=e9 Qn (by kernel_rfl) aH fun y=>by kernel_rfl
abbrev i4:Shape:=⟨[aW 0 .pack,bc 1],[],77⟩
abbrev PY:Shape:=⟨[a6 4],[],77⟩
noncomputable def f4(a:i4.F):Option PY.F:=
 bif(decide ((a.1.2.1.length:Int)>(1048576:Int))) then
 some ((true,()),())
else
(f20 ((a.1.1,(1048576:Int),()),())).bind fun b=>
 bif(decide (b.1.1<(0:Int))) then
 some ((true,()),())
else
(f22 ((a.1.1,()),())).bind fun c=>
(f21 ((c.2.1,a.1.2.1,()),())).bind fun d=>
(f22 ((a.1.1,()),())).bind fun e=>
(f23 ((e.2.1,a.1.2.1,()),())).bind fun f=>
(f24 ((f.2.1,d.1.1,()),())).bind fun g=>
 bif(!g.1.1) then
 some ((false,()),())
else
(f22 ((a.1.1,()),())).bind fun h=>
(f25 ((e.2.1,h.2.1,()),())).bind fun i=>
 bif(!i.1.1) then
 some ((false,()),())
else
(yq (((),(1:Int),()),e.2.1,())).bind fun j=>
(A4 ((a.1.1,a.1.2.1,d.1.1,(),j.1.2.1,()),f.2.1,())).bind fun k=>
 bif k.1.2.2.2.2.1 then
 some ((false,()),())
else
(yp (((),(1:Int),()),k.2.1,())).bind fun l=>
(f28 ((l.2.1,(1:Int),()),())).bind fun m=>
 bif(decide (m.1.1<(0:Int))) then
 some ((false,()),())
else
 bif(m.1.1 !=l.1.2.1) then
 some ((false,()),())
else
(f22 ((k.1.1,()),())).bind fun n=>
(f23 ((n.2.1,k.1.2.1,()),())).bind fun D=>
(f24 ((D.2.1,k.1.2.2.1,()),())).bind fun p=>
 bif(!p.1.1) then
 some ((false,()),())
else
(f28 ((l.2.1,(1:Int),()),())).bind fun q=>
 bif(decide (q.1.1<(0:Int))) then
 some ((false,()),())
else
 bif(q.1.1 !=l.1.2.1) then
 some ((false,()),())
else
 some ((true,()),())
noncomputable def jd:bp:=bN aV Tryz.f4 i4 PY [] f4
theorem z4:bu ao 4 jd:=bP Qn Tryz.func4 (by kernel_rfl) (bR Vz aH) (fun y=>by kernel_rfl) fun a=>by kernel_rfl
noncomputable def fM(k:Int)(n:Nat):List G:=(List.range n).map fun(i:Nat)=>mt (k+(i:Int))
theorem qm(k:Int)(n:Nat):(fM k n).length=n:=by simp[fM]
theorem Uj(k:Int)(n:Nat):fM k (n+1)=fM k n++[mt (k+(n:Int))]:=by simp[fM,List.range_succ]
theorem VV{k:Int}{n i:Nat}(h:i<n):(fM k n)[i]? =some (mt (k+(i:Int))):=by simp[fM,h]
theorem QD(xs:List G)(k:Int)(aQ:1<=k)(L:xs.length<=2097152)(h1:eN (k+(xs.length:Int))):yp (((),(k,())),(xs,()))=some (((),(k+(xs.length:Int),())),(fM k xs.length,())):=by
 have key:AT (((),(k,((0:Int),()))),(xs,()))=some (((),(k+(xs.length:Int),())),(fM k xs.length,())):=by
  have:=td (g:=sR) (fun i=>(((),(k+(i:Int),((i:Int),()))),(fM k i++xs.drop i,()))) xs.length (b:=(((),(k+(xs.length:Int),())),(fM k xs.length,()))) (fun i af=>?_) ?_
  ·have e:(((),(k+((0:Nat):Int),(((0:Nat):Int),()))),(fM k 0++xs.drop 0,()))=((((),(k,((0:Int),()))),(xs,())):sI.F):=by
    show(((),(k+((0:Nat):Int),(((0:Nat):Int),()))),(fM k 0++xs.drop 0,()))=(((),(k,((0:Int),()))),(xs,()));simp[fM]
   exact(congrArg (bH sR) e.symm).trans this
  ·have hl:(fM k i++xs.drop i).length=xs.length:=by simp[qm];omega
   have aJ:(fM k i++xs.drop i)[i]? =some xs[i]:=by rw[yn (qm k i)];exact List.getElem?_eq_getElem af
   have a1:IntKind.i64.wrap (k+(i:Int)+1)=k+((i+1:Nat):Int):=(fr (by omega) (by unfold eN at h1;omega)).trans (by omega)
   have t1:=oi (k:=k+(i:Int)) (by omega) (by unfold eN at h1 ⊢;omega)
   have hw:aN i:=by unfold aN;omega
   have L:=yb (c:=mt (k+(i:Int))) (qm k i) af;rw[<-Uj] at L;simp only[sR,hl,cU af,cond_true,t1,Option.bind_some,mc af,aJ,a1,cH hw];refine congrArg some (congrArg Sum.inl ?_);rw[<-L]
  ·have hl:(fM k xs.length++xs.drop xs.length)=fM k xs.length:=by simp
   simp only[sR,hl,qm,du,cond_false]
 simp only[yp,key,Option.bind_some]
theorem QE(n:Nat)(k:Int)(aQ:1<=k)(L:n<=2097152)(h1:eN (k+(n:Int))):f28 ((fM k n,(k,())),())=some ((k+(n:Int),()),()):=by
 have key:CS ((fM k n,(k,((0:Int),()))),())=some (.inr ((k+(n:Int),()),())):=by
  have:=td (g:=tk) (fun i=>((fM k n,(k+(i:Int),((i:Int),()))),())) n (b:=.inr ((k+(n:Int),()),())) (fun i af=>?_) ?_
  ·have e:((fM k n,(k+((0:Nat):Int),(((0:Nat):Int),()))),())=(((fM k n,(k,((0:Int),()))),()):tc.F):=by
    show((fM k n,(k+((0:Nat):Int),(((0:Nat):Int),()))),())=((fM k n,(k,((0:Int),()))),());simp
   exact(congrArg (bH tk) e.symm).trans this
  ·have a1:IntKind.i64.wrap (k+(i:Int)+1)=k+((i+1:Nat):Int):=(fr (by omega) (by unfold eN at h1;omega)).trans (by omega)
   have t1:=oi (k:=k+(i:Int)) (by omega) (by unfold eN at h1 ⊢;omega)
   have hw:aN i:=by unfold aN;omega
   simp only[tk,qm,cU af,cond_true,cI,VV af,t1,Option.bind_some,beq_self_eq_true,Bool.not_true,cond_false,a1,cH hw]
  ·simp only[tk,qm,du,cond_false]
 simp only[f28,key,Option.bind_some]
theorem Ry(xs:List G)(L:xs.length<=2097152):f24 ((xs,(xs,())),())=some ((true,()),()):=by
 have key:CU ((xs,(xs,((0:Int),()))),())=some (bif allI (fun _ _=>true) 0 xs then .inr ((),()) else .inl ((false,()),())):=by
  refine hi xZ xs (fun i=>((xs,(xs,((i:Int),()))),())) _ _ _ (fun i x hx=>?_) ?_
  ·have af:=c8 hx;have hw:aN i:=by unfold aN;omega
   simp only[xZ,cU af,cond_true,cI,hx,Option.bind_some,beq_self_eq_true,Bool.not_true,cond_false,cH hw]
  ·simp only[xZ,du,cond_false]
 rw[vP] at key;simp only[f24,qj,cond_false,key,cond_true,Option.bind_some]
theorem VT(ps:List a')(n:G):(jP ps n).length<=ps.length:=by
 have aQ:gV ps []:=⟨List.Pairwise.nil,fun s L=>by cases L⟩
 unfold jP;cases iq ps==0 with
 |true=>exact(aQ.rounds (n:=n) (k:=ps.length)).len
 |false=>exact Nat.zero_le _
theorem Qs(ps:List a')(n:G)(hm:yR ps):f4 ((ps,(n,())),())=some ((true,()),()):=by
 obtain⟨r,e1,e2⟩:=Tm ((ps,((1048576:Int),())),()) (show(0:Int)<=1048576 by decide) (show(1048576:Int)<=1048576 by decide) hm
 simp only[f4];cases decide ((n.length:Int)>1048576) with
 |true=>rfl
 |false=>
 simp only[cond_false,e1,Option.bind_some];rcases e2 with e2|⟨q1,q2,db⟩
 ·simp only[e2,decide_true,cond_true]
 ·have:¬r<0:=by omega
  obtain⟨hb,Z⟩:=db.Qd;have hl:ps.length<=1048576:=db.1;have g_:ps.length<=2000000:=by omega
  have s1:=TF ((ps,(n,())),()) hb g_;have s2:=Sf ((ps,(n,())),()) hb g_;have hlen:=VT ps n;obtain⟨xs,mC⟩:∃xs,jP ps n=xs:=⟨_,rfl⟩;simp only[mC] at s1 s2;rw[mC] at hlen;have k7:xs.length<=2097152:=by omega
  have P6:eN (1+(xs.length:Int)):=by unfold eN;omega
  have b6:decide (1+(xs.length:Int)<0)=false:=decide_eq_false (by omega)
  have ah:decide (fw 1 ps<0)=false:=decide_eq_false (by have:=Ce ps 1;omega)
  have c4:=QD xs 1 (Int.le_refl _) k7 P6;have dx:=QE xs.length 1 (Int.le_refl _) k7 P6;have jC:=Rv ps 1 (Int.le_refl _) hb (XT hb);simp only[this,decide_false,cond_false,Tk ((ps,()),()) hb,Option.bind_some,s1,s2,Ry xs k7,Tz ps hb,Bool.not_true,jC,A4,ah,Bool.not_false,cond_true,c4,dx,b6,ZZ]
theorem pure_FnExactNeeders:LawOk jd [(false,[.sl .pack]),(false,[.str])]:=by
 rintro⟨⟨ps,u⟩,⟨n,PU⟩,bW⟩ ⟨h,_⟩;have hm:yR ps:=UW (h (.sl .pack ps) (by simp[fu,dy.mk]))
 exact⟨((true,()),()),Qs ps n hm,rfl⟩
end Go.Proofs
