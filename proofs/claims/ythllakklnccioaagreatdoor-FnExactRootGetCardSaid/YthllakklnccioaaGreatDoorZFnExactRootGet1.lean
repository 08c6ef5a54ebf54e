/- FnExactRootGet: the program's RootGet returns what the reference's returns, for all arguments. (part 2 of 7: JkOps16, JkOps17, JkOps18, JkCall1, JkCall2, JkCall3, JkCall4, JkCall5, JkBld, JkCall6, JkDraw1, JkNest, JkLogic, JkWalk0, JkDraw2, JkDraw3, JkWalk1, JkShape, JkShape2) Conditions: none beyond the statement. -/
import Derived.Test.YthllakklnccioaaGreatDoorZFnExactRootGet0
import Derived.RangeFuncRecord
import Derived.Below
import Derived.RangeFuncSeq
import Derived.Orders
import Derived.OrdersIn
import Derived.ControlIn
import Derived.LoopIn
import Derived.RangeFuncCalls
set_option linter.unusedVariables false
set_option linter.unusedSimpArgs false
namespace Go.Jk
def nY(w:World)(b:Nat)(D:Obj):World:={w with heap:=w.heap.setIfInBounds b D}
theorem Sl{b:ByteArray}{l:F}(h:b.data.toList=l):Value.string b=h7 l:=by
 subst h;rfl
def mf{aB:Type}:List (F×aB)->F->Nat->Option (Nat×aB)
 |[],_,_=>none
 |(k,v)::r,n,i=>bif k==n then some (i,v) else mf r n (i+1)
theorem af6{aB:Type}(n:F):∀(es:List (F×aB)) (i:Nat),(mf es n i).map (·.2)=li es n:=by
 intro es;induction es with
 |nil=>intro i;rfl
 |cons p es ih=>
  intro i;simp only[mf,li];cases p.1==n with
  |true=>rfl
  |false=>exact ih (i+1)
theorem ac4{aB:Type}(n:F)(v:aB):∀(es:List (F×aB)) (i:Nat),mf es n i=none->qm es n v=es++[(n,v)]:=by
 intro es;induction es with
 |nil=>intro i _;rfl
 |cons p es ih=>
  intro i h;simp only[mf] at h;simp only[qm];cases hp:(p.1==n) with
  |true=>rw[hp] at h;cases h
  |false=>rw[hp] at h;simp only[cond_false,ih (i+1) h,List.cons_append]
theorem aee{aB:Type}(n:F)(v:aB):∀(es:List (F×aB)) (i j:Nat) (v0:aB),mf es n i=some (j,v0)->i<=j/\(∃p,es[j-i]? =some p/\p.1=n)/\qm es n v=es.modify (j-i) fun p=>(p.1,v):=by
 intro es;induction es with
 |nil=>intro i j v0 h;cases h
 |cons p es ih=>
  intro i j v0 h;simp only[mf] at h;simp only[qm];cases hp:(p.1==n) with
  |true=>
   rw[hp] at h;cases h;refine⟨Nat.le_refl _,⟨p,by simp,eq_of_beq hp⟩,?_⟩
   simp
  |false=>
   rw[hp] at h;obtain⟨h1,⟨q,h2,h3⟩,aE⟩:=ih (i+1) j v0 h;have e:j-i=(j-(i+1))+1:=by omega
   refine⟨by omega,⟨q,by rw[e];simpa using h2,h3⟩,?_⟩
   rw[e,cond_false,aE,List.modify_succ_cons]
theorem OY{t:aH}(n:F):∀(es:List (F×den t)) (jK:List MapEntry) (i:Nat),jK.map (fun e=>(e.key,e.val))=kL t es->
  Instr.findNow .string (h7 n) jK i=some ((mf es n i).map fun p=>(p.1,oH t p.2))
 |[],jK,i,h=>by
  have:jK=[]:=by simpa[kL] using h
  subst this;rfl
 |(k,v)::es,[],i,h=>by simp[kL] at h
 |(k,v)::es,m::jK,i,h=>by
  simp only[kL,List.map_cons,List.cons.injEq,Prod.mk.injEq] at h;obtain⟨⟨h1,h2⟩,h3⟩:=h;have ih:=OY n es jK (i+1) h3;have hs:Instr.sameNow .string (h7 n) m.key=some (k==n):=by
   rw[h1];show some ((⟨n.toArray⟩:ByteArray)==⟨k.toArray⟩)=_;rw[bytes_beq];congr 1
   rw[Bool.eq_iff_iff];simp only[beq_iff_eq];exact eq_comm
  unfold Instr.findNow mf;rw[hs];cases k==n with
  |true=>simp only[cond_true,Option.map_some,h2]
  |false=>simp only[cond_false];exact ih
section
variable {P:Program}{w:World}{iG lQ T:TypeId}{t:aH}
theorem adS{iG:TypeId}(hk:P.underlying iG=some .string)(c:Bool)(s:F)(n:Nat):(Instr.checkKey c (n+1) iG (h7 s)).run P w=.ok () w:=by
 simp[Instr.checkKey,run_underlying hk,h7,Result.andThen]
theorem v6{iG:TypeId}(hk:P.underlying iG=some .string)(c:Bool)(s:F):(Instr.checkKey c 10000 iG (h7 s)).run P w=.ok () w:=adS hk c s 9999
theorem AH{iG:TypeId}(hk:P.underlying iG=some .string){es:List (F×den t)}{arr:Array MapEntry}(h:n5 arr=kL t es)(n:F):
  (Instr.findKey iG (h7 n) arr.toList).run P w=.ok ((mf es n 0).map fun p=>(p.1,oH t p.2)) w:=by
 simp[Instr.findKey,run_underlying hk,OY n es arr.toList 0 h,Result.andThen]
theorem afk(s:F):(Instr.keyThatStays (h7 s) (h7 s)).run P w=.ok (h7 s) w:=by
 have:Instr.sameBits 10000 (h7 s) (h7 s)=true:=by
  show((⟨s.toArray⟩:ByteArray)==⟨s.toArray⟩)=true;rw[bytes_beq];simp
 simp[Instr.keyThatStays,this]
theorem amR{t:aH}{d:aJ}{x:den t}{v:Value}{av:Nat->Prop}(h:KC t d=some x)(hr:bm w av d v):v=oH t x:=by
 unfold KC at h;split at h
 ·cases h;cases hr;rfl
 ·cases h;cases hr;rfl
 ·cases h
theorem adQ(a_:P.underlying T=some (.map iG lQ))(hk:P.underlying iG=some .string){b:Nat}{arr:Array MapEntry}{clock:Nat}{es:List (F×den t)}(hb:w.heap[b]? =some (.map arr clock))(he:n5 arr=kL t es)(n:F)(x:den t):
  ∃qK qq,(Instr.mapUpdate T (.map (some b)) (h7 n) (oH t x)).run P w=.ok () (nY w b (.map qK qq))/\n5 qK=kL t (qm es n x):=by
 cases hm:mf es n 0 with
 |none=>
  refine⟨arr.push ⟨h7 n,oH t x,clock⟩,clock+1,?_,?_⟩
  ·have hf:=AH (w:=w) hk he n;rw[hm] at hf;simp[Instr.mapUpdate,run_underlying a_,MapKept.run_getObj_map hb,v6 hk,hf,MapKept.run_setObj_map _ hb,Result.andThen,nY]
  ·rw[ac4 n x es 0 hm];unfold n5 kL at he ⊢;simp[he]
 |some p=>
  obtain⟨j,v0⟩:=p;obtain⟨_,⟨q,h2,h3⟩,aE⟩:=aee n x es 0 j v0 hm;rw[Nat.sub_zero] at h2 aE;have hlen:arr.size=es.length:=na.size (b:=b) he;have hj:j<arr.size:=by rw[hlen];exact(List.getElem?_eq_some_iff.1 h2).1
  have apB:((arr[j]?).map (·.key)).getD (h7 n)=h7 n:=by
   have br:=congrArg (fun l=>l[j]?) he
   simp only[n5,kL,List.getElem?_map,h2,Option.map_some,Array.getElem?_toList] at br;cases ha:arr[j]? with
   |none=>rfl
   |some e=>
    rw[ha] at br;simp only[Option.map_some,Option.some.injEq,Prod.mk.injEq] at br;simp[br.1,h3]
  refine⟨arr.modify j fun e=>{e with key:=h7 n,val:=oH t x},clock,?_,?_⟩
  ·have hf:=AH (w:=w) hk he n;rw[hm] at hf;simp[Instr.mapUpdate,run_underlying a_,MapKept.run_getObj_map hb,v6 hk,hf,MapKept.run_setObj_map _ hb,Result.andThen,nY,apB,afk]
  ·rw[aE];unfold n5 kL at he ⊢;apply List.ext_getElem?;intro i;have br:=congrArg (fun l=>l[i]?) he
   simp only[List.getElem?_map,Array.getElem?_toList] at br;simp only[List.getElem?_map,Array.getElem?_toList,Array.getElem?_modify,List.getElem?_modify];by_cases qR:j=i
   ·subst qR;simp only[if_true,h2,Option.map_some,<-h3];cases ha:arr[j]? with
    |none=>rw[ha,h2] at br;cases br
    |some e=>rfl
   ·simp only[qR,if_false];cases ha:arr[i]? <;>cases cd:es[i]? <;>rw[ha,cd] at br<;>simp_all
end
section
variable {P:Program}{O:World}{U:List Nat}{X:Nat->Prop}{B:Nat->Value}{st:af}{tm:Array Value}{w:World}{D:Oper}
theorem FF(w:World)(b bf:Nat)(D:Obj)(h:bf≠b):(nY w b D).heap[bf]? =w.heap[bf]? :=by
 simp only[nY,Array.getElem?_setIfInBounds];rw[if_neg (fun e=>h e.symm)]
theorem abh(w:World)(b:Nat)(D cW:Obj)(h:w.heap[b]? =some cW):(nY w b D).heap[b]? =some D:=by
 have:=(Array.getElem?_eq_some_iff.1 h).1;simp[nY,Array.getElem?_setIfInBounds,this]
theorem ai.aln(S:ai O U X B st tm w){o s b:Nat}{t:aH}{es vw:List (F×den t)}{D:Obj}{qK:Array MapEntry}{qq:Nat}(hl:look st.sites o=some (.map s t es))(bX:B o=.map (some b))(hg:w.heap[b]? =some D)
  (he:n5 qK=kL t vw):ai O U X B {st with sites:=cg st.sites o (.map s t vw)} tm (nY w b (.map qK qq)):=by
 have hbk:b∈bJ (B o):=gT (by rw[bX];rfl)
 have cE:bY st.sites o:=⟨_,hl,rfl⟩;have ni:∀M,bY (cg st.sites o (.map s t vw)) M <-> bY st.sites M:=Pv hl rfl;have b8:∀bf,ar X B (cg st.sites o (.map s t vw)) bf <-> ar X B st.sites bf:=by
  intro bf;unfold ar;simp only[ni]
 have hne:∀bf,¬ar X B st.sites bf->bf≠b:=by
  rintro bf h rfl;exact h (.inr ⟨o,cE,hbk⟩)
 have hsz:(nY w b (.map qK qq)).heap.size=w.heap.size:=by simp[nY]
 refine S.qA (fun M au bB=>?_) (fun bf h _=>FF w b bf _ (hne bf h)) (fun bf h _=>by rw[b8];exact h) (fun go M au bB=>?_) (fun M ρ bf h1 h2=>S.dC M ρ bf ((ni M).1 h1) ((ni ρ).1 h2))
  (fun M bf h=>S.cf M bf ((ni M).1 h)) (fun M bf h hb=>by rw[hsz];exact S.eH ((ni M).1 h) hb) ?_ (by rw[hsz];exact Nat.le_refl _)
 ·rw[cC];by_cases e:o=M
  ·subst e;rw[hl] at bB;cases bB;exact⟨.map s t vw,by simp,Nat.le_refl _,fun _=>rfl⟩
  ·exact⟨au,by simp[e,bB],Nat.le_refl _,fun _=>rfl⟩
 ·rw[cC] at bB;by_cases e:o=M
  ·subst e;simp only[if_true,Option.some.injEq] at bB;subst bB;exact .inr ⟨b,bX,qK,qq,abh w b _ _ hg,he⟩
  ·simp only[e,if_false] at bB;refine .inl ⟨bB,rfl,fun uQ bf cd=>FF w b bf _ ?_⟩
   rintro rfl;exact e (S.dC o M _ cE ⟨au,bB,uQ⟩ hbk cd)
 ·have aO:=S.frame;refine⟨aO.os,aO.tape,aO.output,by rw[hsz];exact aO.size,fun bf h1 h2=>?_⟩
  rw[FF w b bf _ ?_]
  ·exact aO.block bf h1 h2
  ·rintro rfl;rcases(S.cf o _ cE hbk).2 with h|h
   ·exact h2 h
   ·omega
theorem ai.makeMap(S:ai O U X B st tm w){o:Nat}{t:aH}:
  ai O U X (fun M=>if M=o then .map (some w.heap.size) else B M) {st with sites:=cg st.sites o (.map (aZ st o) t [])} tm (w.alloc (.map #[] 0)):=
 S.make (fun b hb=>RowKit.Below.heap_alloc w _ b hb) rfl rfl rfl (by simp) (fun aa hs=>kD hs) (fun b hb=>by have hb:=List.mem_singleton.1 hb;subst hb;exact⟨Nat.le_refl _,by simp⟩)
  (fun hs bX go _ _=>⟨w.heap.size,bX,#[],0,heap_alloc_new w _,rfl⟩)
end
section
variable {P:Program}{O:World}{U:List Nat}{X:Nat->Prop}{B:Nat->Value}{st:af}{tm:Array Value}{w:World}{D:Oper}
theorem Pr(S:ai O U X B st tm w){T:TypeId}{iG lQ:TypeId}{t:aH}{r:Option Operand}{o:Nat}(ay:D.op=.makeMap T r)(dy:D.dst=some o)(Y:ce st D.dst=true)(a_:P.underlying T=some (.map iG lQ))
  (hr:∀x,r=some x->∃k n,Act.eval ⟨tm,[]⟩ x=.int k n):cJ P O U X st tm w D (bP (.own o (aZ st o))) [(o,.map (aZ st o) t [])]:=by
 have b7:=S.makeMap (o:=o) (t:=t);refine jN (us:=[(o,.map (aZ st o) t [])]) b7 Y (vv:=.map (some w.heap.size)) ?_ ?_
 ·unfold execOp;cases r with
  |none=>simp[ay,Instr.makeMap]
  |some x=>
   obtain⟨k,n,hx⟩:=hr x rfl;simp[ay,Instr.makeMap,hx,run_underlying a_,asInt,asIntOf,Result.andThen]
 ·refine⟨rfl,Ref.mk (aa:=.map (aZ st o) t []) ?_ rfl (by simp[b0])⟩
  simp only[aY,cC];simp
theorem Qs(S:ai O U X B st tm w){C:Ctx}(H:CtxOk P C){T:TypeId}{m k x:Operand}(ay:D.op=.mapUpdate T m k x\/D.op=.insert T m k x)(Y:ce st D.dst=true):
  Holds (l7.t_ C st T m k x) (cJ P O U X st tm w D):=by
 have bL:=H.tt T;unfold l7.t_;split
 ·rename_i iG lQ t o s n d a_ hm hk hx;rw[a_] at bL;split
  ·rename_i au u es hl;cases hb:(au.beq s&&decide (u=t)) with
   |false=>exact .fail
   |true=>
    simp only[cond_true];simp only[Bool.and_eq_true,decide_eq_true_eq] at hb;have hs:=Nat.eq_of_beq_eq_true hb.1;subst hs;split
    ·rename_i v hv;refine Holds.fR ?_
     have em:=de S C T m;rw[hm] at em;have sY:=de S C 0 k;rw[hk] at sY;have ex:=de S C 0 x;rw[hx] at ex;have hl:look st.sites o=some (.map au u es):=hl;obtain⟨b,h1,arr,clock,h2,h3⟩:=S.sites o _ hl;have sE:Act.eval ⟨tm,[]⟩ m=B o:=(Ref.at em.2 hl rfl:_=b0 (B o)).trans (by rw[h1];rfl)
     obtain⟨bs,qQ,hkl⟩:=hK (s:=n) sY;have Eu:Act.eval ⟨tm,[]⟩ k=h7 n:=by rw[qQ];exact Sl hkl
     have Ej:Act.eval ⟨tm,[]⟩ x=oH u v:=amR hv (av:=ar X B st.sites) ex;obtain⟨qK,qq,r1,r2⟩:=adQ (T:=T) bL.1.1 bL.2.1 h2 h3 n v;have b7:=S.aln hl h1 h2 (qq:=qq) r2;refine ta (us:=[(o,.map au u (qm es n v))]) b7 Y ?_
     unfold execOp;rcases ay with ay|ay
     ·simp only[ay,sE,h1,Eu,Ej,Sem.run_bind,r1,Result.andThen_ok,Sem.run_pure]
     ·simp only[ay,sE,h1,Eu,Ej,Sem.run_bind,r1,Result.andThen_ok,Sem.run_pure]
    ·exact .fail
  ·exact .fail
 ·exact .fail
theorem aga(S:ai O U X B st tm w){C:Ctx}(H:CtxOk P C){T iG lQ:TypeId}{t:aH}{m k:Operand}{c:Bool}{l:az}{n:F}{es:List (F×den t)}{d:aJ}(ay:D.op=.lookup T m k c)(Y:ce st D.dst=true)
  (a_:C.tt T=.map iG lQ t) (hm:aS C st T m=.av (.ag l)) (hk:aS C st 0 k=.av (.ag (.d (.str n)))) (MN:mapOf st l=some ⟨t,es⟩) (MO:xA t (li es n)=some d):
  cJ P O U X st tm w D (bif c then .kq [.ag (.d d),.ag (.d (.bool (li es n).isSome))] else one d) []:=by
 have bL:=H.tt T;rw[a_] at bL;have em:=de S C T m;rw[hm] at em;have sY:=de S C 0 k;rw[hk] at sY;obtain⟨bs,qQ,hkl⟩:=hK (s:=n) sY;have Eu:Act.eval ⟨tm,[]⟩ k=h7 n:=by rw[qQ];exact Sl hkl
 have hz:∀cW:Option (den t),xA t cW=some d->(∀x,cW=some x->∀av,bm w av d (oH t x))/\(cW=none->∃z,(zeroValue lQ).run P w=.ok z w/\∀av,bm w av d z):=by
  intro cW h;have he:=bL.2.2;have key:∀{aaM:TypeDesc} {z:Value},jY P lQ aaM z->(zeroValue lQ).run P w=.ok z w:=by
   intro aaM z h;obtain⟨_,_,_,h⟩:=h;cases hi:P.info? lQ with
   |none=>simp[hi] at h
   |some i=>
    simp only[hi,Option.map_some,Option.some.injEq,Prod.mk.injEq] at h;simp[zeroValue,lZ hi,h.2]
  cases t<;>first|(exact he.elim)|skip
  ·simp only[xA,Option.some.injEq] at h;subst h;refine⟨fun x hx av=>by subst hx;exact .int _ _,fun hn=>?_⟩
   subst hn;exact⟨_,key he,fun av=>.int _ _⟩
  ·simp only[xA,Option.some.injEq] at h;subst h;refine⟨fun x hx av=>by subst hx;exact .bool _,fun hn=>?_⟩
   subst hn;exact⟨_,key he,fun av=>.bool _⟩
 obtain⟨hz1,hz2⟩:=hz _ MO;have main:∃v,(Instr.lookup T (Act.eval ⟨tm,[]⟩ m) (Act.eval ⟨tm,[]⟩ k) c).run P w=.ok (if c then .tuple #[v,.bool (li es n).isSome] else v) w/\∀av,bm w av d v:=by
  rw[Eu];rcases SL S em MN with⟨h1,rfl⟩|⟨b,h1,arr,clock,h2,h3⟩
  ·obtain⟨z,ga,z2⟩:=hz2 rfl;refine⟨z,?_,z2⟩;have hf:=AH (w:=w) (t:=t) bL.2.1 (es:=[]) (arr:=#[]) rfl n;have MM:(Instr.findKey iG (h7 n) []).run P w=.ok none w:=hf;simp[Instr.lookup,run_underlying bL.1.1,h1,v6 bL.2.1,MM,ga,li,Result.andThen]
  ·have hf:=AH (w:=w) bL.2.1 h3 n;have hg:=af6 n es 0;cases ha:mf es n 0 with
   |none=>
    rw[ha] at hf hg;have hg:li es n=none:=hg.symm;obtain⟨z,ga,z2⟩:=hz2 hg;refine⟨z,?_,z2⟩;simp[Instr.lookup,run_underlying bL.1.1,h1,MapKept.run_getObj_map h2,v6 bL.2.1,hf,ga,hg,Result.andThen]
   |some p=>
    rw[ha] at hf hg;have hg:li es n=some p.2:=hg.symm;refine⟨oH t p.2,?_,hz1 p.2 hg⟩;simp[Instr.lookup,run_underlying bL.1.1,h1,MapKept.run_getObj_map h2,v6 bL.2.1,hf,hg,Result.andThen]
 obtain⟨v,r1,r2⟩:=main;refine dS S Y (vv:=if c then .tuple #[v,.bool (li es n).isSome] else v) ?_ ?_
 ·unfold execOp;simp only[ay,Sem.run_bind,r1,Result.andThen_ok,Sem.run_pure]
 ·cases c with
  |true=>
   refine⟨[v,.bool (li es n).isSome],rfl,rfl,fun j g1 g2=>?_⟩
   match j,g1 with
   |0,_=>exact r2 _
   |1,_=>exact bm.bool _
  |false=>exact r2 _
theorem aed(S:ai O U X B st tm w){C:Ctx}(H:CtxOk P C)(Y:ce st D.dst=true):Holds (l7 C st D) (cJ P O U X st tm w D):=by
 unfold l7;split
 ·rename_i t r ay;split
  ·rename_i o iG lQ ty dy a_;have bL:=H.tt t;rw[a_] at bL;split
   ·exact Holds.fR (Pr S ay dy Y bL.1.1 (fun x h=>by cases h))
   ·rename_i x;split
    ·rename_i k n hx;refine Holds.fR (Pr S ay dy Y bL.1.1 (fun y h=>?_))
     cases h;have ex:=de S C 0 x;rw[hx] at ex;exact⟨k,n,ja ex⟩
    ·exact .fail
  ·exact .fail
 ·rename_i t m k x ay;exact Qs S H (.inl ay) Y
 ·rename_i t m k x ay;exact Qs S H (.inr ay) Y
 ·rename_i t m k c ay;split
  ·rename_i iG lQ ty l n a_ hm hk;split
   ·rename_i u es MN;cases hu:decide (u=ty) with
    |false=>exact .fail
    |true=>
     have hu:=of_decide_eq_true hu;subst hu;simp only[cond_true];split
     ·rename_i d MO;exact Holds.ok (aga S H ay Y a_ hm hk MN MO)
     ·exact .fail
   ·exact .fail
  ·exact .fail
 ·rename_i t x ay;split
  ·rename_i bM q z e n a_ hx;exact Holds.ok (aa7 S H ay Y a_ hx)
  ·exact .fail
 ·exact .fail
end
theorem oM{P:Program}{e:TypeId}{t:aH}(h:Jq P e t):aA t=1/\(∃d z,jY P e d z)/\∃l eO,u3 t=some l/\y1 t=some eO/\cM (enc t eO)=[l]:=by
 cases t<;>first|exact h.elim|exact⟨rfl,⟨_,_,h⟩,_,_,rfl,rfl,rfl⟩
theorem PD{P:Program}{e:TypeId}{t:aH}{T:TypeId}(h:Jq P e t):t.fu=true->T=mC:=by intro ae;cases t<;>first|exact h.elim|cases ae
theorem Gz(t:aH)(x:den t)(xs:List (den t)):flat t (x::xs)=enc t x++flat t xs:=by simp[flat]
theorem Jp(a b:List aJ):cM (a++b)=cM a++cM b:=by simp[cM]
theorem S'{t:aH}{z:den t}(hz:y1 t=some z)(xs:List (den t)):DN t xs xs.length=cM (flat t xs):=by
 unfold DN;rw[hz];suffices h:∀(ys zs:List (den t)),xs=zs++ys->((List.range' zs.length ys.length).flatMap fun j=>cM (enc t (xs.getD j z)))=cM (flat t ys) by
  have:=h xs [] rfl;rw[List.length_nil,<-List.range_eq_range'] at this;exact this
 intro ys;induction ys with
 |nil=>intro zs _;rfl
 |cons y ys ih=>
  intro zs hx;rw[List.length_cons,List.range'_succ,List.flatMap_cons,Gz,Jp];have e1:xs.getD zs.length z=y:=by rw[hx];simp[List.getD]
  have e2:=ih (zs++[y]) (by rw[hx];simp)
  rw[List.length_append,List.length_singleton] at e2;rw[e1,e2]
theorem Jm{t:aH}:∀{ab:List az} {xs:List (den t)},uU t ab=some xs->ab=cM (flat t xs):=by
 intro ab;induction ab with
 |nil=>intro xs h;cases h;rfl
 |cons l ab ih=>
  intro xs h;cases l<;>try(cases h;done)
  rename_i d;simp only[uU] at h;split at h
  ·rename_i x ys h1 h2;cases h;rw[Gz,Jp,<-ih h2,o6 _ _ _ h1];rfl
  ·cases h
theorem v8{aB:Type}{n:Nat}{xs ys:List aB}(h:long n xs=some ys):ys=xs/\xs.length=n:=by
 unfold long at h;split at h
 ·cases h;exact⟨rfl,by assumption⟩
 ·cases h
section
variable {P:Program}{O:World}{U:List Nat}{X:Nat->Prop}{B:Nat->Value}{st:af}{tm:Array Value}{w:World}{D:Oper}
theorem ai.la(S:ai O U X B st tm w):oB w/\∀b,b∈lH->¬ar X B st.sites b/\b<w.heap.size:=by
 have G:=S.fC;refine⟨anh (fun b hb=>S.frame.block b (G.lt b hb) (G.U b hb)) G.ok,fun b hb=>⟨?_,Nat.lt_of_lt_of_le (G.lt b hb) S.frame.size⟩⟩
 rintro(h|⟨o,h1,h2⟩)
 ·exact G.X b hb h
 ·rcases(S.cf o b h1 h2).2 with h|h
  ·exact G.U b hb h
  ·have:=G.lt b hb;omega
theorem alq{ds:List aJ}{vs:List Value}{av:Nat->Prop}(h:cu w av ds vs):∀u∈vs,u.oneCell'=true:=by
 intro u hu;obtain⟨j,hj,rfl⟩:=List.getElem_of_mem hu;exact(h.2 j (by rw[<-h.1];exact hj) hj).jt
theorem SH(S:ai O U X B st tm w){T:TypeId}{o n:Nat}{t:aH}{xs:List (den t)}{vs:List Value}(he:aA t=1)(fa:t.fu=true->T=mC)(hv:cu w (ar X B st.sites) (flat t xs) vs)(Y:ce st D.dst=true)
  (cY:(execOp (Act.eval ⟨tm,[]⟩) D).run P w=.ok (.value (.pointer (some ⟨w.heap.size,0,none⟩))) (w.alloc (.cells vs.toArray T (0,0)))):Holds (sd o st t n xs) (cJ P O U X st tm w D):=by
 unfold sd;cases hc:(xs.length.beq n&&Nat.ble n 1000) with
 |false=>exact .fail
 |true=>
  simp only[Bool.and_eq_true] at hc;have h1:=Nat.eq_of_beq_eq_true hc.1;have h2:=Nat.le_of_ble_eq_true hc.2;simp only[cond_true];have hl:vs.length=xs.length:=by rw[hv.1,eG,he,Nat.mul_one]
  have b7:=S.IC (o:=o) (T:=T) (rest:=[]) (cap:=n) hv (by rw[he,hl,h1];simp) (by unfold maxLen;omega) fa
  rw[List.append_nil] at b7;refine Holds.fR (jN (us:=[(o,.row (aZ st o) t xs)]) b7 Y cY ?_);refine⟨w.heap.size,by simp,Ref.mk (aa:=.row (aZ st o) t xs) ?_ rfl ⟨xs.length,n,by simp[b0]⟩⟩
  simp only[aY,cC];simp
theorem agC(S:ai O U X B st tm w){C:Ctx}(H:CtxOk P C){elem e:TypeId}{t:aH}{n o:Nat}(a_:C.tt elem=.arr e t n)(ay:D.op=.alloc elem)(Y:ce st D.dst=true):Holds (ug o st t n) (cJ P O U X st tm w D):=by
 have bL:=H.tt elem;rw[a_] at bL;obtain⟨_,_,nD⟩:=id bL;obtain⟨he,_,l,eO,Eh,mx,hzz⟩:=oM nD;unfold ug;rw[mx];obtain⟨v,hv,nu⟩:=cp.AG (w:=w) bL (z:=List.replicate n l) (by simp only[cp.zero,Eh,Option.map_some])
 obtain⟨h1,h2,h3⟩:=s' nu;have hr:cu w (ar X B st.sites) (flat t (List.replicate n eO)) v.cells.toList:=by
  have:=h3 B st.sites w (ar X B st.sites);have e1:∀n,cM (flat t (List.replicate n eO))=List.replicate n l:=by
   intro n;induction n with
   |zero=>rfl
   |succ n ih=>rw[List.replicate_succ,Gz,Jp,hzz,List.replicate_succ,ih];rfl
  refine jP (B:=B) (sites:=st.sites) ?_
  rw[e1];exact⟨h1,this⟩
 refine SH (T:=elem) S he (PD nD) hr Y ?_
 unfold execOp;simp[ay,Instr.alloc,hv,newVar,newRow]
theorem akj(S:ai O U X B st tm w){C:Ctx}(H:CtxOk P C){elem e:TypeId}{t:aH}{n o:Nat}{x:Operand}(a_:C.tt elem=.arr e t n)(ay:D.op=.box elem x)(Y:ce st D.dst=true):Holds (uW o st t n (aS C st elem x)) (cJ P O U X st tm w D):=by
 have bL:=H.tt elem;rw[a_] at bL;have he:=(oM bL.2.2).1;have bv:=de S C elem x;unfold uW;split
 ·rename_i ab hx;rw[hx] at bv;split
  ·rename_i xs va;obtain⟨vs,hv,hl,hr⟩:∃vs:List Value,Act.eval ⟨tm,[]⟩ x=.agg vs.toArray/\vs.length=ab.length/\∀j (h:j<ab.length) (ae:j<vs.length),dF B st.sites w (ar X B st.sites) (ab[j]) (vs[j]):=bv;have qN:cy B st.sites w (ar X B st.sites) ab vs:=⟨hl,hr⟩;rw[Jm va] at qN;refine SH (T:=elem) S he (PD bL.2.2) (jP qN) Y ?_
   unfold execOp;simp[ay,Instr.box,newVar,newRow,hv,Value.cells]
  ·exact .fail
 ·exact .fail
theorem ai.arr(S:ai O U X B st tm w){o s:Nat}{t:aH}{xs:List (den t)}{v:Value}(hr:rowOf st o s=some ⟨t,xs⟩)(hv:dF B st.sites w (ar X B st.sites) (.eR o s t 0 0) v):
  ∃b c,∃cs:List Value,v=.pointer (some ⟨b,0,none⟩)/\b0 (B o)=.slice (some ⟨b,0,none⟩) xs.length c/\iL w b 0 cs/\cu w (ar X B st.sites) (flat t xs) cs:=by
 obtain⟨cs,hl,hcell⟩:=S.row hr;obtain⟨aa,hh,k0⟩:∃aa,look st.sites o=some aa/\aa.b'=s:=by
  rcases kE hr with h|h<;>exact⟨_,h,rfl⟩
 obtain⟨b,hv,xW⟩:=hv;obtain⟨n,c,bX⟩:=Ref.at xW hh k0;rcases hcell with⟨qF,_⟩|⟨bf,fV,ej,hcs,_⟩
 ·rw[qF] at bX;cases bX
 ·have Xj:=bX;rw[ej] at Xj;cases Xj;exact⟨b,c,cs,by simpa using hv,ej,hcs,jP hl⟩
theorem ahZ(S:ai O U X B st tm w){C:Ctx}(H:CtxOk P C){T e:TypeId}{t:aH}{n:Nat}{x:Operand}(a_:C.tt T=.arr e t n)(ay:D.op=.load T x)(Y:ce st D.dst=true):Holds (uv st t n (aS C st T x)) (cJ P O U X st tm w D):=by
 have bL:=H.tt T;rw[a_] at bL;obtain⟨he,_,_,eO,_,mx,_⟩:=oM bL.2.2;have bv:=de S C T x;unfold uv;split
 ·rename_i o s u hx;rw[hx] at bv;split
  ·rename_i be xs hrow;split
   ·rename_i iF;obtain⟨rfl,rfl⟩:=iF;refine Holds.eN fun y hy=>?_
    obtain⟨rfl,hlen⟩:=v8 (hy:long n xs=some y);obtain⟨b,c,cs,hv,_,hc,hr⟩:=S.arr hrow bv;have hcl:cs.length=n:=by rw[hr.1,eG,he,hlen,Nat.mul_one]
    refine dS S Y (vv:=.agg cs.toArray) ?_ ?_
    ·have cY:=s9 (P:=P) (w:=w) bL (by rintro h;cases h) ⟨b,0,none⟩ cs hcl (fun j u hu=>by rw[gV];exact hc j u hu)
     unfold execOp;simp only[ay,Instr.loadAt,Instr.sureAddr,hv,Sem.run_bind,Sem.run_pure,Result.andThen_ok,cY];rfl
    ·subst hlen;have:=iw (B:=B) (sites:=st.sites) hr.1 hr.2;rw[<-S' mx] at this;exact⟨cs,rfl,this.1,this.2⟩
   ·exact .fail
  ·exact .fail
 ·exact .fail
theorem afa(S:ai O U X B st tm w){C:Ctx}(H:CtxOk P C){T e:TypeId}{t:aH}{n:Nat}{a x:Operand}{v:bH}(a_:C.tt T=.arr e t n)(ay:D.op=.store T a x)(Y:ce st D.dst=true)(hv:nn (aS C st T x)=some v):
  Holds (tT st t n (aS C st T a) v) (cJ P O U X st tm w D):=by
 have bL:=H.tt T;rw[a_] at bL;have he:=(oM bL.2.2).1;have pH:=de S C T a;have hex:=de S C T x;rw[rk hv] at hex;unfold tT;split
 ·rename_i o s u ab hx;rw[hx] at pH;split
  ·rename_i au be xs gh;have gh:look st.sites o=some (.row au be xs):=gh;split
   ·rename_i iF;obtain⟨rfl,rfl,rfl⟩:=iF;split
    ·rename_i ys ate;cases hc:ys.length.beq n with
     |false=>exact .fail
     |true=>
      have Ei:=Nat.eq_of_beq_eq_true hc;refine Holds.fN fun r hr=>?_
      obtain⟨_,hlen⟩:=v8 (hr:long n xs=some r);obtain⟨vs,pw,hl,dt⟩:∃vs:List Value,Act.eval ⟨tm,[]⟩ x=.agg vs.toArray/\vs.length=ab.length/\∀j (h:j<ab.length) (ae:j<vs.length),dF B st.sites w (ar X B st.sites) (ab[j]) (vs[j]):=hex;have qN:cy B st.sites w (ar X B st.sites) ab vs:=⟨hl,dt⟩;rw[Jm ate] at qN;have ox:=jP qN;have lA:vs.length=n:=by rw[ox.1,eG,he,Ei,Nat.mul_one]
      obtain⟨b,Eo,xW⟩:=pH;obtain⟨m,c,bX⟩:=Ref.at xW gh rfl;obtain⟨b_,cs,kT,hcs⟩:=S.sites o _ gh;rcases kT.2 with⟨hn,_⟩|⟨g,cap,cur,fz,hQ,hz,hg,hnc,hcm,iR,htk⟩
      ·rw[hn] at bX;cases bX
      ·have qT:=bX;rw[hQ] at qT;cases qT;have atU:cur.size=c:=by rw[iR,he,Nat.mul_one]
       have mo:0+vs.length<=cur.toList.length:=by
        have:cur.toList.length=cur.size:=Array.length_toList;omega
       have b7:ai O U X B {st with sites:=cg st.sites o (.row au be ys)} tm (w.setRow b (bA cur.toList 0 vs).toArray):=by
        refine S.write gh rfl rfl rfl (gT (by rw[hQ];rfl)) hg (fun hs hw hg' go=>?_)
        refine⟨b_,vs,⟨by rw[he,Ei,Nat.mul_one];exact lA,.inr ⟨b,c,_,fz,by rw[hQ,hlen,Ei],?_,hg',by omega,hcm,?_,?_⟩⟩,fun j g1 g2=>kK go (ox.2 j g1 g2)⟩
        ·refine⟨hz.1,hz.2.imp id fun h=>⟨h.1,?_⟩⟩
         rw[List.size_toArray,nO _ _ _ mo];simpa using h.2
        ·rw[List.size_toArray,nO _ _ _ mo,Array.length_toList,atU,he,Nat.mul_one]
        ·rw[he,Nat.mul_one,Ei,<-lA];simp[bA]
       refine ta (us:=[(o,.row au be ys)]) b7 Y ?_
       have cY:=N6 (P:=P) (w:=w) bL (by rintro h;cases h) (vv:=.agg vs.toArray) (cur:=cur.toList) (off:=0) (by simpa using hg) (by simpa using hz) (by simpa[Value.cells,cp.size] using lA) (by simpa[Value.cells] using mo) (by simpa[Value.cells] using alq ox)
       unfold execOp;simp only[ay,Eo,pw,Instr.storeAt,Instr.sureAddr,Sem.run_bind,Sem.run_pure,Result.andThen_ok,Nat.zero_mul,Nat.zero_add,cY];simp[Value.cells]
    ·exact .fail
   ·exact .fail
  ·exact .fail
 ·exact .fail
theorem abH(S:ai O U X B st tm w){C:Ctx}(H:CtxOk P C){T e:TypeId}{t:aH}{m:Nat}{x i:Operand}{k:IntKind}{n:Int}(a_:C.tt T=.arr e t m)(hi:aS C st 0 i=.av (.ag (.d (.int k n))))(ay:D.op=.indexAddr T x i)(Y:ce st D.dst=true):
  Holds (tg C st t m (aS C st T x) n) (cJ P O U X st tm w D):=by
 have bL:=H.tt T;rw[a_] at bL;obtain⟨eL,_,nD⟩:=bL;obtain⟨he,⟨d,z0,ow⟩,_⟩:=oM nD;have xV:=kJ S hi;have bv:=de S C T x;obtain⟨inf,lu,h_⟩:∃inf,P.info? e=some inf/\inf.size=1:=by
  have:=ow.2.2.2;cases al:P.info? e with
  |none=>simp[al] at this
  |some i=>simp only[al,Option.map_some,Option.some.injEq,Prod.mk.injEq] at this;exact⟨i,rfl,this.1⟩
 have run:∀{b:Nat},Act.eval ⟨tm,[]⟩ x=.pointer (some ⟨b,0,none⟩)->0<=n->n<m->(execOp (Act.eval ⟨tm,[]⟩) D).run P w=.ok (.value (.pointer (some ⟨b,n.toNat,none⟩))) w:=by
  intro b hx h0 h1;unfold execOp;simp[ay,hx,xV,Instr.indexAt,Instr.sureAddr,asIntOf,run_underlying eL,h0,h1,sizeOf,lZ lu,h_,gV]
 unfold tg;split
 ·rename_i o s u hx;rw[hx] at bv;split
  ·rename_i be xs hrow;split
   ·rename_i iF;obtain⟨rfl,rfl⟩:=iF;refine Holds.eN fun y hy=>?_
    obtain⟨zs,hz1,hz2⟩:=Option.bind_eq_some_iff.1 (hy:(long m xs).bind (fun xs=>aU xs.length n)=some y)
    obtain⟨rfl,hlen⟩:=v8 hz1;unfold aU at hz2;split at hz2
    ·rename_i hb;cases hz2;obtain⟨b,c,cs,hv,bX,_⟩:=S.arr hrow bv;refine dS S Y (run hv hb.1 (by rw[<-hlen];exact hb.2)) ⟨b,?_,?_⟩
     ·rw[he,Nat.mul_one,Nat.add_zero]
     ·rcases kE hrow with h|h<;>exact Ref.mk h rfl ⟨_,_,bX⟩
    ·cases hz2
   ·exact .fail
  ·exact .fail
 ·rename_i g hx;rw[hx] at bv;split
  ·rename_i be xs sH;cases hc:(decide (be=t)&&xs.length.beq m) with
   |false=>exact .fail
   |true=>
    simp only[Bool.and_eq_true,decide_eq_true_eq] at hc;obtain⟨rfl,hlen⟩:=hc;have hlen:=Nat.eq_of_beq_eq_true hlen;refine Holds.eN fun y hy=>?_
    have ep:aQ xs n=some y:=hy;unfold aQ at ep;split at ep
    ·rename_i h0;have hlt:n.toNat<xs.length:=by
      rcases Nat.lt_or_ge n.toNat xs.length with h|h
      ·exact h
      ·rw[List.getElem?_eq_none h] at ep;cases ep
     obtain⟨_g,vr⟩:=H.gt g _ _ sH;obtain⟨eZ,b8⟩:=S.la;obtain⟨gB,fz',cs,hg,dt⟩:=vr w (ar X B st.sites) eZ;have hv:Act.eval ⟨tm,[]⟩ x=.pointer (some ⟨g,0,none⟩):=bv;refine dS S Y (run hv h0 (by omega)) ⟨g,n.toNat,rfl,(b8 g _g).1,(b8 g _g).2,(cs.drop n.toNat).take 1,?_,fun j u hu=>?_,?_⟩
     ·have:cs.length=xs.length:=by rw[dt.1,eG,he,Nat.mul_one]
      rw[fW,he];simp;omega
     ·exact(((iL.row hg).drop n.toNat).take 1) j u hu|>fun h=>by simpa using h
     ·have hs:=vY be xs n.toNat y ep;rw[he,Nat.mul_one] at hs;have ol:cu w (ar X B st.sites) (flat be xs) cs:=dt;have ane:=iw (B:=B) (sites:=st.sites) ol.1 ol.2;have h2:=jP (ds:=((flat be xs).drop n.toNat).take 1) (by
       have:=(ane.drop n.toNat).take 1;simpa[cM,List.map_drop,List.map_take] using this)
      rw[hs] at h2;exact h2.2
    ·cases ep
  ·exact .fail
 ·exact .fail
theorem agj(S:ai O U X B st tm w){C:Ctx}(H:CtxOk P C){T e:TypeId}{t:aH}{m:Nat}{x i:Operand}{k:IntKind}{n:Int}(a_:C.tt T=.arr e t m)(hi:aS C st 0 i=.av (.ag (.d (.int k n))))(ay:D.op=.index T x i)(Y:ce st D.dst=true):
  Holds (J3 t m (aS C st T x) n) (cJ P O U X st tm w D):=by
 have bL:=H.tt T;rw[a_] at bL;obtain⟨eL,_,nD⟩:=bL;obtain⟨he,⟨d,z0,ow⟩,_⟩:=oM nD;have xV:=kJ S hi;have bv:=de S C T x;obtain⟨inf,lu,h_⟩:∃inf,P.info? e=some inf/\inf.size=1:=by
  have:=ow.2.2.2;cases al:P.info? e with
  |none=>simp[al] at this
  |some i=>simp only[al,Option.map_some,Option.some.injEq,Prod.mk.injEq] at this;exact⟨i,rfl,this.1⟩
 unfold J3;split
 ·rename_i ab hx;rw[hx] at bv;split
  ·rename_i xs va;cases hc:xs.length.beq m with
   |false=>exact .fail
   |true=>
    have hlen:=Nat.eq_of_beq_eq_true hc;refine Holds.eN fun y hy=>?_
    have ep:aQ xs n=some y:=hy;unfold aQ at ep;split at ep
    ·rename_i h0;have hlt:n.toNat<xs.length:=by
      rcases Nat.lt_or_ge n.toNat xs.length with h|h
      ·exact h
      ·rw[List.getElem?_eq_none h] at ep;cases ep
     obtain⟨vs,hv,hl,hr⟩:∃vs:List Value,Act.eval ⟨tm,[]⟩ x=.agg vs.toArray/\vs.length=ab.length/\∀j (h:j<ab.length) (ae:j<vs.length),dF B st.sites w (ar X B st.sites) (ab[j]) (vs[j]):=bv;have qN:cy B st.sites w (ar X B st.sites) ab vs:=⟨hl,hr⟩;rw[Jm va] at qN;have ox:=jP qN;have lA:vs.length=xs.length:=by rw[ox.1,eG,he,Nat.mul_one]
     obtain⟨d1,hd1⟩:∃d1,enc t y=[d1]:=by
      have:=fW t y;rw[he] at this;match h:enc t y,this with
      |[d1],_=>exact⟨d1,rfl⟩
     simp only[hd1];have cE:n.toNat<vs.length:=by omega
     refine dS S Y (vv:=vs[n.toNat]) ?_ ?_
     ·have Li:(isAgg e).run P w=.ok false w:=by
       have h1:=ow.1;simp only[isAgg,Sem.run_bind,run_underlying h1,Result.andThen_ok];have g1:=ow.2.1;have g2:=ow.2.2.1;cases d<;>first|rfl|exact absurd rfl (g1 _)|exact absurd rfl (g2 _ _)
      have h1:n<(m:Int):=by omega
      unfold execOp;simp[ay,hv,xV,Instr.index,asIntOf,run_underlying eL,h0,h1,sizeOf,lZ lu,h_,part,Li,cE]
     ·have hs:=vY t xs n.toNat y ep;rw[he,Nat.mul_one,hd1] at hs;have mA:n.toNat<(flat t xs).length:=by rw[eG,he,Nat.mul_one];exact hlt
      have e1:(flat t xs)[n.toNat]=d1:=by
       have:=congrArg (fun l=>l[0]?) hs
       simp only[List.getElem?_take,List.getElem?_drop] at this;rw[if_pos (by decide),Nat.add_zero,List.getElem?_eq_getElem mA] at this
       simpa using this
      have:=ox.2 n.toNat mA cE;rw[e1] at this;exact this
    ·cases ep
  ·exact .fail
 ·exact .fail
theorem afe(S:ai O U X B st tm w){C:Ctx}(H:CtxOk P C){T e:TypeId}{t:aH}{m:Nat}{x:Operand}{cX hi:Option Operand}(a_:C.tt T=.arr e t m)(ay:D.op=.slice T x cX hi none)(Y:ce st D.dst=true):
  Holds (tW st t m (aS C st T x) (cX.map (aS C st 0)) (hi.map (aS C st 0))) (cJ P O U X st tm w D):=by
 have bL:=H.tt T;rw[a_] at bL;obtain⟨eL,_,nD⟩:=bL;obtain⟨he,⟨d,z0,ow⟩,_⟩:=oM nD;have bv:=de S C T x;obtain⟨inf,lu,h_⟩:∃inf,P.info? e=some inf/\inf.size=1:=by
  have:=ow.2.2.2;cases al:P.info? e with
  |none=>simp[al] at this
  |some i=>simp only[al,Option.map_some,Option.some.injEq,Prod.mk.injEq] at this;exact⟨i,rfl,this.1⟩
 have sh:∀{cX:Option Operand} {mq l:Int},jy mq (cX.map (aS C st 0))=some l->(cX.map (Act.eval ⟨tm,[]⟩)=none/\l=mq)\/∃k,cX.map (Act.eval ⟨tm,[]⟩)=some (.int k l):=by
  intro cX mq l h;rcases RX S h with⟨rfl,ae⟩|⟨x,k,rfl,ae⟩
  ·exact .inl ⟨rfl,ae⟩
  ·exact .inr ⟨k,by simp[ae]⟩
 unfold tW;split
 ·rename_i o s u hx;rw[hx] at bv;split
  ·rename_i be xs l h hrow gN hhi;split
   ·rename_i iF;obtain⟨rfl,rfl⟩:=iF;refine Holds.fN fun r hr=>?_
    obtain⟨zs,hz1,hz2⟩:=Option.bind_eq_some_iff.1 (hr:(long m xs).bind (fun xs=>bD xs l h)=some r)
    obtain⟨rfl,hlen⟩:=v8 hz1;unfold bD at hz2;split at hz2
    ·rename_i hb;obtain⟨h0,h1,h2⟩:=hb;cases hz2;obtain⟨b,c,cs,hv,bX,_⟩:=S.arr hrow bv;refine P2 (us:=[(o,.da s be zs)]) (RP hrow).symm ?_
     have hfz:dM st.sites [(o,.da s be zs)]:=by
      intro M aa hm;simp only[List.mem_singleton,Prod.mk.injEq] at hm;obtain⟨rfl,rfl⟩:=hm;exact⟨s,be,zs,rfl,(kE hrow).elim .inl fun h=>.inr (.inl h)⟩
     have aO:lY O U X B st tm w [(o,.da s be zs)]:=⟨S,hfz⟩;have qO:=zp hfz (List.mem_singleton.2 rfl);obtain⟨dt,U9⟩:=aO.new.sites o _ qO;rw[bX] at dt;generalize Z5:Value.slice (some ⟨b,0,none⟩) zs.length c=v at dt;cases dt with
     |nil=>cases Z5
     |sl _ _ a cap ky k hk hcap cd hl hc hr=>
      cases Z5;have atZ:=FB (P:=P) (w:=w) false m m (cX.map (Act.eval ⟨tm,[]⟩)) (hi.map (Act.eval ⟨tm,[]⟩)) l h (sh gN) (sh hhi) h0 h1 (by omega) (Nat.le_refl _)
      refine jN (us:=[(o,.da s be zs)]) aO.new Y (vv:=.slice (if m=l.toNat then some ⟨b,0,none⟩ else(some (⟨b,0,none⟩:Addr)).map (·.add (l.toNat*aA be))) (h.toNat-l.toNat) (m-l.toNat)) ?_ ?_
      ·unfold execOp;simp only[ay,Option.map_none,Sem.run_bind,Instr.sliceAt,run_underlying eL,Result.andThen_ok,hv,Instr.sureAddr,Sem.run_pure,atZ,sizeOf,lZ lu,h_,he];split<;>simp
      ·exact IA cd ⟨hl,hr⟩ hc l.toNat h.toNat m (by omega) (by omega) (by omega)
    ·cases hz2
   ·exact .fail
  ·exact .fail
 ·exact .fail
theorem ago{f g:Nat->Option (Nat×Nat)}(h:∀i p,f i=some p->g i=some p):∀(l:List (Nat×Value)) (cs ky:Array Value),Instr.fill f cs l=some ky->Instr.fill g cs l=some ky:=by
 intro l;induction l with
 |nil=>intro cs ky k;exact k
 |cons p l ih=>
  obtain⟨i,v⟩:=p;intro cs ky k;simp only[Instr.fill] at k ⊢;cases hf:f i with
  |none=>simp[hf] at k
  |some q=>
   obtain⟨off,size⟩:=q;rw[h i _ hf];rw[hf] at k;simp only at k ⊢;split at k
   ·cases k
   ·rename_i hn;rw[if_neg hn];exact ih _ _ k
theorem agz(S:ai O U X B st tm w){C:Ctx}(H:CtxOk P C){T e:TypeId}{t:aH}{n:Nat}{z:az}{parts:Array (Nat×Operand)}(a_:C.tt T=.arr e t n)(hz:u3 t=some z)(ay:D.op=.build T parts)(Y:ce st D.dst=true):
  Holds (step.n7 C st ((List.range n).map fun j=>(j,1)) (List.replicate n z) parts.toList) (cJ P O U X st tm w D):=by
 have bL:=H.tt T;rw[a_] at bL;obtain⟨eL,⟨gi,ga,lu,hz1,hzz⟩,nD⟩:=bL;rw[hz] at hz1;cases hz1;obtain⟨he,⟨d,z0,ow⟩,_⟩:=oM nD;obtain⟨ayo,atJ,apD⟩:∃inf,P.info? e=some inf/\inf.size=1:=by
  have:=ow.2.2.2;cases al:P.info? e with
  |none=>simp[al] at this
  |some i=>simp only[al,Option.map_some,Option.some.injEq,Prod.mk.injEq] at this;exact⟨i,rfl,this.1⟩
 obtain⟨aw,an,bo⟩:=s' hzz;intro y hy hc;obtain⟨g1,kf,g2,g3⟩:=QQ S parts.toList (List.replicate n z) gi ⟨aw,fun j h ae=>bo _ _ _ _ j h ae⟩ y hy hc
 rw[g1];refine dS S Y (vv:=.agg kf) ?_ g3;cases hi:P.info? T with
 |none=>simp[hi] at lu
 |some it=>
  simp only[hi,Option.map_some,Option.some.injEq,Prod.mk.injEq] at lu;have hb:P.built T (parts.toList.map fun p=>(p.1,Act.eval ⟨tm,[]⟩ p.2))=some kf:=by
   unfold Program.built;simp only[hi,eL,lu.2,atJ,apD];refine ago (fun i p hp=>?_) _ _ _ g2
   simp only[List.getElem?_toArray,List.getElem?_map,Option.map_eq_some_iff] at hp;obtain⟨a,ha,rfl⟩:=hp;have:=List.getElem?_eq_some_iff.1 ha;obtain⟨h1,h2⟩:=this;simp at h2;subst h2;simp
  have cd:P.built T (parts.map fun p=>(p.1,Act.eval ⟨tm,[]⟩ p.2)).toList=some kf:=by simpa using hb
  unfold execOp;simp only[ay,Sem.run_bind,run_build w T _ kf cd,Result.andThen_ok,Sem.run_pure]
theorem acK(S:ai O U X B st tm w){C:Ctx}{x:Operand}{k:IntKind}{n:Int}{T dl:TypeId}(ay:D.op=.unOp .xor dl x)(Y:ce st D.dst=true)(hc:aS C st T x=.av (.ag (.d (.int k n)))):
  cJ P O U X st tm w D (one (.int k (dx k (if k.signed then-1 else k.max) n))) []:=by
 refine dS S Y (vv:=.int k (dx k (if k.signed then-1 else k.max) n)) ?_ (.int _ _)
 unfold execOp;simp[ay,kJ S hc,Op.unary,Op.intBits,dx]
end
def nd:Nat->Value:=fun _=>undef
def nb(w:World)(av:Nat->Prop)(l:az)(v:Value)(bs:List Nat):Prop:=
 match l with
 |.fresh t xs=>bs=(bq v).toList/\∃e,∃cs:List Value,rowAt w t.fu e (aA t) v xs.length cs/\cu w av (flat t xs) cs
 |.jb t xs=>∃e,∃cs ns:List Value,bs=bJ (.tuple (v::ns).toArray)/\rowAt w t.fu e (aA t) v xs.length cs/\Deep w av (flat t xs) cs ns
 |l=>bs=[]/\dF nd [] w av l v
def gX(w:World)(av:Nat->Prop):List az->List Value->List Nat->Prop
 |[],[],bs=>bs=[]
 |l::ab,v::vs,bs=>∃b1 b2,bs=b1++b2/\nb w av l v b1/\gX w av ab vs b2
 |_,_,_=>False
def Dr(w:World)(av:Nat->Prop):bH->Value->List Nat->Prop
 |.ag l,v,bs=>nb w av l v bs
 |.agg ab,v,bs=>∃vs:List Value,v=.agg vs.toArray/\gX w av ab vs bs
def mb(w:World)(av:Nat->Prop):List bH->List Value->List Nat->Prop
 |[],[],bs=>bs=[]
 |l::ab,v::vs,bs=>∃b1 b2,bs=b1++b2/\Dr w av l v b1/\mb w av ab vs b2
 |_,_,_=>False
def Jr(w:World)(av:Nat->Prop)(b:Nat)(cells:List az)(bs:List Nat):Prop:=
 ∃T,∃cur:List Value,∃pN,bs=b::pN/\w.heap[b]? =some (.cells cur.toArray T (0,0))/\(∀u∈cur,u.oneCell'=true)/\oc cells T cur b/\gX w av cells cur pN
def Tb(w:World)(av:Nat->Prop):Arg->Value->List Nat->Prop
 |.av a,v,bs=>Dr w av a v bs
 |.eg cells,v,bs=>∃b,v=.pointer (some ⟨b,0,none⟩)/\Jr w av b cells bs
def js(w:World)(av:Nat->Prop):List Arg->List Value->List Nat->Prop
 |[],[],bs=>bs=[]
 |l::ab,v::vs,bs=>∃b1 b2,bs=b1++b2/\Tb w av l v b1/\js w av ab vs b2
 |_,_,_=>False
def d_:List Arg->List Value->List Nat
 |.eg _::as,.pointer (some a)::vs=>a.block::d_ as vs
 |_::as,_::vs=>d_ as vs
 |_,_=>[]
def ma(w:World)(av:Nat->Prop):List Nat->List (List az)->List Nat->Prop
 |[],[],bs=>bs=[]
 |b::dp,cs::cF,bs=>∃b1 b2,bs=b1++b2/\Jr w av b cs b1/\ma w av dp cF b2
 |_,_,_=>False
def jh:Value->List Value
 |.agg vs=>vs.toList
 |v=>[v]
def fY:List Arg->List Value->List Value
 |.av a::as,v::vs=>(bif gR a.cells then [] else jh v)++fY as vs
 |.eg _::as,_::vs=>fY as vs
 |_,_=>[]
def rR(w:World)(av:Nat->Prop)(dp:List Nat)(cF:List (List az))(rv:List Value)(e':List az)(bs:List Nat):Prop:=
 ∃c1 c2,bs=c1++c2/\ma w av dp cF c1/\(e'=[]/\c2=[]\/gX w av e' rv c2)
theorem rR.of{w:World}{av:Nat->Prop}{dp:List Nat}{cF:List (List az)}{rv:List Value}{bs:List Nat}(h:ma w av dp cF bs):rR w av dp cF rv [] bs:=⟨bs,[],by simp,h,.inl ⟨rfl,rfl⟩⟩
def qk:List Value->Value
 |[v]=>v
 |vs=>.tuple vs.toArray
def Enters(P:Program)(g:FuncId)(vs:Array Value)(w:World)(R:Value->World->Prop):Prop:=
 ((callFunc g vs).run P w=.ok (.enter g vs) w/\Calls P g vs w fun|.returned v,w'=>R v w'|_,_=>False)\/(∃v w',(callFunc g vs).run P w=.ok (.value v) w'/\R v w')
def aL(P:Program)(g:FuncId)(S:aK):Prop:=
 ∀as y,(S as).comp=some y->∀(w:World) (X:Nat->Prop) (vs:List Value) (c7:List Nat),js w (fun b=>X b\/b∈c7) as vs c7->c7.Nodup->(∀b,b∈c7->¬X b)->(∀b,X b->b<w.heap.size)->jc w c7 X->
  Enters P g vs.toArray w fun v w'=>∃fl eC rv,Fr c7 w w'/\rR w' (fun b=>X b\/b∈fl++eC) (d_ as vs) ((S as).eg y) (fY as vs) ((S as).e' y) fl/\mb w' (fun b=>X b\/b∈fl++eC) ((S as).ft y) rv eC/\
   v=qk rv/\(fl++eC).Nodup/\∀b,b∈fl++eC->¬X b/\(b∈c7\/w.heap.size<=b)
section
variable {O:World}{U:List Nat}{X:Nat->Prop}{B:Nat->Value}{st:af}{tm:Array Value}{w:World}
theorem cj.gu{sites:List (Nat×Site)}{av b4:Nat->Prop}(h:∀b,b4 b->av b)(hlt:∀b,b4 b->b<w.heap.size){a:aI}{v:Value}(k:cj B sites w av a v):cj B sites w b4 a v:=by
 have G:ib B B sites sites w w av b4:=⟨fun o aa hs=>⟨aa,hs,Nat.le_refl _,fun _=>rfl⟩,fun _ _ _=>rfl,fun b hb _ ae=>hb (h b ae)⟩
 exact k.goes G (Nat.le_refl _) hlt
theorem jS.gu{sites:List (Nat×Site)}{av b4:Nat->Prop}(h:∀b,b4 b->av b)(hlt:∀b,b4 b->b<w.heap.size){o:Nat}{aa:Site}(k:jS B sites w av o aa):jS B sites w b4 o aa:=by
 have G:ib B B sites sites w w av b4:=⟨fun o aa hs=>⟨aa,hs,Nat.le_refl _,fun _=>rfl⟩,fun _ _ _=>rfl,fun b hb _ ae=>hb (h b ae)⟩
 exact k.goes G (Nat.le_refl _) hlt rfl (fun _ _ _=>rfl)
theorem ai.lt(S:ai O U X B st tm w){b:Nat}(h:ar X B st.sites b):b<w.heap.size:=by
 rcases h with h|⟨o,h1,h2⟩
 ·exact S.old b h
 ·exact S.eH h1 h2
theorem ai.shrink(S:ai O U X B st tm w){X':Nat->Prop}(h:∀b,X' b->X b):ai O U X' B st tm w:=by
 have b8:∀b,ar X' B st.sites b->ar X B st.sites b:=by
  rintro b (hb|hb)
  ·exact .inl (h b hb)
  ·exact .inr hb
 have hlt:=fun b hb=>S.lt (b8 b hb)
 exact⟨S.nt,fun t=>(S.cO t).gu b8 hlt,fun o aa hs=>(S.sites o aa hs).gu b8 hlt,S.dC,fun o b h1 h2=>⟨fun hx=>(S.cf o b h1 h2).1 (h b hx),(S.cf o b h1 h2).2⟩,S.frame,fun b hb=>S.old b (h b hb),S.fC.less fun b _=>h b⟩
theorem ai.kill(S:ai O U X B st tm w){o:Nat}{aa:Site}(hl:look st.sites o=some aa)(gE:aa.live=true):
  ai O U (fun b=>X b\/b∈bJ (B o)) B {st with sites:=cg st.sites o (.dead aa.b')} tm w:=by
 have cE:∀M,bY (cg st.sites o (.dead aa.b')) M->M≠o/\bY st.sites M:=by
  rintro M ⟨s,h1,h2⟩;rw[cC] at h1;by_cases e:o=M
  ·subst e;simp at h1;subst h1;cases h2
  ·simp only[e,if_false] at h1;exact⟨fun h=>e h.symm,s,h1,h2⟩
 have b8:∀b,ar (fun b=>X b\/b∈bJ (B o)) B (cg st.sites o (.dead aa.b')) b->ar X B st.sites b:=by
  rintro b ((h|h)|⟨M,h1,h2⟩)
  ·exact .inl h
  ·exact .inr ⟨o,⟨aa,hl,gE⟩,h⟩
  ·exact .inr ⟨M,(cE M h1).2,h2⟩
 have hlt:=fun b hb=>S.lt (b8 b hb)
 have b7:ai O U X B {st with sites:=cg st.sites o (.dead aa.b')} tm w:=by
  have xY:∀b,ar X B (cg st.sites o (.dead aa.b')) b->ar X B st.sites b:=by
   rintro b (h|⟨M,h1,h2⟩)
   ·exact .inl h
   ·exact .inr ⟨M,(cE M h1).2,h2⟩
  refine S.qA (fun M s hs=>?_) (fun _ _ _=>rfl) (fun b hb _ ae=>hb (xY b ae)) (fun go M s hs=>?_) (fun M ρ b h1 h2 g1 g2=>S.dC M ρ b (cE M h1).2 (cE ρ h2).2 g1 g2) (fun M b h1 h2=>S.cf M b (cE M h1).2 h2)
   (fun M b h1 h2=>S.eH (cE M h1).2 h2) S.frame (Nat.le_refl _)
  ·rw[cC];by_cases e:o=M
   ·subst e;rw[hl] at hs;cases hs;exact⟨.dead aa.b',by simp,Nat.le_refl _,fun _=>rfl⟩
   ·exact⟨s,by simp[e,hs],Nat.le_refl _,fun _=>rfl⟩
  ·rw[cC] at hs;by_cases e:o=M
   ·simp only[e,if_true,Option.some.injEq] at hs;subst hs;exact .inr trivial
   ·simp only[e,if_false] at hs;exact .inl ⟨hs,rfl,fun _ _ _=>rfl⟩
 refine⟨b7.nt,fun t=>?_,fun M s hs=>?_,b7.dC,fun M b h1 h2=>⟨?_,(b7.cf M b h1 h2).2⟩,b7.frame,?_,S.fC.less fun b hb hx=>hx.elim id fun e=>absurd (.inr ⟨o,⟨aa,hl,gE⟩,e⟩) (S.la.2 b hb).1⟩
 ·have G:ib B B st.sites (cg st.sites o (.dead aa.b')) w w (ar X B st.sites) (ar (fun b=>X b\/b∈bJ (B o)) B (cg st.sites o (.dead aa.b'))):=
   ⟨fun M s hs=>by
    rw[cC];by_cases e:o=M
    ·subst e;rw[hl] at hs;cases hs;exact⟨.dead aa.b',by simp,Nat.le_refl _,fun _=>rfl⟩
    ·exact⟨s,by simp[e,hs],Nat.le_refl _,fun _=>rfl⟩,fun _ _ _=>rfl,fun b hb _ ae=>hb (b8 b ae)⟩
  exact(S.cO t).goes G (Nat.le_refl _) hlt
 ·have fD:look (cg st.sites o (.dead aa.b')) M=some s:=hs;rw[cC] at fD;by_cases e:o=M
  ·simp only[e,if_true,Option.some.injEq] at fD;subst fD;trivial
  ·simp only[e,if_false] at fD;have G:ib B B st.sites (cg st.sites o (.dead aa.b')) w w (ar X B st.sites) (ar (fun b=>X b\/b∈bJ (B o)) B (cg st.sites o (.dead aa.b'))):=
    ⟨fun M s hs=>by
     rw[cC];by_cases e:o=M
     ·subst e;rw[hl] at hs;cases hs;exact⟨.dead aa.b',by simp,Nat.le_refl _,fun _=>rfl⟩
     ·exact⟨s,by simp[e,hs],Nat.le_refl _,fun _=>rfl⟩,fun _ _ _=>rfl,fun b hb _ ae=>hb (b8 b ae)⟩
   exact(S.sites M s fD).goes G (Nat.le_refl _) hlt rfl (fun _ _ _=>rfl)
 ·rintro(hx|hx)
  ·exact(b7.cf M b h1 h2).1 hx
  ·exact(cE M h1).1 (S.dC M o b (cE M h1).2 ⟨aa,hl,gE⟩ h2 hx)
 ·rintro b (hb|hb)
  ·exact S.old b hb
  ·exact S.eH ⟨aa,hl,gE⟩ hb
theorem ai.jump(S:ai O U X B st tm w){w':World}(h:∀b,¬X b->b<w.heap.size->w'.heap[b]? =w.heap[b]?)(hs:w.heap.size<=w'.heap.size)(hf:Fr U O w'):
  ai O U (fun b=>X b\/(w.heap.size<=b/\b<w'.heap.size)) B st tm w':=by
 have hlt:∀b,ar (fun b=>X b\/(w.heap.size<=b/\b<w'.heap.size)) B st.sites b->b<w'.heap.size:=by
  rintro b ((hb|hb)|⟨M,h1,h2⟩)
  ·exact Nat.lt_of_lt_of_le (S.old b hb) hs
  ·exact hb.2
  ·exact Nat.lt_of_lt_of_le (S.eH h1 h2) hs
 have G:ib B B st.sites st.sites w w' (ar X B st.sites) (ar (fun b=>X b\/(w.heap.size<=b/\b<w'.heap.size)) B st.sites):=
  ⟨fun M s h=>⟨s,h,Nat.le_refl _,fun _=>rfl⟩,fun b hb cd=>h b (fun hx=>hb (.inl hx)) cd,fun b hb cd ae=>by
   rcases ae with(ae|ae)|ae
   ·exact hb (.inl ae)
   ·omega
   ·exact hb (.inr ae)⟩
 refine⟨S.nt,fun t=>(S.cO t).goes G hs hlt,fun o s h1=>(S.sites o s h1).goes G hs hlt rfl (fun hl b hb=>?_),S.dC,fun o b h1 h2=>⟨?_,(S.cf o b h1 h2).2⟩,hf,?_,S.fC.less fun b hb hx=>hx.elim id fun e=>absurd (S.la.2 b hb).2 (by omega)⟩
 ·exact h b (S.cf o b ⟨s,h1,hl⟩ hb).1 (S.eH ⟨s,h1,hl⟩ hb)
 ·rintro(hx|hx)
  ·exact(S.cf o b h1 h2).1 hx
  ·have:=S.eH h1 h2;omega
 ·rintro b (hb|hb)
  ·exact Nat.lt_of_lt_of_le (S.old b hb) hs
  ·exact hb.2
theorem ai.xC(S:ai O U X B st tm w){X':Nat->Prop}{n:Nat}{bF:Site}{nv:Value}(hA:∀b,X' b->X b)
  (dO:(∀aa,look st.sites n=some aa->aa.b'<bF.b')\/(b0 (B n)=b0 nv/\∀aa,look st.sites n=some aa->aa.b'=bF.b'/\aa.live=false))
  (hb:∀b,b∈bJ nv->X b/\¬X' b/\(b∈U\/O.heap.size<=b))
  (eZ:∀{bw:List (Nat×Site)} {aD:Nat->Value},bw=cg st.sites n bF->aD n=nv->(∀{a v},cj B st.sites w (ar X B st.sites) a v->cj aD bw w (ar X' aD bw) a v)->
   (∀b,ar X' aD bw b->ar X B st.sites b)->jS aD bw w (ar X' aD bw) n bF):
  ai O U X' (fun M=>if M=n then nv else B M) {st with sites:=cg st.sites n bF} tm w/\
   (∀b,ar X' (fun M=>if M=n then nv else B M) (cg st.sites n bF) b->ar X B st.sites b)/\
   (∀{a v},cj B st.sites w (ar X B st.sites) a v->cj (fun M=>if M=n then nv else B M) (cg st.sites n bF) w (ar X' (fun M=>if M=n then nv else B M) (cg st.sites n bF)) a v):=by
 have cE:∀M,bY (cg st.sites n bF) M->M=n\/(M≠n/\bY st.sites M):=by
  rintro M ⟨s,h1,h2⟩;rw[cC] at h1;by_cases e:n=M
  ·exact .inl e.symm
  ·simp only[e,if_false] at h1;exact .inr ⟨fun h=>e h.symm,s,h1,h2⟩
 have b8:∀b,ar X' (fun M=>if M=n then nv else B M) (cg st.sites n bF) b->ar X B st.sites b:=by
  rintro b (h|⟨M,h1,h2⟩)
  ·exact .inl (hA b h)
  ·rcases cE M h1 with rfl|⟨h3,aE⟩
   ·simp at h2;exact .inl (hb b h2).1
   ·simp only[h3,if_false] at h2;exact .inr ⟨M,aE,h2⟩
 have sg:∀o aa,look st.sites o=some aa->∃au,look (cg st.sites n bF) o=some au/\aa.b'<=au.b'/\(au.b'=aa.b'->b0 ((fun M=>if M=n then nv else B M) o)=b0 (B o)):=by
  intro M s hs;rw[cC];by_cases e:n=M
  ·subst e;refine⟨bF,by simp,?_,fun h=>?_⟩
   ·rcases dO with h|⟨_,h⟩
    ·exact Nat.le_of_lt (h s hs)
    ·exact Nat.le_of_eq (h s hs).1
   ·rcases dO with ae|⟨ae,_⟩
    ·have:=ae s hs;omega
    ·simp[ae]
  ·have b_:¬M=n:=fun h=>e h.symm
   exact⟨s,by simp[e,hs],Nat.le_refl _,fun _=>by simp[b_]⟩
 have G:ib B (fun M=>if M=n then nv else B M) st.sites (cg st.sites n bF) w w (ar X B st.sites) (ar X' (fun M=>if M=n then nv else B M) (cg st.sites n bF)):=
  ⟨sg,fun _ _ _=>rfl,fun b hb _ ae=>hb (b8 b ae)⟩
 have hlt:=fun b hb=>S.lt (b8 b hb)
 refine⟨⟨S.nt,fun t=>(S.cO t).goes G (Nat.le_refl _) hlt,fun M s hs=>?_,fun M ρ b h1 h2 g1 g2=>?_,fun M b h1 h2=>?_,S.frame,fun b h=>S.old b (hA b h),S.fC.less fun b _=>hA b⟩,b8,fun h=>h.goes G (Nat.le_refl _) hlt⟩
 ·have fD:look (cg st.sites n bF) M=some s:=hs;rw[cC] at fD;by_cases e:n=M
  ·subst e;simp only[if_true,Option.some.injEq] at fD;subst fD;exact eZ rfl (by simp) (fun h=>h.goes G (Nat.le_refl _) hlt) b8
  ·have b_:¬M=n:=fun h=>e h.symm
   simp only[e,if_false] at fD;exact(S.sites M s fD).goes G (Nat.le_refl _) hlt (by simp[b_]) (fun _ _ _=>rfl)
 ·rcases cE M h1 with rfl|⟨n1,c9⟩<;>rcases cE ρ h2 with rfl|⟨n2,fU⟩
  ·rfl
  ·simp only[if_true] at g1;simp only[n2,if_false] at g2;exact absurd (hb b g1).1 (S.cf ρ b fU g2).1
  ·simp only[if_true] at g2;simp only[n1,if_false] at g1;exact absurd (hb b g2).1 (S.cf M b c9 g1).1
  ·simp only[n1,if_false] at g1;simp only[n2,if_false] at g2;exact S.dC M ρ b c9 fU g1 g2
 ·rcases cE M h1 with rfl|⟨n1,c9⟩
  ·simp only[if_true] at h2;exact⟨(hb b h2).2.1,(hb b h2).2.2⟩
  ·simp only[n1,if_false] at h2;exact⟨fun hx=>(S.cf M b c9 h2).1 (hA b hx),(S.cf M b c9 h2).2⟩
end
def lk(w:World)(av:Nat->Prop):List (List aJ)->List Value->Prop
 |[],[]=>True
 |ds::r,v::vs=>(∃b,∃cs:List Value,v=.pointer (some ⟨b,0,none⟩)/\¬av b/\b<w.heap.size/\iL w b 0 cs/\cu w av ds cs)/\lk w av r vs
 |_,_=>False
theorem lk.fn{w:World}{av:Nat->Prop}{g:FuncId}:∀{bE:List (List aJ)} {vs:List Value},lk w av bE vs->bm w av (.fn g bE) (.func (.func g) #[] vs.toArray):=by
 intro bE vs h;have key:∀{bE:List (List aJ)} {vs:List Value},lk w av bE vs->∃oJ:List Nat,∃fE:List (List Value),vs=oJ.map (fun b=>Value.pointer (some ⟨b,0,none⟩))/\oJ.length=bE.length/\fE.length=bE.length/\
   (∀b,b∈oJ->¬av b/\b<w.heap.size)/\(∀i (h:i<oJ.length) (ae:i<fE.length),iL w oJ[i] 0 fE[i])/\(∀i (h:i<bE.length) (ae:i<fE.length),cu w av bE[i] fE[i]):=by
  intro bE;induction bE with
  |nil=>
   intro vs h;match vs,h with
   |[],_=>exact⟨[],[],rfl,rfl,rfl,fun b h=>by simp at h,fun i h=>by simp at h,fun i h=>by simp at h⟩
  |cons ds bE ih=>
   intro vs h;match vs,h with
   |v::vs,⟨⟨b,cs,h1,h2,h3,aE,br⟩,cB⟩=>
    obtain⟨oJ,fE,aw,an,bo,cl,ed,gz⟩:=ih cB;refine⟨b::oJ,cs::fE,by simp[h1,aw],by simp[an],by simp[bo],fun c hc=>?_,fun i g1 g2=>?_,fun i g1 g2=>?_⟩
    ·rcases List.mem_cons.1 hc with rfl|hc
     ·exact⟨h2,h3⟩
     ·exact cl c hc
    ·cases i with
     |zero=>exact aE
     |succ i=>exact ed i (by simpa using g1) (by simpa using g2)
    ·cases i with
     |zero=>exact br
     |succ i=>exact gz i (by simpa using g1) (by simpa using g2)
 obtain⟨oJ,fE,aw,an,bo,cl,ed,gz⟩:=key h;refine .fn g bE oJ (fun i=>fE.getD i []) _ (by rw[aw]) an (fun b hb=>(cl b hb).1) (fun b hb=>(cl b hb).2) (fun i hi=>?_) (fun i hi j u hu=>?_) (fun i hi j h1 h2=>?_)
 ·have ae:i<fE.length:=by omega
  have:=(gz i hi ae).1;simpa[List.getD,ae] using this
 ·have ae:i<fE.length:=by omega
  have:=ed i hi ae j u (by simpa[List.getD,ae] using hu)
  simpa using this
 ·have ae:i<fE.length:=by omega
  have h2':j<fE[i].length:=by simpa[List.getD,ae] using h2
  have:=(gz i hi ae).2 j h1 h2';simpa[List.getD,ae] using this
theorem lk.UM{w:World}{av:Nat->Prop}{g:FuncId}{bE:List (List aJ)}{v:Value}(h:bm w av (.fn g bE) v):∃vs:List Value,v=.func (.func g) #[] vs.toArray/\lk w av bE vs:=by
 cases h with
 |fn _ _ bs jL lb hlb qU hb hlt hl hc hr=>
  refine⟨bs.map fun b=>Value.pointer (some ⟨b,0,none⟩),by rw[hlb],?_⟩
  have key:∀(bE:List (List aJ)) (bs:List Nat) (jL:Nat->List Value),bs.length=bE.length->(∀b,b∈bs->¬av b/\b<w.heap.size)->(∀i (h:i<bE.length),(jL i).length=(bE[i]).length)->
    (∀i (h:i<bs.length) j u,(jL i)[j]? =some u->w.cell? ⟨bs[i],j,none⟩=some u)->(∀i (h:i<bE.length) j (h1:j<(bE[i]).length) (h2:j<(jL i).length),bm w av ((bE[i])[j]) ((jL i)[j]))->
    lk w av bE (bs.map fun b=>Value.pointer (some ⟨b,0,none⟩)):=by
   intro bE;induction bE with
   |nil=>intro bs jL h _ _ _ _;rw[List.eq_nil_of_length_eq_zero h];trivial
   |cons ds bE ih=>
    intro bs jL h h1 h2 h3 aE;match bs,h with
    |b::bs,h=>
     refine⟨⟨b,jL 0,rfl,(h1 b List.mem_cons_self).1,(h1 b List.mem_cons_self).2,fun j u hu=>?_,h2 0 (by simp),fun j g1 g2=>aE 0 (by simp) j g1 g2⟩,?_⟩
     ·have:=h3 0 (by simp) j u hu
      simpa using this
     ·exact ih bs (fun i=>jL (i+1)) (by simpa using h) (fun c hc=>h1 c (List.mem_cons_of_mem _ hc)) (fun i hi=>h2 (i+1) (by simpa using hi)) (fun i hi j u hu=>h3 (i+1) (by simpa using hi) j u hu)
       (fun i hi j g1 g2=>aE (i+1) (by simpa using hi) j g1 g2)
  exact key bE bs jL qU (fun b h=>⟨hb b h,hlt b h⟩) hl hc hr
section
variable {O:World}{U:List Nat}{X:Nat->Prop}{B:Nat->Value}{st:af}{tm:Array Value}{w:World}
structure fB(O:World)(U:List Nat)(X:Nat->Prop)(B:Nat->Value)(st:af)(tm:Array Value)(w:World)(c4:List (Nat×Site))(eX:List Nat)(av:Nat->Prop):Prop where
 fz:lY O U X B st tm w c4
 le:∀b,av b->ar X B (aY st.sites c4) b
 av9:∀o,o∈eX->∀b,bq (B o)=some b->¬av b
variable {c4:List (Nat×Site)}{eX:List Nat}{av:Nat->Prop}
theorem fB.lt(L:fB O U X B st tm w c4 eX av){b:Nat}(h:av b):b<w.heap.size:=L.fz.new.lt (L.le b h)
theorem fB.sub(L:fB O U X B st tm w c4 eX av){b:Nat}(h:av b):ar X B st.sites b:=by
 rcases L.le b h with h|⟨o,⟨aa,h1,h2⟩,h3⟩
 ·exact .inl h
 ·refine .inr ⟨o,?_,h3⟩;rcases mJ L.fz.fz o with h|⟨s,t,xs,aE,br⟩
  ·exact⟨aa,h▸h1,h2⟩
  ·rw[br] at h1;cases h1;cases h2
theorem fB.rd(L:fB O U X B st tm w c4 eX av){d:aJ}{v:Value}(h:bm w (ar X B (aY st.sites c4)) d v):bm w av d v:=
 cj.gu (B:=B) (sites:=[]) (a:=one d) (v:=v) L.le (fun b hb=>L.lt hb) h
theorem fB.u9(L:fB O U X B st tm w c4 eX av){d:aJ}{v:Value}(h:bm w (ar X B st.sites) d v):bm w av d v:=
 cj.gu (B:=B) (sites:=[]) (a:=one d) (v:=v) (fun b hb=>L.sub hb) (fun b hb=>L.lt hb) h
theorem QO(L:fB O U X B st tm w c4 eX av):∀{bE:List (Nat×Nat)} {cs:List (List aJ)} {us:List (Nat×Site)} {bs:List Nat} {vs:List Value},l' st bE=some (cs,us,bs)->
  (∀p,p∈us->p∈c4)->(∀o,o∈bs->o∈eX)->vs.length=bE.length->(∀i (h:i<bE.length) (ae:i<vs.length),Ref st.sites (bE[i]).1 (bE[i]).2 (vs[i]=b0 (B (bE[i]).1)))->lk w av cs vs:=by
 intro bE;induction bE with
 |nil=>
  intro cs us bs vs h _ _ hl _;simp only[l'] at h;cases h;rw[List.eq_nil_of_length_eq_zero hl];trivial
 |cons c bE ih=>
  obtain⟨o,s⟩:=c;intro cs us bs vs h er dD hl hr;simp only[l'] at h;split at h
  ·rename_i cells nk;split at h
   ·rename_i ds u1 rest u2 b2 eT n';cases h;match vs,hl with
    |v::vs,hl=>
     have ki:=hU nk;obtain⟨b,T,cur,h1,h2,h3,aE,_,br⟩:=L.fz.old.sites o _ ki;have hv:v=B o:=(Ref.at (hr 0 (by simp) (by simp)) ki rfl:v=b0 (B o)).trans (by rw[h1];rfl)
     have dt:=B9 eT ⟨h3,br⟩ L.fz (fun p hp=>er p (List.mem_append.2 (.inl hp)))
     refine⟨⟨b,cur,by rw[hv,h1],L.av9 o (dD o List.mem_cons_self) b (by rw[h1];rfl),L.fz.old.eH ⟨_,ki,rfl⟩ (gT (by rw[h1];rfl)),.row h2,dt.1,fun j g1 g2=>L.rd (dt.2 j g1 g2)⟩,?_⟩
     exact ih n' (fun p hp=>er p (List.mem_append.2 (.inr hp))) (fun M bB=>dD M (List.mem_cons_of_mem _ bB)) (by simpa using hl) (fun i g1 g2=>hr (i+1) (by simpa using g1) (by simpa using g2))
   ·cases h
  ·cases h
theorem ID(L:fB O U X B st tm w c4 eX av){l gj:az}{us:List (Nat×Site)}{bs:List Nat}{v:Value}(h:og st l=some (gj,us,bs))(er:∀p,p∈us->p∈c4)(dD:∀o,o∈bs->o∈eX)
  (hv:dF B st.sites w (ar X B st.sites) l v):nb w av gj v []:=by
 unfold og at h;split at h
 ·rename_i cells;cases h;obtain⟨b,D,h1,h2,h3,cs,aE,br,cB⟩:=hv;exact⟨rfl,b,D,h1,fun hx=>h2 (L.sub hx),h3,cs,aE,br,fun j g1 g2=>L.u9 (cB j g1 g2)⟩
 ·rename_i g c cs;split at h
  ·rename_i ds u b hc;cases h;obtain⟨vs,h1,h2,h3⟩:=hv;rw[h1];exact⟨rfl,(QO L hc er dD h2 h3).fn⟩
  ·cases h
 ·split at h
  ·rename_i d u Y;cases h;exact⟨rfl,L.rd (Ug Y hv L.fz er)⟩
  ·cases h
theorem ah3(L:fB O U X B st tm w c4 eX av):∀{ab dI:List az} {us:List (Nat×Site)} {bs:List Nat} {vs:List Value},mY st ab=some (dI,us,bs)->(∀p,p∈us->p∈c4)->(∀o,o∈bs->o∈eX)->
  cy B st.sites w (ar X B st.sites) ab vs->gX w av dI vs []:=by
 intro ab;induction ab with
 |nil=>intro dI us bs vs h _ _ hv;simp only[mY] at h;cases h;rw[hv.l8];rfl
 |cons l ab ih=>
  intro dI us bs vs h er dD hv;simp only[mY] at h;split at h
  ·rename_i a u1 b1 as u2 b2 h1 h2;cases h;obtain⟨v,ca,rfl,kr,kZ⟩:=hv.inv;exact⟨[],[],rfl,ID L h1 (fun p hp=>er p (List.mem_append.2 (.inl hp))) (fun p hp=>dD p (List.mem_append.2 (.inl hp))) kr,
    ih h2 (fun p hp=>er p (List.mem_append.2 (.inr hp))) (fun p hp=>dD p (List.mem_append.2 (.inr hp))) kZ⟩
  ·cases h
theorem ajO(L:fB O U X B st tm w c4 eX av){o s:Nat}{t:aH}{xs:List (den t)}(hl:look st.sites o=some (.row s t xs)):
  ∃e,∃cs:List Value,rowAt w t.fu e (aA t) (B o) xs.length cs/\cu w av (flat t xs) cs:=by
 obtain⟨e,cs,h1,h2⟩:=L.fz.old.sites o _ hl;refine⟨e,cs,h1,by rw[eG];exact h1.1,fun j g1 g2=>L.u9 (h2 j g1 g2)⟩
theorem AM(L:fB O U X B st tm w c4 eX av){l gj:az}{us:List (Nat×Site)}{v:Value}(h:oa st l=some (gj,us))(hv:dF B st.sites w (ar X B st.sites) l v):
  nb w av gj v (cD B (keys us))/\fs st.sites us:=by
 unfold oa at h;split at h
 ·cases h;exact⟨⟨rfl,L.u9 hv⟩,.nil⟩
 ·rename_i t;cases h;have hv:v=.slice none 0 0:=hv;subst hv;exact⟨⟨rfl,0,[],⟨by simp,.inl ⟨rfl,rfl⟩⟩,rfl,fun j g=>by simp[flat] at g⟩,.nil⟩
 ·rename_i o s;split at h
  ·rename_i au t xs hl;cases hb:au.beq s with
   |false=>simp[hb] at h
   |true=>
    simp only[hb,cond_true,Option.some.injEq,Prod.mk.injEq] at h;obtain⟨rfl,rfl⟩:=h;have hs:=Nat.eq_of_beq_eq_true hb;subst hs;have hl:look st.sites o=some (.row au t xs):=hl;obtain⟨e,cs,h1,h2⟩:=ajO L hl;have j4:v=B o:=(Ref.at hv.2 hl rfl:v=b0 (B o)).trans (jR h1).1;refine⟨⟨?_,e,cs,by rw[j4];exact h1,h2⟩,fun M asJ hm=>?_⟩
    ·simp only[keys,cD,List.flatMap_cons,List.flatMap_nil,j4,(jR h1).2,List.append_nil]
    ·simp only[List.mem_singleton,Prod.mk.injEq] at hm;obtain⟨rfl,rfl⟩:=hm;exact⟨_,hl,rfl,rfl⟩
  ·rename_i au t xs hl;cases hb:au.beq s with
   |false=>simp[hb] at h
   |true=>
    simp only[hb,cond_true,Option.some.injEq,Prod.mk.injEq] at h;obtain⟨rfl,rfl⟩:=h;have hs:=Nat.eq_of_beq_eq_true hb;subst hs;have hl:look st.sites o=some (.da au t xs):=hl;have j4:v=b0 (B o):=Ref.at hv.2 hl rfl;refine⟨⟨rfl,?_⟩,.nil⟩;rw[j4];exact L.u9 (L.fz.old.sites o _ hl).1
  ·rename_i au t xs hl;cases hb:au.beq s with
   |false=>simp[hb] at h
   |true=>
    simp only[hb,cond_true,Option.some.injEq,Prod.mk.injEq] at h;obtain⟨rfl,rfl⟩:=h;have hs:=Nat.eq_of_beq_eq_true hb;subst hs;have hl:look st.sites o=some (.deep au t xs):=hl;obtain⟨e,v',ns,cs,h1,_,h2,h3⟩:=L.fz.old.sites o _ hl;have j4:v=v':=(Ref.at hv.2 hl rfl:v=b0 (B o)).trans (by rw[h1];rfl)
    subst j4;refine⟨⟨e,cs,ns,?_,h2,h3.map (fun h=>L.u9 h) fun _ _ _ _=>rfl⟩,fun M asJ hm=>?_⟩
    ·simp only[keys,cD,List.flatMap_cons,List.flatMap_nil,List.append_nil,h1]
    ·simp only[List.mem_singleton,Prod.mk.injEq] at hm;obtain⟨rfl,rfl⟩:=hm;exact⟨_,hl,rfl,rfl⟩
  ·cases h
 ·cases h;exact⟨⟨rfl,trivial⟩,.nil⟩
 ·cases h;exact⟨⟨rfl,hv⟩,.nil⟩
 ·cases h
theorem QC{ab dI:List az}{us:List (Nat×Site)}(h:kU st ab=some (dI,us))(bT:dI.head?=some .dH):ab.head?=some .dH:=by
 cases ab with
 |nil=>simp only[kU] at h;cases h;cases bT
 |cons l ab=>
  simp only[kU] at h;split at h
  ·rename_i a u1 as u2 h1 h2;cases h;simp only[List.head?_cons,Option.some.injEq] at bT ⊢;subst bT;unfold oa at h1;split at h1<;>try(cases h1;done)
   ·split at h1;all_goals first|cases h1;done|skip
    all_goals
     rename_i au t xs _;revert h1
     generalize au.beq _=q;intro h1;cases q<;>cases h1
   ·rfl
  ·cases h
theorem BE(L:fB O U X B st tm w c4 eX av):∀{ab dI:List az} {us:List (Nat×Site)} {vs:List Value},kU st ab=some (dI,us)->cy B st.sites w (ar X B st.sites) ab vs->
  gX w av dI vs (cD B (keys us))/\fs st.sites us:=by
 intro ab;induction ab with
 |nil=>intro dI us vs h hv;simp only[kU] at h;cases h;rw[hv.l8];exact⟨rfl,.nil⟩
 |cons l ab ih=>
  intro dI us vs h hv;simp only[kU] at h;split at h
  ·rename_i a u1 as u2 h1 h2;cases h;obtain⟨v,ca,rfl,kr,kZ⟩:=hv.inv;obtain⟨aw,an⟩:=AM L h1 kr;obtain⟨bo,cl⟩:=ih h2 kZ;exact⟨⟨_,_,by rw[hF,ld],aw,bo⟩,an.append cl⟩
  ·cases h
theorem js.append{as kz:List Arg}{vs ca:List Value}{bs pN:List Nat}(h:js w av as vs bs)(ae:js w av kz ca pN):js w av (as++kz) (vs++ca) (bs++pN):=by
 induction as generalizing vs bs with
 |nil=>
  match vs,h with
  |[],h=>have h:bs=[]:=h;subst h;exact ae
 |cons a as ih=>
  match vs,h with
  |v::vs,⟨b1,b2,h1,h2,h3⟩=>exact⟨b1,b2++pN,by rw[h1,List.append_assoc],h2,ih h3⟩
theorem aez{cs:List (List aJ)}{vs:List Value}(h:lk w av cs vs):js w av (l9 cs) vs []:=by
 induction cs generalizing vs with
 |nil=>
  match vs,h with
  |[],_=>rfl
 |cons ds cs ih=>
  match vs,h with
  |v::vs,⟨⟨b,cur,h1,h2,h3,aE,br⟩,cB⟩=>
   refine⟨[],[],rfl,⟨rfl,b,0,by rw[h1],h2,h3,cur,by rw[br.1],fun j u hu=>aE j u hu,br.2⟩,ih cB⟩
theorem Ou{as kz:List Arg}{vs ca:List Value}(hl:as.length=vs.length):d_ (as++kz) (vs++ca)=d_ as vs++d_ kz ca:=by
 induction as generalizing vs with
 |nil=>rw[List.eq_nil_of_length_eq_zero hl.symm];rfl
 |cons a as ih=>
  match vs,hl with
  |v::vs,hl=>
   have:=ih (vs:=vs) (by simpa using hl)
   cases a with
   |av a=>cases v<;>simp[d_,this]
   |eg c=>
    cases v<;>try(simp[d_,this];done)
    rename_i p;cases p<;>simp[d_,this]
theorem aeB(cs:List (List aJ))(vs:List Value):d_ (l9 cs) vs=[]:=by
 induction cs generalizing vs with
 |nil=>cases vs<;>rfl
 |cons c cs ih=>cases vs<;>simp[l9,d_,ih]
theorem ab9{as kz:List Arg}{vs ca:List Value}(hl:as.length=vs.length):fY (as++kz) (vs++ca)=fY as vs++fY kz ca:=by
 induction as generalizing vs with
 |nil=>rw[List.eq_nil_of_length_eq_zero hl.symm];rfl
 |cons a as ih=>
  match vs,hl with
  |v::vs,hl=>
   have:=ih (vs:=vs) (by simpa using hl)
   cases a<;>simp[fY,this]
theorem adT(cs:List (List aJ))(vs:List Value):fY (l9 cs) vs=[]:=by
 induction cs generalizing vs with
 |nil=>cases vs<;>rfl
 |cons c cs ih=>cases vs<;>simp[l9,fY,ih,bH.cells,gR,az.tF]
def iV(B:Nat->Value):List (Option (Nat×Nat))->List Value->Prop
 |[],_=>True
 |none::r,_::vs=>iV B r vs
 |some p::r,v::vs=>v=b0 (B p.1)/\iV B r vs
 |_::_,[]=>False
theorem iV.append{B:Nat->Value}{r eE:List (Option (Nat×Nat))}{vs ca:List Value}(hl:r.length=vs.length)(h:iV B r vs)(ae:iV B eE ca):iV B (r++eE) (vs++ca):=by
 induction r generalizing vs with
 |nil=>rw[List.eq_nil_of_length_eq_zero hl.symm];exact ae
 |cons D r ih=>
  match vs,hl with
  |v::vs,hl=>
   cases D with
   |none=>exact ih (by simpa using hl) h
   |some p=>exact⟨h.1,ih (by simpa using hl) h.2⟩
theorem js.length{as:List Arg}{vs:List Value}{bs:List Nat}(h:js w av as vs bs):as.length=vs.length:=by
 induction as generalizing vs bs with
 |nil=>
  match vs,h with
  |[],_=>rfl
 |cons a as ih=>
  match vs,h with
  |v::vs,⟨_,_,_,_,h⟩=>simp[ih h]
theorem af2(L:fB O U X B st tm w c4 eX av):∀{cK:List aI} {a:kW} {vs:List Value},jQ st cK=some a->cK.length=vs.length->
  (∀i (h:i<cK.length) (ae:i<vs.length),cj B st.sites w (ar X B st.sites) (cK[i]) (vs[i]))->(∀p,p∈a.e7->p∈c4)->(∀o,o∈a.gm->o∈eX)->
  js w av a.as vs (cD B (keys a.gone))/\fs st.sites a.gone/\d_ a.as vs=cD B (keys a.boxes)/\(∀o s,(o,s)∈a.boxes->(o,.dead s)∈a.gone/\∃b,B o=.pointer (some ⟨b,0,none⟩))/\a.rows=[]:=by
 intro cK;induction cK with
 |nil=>
  intro a vs h hl _ _ _;simp only[jQ] at h;cases h;rw[List.eq_nil_of_length_eq_zero hl.symm];exact⟨rfl,.nil,rfl,fun o s hm=>by simp at hm,rfl⟩
 |cons sT cK ih=>
  intro a vs h hl hv er dD;match vs,hl with
  |v::vs,hl=>
   have my:=hv 0 (by simp) (by simp)
   have hvs:∀i (h:i<cK.length) (ae:i<vs.length),cj B st.sites w (ar X B st.sites) (cK[i]) (vs[i]):=fun i g1 g2=>hv (i+1) (by simpa using g1) (by simpa using g2)
   have gx:cK.length=vs.length:=by simpa using hl
   simp only[List.getElem_cons_zero] at my;unfold jQ at h;split at h
   ·cases ‹sT::cK=[]›
   ·rename_i o s ca bZ;cases bZ;split at h
    ·rename_i cells r nk hr;split at h
     ·rename_i cs gone hg;cases h;obtain⟨aw,an,bo,cl,ed⟩:=ih hr gx hvs er dD;have ki:=hU nk;obtain⟨b,T,cur,e1,e2,bp,dU,hD⟩:=L.fz.old.box ki my;have K5:oc cells T cur b:=by
       obtain⟨b2,dV,XF,q1,q2,_,_,dq,_⟩:=L.fz.old.sites o _ ki;rw[e1] at q1;cases q1;rw[bp] at q2;cases q2;exact dq
      obtain⟨g1,g2⟩:=BE L hg hD;subst e2;refine⟨⟨b::cD B (keys gone),_,?_,⟨b,rfl,T,cur,_,rfl,bp,dU,fun bT=>K5 (QC hg bT),g1⟩,aw⟩,?_,?_,?_,ed⟩
      ·show cD B (keys (((o,Site.dead s)::gone)++r.gone))=_;rw[hF,ld];congr 1
       simp[keys,cD,e1,bq,bJ]
      ·refine fs.append ?_ an;intro M au hm;rcases List.mem_cons.1 hm with hm|hm
       ·cases hm;exact⟨_,ki,rfl,rfl⟩
       ·exact g2 M au hm
      ·simp[d_,bo,keys,cD,e1,bq,bJ]
      ·intro M au hm;rcases List.mem_cons.1 hm with hm|hm
       ·cases hm;exact⟨by simp,b,e1⟩
       ·obtain⟨q1,q2⟩:=cl M au hm;exact⟨List.mem_append.2 (.inr q1),q2⟩
     ·cases h
    ·cases h
   ·rename_i l ca _ bZ;cases bZ;split at h
    ·rename_i gj us bs r h1 hr;cases h;obtain⟨aw,an,bo,cl,_⟩:=ih hr gx hvs (fun p hp=>er p (List.mem_append.2 (.inr hp))) (fun p hp=>dD p (List.mem_append.2 (.inr hp)))
     have:=ID L h1 (fun p hp=>er p (List.mem_append.2 (.inl hp))) (fun p hp=>dD p (List.mem_append.2 (.inl hp))) my
     refine⟨⟨[],_,rfl,this,aw⟩,an,?_,cl,rfl⟩;cases v<;>simp[d_,bo]
    ·cases h
   ·rename_i ab ca bZ;cases bZ;split at h
    ·rename_i dI us bs r h1 hr;cases h;obtain⟨aw,an,bo,cl,_⟩:=ih hr gx hvs (fun p hp=>er p (List.mem_append.2 (.inr hp))) (fun p hp=>dD p (List.mem_append.2 (.inr hp)))
     obtain⟨kp,e1,e2,bp⟩:=my;have:=ah3 L h1 (fun p hp=>er p (List.mem_append.2 (.inl hp))) (fun p hp=>dD p (List.mem_append.2 (.inl hp))) ⟨e2,bp⟩
     refine⟨⟨[],_,rfl,⟨kp,e1,this⟩,aw⟩,an,?_,cl,rfl⟩;cases v<;>simp[d_,bo]
    ·cases h
   ·cases h
theorem QD(L:fB O U X B st tm w c4 eX av){l gj:az}{gs us:List (Nat×Site)}{bs:List Nat}{v:Value}(h:mU st l=some (gj,gs,us,bs))(er:∀p,p∈us->p∈c4)(dD:∀o,o∈bs->o∈eX)
  (hv:dF B st.sites w (ar X B st.sites) l v):nb w av gj v (cD B (keys gs))/\fs st.sites gs:=by
 unfold mU at h;split at h
 ·split at h
  ·rename_i hg;cases h;exact AM L hg hv
  ·cases h
 ·cases h;exact AM (l:=.nil _) (us:=[]) L rfl hv
 ·split at h
  ·rename_i hl;cases h;exact⟨ID L hl er dD hv,.nil⟩
  ·cases h
theorem Px(L:fB O U X B st tm w c4 eX av){l gj:az}{gs us:List (Nat×Site)}{bs:List Nat}{v:Value}(h:mU st l=some (gj,gs,us,bs))(hv:dF B st.sites w (ar X B st.sites) l v):
  ∀o s,mj st l=some (o,s)->v=b0 (B o)/\(o,.dead s)∈gs:=by
 intro o s hg;unfold mj at hg;split at hg
 ·rename_i LX au;unfold mU at h;simp only[oa] at h;split at hg
  ·rename_i u t xs hl;cases hg;rw[hl] at h;simp only at h;cases hb:u.beq s with
   |false=>simp[hb] at h
   |true=>
    have hs:=Nat.eq_of_beq_eq_true hb;subst hs;simp only[hb,cond_true] at h;cases h;exact⟨Ref.at hv.2 hl rfl,List.mem_singleton.2 rfl⟩
  ·rename_i u t xs hl;cases hg;rw[hl] at h;simp only at h;cases hb:u.beq s with
   |false=>simp[hb] at h
   |true=>
    have hs:=Nat.eq_of_beq_eq_true hb;subst hs;simp only[hb,cond_true] at h;cases h;exact⟨Ref.at hv.2 hl rfl,List.mem_singleton.2 rfl⟩
  ·cases hg
 ·cases hg
theorem aem(L:fB O U X B st tm w c4 eX av):∀{ab dI:List az} {gs us:List (Nat×Site)} {bs:List Nat} {vs:List Value},mQ st ab=some (dI,gs,us,bs)->(∀p,p∈us->p∈c4)->(∀o,o∈bs->o∈eX)->
  cy B st.sites w (ar X B st.sites) ab vs->gX w av dI vs (cD B (keys gs))/\fs st.sites gs/\iV B (ab.map (mj st)) vs/\∀o s,some (o,s)∈ab.map (mj st)->(o,.dead s)∈gs:=by
 intro ab;induction ab with
 |nil=>intro dI gs us bs vs h _ _ hv;simp only[mQ] at h;cases h;rw[hv.l8];exact⟨rfl,.nil,trivial,fun o s h=>by simp at h⟩
 |cons l ab ih=>
  intro dI gs us bs vs h er dD hv;simp only[mQ] at h;split at h
  ·rename_i a u1 f1 b1 as u2 f2 b2 h1 h2;cases h;obtain⟨v,ca,rfl,kr,kZ⟩:=hv.inv;obtain⟨aw,an⟩:=QD L h1 (fun p hp=>er p (List.mem_append.2 (.inl hp))) (fun p hp=>dD p (List.mem_append.2 (.inl hp))) kr
   obtain⟨bo,cl,ed,gz⟩:=ih h2 (fun p hp=>er p (List.mem_append.2 (.inr hp))) (fun p hp=>dD p (List.mem_append.2 (.inr hp))) kZ
   have hr:=Px L h1 kr;refine⟨⟨_,_,by rw[hF,ld],aw,bo⟩,an.append cl,?_,fun o s hm=>?_⟩
   ·simp only[List.map_cons];cases al:mj st l with
    |none=>exact ed
    |some p=>exact⟨(hr p.1 p.2 al).1,ed⟩
   ·simp only[List.map_cons,List.mem_cons] at hm;rcases hm with hm|hm
    ·exact List.mem_append.2 (.inl (hr o s hm.symm).2)
    ·exact List.mem_append.2 (.inr (gz o s hm))
  ·cases h
theorem GA{v:Value}(h:v.oneCell'=true):jh v=[v]:=by
 cases v<;>first|rfl|cases h
theorem agl{l:az}{v:Value}{bs:List Nat}(hn:l.tF=false)(h:nb w av l v bs):v.oneCell'=true:=by
 cases l with
 |fresh t xs=>
  obtain⟨_,e,cs,k,_⟩:=h;rcases k.2 with⟨h,_⟩|⟨g,cap,cur,fz,h,_⟩<;>rw[h]<;>rfl
 |jb t xs=>
  obtain⟨e,cs,ns,_,k,_⟩:=h;rcases k.2 with⟨h,_⟩|⟨g,cap,cur,fz,h,_⟩<;>rw[h]<;>rfl
 |_=>cases hn
theorem gX.length{ab:List az}{vs:List Value}{bs:List Nat}(h:gX w av ab vs bs):vs.length=ab.length:=by
 induction ab generalizing vs bs with
 |nil=>
  match vs,h with
  |[],_=>rfl
 |cons l ab ih=>
  match vs,h with
  |v::vs,⟨_,_,_,_,h⟩=>simp[ih h]
theorem aeb(L:fB O U X B st tm w c4 eX av):∀{cK:List aI} {a:kW} {vs:List Value},lf st cK=some a->cK.length=vs.length->
  (∀i (h:i<cK.length) (ae:i<vs.length),cj B st.sites w (ar X B st.sites) (cK[i]) (vs[i]))->(∀p,p∈a.e7->p∈c4)->(∀o,o∈a.gm->o∈eX)->
  js w av a.as vs (cD B (keys a.gone))/\fs st.sites a.gone/\d_ a.as vs=cD B (keys a.boxes)/\(∀o s,(o,s)∈a.boxes->(o,.dead s)∈a.gone/\∃b,B o=.pointer (some ⟨b,0,none⟩))/\
   iV B a.rows (fY a.as vs)/\∀o s,some (o,s)∈a.rows->(o,.dead s)∈a.gone:=by
 intro cK;induction cK with
 |nil=>
  intro a vs h hl _ _ _;simp only[lf] at h;cases h;rw[List.eq_nil_of_length_eq_zero hl.symm];exact⟨rfl,.nil,rfl,fun o s hm=>by simp at hm,trivial,fun o s hm=>by simp at hm⟩
 |cons sT cK ih=>
  intro a vs h hl hv er dD;match vs,hl with
  |v::vs,hl=>
   have my:=hv 0 (by simp) (by simp)
   have hvs:∀i (h:i<cK.length) (ae:i<vs.length),cj B st.sites w (ar X B st.sites) (cK[i]) (vs[i]):=fun i g1 g2=>hv (i+1) (by simpa using g1) (by simpa using g2)
   have gx:cK.length=vs.length:=by simpa using hl
   simp only[List.getElem_cons_zero] at my;unfold lf at h;split at h
   ·cases ‹sT::cK=[]›
   ·rename_i l ca bZ;cases bZ;split at h
    ·rename_i gj gs us bs r h1 hr;cases h;obtain⟨aw,an,bo,cl,ed,gz⟩:=ih hr gx hvs (fun p hp=>er p (List.mem_append.2 (.inr hp))) (fun p hp=>dD p (List.mem_append.2 (.inr hp)))
     obtain⟨g1,g2⟩:=QD L h1 (fun p hp=>er p (List.mem_append.2 (.inl hp))) (fun p hp=>dD p (List.mem_append.2 (.inl hp))) my
     have hrow:=Px L h1 my;refine⟨⟨_,_,by rw[hF,ld],g1,aw⟩,g2.append an,?_,fun M au hm=>?_,?_,fun M au hm=>?_⟩
     ·cases v<;>simp[d_,bo]
     ·obtain⟨q1,q2⟩:=cl M au hm;exact⟨List.mem_append.2 (.inr q1),q2⟩
     ·simp only[fY,bH.cells,pa];cases hn:gR [gj] with
      |true=>exact ed
      |false=>
       have fv:gj.tF=false:=by simpa[gR] using hn
       simp only[cond_false,GA (agl fv g1)];refine iV.append (by simp) ?_ ed
       simp only[List.map_cons,List.map_nil];cases al:mj st l with
       |none=>trivial
       |some p=>exact⟨(hrow p.1 p.2 al).1,trivial⟩
     ·simp only[pa] at hm;rcases List.mem_append.1 hm with hm|hm
      ·cases hn:gR [gj] with
       |true=>rw[hn] at hm;simp at hm
       |false=>
        rw[hn] at hm;simp only[cond_false,List.map_cons,List.map_nil,List.mem_singleton] at hm;exact List.mem_append.2 (.inl (hrow M au hm.symm).2)
      ·exact List.mem_append.2 (.inr (gz M au hm))
    ·cases h
   ·rename_i ab ca bZ;cases bZ;split at h
    ·rename_i dI gs us bs r h1 hr;cases h;obtain⟨aw,an,bo,cl,ed,gz⟩:=ih hr gx hvs (fun p hp=>er p (List.mem_append.2 (.inr hp))) (fun p hp=>dD p (List.mem_append.2 (.inr hp)))
     obtain⟨kp,e1,e2,bp⟩:=my;obtain⟨g1,g2,g3,g4⟩:=aem L h1 (fun p hp=>er p (List.mem_append.2 (.inl hp))) (fun p hp=>dD p (List.mem_append.2 (.inl hp))) ⟨e2,bp⟩
     subst e1;refine⟨⟨_,_,by rw[hF,ld],⟨kp,rfl,g1⟩,aw⟩,g2.append an,?_,fun M au hm=>?_,?_,fun M au hm=>?_⟩
     ·simp[d_,bo]
     ·obtain⟨q1,q2⟩:=cl M au hm;exact⟨List.mem_append.2 (.inr q1),q2⟩
     ·simp only[fY,bH.cells,pa];cases hn:gR dI with
      |true=>exact ed
      |false=>
       simp only[cond_false,jh];exact iV.append (by simp[e2]) g3 ed
     ·simp only[pa] at hm;rcases List.mem_append.1 hm with hm|hm
      ·cases hn:gR dI with
       |true=>rw[hn] at hm;simp at hm
       |false=>
        rw[hn] at hm;exact List.mem_append.2 (.inl (g4 M au hm))
      ·exact List.mem_append.2 (.inr (gz M au hm))
    ·cases h
   ·cases h
theorem Pq{b:Bool}(L:fB O U X B st tm w c4 eX av){cK:List aI}{a:kW}{vs:List Value}(h:tG b st cK=some a)(hl:cK.length=vs.length)
  (hv:∀i (h:i<cK.length) (ae:i<vs.length),cj B st.sites w (ar X B st.sites) (cK[i]) (vs[i])) (h1:∀p,p∈a.e7->p∈c4) (h2:∀o,o∈a.gm->o∈eX):
  js w av a.as vs (cD B (keys a.gone))/\fs st.sites a.gone/\d_ a.as vs=cD B (keys a.boxes)/\(∀o s,(o,s)∈a.boxes->(o,.dead s)∈a.gone/\∃b,B o=.pointer (some ⟨b,0,none⟩))/\
   iV B a.rows (fY a.as vs)/\∀o s,some (o,s)∈a.rows->(o,.dead s)∈a.gone:=by
 cases b
 ·obtain⟨aw,an,bo,cl,ed⟩:=af2 L h hl hv h1 h2;exact⟨aw,an,bo,cl,by rw[ed];trivial,by rw[ed];intro o s h;simp at h⟩
 ·exact aeb L h hl hv h1 h2
end
theorem QM(l m:List Nat):fr l m=true <-> ∀n,n∈l->n∉m:=by
 induction l with
 |nil=>simp[fr]
 |cons n l ih=>
  simp only[fr,Bool.and_eq_true,ih,Bool.not_eq_true',List.mem_cons];constructor
  ·rintro⟨h1,h2⟩ k (rfl|hk)
   ·intro h;rw[(wv k m).2 h] at h1;cases h1
   ·exact h2 k hk
  ·intro h;refine⟨?_,fun k hk=>h k (.inr hk)⟩
   cases ae:gG n m with
   |false=>rfl
   |true=>exact absurd ((wv n m).1 ae) (h n (.inl rfl))
section
variable {O:World}{U:List Nat}{X:Nat->Prop}{B:Nat->Value}{st:af}{tm:Array Value}{w:World}
theorem ai.amV:∀{us:List (Nat×Site)} {st:af} {X:Nat->Prop},ai O U X B st tm w->fs st.sites us->(keys us).Nodup->
  ai O U (fun b=>X b\/b∈cD B (keys us)) B {st with sites:=aY st.sites us} tm w:=by
 intro us;induction us with
 |nil=>intro st X S _ _;exact S.shrink fun b h=>by rcases h with h|h;exact h;simp[keys,cD] at h
 |cons p us ih=>
  obtain⟨o,au⟩:=p;intro st X S hg hn;obtain⟨aa,h1,h2,rfl⟩:=hg o au List.mem_cons_self;simp only[keys,List.nodup_cons] at hn;have dk:=S.kill h1 h2;have gP:=ih dk (fun M s hm=>by
   obtain⟨t,aw,an,bo⟩:=hg M s (List.mem_cons_of_mem _ hm);have:¬o=M:=fun e=>hn.1 (by rw[e];exact G8 hm)
   exact⟨t,by simp[cC,this,aw],an,bo⟩) hn.2
  refine gP.shrink fun b h=>?_
  rcases h with h|h
  ·exact .inl (.inl h)
  ·simp only[keys,cD,List.flatMap_cons,List.mem_append] at h;rcases h with h|h
   ·exact .inl (.inr h)
   ·exact .inr h
structure gv(O:World)(U:List Nat)(X X':Nat->Prop)(B aD:Nat->Value)(st:af)(tm:Array Value)(w:World)(us:List (Nat×Site)):Prop where
 g':ai O U X' aD {st with sites:=aY st.sites us} tm w
 le:∀c,ar X' aD (aY st.sites us) c->ar X B st.sites c
 go:∀{a v},cj B st.sites w (ar X B st.sites) a v->cj aD (aY st.sites us) w (ar X' aD (aY st.sites us)) a v
 same:∀o,o∉keys us->aD o=B o
theorem gv.nil{X':Nat->Prop}(S:ai O U X B st tm w)(h:∀b,X' b->X b):gv O U X X' B B st tm w []:=
 ⟨S.shrink h,fun c hc=>by
  rcases hc with hc|hc
  ·exact .inl (h c hc)
  ·exact .inr hc,fun k=>k.gu (fun c hc=>by
   rcases hc with hc|hc
   ·exact .inl (h c hc)
   ·exact .inr hc) (fun c hc=>(S.shrink h).lt hc),fun _ _=>rfl⟩
theorem gv.trans{c_ cI:Nat->Prop}{gK gJ:Nat->Value}{us vs:List (Nat×Site)}(A:gv O U X c_ B gK st tm w us)(bx:gv O U c_ cI gK gJ {st with sites:=aY st.sites us} tm w vs):
  gv O U X cI B gJ st tm w (us++vs):=by
 refine⟨?_,?_,?_,fun o h=>?_⟩
 ·rw[jq];exact bx.g'
 ·rw[jq];exact fun c hc=>A.le c (bx.le c hc)
 ·rw[jq];exact fun h=>bx.go (A.go h)
 ·rw[hF,List.mem_append,not_or] at h;rw[bx.same o h.2,A.same o h.1]
theorem gv.one{X':Nat->Prop}{n:Nat}{bF:Site}{nv:Value}(S:ai O U X B st tm w)(hA:∀b,X' b->X b)
  (dO:(∀aa,look st.sites n=some aa->aa.b'<bF.b')\/(b0 (B n)=b0 nv/\∀aa,look st.sites n=some aa->aa.b'=bF.b'/\aa.live=false))
  (hb:∀b,b∈bJ nv->X b/\¬X' b/\(b∈U\/O.heap.size<=b))
  (eZ:∀{bw:List (Nat×Site)} {aD:Nat->Value},bw=cg st.sites n bF->aD n=nv->(∀{a v},cj B st.sites w (ar X B st.sites) a v->cj aD bw w (ar X' aD bw) a v)->
   (∀b,ar X' aD bw b->ar X B st.sites b)->jS aD bw w (ar X' aD bw) n bF):
  gv O U X X' B (fun M=>if M=n then nv else B M) st tm w [(n,bF)]:=by
 obtain⟨h1,h2,h3⟩:=S.xC hA dO hb eZ;exact⟨h1,h2,h3,fun o h=>by
  simp only[keys,List.mem_singleton] at h;simp[h]⟩
theorem FG{av b4:Nat->Prop}{l:az}{v:Value}{sites:List (Nat×Site)}(hf:∀t xs,l≠.fresh t xs)(Ey:∀t xs,l≠.jb t xs)(h:dF nd [] w av l v)(hle:∀b,b4 b->av b)(hlt:∀b,b4 b->b<w.heap.size):dF B sites w b4 l v:=by
 have gu:∀{d:aJ} {v:Value},bm w av d v->bm w b4 d v:=fun h=>cj.gu (B:=B) (sites:=[]) (a:=one _) hle hlt h
 cases l with
 |d x=>exact gu h
 |nil t=>exact h
 |own o s=>obtain⟨_,_,h,_⟩:=h;cases h
 |ptr o s off=>obtain⟨_,_,_,h,_⟩:=h;cases h
 |eQ cells off=>
  obtain⟨b,D,h1,h2,h3,cs,aE,br,cB⟩:=h;exact⟨b,D,h1,fun hx=>h2 (hle b hx),h3,cs,aE,br,fun j g1 g2=>gu (cB j g1 g2)⟩
 |eR o s t k off=>obtain⟨_,_,_,h,_⟩:=h;cases h
 |clo g bE=>
  obtain⟨vs,h1,h2,h3⟩:=h;match bE,vs,h2 with
  |[],[],_=>exact⟨[],h1,rfl,fun i h=>by simp at h⟩
  |c::bE,v::vs,_=>obtain⟨_,h,_⟩:=h3 0 (by simp) (by simp);cases h
 |cL u=>exact h
 |fresh t xs=>exact absurd rfl (hf t xs)
 |jb t xs=>exact absurd rfl (Ey t xs)
 |dH=>trivial
 |any=>trivial
theorem cy.go{aD:Nat->Value}{sites bw:List (Nat×Site)}{w':World}{av b4:Nat->Prop}(go:∀{a:aI} {v:Value},cj B sites w av a v->cj aD bw w' b4 a v){ab:List az}{vs:List Value}
  (h:cy B sites w av ab vs):cy aD bw w' b4 ab vs:=Cx go h
structure Left(O:World)(U:List Nat)(X:Nat->Prop)(B:Nat->Value)(st:af)(av:Nat->Prop)(bs:List Nat):Prop where
 nodup:bs.Nodup
 cf:∀b,b∈bs->¬X b/\(b∈U\/O.heap.size<=b)
 le:∀c,ar (fun b=>X b\/b∈bs) B st.sites c->av c
def kj(bn:af)(sites:List (Nat×Site))(ks:List Nat):Prop:=∀m,m∈ks->∀aa,look sites m=some aa->aa.b'<aZ bn m
theorem kj.step{bn:af}{sites us:List (Nat×Site)}{ks:List Nat}(h:kj bn sites ks)(Y:∀n,n∈keys us->n∉ks):kj bn (aY sites us) ks:=by
 intro m hm aa hs;rw[l0 (fun ae=>Y m ae hm)] at hs
 exact h m hm aa hs
theorem Fu{u:Bool}{e:TypeId}{s:Nat}{v:Value}{n:Nat}{cs:List Value}(h:rowAt w u e s v n cs):v.oneCell'=true:=by
 rcases h.2 with⟨h,_⟩|⟨g,cap,cur,fz,h,_⟩<;>rw[h]<;>rfl
theorem R8{av:Nat->Prop}(bn:af):∀(ab:List az) (n:Nat) {B:Nat->Value} {st:af} {vs:List Value} {bs rest:List Nat},ai O U (fun b=>X b\/b∈bs++rest) B st tm w->gX w av ab vs bs->
  Left O U X B st av (bs++rest)->kj bn st.sites (keys (take bn n ab).2)->(keys (take bn n ab).2).Nodup->
  ∃aD,gv O U (fun b=>X b\/b∈bs++rest) (fun b=>X b\/b∈rest) B aD st tm w (take bn n ab).2/\cy aD (aY st.sites (take bn n ab).2) w (ar (fun b=>X b\/b∈rest) aD (aY st.sites (take bn n ab).2)) (take bn n ab).1 vs/\
   Left O U X aD {st with sites:=aY st.sites (take bn n ab).2} av rest:=by
 intro ab;induction ab with
 |nil=>
  intro n B st vs bs rest S h L ef Y;match vs,h with
  |[],h=>
   have h:bs=[]:=h;subst h;exact⟨B,.nil S (fun b hb=>hb),.nil,L⟩
 |cons l ab ih=>
  intro n B st vs bs rest S h L ef Y;match vs,h with
  |v::vs,⟨b1,b2,dD,h1,h2⟩=>
   subst dD;by_cases hf:∃t xs,l=.fresh t xs
   ·obtain⟨t,xs,rfl⟩:=hf;obtain⟨hb1,e,cs,ay,hr⟩:=h1;simp only[take,keys,List.nodup_cons] at Y ef;have eJ:=L.nodup;rw[List.append_assoc,hb1] at eJ;have cQ:gv O U (fun b=>X b\/b∈b1++b2++rest) (fun b=>X b\/b∈b2++rest) B (fun M=>if M=n then v else B M) st tm w [(n,.row (aZ bn n) t xs)]:=by
     refine .one S (fun b hb=>?_) (.inl fun aa hs=>ef n List.mem_cons_self aa hs) (fun b hb=>?_) (fun fD ej go le=>?_)
     ·rcases hb with hb|hb
      ·exact .inl hb
      ·exact .inr (by rw[List.append_assoc];exact List.mem_append.2 (.inr hb))
     ·have hb:bq v=some b:=wH ay hb;have hm:b∈b1:=by rw[hb1,hb];simp
      have ig:b∈b1++b2++rest:=by rw[List.append_assoc];exact List.mem_append.2 (.inl hm)
      refine⟨.inr ig,?_,(L.cf b ig).2⟩;rintro(hx|hx)
      ·exact(L.cf b ig).1 hx
      ·rw[hb] at eJ;simp only[Option.toList_some,List.singleton_append,List.nodup_cons] at eJ;exact eJ.1 hx
     ·refine⟨e,cs,by rw[ej];exact ay,fun j g1 g2=>?_⟩
      have k:=hr.2 j g1 g2;have hle:∀b,ar (fun b=>X b\/b∈b2++rest) _ _ b->av b:=fun b hb=>L.le b (le b hb)
      exact cj.gu (B:=B) (sites:=[]) (a:=one _) hle (fun b hb=>S.lt (le b hb)) k
    have lX:Left O U X (fun M=>if M=n then v else B M) {st with sites:=aY st.sites [(n,.row (aZ bn n) t xs)]} av (b2++rest):=by
     refine⟨(List.nodup_append.1 (by rw[List.append_assoc] at L;exact L.nodup)).2.1,fun b hb=>L.cf b (by rw[List.append_assoc];exact List.mem_append.2 (.inr hb)),fun c hc=>L.le c (cQ.le c hc)⟩
    obtain⟨aD,dV,h3,aE⟩:=ih (n+1) (st:={st with sites:=aY st.sites [(n,.row (aZ bn n) t xs)]}) cQ.g' h2 lX
     (kj.step (us:=[(n,.row (aZ bn n) t xs)]) (fun m hm=>ef m (List.mem_cons_of_mem _ hm)) (fun m hm=>by simp only[keys,List.mem_singleton] at hm;subst hm;exact Y.1)) Y.2
    refine⟨aD,cQ.trans dV,?_,aE⟩;refine cy.cons ?_ h3;have:dF (fun M=>if M=n then v else B M) (aY st.sites [(n,.row (aZ bn n) t xs)]) w (ar (fun b=>X b\/b∈b2++rest) (fun M=>if M=n then v else B M) (aY st.sites [(n,.row (aZ bn n) t xs)])) (.own n (aZ bn n)) v:=
     ⟨Fu ay,Ref.mk (aa:=.row (aZ bn n) t xs) (by simp[aY,cC]) rfl (by simp[(jR ay).1])⟩
    exact dV.go (a:=bP (.own n (aZ bn n))) (v:=v) this
   ·by_cases Ey:∃t xs,l=.jb t xs
    ·obtain⟨t,xs,rfl⟩:=Ey;obtain⟨e,cs,ns,hb1,ay,hr⟩:=h1;simp only[take,keys,List.nodup_cons] at Y ef;have eJ:=L.nodup;rw[List.append_assoc,hb1] at eJ;have cQ:gv O U (fun b=>X b\/b∈b1++b2++rest) (fun b=>X b\/b∈b2++rest) B (fun M=>if M=n then .tuple (v::ns).toArray else B M) st tm w [(n,.deep (aZ bn n) t xs)]:=by
      refine .one S (fun b hb=>?_) (.inl fun aa hs=>ef n List.mem_cons_self aa hs) (fun b hb=>?_) (fun fD ej go le=>?_)
      ·rcases hb with hb|hb
       ·exact .inl hb
       ·exact .inr (by rw[List.append_assoc];exact List.mem_append.2 (.inr hb))
      ·have hm:b∈b1:=by rw[hb1];exact hb
       have ig:b∈b1++b2++rest:=by rw[List.append_assoc];exact List.mem_append.2 (.inl hm)
       refine⟨.inr ig,?_,(L.cf b ig).2⟩;rintro(hx|hx)
       ·exact(L.cf b ig).1 hx
       ·exact(List.nodup_append.1 eJ).2.2 b hb b hx rfl
      ·have hle:∀b,ar (fun b=>X b\/b∈b2++rest) _ _ b->av b:=fun b hb=>L.le b (le b hb)
       exact⟨e,v,ns,cs,ej,by rw[ej];exact(List.nodup_append.1 eJ).1,ay,hr.map (fun k=>cj.gu (B:=B) (sites:=[]) (a:=one _) hle (fun b hb=>S.lt (le b hb)) k) fun _ _ _ _=>rfl⟩
     have lX:Left O U X (fun M=>if M=n then .tuple (v::ns).toArray else B M) {st with sites:=aY st.sites [(n,.deep (aZ bn n) t xs)]} av (b2++rest):=by
      refine⟨(List.nodup_append.1 (by rw[List.append_assoc] at L;exact L.nodup)).2.1,fun b hb=>L.cf b (by rw[List.append_assoc];exact List.mem_append.2 (.inr hb)),fun c hc=>L.le c (cQ.le c hc)⟩
     obtain⟨aD,dV,h3,aE⟩:=ih (n+1) (st:={st with sites:=aY st.sites [(n,.deep (aZ bn n) t xs)]}) cQ.g' h2 lX
      (kj.step (us:=[(n,.deep (aZ bn n) t xs)]) (fun m hm=>ef m (List.mem_cons_of_mem _ hm)) (fun m hm=>by simp only[keys,List.mem_singleton] at hm;subst hm;exact Y.1)) Y.2
     refine⟨aD,cQ.trans dV,?_,aE⟩;refine cy.cons ?_ h3;have:dF (fun M=>if M=n then .tuple (v::ns).toArray else B M) (aY st.sites [(n,.deep (aZ bn n) t xs)]) w (ar (fun b=>X b\/b∈b2++rest) (fun M=>if M=n then .tuple (v::ns).toArray else B M) (aY st.sites [(n,.deep (aZ bn n) t xs)])) (.own n (aZ bn n)) v:=
      ⟨Fu ay,Ref.mk (aa:=.deep (aZ bn n) t xs) (by simp[aY,cC]) rfl (by simp[b0])⟩
     exact dV.go (a:=bP (.own n (aZ bn n))) (v:=v) this
    ·have MC:∀t xs,l≠.fresh t xs:=fun t xs h=>hf ⟨t,xs,h⟩
     have K':∀t xs,l≠.jb t xs:=fun t xs h=>Ey ⟨t,xs,h⟩
     have anj:take bn n (l::ab)=(l::(take bn (n+1) ab).1,(take bn (n+1) ab).2):=by
      cases l<;>first|rfl|exact absurd rfl (MC _ _)|exact absurd rfl (K' _ _)
     have h1':b1=[]/\dF nd [] w av l v:=by
      cases l<;>first|exact h1|exact absurd rfl (MC _ _)|exact absurd rfl (K' _ _)
     obtain⟨rfl,h1'⟩:=h1';rw[anj] at Y ef ⊢;simp only[List.nil_append] at S L ⊢;obtain⟨aD,dV,h3,aE⟩:=ih (n+1) S h2 L ef Y;refine⟨aD,dV,?_,aE⟩;refine cy.cons ?_ h3;exact FG MC K' h1' (fun b hb=>L.le b (dV.le b hb)) (fun b hb=>dV.g'.lt hb)
end
section
variable {O:World}{U:List Nat}{X:Nat->Prop}{B:Nat->Value}{st:af}{tm:Array Value}{w:World}
def pe(B:Nat->Value)(sites:List (Nat×Site))(w:World)(av:Nat->Prop)(as:List bH)(vs:List Value):Prop:=
 vs.length=as.length/\∀j (h:j<as.length) (ae:j<vs.length),gZ B sites w av (as[j]) (vs[j])
theorem pe.cons{sites:List (Nat×Site)}{av:Nat->Prop}{a:bH}{as:List bH}{v:Value}{vs:List Value}(h:gZ B sites w av a v)(hs:pe B sites w av as vs):pe B sites w av (a::as) (v::vs):=
 ⟨by simp[hs.1],fun j h1 h2=>by
  cases j with
  |zero=>exact h
  |succ j=>exact hs.2 j (by simpa using h1) (by simpa using h2)⟩
theorem Left.rest{av:Nat->Prop}{a b:List Nat}(L:Left O U X B st av (a++b)){aD:Nat->Value}{ah:af}(h:∀c,ar (fun c=>X c\/c∈b) aD ah.sites c->ar (fun c=>X c\/c∈a++b) B st.sites c):Left O U X aD ah av b:=
 ⟨(List.nodup_append.1 L.nodup).2.1,fun c hc=>L.cf c (List.mem_append.2 (.inr hc)),fun c hc=>L.le c (h c hc)⟩
theorem ae7{bn:af}{n:Nat}{ab:List az}(h:(take bn n ab).1.head?=some .dH):ab.head?=some .dH:=by
 cases ab with
 |nil=>cases h
 |cons l ab=>cases l<;>first|exact h|cases h
theorem take_one(bn:af)(n:Nat)(l:az):∃gj,(take bn n [l]).1=[gj]:=by cases l<;>exact⟨_,rfl⟩
theorem Q6{av:Nat->Prop}(bn:af):∀(as:List bH) (n:Nat) {B:Nat->Value} {st:af} {vs:List Value} {bs rest:List Nat},ai O U (fun b=>X b\/b∈bs++rest) B st tm w->mb w av as vs bs->
  Left O U X B st av (bs++rest)->kj bn st.sites (keys (ea bn n as).2)->(keys (ea bn n as).2).Nodup->
  ∃aD,gv O U (fun b=>X b\/b∈bs++rest) (fun b=>X b\/b∈rest) B aD st tm w (ea bn n as).2/\pe aD (aY st.sites (ea bn n as).2) w (ar (fun b=>X b\/b∈rest) aD (aY st.sites (ea bn n as).2)) (ea bn n as).1 vs/\
   Left O U X aD {st with sites:=aY st.sites (ea bn n as).2} av rest:=by
 intro as;induction as with
 |nil=>
  intro n B st vs bs rest S h L ef Y;match vs,h with
  |[],h=>
   have h:bs=[]:=h;subst h;exact⟨B,.nil S (fun b hb=>hb),⟨rfl,fun j h=>by simp[ea] at h⟩,L⟩
 |cons a as ih=>
  intro n B st vs bs rest S h L ef Y;match vs,h with
  |v::vs,⟨b1,b2,dD,h1,h2⟩=>
   subst dD;have go:∀(ab:List az) (us:List Value),gX w av ab us b1->(ea bn n (a::as)).2=(take bn n ab).2++(ea bn (n+100) as).2->
     ∃aD,gv O U (fun b=>X b\/b∈b1++b2++rest) (fun b=>X b\/b∈rest) B aD st tm w (ea bn n (a::as)).2/\cy aD (aY st.sites (ea bn n (a::as)).2) w (ar (fun b=>X b\/b∈rest) aD (aY st.sites (ea bn n (a::as)).2)) (take bn n ab).1 us/\
      pe aD (aY st.sites (ea bn n (a::as)).2) w (ar (fun b=>X b\/b∈rest) aD (aY st.sites (ea bn n (a::as)).2)) (ea bn (n+100) as).1 vs/\Left O U X aD {st with sites:=aY st.sites (ea bn n (a::as)).2} av rest:=by
    intro ab us bT e;rw[e] at ef Y ⊢;rw[hF] at ef Y;obtain⟨d1,d2,d3⟩:=List.nodup_append.1 Y;rw[List.append_assoc] at S L ⊢;obtain⟨gK,cQ,aw,lX⟩:=R8 bn ab n S bT L (fun m hm=>ef m (List.mem_append.2 (.inl hm))) d1
    obtain⟨gJ,dV,an,q8⟩:=ih (n+100) (st:={st with sites:=aY st.sites (take bn n ab).2}) cQ.g' h2 lX
     (kj.step (fun m hm=>ef m (List.mem_append.2 (.inr hm))) (fun m hm ig=>d3 m hm m ig rfl)) d2
    refine⟨gJ,cQ.trans dV,?_,?_,?_⟩
    ·rw[jq];exact aw.go dV.go
    ·rw[jq];exact an
    ·rw[jq];exact q8
   cases a with
   |ag l=>
    have h1:nb w av l v b1:=h1;obtain⟨aD,T,aw,an,bo⟩:=go [l] [v] ⟨b1,[],by simp,h1,rfl⟩ rfl
    refine⟨aD,T,?_,bo⟩;obtain⟨gj,gx⟩:=take_one bn n l;have:(ea bn n (bH.ag l::as)).1=bH.ag gj::(ea bn (n+100) as).1:=by simp only[ea,gx]
    rw[this];refine pe.cons ?_ an;rw[gx] at aw;exact aw.2 0 (by simp) (by simp)
   |agg ab=>
    obtain⟨us,e,h1⟩:=h1;obtain⟨aD,T,aw,an,bo⟩:=go ab us h1 rfl;refine⟨aD,T,?_,bo⟩;have:(ea bn n (bH.agg ab::as)).1=bH.agg (take bn n ab).1::(ea bn (n+100) as).1:=rfl;rw[this];exact pe.cons ⟨us,e,aw.1,aw.2⟩ an
def oE(B:Nat->Value):List (Nat×Nat)->List Nat->Prop
 |[],[]=>True
 |p::r,b::dp=>B p.1=.pointer (some ⟨b,0,none⟩)/\oE B r dp
 |_,_=>False
theorem oE.of:∀{boxes:List (Nat×Nat)},(∀o s,(o,s)∈boxes->∃b,B o=.pointer (some ⟨b,0,none⟩))->oE B boxes (cD B (keys boxes)):=by
 intro boxes;induction boxes with
 |nil=>intro _;trivial
 |cons q boxes ih=>
  obtain⟨ρ,r⟩:=q;intro h;obtain⟨c,hc⟩:=h ρ r List.mem_cons_self;have:=ih fun o s hm=>h o s (List.mem_cons_of_mem _ hm)
  have e:cD B (keys ((ρ,r)::boxes))=c::cD B (keys boxes):=by simp[cD,keys,hc,bq,bJ]
  rw[e];exact⟨hc,this⟩
theorem oE.congr{aD:Nat->Value}:∀{boxes:List (Nat×Nat)} {dp:List Nat},oE B boxes dp->(∀M,M∈keys boxes->aD M=B M)->oE aD boxes dp:=by
 intro boxes;induction boxes with
 |nil=>
  intro dp h _;match dp,h with
  |[],_=>trivial
 |cons q boxes ih=>
  intro dp h ae;match dp,h with
  |b::dp,⟨h1,h2⟩=>exact⟨by rw[ae q.1 List.mem_cons_self];exact h1,ih h2 fun M bB=>ae M (List.mem_cons_of_mem _ bB)⟩
theorem O'{av:Nat->Prop}{bn:af}{M:Nat}:∀{boxes:List (Nat×Nat)} {cF:List (List az)} {dp bs:List Nat},oE B boxes dp->ma w av dp cF bs->M∈keys boxes->M∈keys (fK bn boxes cF):=by
 intro boxes;induction boxes with
 |nil=>intro cF dp bs _ _ h;simp[keys] at h
 |cons q boxes ih=>
  obtain⟨ρ,r⟩:=q;intro cF dp bs hl bT hm;match dp,cF,hl,bT with
  |c::dp,cs::cF,⟨_,hl⟩,⟨_,_,_,_,bT⟩=>
   simp only[fK,hF,keys,List.mem_append,List.mem_cons];rcases List.mem_cons.1 hm with rfl|hm
   ·exact .inr (.inl rfl)
   ·exact .inr (.inr (ih hl bT hm))
theorem Q5{av:Nat->Prop}(bn:af):∀(boxes:List (Nat×Nat)) {cF:List (List az)} {B:Nat->Value} {st:af} {dp bs rest:List Nat},ai O U (fun b=>X b\/b∈bs++rest) B st tm w->oE B boxes dp->ma w av dp cF bs->
  (∀o s,(o,s)∈boxes->look st.sites o=some (.dead s))->
  Left O U X B st av (bs++rest)->kj bn st.sites (keys (fK bn boxes cF))->(keys (fK bn boxes cF)).Nodup->
  ∃aD,gv O U (fun b=>X b\/b∈bs++rest) (fun b=>X b\/b∈rest) B aD st tm w (fK bn boxes cF)/\Left O U X aD {st with sites:=aY st.sites (fK bn boxes cF)} av rest:=by
 intro boxes;induction boxes with
 |nil=>
  intro cF B st dp bs rest S fw h hB L ef Y;match dp,cF,fw,h with
  |[],[],_,h=>
   have h:bs=[]:=h;subst h;exact⟨B,.nil S (fun b hb=>hb),L⟩
 |cons p boxes ih=>
  obtain⟨o,s⟩:=p;intro cF B st dp bs rest S fw h hB L ef Y;have bk:=hB o s List.mem_cons_self;match dp,cF,fw,h with
  |b::dp,cs::cF,⟨hb,fw⟩,⟨b1,b2,dD,⟨T,cur,q3,e1,e2,bp,dU⟩,h2⟩=>
   subst dD e1;have hb:B o=.pointer (some ⟨b,0,none⟩):=hb;have sY:fK bn ((o,s)::boxes) (cs::cF)=(take bn (1000000+o*100) cs).2++([(o,Site.box s (take bn (1000000+o*100) cs).1)]++fK bn boxes cF):=rfl;rw[sY] at ef Y ⊢;rw[hF,hF] at ef Y;obtain⟨d1,d2,d3⟩:=List.nodup_append.1 Y;obtain⟨d4,d5,d6⟩:=List.nodup_append.1 d2;have C':∀c,c∈b::q3++b2++rest <-> c∈q3++(b::(b2++rest)):=by intro c;simp[or_assoc,or_left_comm]
   have au4:=L.nodup;have dk:ai O U (fun c=>X c\/c∈q3++(b::(b2++rest))) B st tm w:=S.shrink fun c hc=>hc.imp id (C' c).2
   have lX:Left O U X B st av (q3++(b::(b2++rest))):=by
    refine⟨?_,fun c hc=>L.cf c ((C' c).2 hc),fun c hc=>L.le c ?_⟩
    ·have:List.Perm (b::q3++b2++rest) (q3++(b::(b2++rest))):=by
      simp only[List.cons_append,List.append_assoc];exact List.perm_middle.symm
     exact this.nodup_iff.1 au4
    ·rcases hc with hc|hc
     ·exact .inl (hc.imp id (C' c).2)
     ·exact .inr hc
   obtain⟨gK,cQ,aw,q8⟩:=R8 bn cs (1000000+o*100) dk dU.2 lX (fun m hm=>ef m (List.mem_append.2 (.inl hm))) d1
   have Xi:o∉keys (take bn (1000000+o*100) cs).2:=fun h=>d3 o h o (by simp[keys]) rfl
   have K2:gK o=B o:=cQ.same o Xi;have hP:look (aY st.sites (take bn (1000000+o*100) cs).2) o=some (.dead s):=by rw[l0 Xi,bk]
   have _p:=q8.nodup;simp only[List.nodup_cons] at _p;have dV:gv O U (fun c=>X c\/c∈b::(b2++rest)) (fun c=>X c\/c∈b2++rest) gK (fun M=>if M=o then B o else gK M) {st with sites:=aY st.sites (take bn (1000000+o*100) cs).2} tm w [(o,Site.box s (take bn (1000000+o*100) cs).1)]:=by
    refine .one cQ.g' (fun c hc=>hc.imp id (List.mem_cons_of_mem _)) (.inr ⟨by rw[K2],fun aa hs=>?_⟩) (fun c hc=>?_) (fun fD ej go le=>?_)
    ·have hs:look (aY st.sites (take bn (1000000+o*100) cs).2) o=some aa:=hs;rw[hP] at hs;cases hs;exact⟨rfl,rfl⟩
    ·rw[hb] at hc;have hc:c=b:=List.mem_singleton.1 hc;rw[hc];refine⟨.inr List.mem_cons_self,?_,(q8.cf b List.mem_cons_self).2⟩;rintro(hx|hx)
     ·exact(q8.cf b List.mem_cons_self).1 hx
     ·exact _p.1 hx
    ·have:=Cx go aw;exact⟨b,T,cur,by rw[ej,hb],e2,this.1,bp,fun bT=>dU.1 (ae7 bT),this.2⟩
   have awz:Left O U X (fun M=>if M=o then B o else gK M) {st with sites:=aY (aY st.sites (take bn (1000000+o*100) cs).2) [(o,Site.box s (take bn (1000000+o*100) cs).1)]} av (b2++rest):=
    Left.rest (a:=[b]) (st:={st with sites:=aY st.sites (take bn (1000000+o*100) cs).2}) q8 dV.le
   have hbk:∀M,M∈keys boxes->(fun M=>if M=o then B o else gK M) M=B M:=by
    intro M bB;have hk:=O' (bn:=bn) fw h2 bB;by_cases e:M=o
    ·subst e;simp
    ·simp only[e,if_false];exact cQ.same M fun hm=>d3 M hm M (List.mem_append.2 (.inr hk)) rfl
   obtain⟨aD,gA,awy⟩:=ih (st:={st with sites:=aY (aY st.sites (take bn (1000000+o*100) cs).2) [(o,Site.box s (take bn (1000000+o*100) cs).1)]}) dV.g' (fw.congr hbk) h2
    (fun M r hm=>by
     have hk:=O' (bn:=bn) fw h2 (G8 hm);show look (aY (aY st.sites _) _) M=_;rw[l0 (fun h=>d6 M h M hk rfl),l0 (fun h=>d3 M h M (List.mem_append.2 (.inr hk)) rfl)]
     exact hB M r (List.mem_cons_of_mem _ hm))
    awz
    (kj.step (kj.step (fun m hm=>ef m (List.mem_append.2 (.inr (List.mem_append.2 (.inr hm))))) (fun m hm ig=>d3 m hm m (List.mem_append.2 (.inr ig)) rfl)) (fun m hm ig=>d6 m hm m ig rfl)) d5
   refine⟨aD,?_,?_⟩
   ·have auT:=cQ.trans dV;have lV:gv O U (fun c=>X c\/c∈b::q3++b2++rest) (fun c=>X c\/c∈q3++(b::(b2++rest))) B B st tm w []:=.nil S fun c hc=>hc.imp id (C' c).2
    have ap4:=lV.trans (vs:=(take bn (1000000+o*100) cs).2++[(o,Site.box s (take bn (1000000+o*100) cs).1)]) auT;have:=ap4.trans (vs:=fK bn boxes cF) (by simpa only[List.nil_append,jq] using gA)
    simpa only[List.nil_append,List.append_assoc] using this
   ·simpa only[jq] using awy
theorem iV.congr{aD:Nat->Value}:∀{rows:List (Option (Nat×Nat))} {vs:List Value},iV B rows vs->(∀o s,some (o,s)∈rows->b0 (aD o)=b0 (B o))->iV aD rows vs:=by
 intro rows;induction rows with
 |nil=>intro vs h _;trivial
 |cons D r ih=>
  intro vs h hc;match D,vs,h with
  |none,v::vs,h=>exact ih h fun o s hm=>hc o s (List.mem_cons_of_mem _ hm)
  |some p,v::vs,h=>exact⟨h.1.trans (hc p.1 p.2 List.mem_cons_self).symm,ih h.2 fun o s hm=>hc o s (List.mem_cons_of_mem _ hm)⟩
  |none,[],h=>exact h.elim
  |some p,[],h=>exact h.elim
theorem ae8{ab:List az}:fo [] ab=[]:=by cases ab<;>rfl
theorem O_{rows:List (Option (Nat×Nat))}:fo rows []=[]:=by
 cases rows with
 |nil=>rfl
 |cons D r=>cases D<;>rfl
theorem adJ{r:List (Option (Nat×Nat))}{l:az}{ab:List az}:fo (none::r) (l::ab)=fo r ab:=by cases l<;>rfl
theorem zw{o s:Nat}:∀{rows:List (Option (Nat×Nat))},some (o,s)∈rows->o∈qb rows
 |[],h=>by cases h
 |none::r,h=>by
  rcases List.mem_cons.1 h with h|h
  ·cases h
  ·exact zw (rows:=r) h
 |some p::r,h=>by
  rcases List.mem_cons.1 h with h|h
  ·cases h;exact List.mem_cons_self
  ·exact List.mem_cons_of_mem _ (zw h)
theorem aca{D:Option (Nat×Nat)}{rows:List (Option (Nat×Nat))}(h:(qb (D::rows)).Nodup):(qb rows).Nodup:=by
 cases D with
 |none=>exact h
 |some p=>exact(List.nodup_cons.1 h).2
theorem agX{av:Nat->Prop}:∀(rows:List (Option (Nat×Nat))) {ab:List az} {B:Nat->Value} {st:af} {vs:List Value} {bs rest:List Nat},ai O U (fun b=>X b\/b∈bs++rest) B st tm w->gX w av ab vs bs->iV B rows vs->
  (∀o s,some (o,s)∈rows->look st.sites o=some (.dead s))->(qb rows).Nodup->Left O U X B st av (bs++rest)->(keys (fo rows ab)).Nodup->
  ∃aD,gv O U (fun b=>X b\/b∈bs++rest) (fun b=>X b\/b∈rest) B aD st tm w (fo rows ab)/\Left O U X aD {st with sites:=aY st.sites (fo rows ab)} av rest:=by
 intro rows;have skip:∀{B:Nat->Value} {st:af} {bs rest:List Nat},ai O U (fun b=>X b\/b∈bs++rest) B st tm w->Left O U X B st av (bs++rest)->
   gv O U (fun b=>X b\/b∈bs++rest) (fun b=>X b\/b∈rest) B B st tm w []/\Left O U X B st av rest:=by
  intro B st bs rest S L;have T:gv O U (fun b=>X b\/b∈bs++rest) (fun b=>X b\/b∈rest) B B st tm w []:=.nil S fun b hb=>hb.imp id fun h=>List.mem_append.2 (.inr h)
  exact⟨T,L.rest (fun c hc=>T.le c hc)⟩
 induction rows with
 |nil=>
  intro ab B st vs bs rest S h hr fb ef L Y;obtain⟨T,L'⟩:=skip S L;rw[ae8];exact⟨B,T,L'⟩
 |cons D r ih=>
  intro ab B st vs bs rest S h hr fb ef L Y;match ab,vs,h with
  |[],[],h=>
   obtain⟨T,L'⟩:=skip S L;rw[O_];exact⟨B,T,L'⟩
  |l::ab,v::vs,⟨b1,b2,dD,h1,h2⟩=>
   subst dD;have pass:iV B r vs->fo (D::r) (l::ab)=fo r ab->∃aD,gv O U (fun b=>X b\/b∈b1++b2++rest) (fun b=>X b\/b∈rest) B aD st tm w (fo (D::r) (l::ab))/\Left O U X aD {st with sites:=aY st.sites (fo (D::r) (l::ab))} av rest:=by
    intro cV e;rw[e] at Y ⊢;have lV:gv O U (fun b=>X b\/b∈b1++b2++rest) (fun b=>X b\/b∈b2++rest) B B st tm w []:=.nil S fun b hb=>hb.imp id fun h=>by rw[List.append_assoc];exact List.mem_append.2 (.inr h)
    have zk:Left O U X B st av (b2++rest):=Left.rest (a:=b1) (by rw[<-List.append_assoc];exact L) fun c hc=>(lV.le c hc).imp (fun h=>h.imp id fun h=>by rwa[<-List.append_assoc]) id
    obtain⟨aD,T,L'⟩:=ih lV.g' h2 cV (fun o s hm=>fb o s (List.mem_cons_of_mem _ hm)) (aca ef) zk Y
    exact⟨aD,lV.trans (vs:=fo r ab) T,L'⟩
   have back:∀(o s:Nat) (bF:Site) (nv:Value),D=some (o,s)->bF.b'=s->fo (D::r) (l::ab)=(o,bF)::fo r ab->b0 nv=v->(∀b,b∈bJ nv->b∈b1)->
     (∀{bw:List (Nat×Site)} {aD:Nat->Value},aD o=nv->(∀b,ar (fun b=>X b\/b∈b2++rest) aD bw b->av b)->(∀b,ar (fun b=>X b\/b∈b2++rest) aD bw b->b<w.heap.size)->jS aD bw w (ar (fun b=>X b\/b∈b2++rest) aD bw) o bF)->
     ∃aD,gv O U (fun b=>X b\/b∈b1++b2++rest) (fun b=>X b\/b∈rest) B aD st tm w (fo (D::r) (l::ab))/\Left O U X aD {st with sites:=aY st.sites (fo (D::r) (l::ab))} av rest:=by
    intro o s bF nv ay dO e yF qU eZ;subst ay;rw[e] at Y ⊢;simp only[keys,List.nodup_cons] at Y;have bk:=fb o s List.mem_cons_self;have eJ:=L.nodup;rw[List.append_assoc] at eJ;have cQ:gv O U (fun b=>X b\/b∈b1++b2++rest) (fun b=>X b\/b∈b2++rest) B (fun M=>if M=o then nv else B M) st tm w [(o,bF)]:=by
     refine .one S (fun b hb=>hb.imp id fun h=>by rw[List.append_assoc];exact List.mem_append.2 (.inr h)) (.inr ⟨?_,fun aa hs=>?_⟩) (fun b hb=>?_) (fun fD ej go le=>?_)
     ·rw[yF];exact hr.1.symm
     ·rw[bk] at hs;cases hs;exact⟨dO.symm,rfl⟩
     ·have hm:=qU b hb;have ig:b∈b1++b2++rest:=by rw[List.append_assoc];exact List.mem_append.2 (.inl hm)
      refine⟨.inr ig,?_,(L.cf b ig).2⟩;rintro(hx|hx)
      ·exact(L.cf b ig).1 hx
      ·exact(List.nodup_append.1 eJ).2.2 b hm b hx rfl
     ·exact eZ ej (fun b hb=>L.le b (le b hb)) (fun b hb=>S.lt (le b hb))
    have lX:Left O U X (fun M=>if M=o then nv else B M) {st with sites:=aY st.sites [(o,bF)]} av (b2++rest):=
     ⟨(List.nodup_append.1 eJ).2.1,fun b hb=>L.cf b (by rw[List.append_assoc];exact List.mem_append.2 (.inr hb)),fun c hc=>L.le c (cQ.le c hc)⟩
    have yC:iV (fun M=>if M=o then nv else B M) r vs:=hr.2.congr fun M t hm=>by
     by_cases e:M=o
     ·subst e;have:=hr.1;simp only[if_true,yF];exact this
     ·simp[e]
    obtain⟨aD,dV,q8⟩:=ih (st:={st with sites:=aY st.sites [(o,bF)]}) cQ.g' h2 yC (fun M t hm=>by
     have b_:¬o=M:=fun e=>(List.nodup_cons.1 ef).1 (by subst e;exact zw hm)
     simp only[aY,cC,b_,if_false];exact fb M t (List.mem_cons_of_mem _ hm)) (List.nodup_cons.1 ef).2 lX Y.2
    exact⟨aD,cQ.trans dV,q8⟩
   match D,hr with
   |none,hr=>exact pass hr adJ
   |some (o,s),hr=>
    cases l with
    |fresh t xs=>
     obtain⟨hb1,e,cs,ay,dt⟩:=h1;refine back o s (.row s t xs) v rfl rfl rfl (jR ay).1 (fun b hb=>by rw[hb1,wH ay hb];simp) fun ej hle hlt=>⟨e,cs,by rw[ej];exact ay,fun j g1 g2=>?_⟩
     exact cj.gu (B:=B) (sites:=[]) (a:=one _) hle hlt (dt.2 j g1 g2)
    |jb t xs=>
     obtain⟨e,cs,ns,hb1,ay,dt⟩:=h1;refine back o s (.deep s t xs) (.tuple (v::ns).toArray) rfl rfl rfl rfl (fun b hb=>by rw[hb1];exact hb) fun ej hle hlt=>⟨e,v,ns,cs,ej,?_,ay,dt.map (fun k=>cj.gu (B:=B) (sites:=[]) (a:=one _) hle hlt k) fun _ _ _ _=>rfl⟩
     rw[ej,<-hb1];have:=L.nodup;rw[List.append_assoc] at this;exact(List.nodup_append.1 this).1
    |_=>exact pass hr.2 rfl
end
theorem zq{us:List (Nat×Site)}:∀{sites:List (Nat×Site)} {o:Nat} {s:Site},(keys us).Nodup->(o,s)∈us->look (aY sites us) o=some s:=by
 induction us with
 |nil=>intro sites o s _ h;simp at h
 |cons p us ih=>
  obtain⟨n,au⟩:=p;intro sites o s hn hm;simp only[keys,List.nodup_cons] at hn;simp only[aY];rcases List.mem_cons.1 hm with hm|hm
  ·cases hm;rw[l0 hn.1,cC];simp
  ·exact ih hn.2 hm
section plain
variable {w:World}{av b4:Nat->Prop}
theorem wq{d:aJ}{v:Value}(h:az.iv (.d d)=false)(r:bm w av d v):bm w b4 d v:=by
 cases r with
 |int k n=>exact .int k n
 |bool b=>exact .bool b
 |str l s hs=>exact .str l s hs
 |nil t=>cases h
 |sl=>cases h
 |fn=>cases h
 |xN=>cases h
 |map=>cases h
 |x1 T=>exact .x1 T
 |err T n=>exact .err T n
theorem agr{t:aH}(h:t.iv=false)(x:den t):∀d,d∈enc t x->az.iv (.d d)=false:=by
 cases t<;>first|(cases h;done)|(intro d Y;simp only[enc,List.mem_cons,List.not_mem_nil,or_false] at Y;(rcases Y with rfl|rfl|rfl|rfl|rfl);all_goals rfl)|skip
 all_goals(intro d Y;simp only[enc,List.mem_cons,List.not_mem_nil,or_false] at Y)
 all_goals first|(subst Y;rfl)|(rcases Y with rfl|rfl<;>rfl)|(rcases Y with rfl|rfl|rfl<;>rfl)|(rcases Y with rfl|rfl|rfl|rfl<;>rfl)
theorem afs{t:aH}{xs:List (den t)}{cs:List Value}(h:t.iv=false)(r:cu w av (flat t xs) cs):cu w b4 (flat t xs) cs:=by
 refine⟨r.1,fun j g1 g2=>wq ?_ (r.2 j g1 g2)⟩
 have hm:(flat t xs)[j]∈flat t xs:=List.getElem_mem g1;simp only[flat,List.mem_flatMap] at hm;obtain⟨x,_,hx⟩:=hm;exact agr h x _ hx
theorem aew{ds:List aJ}{cs ns:List Value}(k:Deep w av ds cs ns):Deep w b4 ds cs ns:=by
 have pl:∀{d:aJ} {v:Value},d.plain=true->bm w av d v->bm w b4 d v:=fun {d v} hp r=>wq (by cases d<;>first|rfl|cases hp) r
 induction k with
 |nil=>exact .nil
 |row u ys e ab hp h hr _ ih=>exact .row u ys e ab hp h ⟨hr.1,fun j g1 g2=>pl (hp _ (List.getElem_mem g1)) (hr.2 j g1 g2)⟩ ih
 |leaf hp h _ ih=>exact .leaf hp (pl hp h) ih
theorem OT{l:az}{v:Value}{bs:List Nat}(h:l.iv=false)(k:nb w av l v bs):nb w b4 l v bs:=by
 cases l with
 |d x=>exact⟨k.1,wq h k.2⟩
 |fresh t xs=>
  obtain⟨h1,e,cs,h2,h3⟩:=k;exact⟨h1,e,cs,h2,afs h h3⟩
 |jb t xs=>
  obtain⟨e,cs,ns,h1,h2,h3⟩:=k;exact⟨e,cs,ns,h1,h2,aew h3⟩
 |cL v=>exact k
 |dH=>exact k
 |_=>cases h
theorem Fx:∀{ab:List az} {vs:List Value} {bs:List Nat},oS ab=false->gX w av ab vs bs->gX w b4 ab vs bs:=by
 intro ab;induction ab with
 |nil=>
  intro vs bs _ k;match vs,k with
  |[],k=>exact k
 |cons l ab ih=>
  intro vs bs h k;simp only[oS,Bool.or_eq_false_iff] at h;match vs,k with
  |v::vs,⟨b1,b2,aw,an,bo⟩=>exact⟨b1,b2,aw,OT h.1 an,ih h.2 bo⟩
theorem acs:∀{as:List bH} {vs:List Value} {bs:List Nat},tj as=false->mb w av as vs bs->mb w b4 as vs bs:=by
 intro as;induction as with
 |nil=>
  intro vs bs _ k;match vs,k with
  |[],k=>exact k
 |cons a as ih=>
  intro vs bs h k;simp only[tj,Bool.or_eq_false_iff] at h;match vs,k with
  |v::vs,⟨b1,b2,aw,an,bo⟩=>
   refine⟨b1,b2,aw,?_,ih h.2 bo⟩;cases a with
   |ag l=>
    have h1:=h.1;simp only[bH.cells,oS,Bool.or_false] at h1;exact OT h1 an
   |agg ab=>
    obtain⟨us,e,an⟩:=an;exact⟨us,e,Fx h.1 an⟩
theorem acr:∀{cF:List (List az)} {dp bs:List Nat},th cF=false->ma w av dp cF bs->ma w b4 dp cF bs:=by
 intro cF;induction cF with
 |nil=>
  intro dp bs _ k;match dp,k with
  |[],k=>exact k
 |cons a as ih=>
  intro dp bs h k;simp only[th,Bool.or_eq_false_iff] at h;match dp,k with
  |b::dp,⟨b1,b2,aw,⟨T,cur,pN,e1,e2,bp,dU,hD⟩,bo⟩=>
   exact⟨b1,b2,aw,⟨T,cur,pN,e1,e2,bp,dU,Fx h.1 hD⟩,ih h.2 bo⟩
theorem RM{l:az}{v:Value}{bs:List Nat}(k:nb w av l v bs):∀b,b∈bs->b<w.heap.size:=by
 cases l with
 |fresh t xs=>
  obtain⟨h1,e,cs,h2,h3⟩:=k;intro b hb;rw[h1] at hb;exact wo h2 (Option.mem_toList.1 hb)
 |jb t xs=>
  obtain⟨e,cs,ns,h1,h2,h3⟩:=k;intro b hb;rw[h1] at hb;rcases kb.1 hb with hb|⟨n,hn,hb⟩
  ·exact wo h2 hb
  ·exact h3.lt n hn b hb
 |_=>intro b hb;rw[k.1] at hb;simp at hb
theorem Hr:∀{ab:List az} {vs:List Value} {bs:List Nat},gX w av ab vs bs->∀b,b∈bs->b<w.heap.size:=by
 intro ab;induction ab with
 |nil=>
  intro vs bs k;match vs,k with
  |[],k=>have k:bs=[]:=k;intro b hb;rw[k] at hb;simp at hb
 |cons l ab ih=>
  intro vs bs k;match vs,k with
  |v::vs,⟨b1,b2,aw,an,bo⟩=>
   intro b hb;rw[aw] at hb;rcases List.mem_append.1 hb with hb|hb
   ·exact RM an b hb
   ·exact ih bo b hb
theorem QB:∀{as:List bH} {vs:List Value} {bs:List Nat},mb w av as vs bs->∀b,b∈bs->b<w.heap.size:=by
 intro as;induction as with
 |nil=>
  intro vs bs k;match vs,k with
  |[],k=>have k:bs=[]:=k;intro b hb;rw[k] at hb;simp at hb
 |cons a as ih=>
  intro vs bs k;match vs,k with
  |v::vs,⟨b1,b2,aw,an,bo⟩=>
   intro b hb;rw[aw] at hb;rcases List.mem_append.1 hb with hb|hb
   ·cases a with
    |ag l=>exact RM (show nb w av l v b1 from an) b hb
    |agg ab=>obtain⟨us,e,an⟩:=an;exact Hr an b hb
   ·exact ih bo b hb
theorem QA:∀{cF:List (List az)} {dp bs:List Nat},ma w av dp cF bs->∀b,b∈bs->b<w.heap.size:=by
 intro cF;induction cF with
 |nil=>
  intro dp bs k;match dp,k with
  |[],k=>have k:bs=[]:=k;intro b hb;rw[k] at hb;simp at hb
 |cons a as ih=>
  intro dp bs k;match dp,k with
  |c::dp,⟨b1,b2,aw,⟨T,cur,pN,e1,e2,bp,_,dU⟩,bo⟩=>
   intro b hb;rw[aw] at hb;rcases List.mem_append.1 hb with hb|hb
   ·rw[e1] at hb;rcases List.mem_cons.1 hb with rfl|hb
    ·exact(Array.getElem?_eq_some_iff.1 e2).1
    ·exact Hr dU b hb
   ·exact ih bo b hb
end plain
section
variable {P:Program}{O:World}{U:List Nat}{X:Nat->Prop}{B:Nat->Value}{st:af}{tm:Array Value}{w:World}{D:Oper}
theorem oK{ks:List Nat}{b:Nat}:b∈cD B ks <-> ∃o,o∈ks/\b∈bJ (B o):=by simp[cD]
theorem Ov(S:ai O U X B st tm w):∀{ks:List Nat},ks.Nodup->(∀o,o∈ks->bY st.sites o)->(cD B ks).Nodup:=by
 intro ks;induction ks with
 |nil=>intro _ _;exact List.nodup_nil
 |cons o ks ih=>
  intro hn hl;rw[List.nodup_cons] at hn;have:=ih hn.2 fun M bB=>hl M (List.mem_cons_of_mem _ bB)
  simp only[cD,List.flatMap_cons] at this ⊢;refine List.nodup_append.2 ⟨S.TS (hl o List.mem_cons_self),this,fun b hb c hc e=>?_⟩
  subst e;obtain⟨M,h1,h2⟩:=oK.1 hc;have:=S.dC o M b (hl o List.mem_cons_self) (hl M (List.mem_cons_of_mem _ h1)) hb h2;subst this;exact hn.1 h1
structure ap7(O:World)(U:List Nat)(X:Nat->Prop)(B:Nat->Value)(st:af)(tm:Array Value)(w:World)(a:kW)(vs:List Value):Prop where
 fz:dM st.sites a.e7
 lb:∀o,o∈a.gm->bY st.sites o
 oI:fs st.sites a.gone
 arg:∀av,fB O U X B st tm w a.e7 a.gm av->js w av a.as vs (cD B (keys a.gone))
 dp:d_ a.as vs=cD B (keys a.boxes)
 eg:∀o s,(o,s)∈a.boxes->(o,.dead s)∈a.gone/\∃b,B o=.pointer (some ⟨b,0,none⟩)
 k8:iV B a.rows (fY a.as vs)
 rg:∀o s,some (o,s)∈a.rows->(o,.dead s)∈a.gone
theorem OV{us:List (Nat×Site)}{sites:List (Nat×Site)}(aO:dM sites us){o:Nat}(h:bY (aY sites us) o):bY sites o:=by
 obtain⟨aa,h1,h2⟩:=h;rcases mJ aO o with h|⟨s,t,xs,aE,br⟩
 ·exact⟨aa,h▸h1,h2⟩
 ·rw[br] at h1;cases h1;cases h2
theorem ait(S:ai O U X B st tm w){g:FuncId}{am:aK}(ee:aL P g am){a:kW}{vs:List Value}(A:ap7 O U X B st tm w a vs){d:Nat}(Y:ce st D.dst=true)
  (cY:(execOp (Act.eval ⟨tm,[]⟩) D).run P w=(callFunc g vs.toArray).run P w):Holds (qy d st am a) (cJ P O U X st tm w D):=by
 intro y hy hc;simp only[qy] at y hy hc ⊢;simp only[Bool.and_eq_true] at hc;obtain⟨⟨⟨⟨⟨c1,c2⟩,c3⟩,dh⟩,hS⟩,c6,nM⟩:=hc;rw[pZ] at c1 c3 c6;rw[QM] at c2 dh nM;have tn:∀o,o∈keys a.gone->bY st.sites o:=fun o bk=>by
  obtain⟨s,hs⟩:=p_ bk;obtain⟨aa,h1,h2,_⟩:=A.oI o s hs;exact⟨aa,h1,h2⟩
 have Qv:∀o,o∈keys a.gone->o∉keys a.e7:=fun o h1 h2=>c2 o (List.mem_append.2 (.inl h2)) h1
 have awj:∃X':Nat->Prop,∀b,X' b <-> (ar X B (aY st.sites a.e7) b/\b∉cD B (keys a.gone)/\∀o,o∈a.gm->b∉bJ (B o)):=⟨_,fun b=>Iff.rfl⟩
 obtain⟨X',oA⟩:=awj;have dQ:fB O U X B st tm w a.e7 a.gm (fun b=>X' b\/b∈cD B (keys a.gone)):=by
  refine⟨⟨S,A.fz⟩,fun b hb=>?_,fun o bk b hb hx=>?_⟩
  ·rcases hb with hb|hb
   ·exact((oA b).1 hb).1
   ·obtain⟨o,h1,h2⟩:=oK.1 hb;obtain⟨aa,h3,aE⟩:=tn o h1;exact .inr ⟨o,⟨aa,by rw[l0 (Qv o h1)];exact h3,aE⟩,h2⟩
  ·rcases hx with hx|hx
   ·exact((oA b).1 hx).2.2 o bk (gT hb)
   ·obtain⟨M,h1,h2⟩:=oK.1 hx;have:=S.dC o M b (A.lb o bk) (tn M h1) (gT hb) h2;subst this;exact c2 o (List.mem_append.2 (.inr bk)) h1
 have qW:(cD B (keys a.gone)).Nodup:=Ov S c1 tn;have Hs:∀b,b∈cD B (keys a.gone)->¬X b/\(b∈U\/O.heap.size<=b):=fun b hb=>by
  obtain⟨o,h1,h2⟩:=oK.1 hb;exact S.cf o b (tn o h1) h2
 have _B:∀b,X b->X' b:=fun b hb=>(oA b).2 ⟨.inl hb,fun h=>(Hs b h).1 hb,fun o bk h=>(S.cf o b (A.lb o bk) h).1 hb⟩
 have hG:jc w (cD B (keys a.gone)) X':=by
  obtain⟨g1,g2⟩:=S.la;refine⟨g1,fun b hb h=>?_,fun b hb h=>?_,fun b hb=>(g2 b hb).2⟩
  ·obtain⟨o,h1,h2⟩:=oK.1 h;exact(g2 b hb).1 (.inr ⟨o,tn o h1,h2⟩)
  ·rcases((oA b).1 h).1 with h|⟨o,h1,h2⟩
   ·exact(g2 b hb).1 (.inl h)
   ·exact(g2 b hb).1 (.inr ⟨o,OV A.fz h1,h2⟩)
 have E:=ee a.as y hy w X' vs (cD B (keys a.gone)) (A.arg _ dQ) qW (fun b hb hx=>((oA b).1 hx).2.1 hb) (fun b hb=>dQ.lt (.inl hb)) hG
 intro K Q bC;have core:∀v w',(∃fl eC rv,Fr (cD B (keys a.gone)) w w'/\rR w' (fun b=>X' b\/b∈fl++eC) (d_ a.as vs) ((am a.as).eg y) (fY a.as vs) ((am a.as).e' y) fl/\mb w' (fun b=>X' b\/b∈fl++eC) ((am a.as).ft y) rv eC/\
   v=qk rv/\(fl++eC).Nodup/\∀b,b∈fl++eC->¬X' b/\(b∈cD B (keys a.gone)\/w.heap.size<=b))->K ⟨cz tm D.dst v,[]⟩ w':=by
  rintro v w' ⟨fl,eC,rv,aO,hB,dJ,rfl,eJ,hm⟩;obtain⟨sl,hh⟩:∃sl,(tj ((am a.as).ft y)||th ((am a.as).eg y)||oS ((am a.as).e' y))=sl:=⟨_,rfl⟩;rw[hh] at hS bC;obtain⟨c4,ED⟩:∃c4,(bif sl then a.e7 else [])=c4:=⟨_,rfl⟩
  rw[ED] at bC;have XC:dM st.sites c4:=by rw[<-ED];cases sl;exact .nil;exact A.fz
  have amW:∀o,o∈keys c4->o∈keys a.e7:=by rw[<-ED];cases sl;intro o h;simp[keys] at h;exact fun o h=>h
  have dk:ai O U X B {st with sites:=aY st.sites c4} tm w:=S.B5 XC
  have EE:fs (aY st.sites c4) a.gone:=fun o s hs=>by
   obtain⟨aa,h1,h2,h3⟩:=A.oI o s hs;exact⟨aa,by rw[l0 (fun h=>Qv o (G8 hs) (amW o h))];exact h1,h2,h3⟩
  have gP:=dk.amV EE c1;have jM:=gP.jump (w':=w') (fun b hb hlt=>aO.block b hlt (fun h=>hb (.inr h))) aO.size
   ⟨aO.os.trans S.frame.os,aO.tape.trans S.frame.tape,aO.output.trans S.frame.output,Nat.le_trans S.frame.size aO.size,fun b hlt hb=>by
    rw[aO.block b (Nat.lt_of_lt_of_le hlt S.frame.size) (fun h=>by rcases(Hs b h).2 with ae|ae;exact hb ae;omega)]
    exact S.frame.block b hlt hb⟩
  have as4:∀b,b∈fl++eC->b<w'.heap.size:=fun b hb=>by
   rcases List.mem_append.1 hb with hb|hb
   ·obtain⟨d1,d2,e1,e2,bp⟩:=hB;rw[e1] at hb;rcases List.mem_append.1 hb with hb|hb
    ·exact QA e2 b hb
    ·rcases bp with⟨_,bp⟩|bp
     ·rw[bp] at hb;simp at hb
     ·exact Hr bp b hb
   ·exact QB dJ b hb
  have nN:ai O U (fun b=>X b\/b∈fl++(eC++[])) B {st with sites:=aY (aY st.sites c4) a.gone} tm w':=jM.shrink fun b hb=>by
   rcases hb with hb|hb
   ·exact .inl (.inl hb)
   ·rw[List.append_nil] at hb;rcases(hm b hb).2 with h|h
    ·exact .inl (.inr h)
    ·exact .inr ⟨h,as4 b hb⟩
  obtain⟨av,Xz,apN,apM⟩:∃av:Nat->Prop,rR w' av (d_ a.as vs) ((am a.as).eg y) (fY a.as vs) ((am a.as).e' y) fl/\mb w' av ((am a.as).ft y) rv eC/\
    ∀c,ar (fun b=>X b\/b∈fl++(eC++[])) B (aY (aY st.sites c4) a.gone) c->av c:=by
   cases sl with
   |false=>
    rw[Bool.or_eq_false_iff,Bool.or_eq_false_iff] at hh;obtain⟨d1,d2,e1,e2,bp⟩:=hB;exact⟨_,⟨d1,d2,e1,acr hh.1.2 e2,bp.imp id (Fx hh.2)⟩,acs hh.1.1 dJ,fun c hc=>hc⟩
   |true=>
    refine⟨_,hB,dJ,fun c hc=>?_⟩
    rcases hc with(hc|hc)|⟨o,⟨aa,h1,h2⟩,h3⟩
    ·exact .inl (_B c hc)
    ·rw[List.append_nil] at hc;exact .inr hc
    ·refine .inl ((oA c).2 ?_);have bk:o∉keys a.gone:=fun h=>by
      obtain⟨s,hs⟩:=p_ h;rw[zq c1 hs] at h1;obtain⟨_,_,_,e⟩:=A.oI o s hs;cases h1;rw[e] at h2;cases h2
     rw[l0 bk] at h1;have apQ:a.e7=c4:=ED;rw[<-apQ] at h1;have live:bY st.sites o:=OV A.fz ⟨aa,h1,h2⟩;refine⟨.inr ⟨o,⟨aa,h1,h2⟩,h3⟩,fun h=>?_,fun M bB h=>?_⟩
     ·obtain⟨M,aw,an⟩:=oK.1 h;have:=S.dC o M c live (tn M aw) h3 an;subst this;exact bk aw
     ·simp only[Bool.not_true,Bool.false_or,List.isEmpty_iff] at hS;rw[hS] at bB;simp at bB
  have L:Left O U X B {st with sites:=aY (aY st.sites c4) a.gone} av (fl++(eC++[])):=by
   refine⟨by simpa using eJ,fun b hb=>?_,apM⟩
   rw[List.append_nil] at hb;obtain⟨h1,h2⟩:=hm b hb;refine⟨fun hx=>h1 (_B b hx),?_⟩
   rcases h2 with h2|h2
   ·exact(Hs b h2).2
   ·exact .inr (Nat.le_trans S.frame.size h2)
  have xq:∀ks,kj st (aY (aY st.sites c4) a.gone) ks:=fun ks m _ aa hs=>by
   have h1:∀aa,look (aY st.sites c4) m=some aa->aa.b'<aZ st m:=fun aa hs=>by
    rcases mJ XC m with h|⟨s,t,xs,aE,br⟩
    ·rw[h] at hs;exact kD hs
    ·rw[br] at hs;cases hs;rcases aE with aE|aE|aE<;>(have q:=kD aE;exact q)
   by_cases hk:m∈keys a.gone
   ·obtain⟨s,fD⟩:=p_ hk;rw[zq c1 fD] at hs;obtain⟨bF,e1,_,bp⟩:=EE m s fD;rw[bp] at hs;cases hs;exact h1 bF e1
   ·rw[l0 hk] at hs;exact h1 aa hs
  rw[hF,hF] at c3;obtain⟨d12,d2,d3⟩:=List.nodup_append.1 c3;obtain⟨d1,awo,d4⟩:=List.nodup_append.1 d12;rw[A.dp] at Xz;obtain⟨e1,e2,rfl,apL,Lh⟩:=Xz;simp only[List.append_assoc] at nN L;obtain⟨jD,lV,zk⟩:=Q5 st a.boxes (st:={st with sites:=aY (aY st.sites c4) a.gone}) nN (oE.of fun o s hs=>(A.eg o s hs).2) apL
   (fun o s hs=>zq c1 (A.eg o s hs).1) L (xq _) d1
  obtain⟨gK,auU,lX⟩:∃gK,gv O U (fun b=>X b\/b∈e2++(eC++[])) (fun b=>X b\/b∈eC++[]) jD gK {st with sites:=aY (aY (aY st.sites c4) a.gone) (fK st a.boxes ((am a.as).eg y))} tm w' (fo a.rows ((am a.as).e' y))/\
    Left O U X gK {st with sites:=aY (aY (aY (aY st.sites c4) a.gone) (fK st a.boxes ((am a.as).eg y))) (fo a.rows ((am a.as).e' y))} av (eC++[]):=by
   rcases Lh with⟨q1,q2⟩|Lh
   ·have e:fo a.rows ((am a.as).e' y)=[]:=by rw[q1];exact O_
    subst q2;rw[e];exact⟨jD,.nil lV.g' fun b hb=>hb,zk⟩
   ·by_cases hne:fo a.rows ((am a.as).e' y)=[]
    ·rw[hne];have T:gv O U (fun b=>X b\/b∈e2++(eC++[])) (fun b=>X b\/b∈eC++[]) jD jD {st with sites:=aY (aY (aY st.sites c4) a.gone) (fK st a.boxes ((am a.as).eg y))} tm w' []:=.nil lV.g' fun b hb=>hb.imp id fun h=>List.mem_append.2 (.inr h)
     exact⟨jD,T,zk.rest fun c hc=>T.le c hc⟩
    have aaA:∀o s,some (o,s)∈a.rows->o∉keys (fK st a.boxes ((am a.as).eg y)):=fun o s hm hk=>nM o (zw hm) hk
    exact agX a.rows lV.g' Lh (A.k8.congr fun o s hm=>by rw[lV.same o (aaA o s hm)]) (fun o s hm=>by
     rw[l0 (aaA o s hm)];exact zq c1 (A.rg o s hm)) c6 zk awo
  have cQ:=lV.trans auU;obtain⟨gJ,dV,jC,_⟩:=Q6 st ((am a.as).ft y) (2000000+d*10000) (st:={st with sites:=aY (aY (aY st.sites c4) a.gone) (fK st a.boxes ((am a.as).eg y)++fo a.rows ((am a.as).e' y))}) cQ.g' apN (by rw[jq];exact lX)
   (kj.step (xq _) (fun n h1 h2=>d3 n (by rw[hF] at h1;exact h1) n h2 rfl)) d2
  have NP:ai O U X gJ {st with sites:=aY st.sites (c4++a.gone++(fK st a.boxes ((am a.as).eg y)++fo a.rows ((am a.as).e' y))++(ea st (2000000+d*10000) ((am a.as).ft y)).2)} tm w':=by
   have:=dV.g'.shrink (X':=X) fun b hb=>.inl hb
   simpa only[jq] using this
  refine bC gJ _ w' (ai.cm NP Y (v:=UK (ea st (2000000+d*10000) ((am a.as).ft y)).1) ?_);have U6:pe gJ (aY st.sites (c4++a.gone++(fK st a.boxes ((am a.as).eg y)++fo a.rows ((am a.as).e' y))++(ea st (2000000+d*10000) ((am a.as).ft y)).2)) w'
    (ar X gJ (aY st.sites (c4++a.gone++(fK st a.boxes ((am a.as).eg y)++fo a.rows ((am a.as).e' y))++(ea st (2000000+d*10000) ((am a.as).ft y)).2))) (ea st (2000000+d*10000) ((am a.as).ft y)).1 rv:=by
   have e:(fun b=>X b\/b∈([]:List Nat))=X:=by funext b;simp
   rw[e] at jC;simpa only[jq] using jC
  generalize(ea st (2000000+d*10000) ((am a.as).ft y)).1=as6 at U6;match as6,rv,U6 with
  |[],[],h=>exact⟨[],rfl,rfl,fun j h=>by simp at h⟩
  |[l],[v],h=>exact h.2 0 (by simp) (by simp)
  |l::fU::ab,v::v2::ca,h=>exact⟨v::v2::ca,rfl,h.1,h.2⟩
 rcases E with⟨h1,h2⟩|⟨v,w',h1,h2⟩
 ·unfold Oper.wp;rw[cY,h1,Oper.upon_enter];refine h2.mono fun e w' he=>?_
  cases e with
  |returned v=>
   have:=core v w' he;cases dy:D.dst with
   |none=>rw[dy] at this;simpa[Act.put,cz] using this
   |some t=>rw[dy] at this;simpa[Act.put,cz] using this
  |panicked c=>exact he.elim
  |outgrown=>exact he.elim
 ·exact nW (cY.trans h1) (core v w' h2)
end
def C0(P:Program)(g:FuncId):Prop:=
 ∀(b:Nat) (p v:Value) (w:World),w.heap[b]? =some (.cells #[p,v] sK (0,0))->(p=.pointer none\/p=.pointer (some ⟨b,0,none⟩))->
  Enters P g #[.pointer (some ⟨b,0,none⟩)] w fun r w'=>r=.tuple #[]/\w'=w.setRow b #[.pointer (some ⟨b,0,none⟩),v]
def Dq(P:Program)(g:FuncId):Prop:=
 ∀(b:Nat) (p v:Value) (T:TypeId) (xs:List Int) (w:World),w.heap[b]? =some (.cells #[p,v] T (0,0))->rowAt w true mC 1 v xs.length (xs.map (Value.int .u8))->
  Enters P g #[.pointer (some ⟨b,0,none⟩)] w fun r w'=>r=.string ⟨(strOf xs).toArray⟩/\w'.os=w.os/\w'.tape=w.tape/\w'.output=w.output/\w.heap.size<=w'.heap.size/\
   (∀c,c<w.heap.size->bq v≠some c->w'.heap[c]? =w.heap[c]?)/\∀c cur e fz,bq v=some c->w.heap[c]? =some (.cells cur e fz)->∃fz',w'.heap[c]? =some (.cells cur e fz')
section
variable {P:Program}{O:World}{U:List Nat}{X:Nat->Prop}{B:Nat->Value}{st:af}{tm:Array Value}{w:World}{D:Oper}
theorem ai.aif(S:ai O U X B st tm w){o s:Nat}{t:aH}{xs:List (den t)}(hl:look st.sites o=some (.row s t xs)){w':World}(h1:w'.os=w.os)(h2:w'.tape=w.tape)(h3:w'.output=w.output)(aE:w.heap.size<=w'.heap.size)
  (br:∀c,c<w.heap.size->bq (B o)≠some c->w'.heap[c]? =w.heap[c]?) (cB:∀c cur e fz,bq (B o)=some c->w.heap[c]? =some (.cells cur e fz)->∃fz',w'.heap[c]? =some (.cells cur e fz')):
  ai O U X B {st with sites:=cg st.sites o (.da s t xs)} tm w':=by
 have cE:bY st.sites o:=⟨_,hl,rfl⟩;have ek:∀M,bY (cg st.sites o (.da s t xs)) M->bY st.sites M/\M≠o:=by
  rintro M ⟨aa,h1,h2⟩;rw[cC] at h1;by_cases e:o=M
  ·subst e;simp at h1;subst h1;cases h2
  ·simp only[e,if_false] at h1;exact⟨⟨aa,h1,h2⟩,fun h=>e h.symm⟩
 have b8:∀bf,ar X B (cg st.sites o (.da s t xs)) bf->ar X B st.sites bf:=by
  rintro bf (h|⟨M,h1,h2⟩)
  ·exact .inl h
  ·exact .inr ⟨M,(ek M h1).1,h2⟩
 have aO:=S.frame;refine S.qA (fun M aa bB=>?_) (fun bf h hb=>br bf hb (fun ae=>h (.inr ⟨o,cE,gT ae⟩))) (fun bf h _ ae=>h (b8 bf ae)) (fun go M aa bB=>?_) (fun M ρ bf h1 h2=>S.dC M ρ bf (ek M h1).1 (ek ρ h2).1)
  (fun M bf h=>S.cf M bf (ek M h).1) (fun M bf h hb=>Nat.lt_of_lt_of_le (S.eH (ek M h).1 hb) aE)
  ⟨h1.trans aO.os,h2.trans aO.tape,h3.trans aO.output,Nat.le_trans aO.size aE,fun b hb hn=>by
   have hs:=aO.size;rw[br b (by omega) (fun ae=>by
    rcases(S.cf o b cE (gT ae)).2 with ae|ae
    ·exact hn ae
    ·omega)]
   exact aO.block b hb hn⟩ aE
 ·rw[cC];by_cases e:o=M
  ·subst e;rw[hl] at bB;cases bB;exact⟨.da s t xs,by simp,Nat.le_refl _,fun _=>rfl⟩
  ·exact⟨aa,by simp[e,bB],Nat.le_refl _,fun _=>rfl⟩
 ·rw[cC] at bB;by_cases e:o=M
  ·subst e;simp only[if_true,Option.some.injEq] at bB;subst bB;refine .inr ?_
   show bm _ _ (.sl t xs) (b0 (B o))/\x7 (b0 (B o));obtain⟨b_,cs,aw,an⟩:=S.sites o _ hl;rw[(jR aw).1];rcases aw.2 with⟨hn,h0⟩|⟨g,cap,cur,fz,hv,_,hg,hnc,_,_,htk⟩
   ·have:xs=[]:=List.eq_nil_of_length_eq_zero h0;subst this;rw[hn];exact⟨.nil t,.inl rfl⟩
   ·obtain⟨fz',hg'⟩:=cB g cur b_ fz (by rw[hv];rfl) hg
    rw[hv];refine⟨?_,.inr ⟨_,_,_,rfl⟩⟩;have hlen:cs.length=(flat t xs).length:=by rw[eG];exact aw.1
    refine .sl t xs _ cap cs xs.length rfl hnc (fun _=>?_) hlen (fun j u hu=>?_) (fun j g1 g2=>kK go (an j g1 g2))
    ·rintro(hx|⟨M,g1,g2⟩)
     ·exact(S.cf o g cE (gT (by rw[hv];rfl))).1 hx
     ·obtain⟨g3,g4⟩:=ek M g1;exact g4 (S.dC M o g g3 cE g2 (gT (by rw[hv];rfl)))
    ·rw[gV,Nat.zero_add,cell_of_row w' g j cur b_ fz' hg'];rw[<-htk,List.getElem?_take] at hu;split at hu
     ·simpa using hu
     ·cases hu
  ·simp only[e,if_false] at bB;refine .inl ⟨bB,rfl,fun uQ b hb=>br b (S.eH ⟨_,bB,uQ⟩ hb) fun h=>e (S.dC o M b cE ⟨_,bB,uQ⟩ (gT h) hb)⟩
theorem An{g:FuncId}{vs:List Value}{post:Value->World->Prop}(cY:(execOp (Act.eval ⟨tm,[]⟩) D).run P w=(callFunc g vs.toArray).run P w)(ee:Enters P g vs.toArray w post){K:Act->World->Prop}{Q:Exit->Act->World->Prop}
  (core:∀v w',post v w'->K ⟨cz tm D.dst v,[]⟩ w'):D.wp P ⟨tm,[]⟩ w K Q:=by
 rcases ee with⟨h1,h2⟩|⟨v,w',h1,h2⟩
 ·unfold Oper.wp;rw[cY,h1,Oper.upon_enter];refine h2.mono fun e w' he=>?_
  cases e with
  |returned v=>
   have:=core v w' he;cases dy:D.dst with
   |none=>rw[dy] at this;simpa[Act.put,cz] using this
   |some t=>rw[dy] at this;simpa[Act.put,cz] using this
  |panicked c=>exact he.elim
  |outgrown=>exact he.elim
 ·exact nW (cY.trans h1) (core v w' h2)
theorem aiq(S:ai O U X B st tm w){g:FuncId}(ee:C0 P g){cK:List aI}{vs:List Value}(hl:cK.length=vs.length)
  (hv:∀i (h:i<cK.length) (ae:i<vs.length),cj B st.sites w (ar X B st.sites) (cK[i]) (vs[i])) (Y:ce st D.dst=true) (cY:(execOp (Act.eval ⟨tm,[]⟩) D).run P w=(callFunc g vs.toArray).run P w):
  Holds (copyV st cK) (cJ P O U X st tm w D):=by
 unfold copyV;split
 ·rename_i o s;split
  ·rename_i au l gh;have gh:look st.sites o=some (.box au [.dH,l]):=gh;cases k0:au.beq s with
   |false=>exact .fail
   |true=>
    have:=Nat.eq_of_beq_eq_true k0;subst this;refine Holds.fR ?_
    intro K Q bC;match vs,hl,hv,cY with
    |[sR],_,hv,cY=>
    obtain⟨s0,hb0,k1⟩:dF B st.sites w (ar X B st.sites) (.ptr o au 0) sR:=hv 0 (by simp) (by simp)
    have k1:=Ref.at k1 gh rfl;obtain⟨b,T,cur,e1,e2,bp,dU,hD,vG⟩:=S.sites o _ gh;rw[e1] at k1;have k1:b=s0:=by cases k1;rfl
    subst k1;subst hb0;match cur,e2,bp,dU,hD,vG with
    |[p,v],e2,_,dU,hD,vG=>
     obtain⟨rfl,hp⟩:=hD rfl;have hp:p=.pointer none\/p=.pointer (some ⟨b,0,none⟩):=by simpa using hp
     refine An cY (ee b p v w e2 hp) ?_
     rintro r w' ⟨rfl,rfl⟩;have b7:ai O U X B {st with sites:=cg st.sites o (.box au [.dH,l])} tm (w.setRow b #[.pointer (some ⟨b,0,none⟩),v]):=by
      refine S.write gh rfl rfl rfl (gT (by rw[e1];rfl)) e2 (fun hs hw hg' go=>⟨b,sK,[.pointer (some ⟨b,0,none⟩),v],e1,hg',rfl,fun u hu=>?_,fun _=>⟨rfl,.inr rfl⟩,fun j h ae=>?_⟩)
      ·rcases List.mem_cons.1 hu with rfl|hu
       ·rfl
       ·exact dU u (List.mem_cons_of_mem _ hu)
      ·match j,h,ae with
       |0,_,_=>trivial
       |1,_,_=>exact go (a:=bP l) (vG 1 (by simp) (by simp))
     exact bC _ _ _ (ai.cm (us:=[(o,.box au [.dH,l])]) b7 Y (v:=.kq []) ⟨[],rfl,rfl,fun j h=>by simp at h⟩)
  ·exact .fail
 ·exact .fail
theorem agW{av:Nat->Prop}{xs:List Int}{cs:List Value}(h0:cs.length=xs.length)(h:∀j (h:j<(flat .u8 (xs:List (den .u8))).length) (ae:j<cs.length),bm w av ((flat .u8 (xs:List (den .u8)))[j]) (cs[j])):cs=xs.map (Value.int .u8):=by
 refine List.ext_getElem (by rw[List.length_map];exact h0) fun j g1 g2=>?_
 have _w:j<xs.length:=by simpa using g2
 have:=h j (by rw[eG];simpa[aA] using _w) g1
 rw[List.getElem_map];generalize Y:(flat .u8 (xs:List (den .u8)))[j]'(by rw[eG];simpa[aA] using _w)=d at this
 have hd2:d=.int .u8 xs[j]:=by
  rw[<-Y];simp only[tN,List.getElem_map]
 subst hd2;generalize cs[j]=v at this;cases this;rfl
theorem adK(S:ai O U X B st tm w){g:FuncId}(ee:Dq P g){cK:List aI}{vs:List Value}(hl:cK.length=vs.length)
  (hv:∀i (h:i<cK.length) (ae:i<vs.length),cj B st.sites w (ar X B st.sites) (cK[i]) (vs[i])) (Y:ce st D.dst=true) (cY:(execOp (Act.eval ⟨tm,[]⟩) D).run P w=(callFunc g vs.toArray).run P w):
  Holds (tD st cK) (cJ P O U X st tm w D):=by
 unfold tD;split
 ·rename_i o s;match vs,hl,hv,cY with
  |[sR],_,hv,cY=>
  have my:dF B st.sites w (ar X B st.sites) (.ptr o s 0) sR:=hv 0 (by simp) (by simp)
  split
  ·rename_i aaE nk;have gh:=hU nk;obtain⟨b,T,cur,bX,rfl,hg,_,hc⟩:=S.box gh my;refine Holds.ok ?_
   intro K Q bC;obtain⟨p,r1,rfl,_,hc⟩:=hc.inv;obtain⟨v,r2,rfl,yx,hc⟩:=hc.inv;have:r2=[]:=List.eq_nil_of_length_eq_zero hc.1;subst this;have yx:v=.slice none 0 0:=yx;subst yx;refine An cY (ee b p _ T [] w hg (v7 w true mC 1)) ?_
   rintro r w' ⟨rfl,aw,an,bo,cl,ed,gz⟩;have dk:=S.jump (w':=w') (fun c _ hc=>ed c hc (by simp[bq])) cl ⟨aw.trans S.frame.os,an.trans S.frame.tape,bo.trans S.frame.output,Nat.le_trans S.frame.size cl,fun c hc hn=>by
    rw[ed c (Nat.lt_of_lt_of_le hc S.frame.size) (by simp[bq])]
    exact S.frame.block c hc hn⟩
   have gP:ai O U X B {st with sites:=aY st.sites []} tm w':=dk.shrink fun b hb=>.inl hb
   exact bC _ _ _ (ai.cm (us:=[]) gP Y (v:=one (.str [])) (bm.str _ _ rfl))
  ·rename_i aaE M u nk;have gh:=hU nk;obtain⟨b,T,cur,bX,rfl,hg,_,hc⟩:=S.box gh my;split
   ·rename_i b9 xs hrow;have hrow:look st.sites M=some (.row b9 .u8 xs):=hrow;cases atk:b9.beq u with
    |false=>exact .fail
    |true=>
     have:=Nat.eq_of_beq_eq_true atk;subst this;refine Holds.fR ?_
     intro K Q bC;obtain⟨p,r1,rfl,_,hc⟩:=hc.inv;obtain⟨v,r2,rfl,yx,hc⟩:=hc.inv;have:r2=[]:=List.eq_nil_of_length_eq_zero hc.1;subst this;obtain⟨e,cs,h1,h2⟩:=S.sites M _ hrow;have Xm:v=B M:=(Ref.at yx.2 hrow rfl:v=b0 (B M)).trans (jR h1).1;have hlen:cs.length=xs.length:=by have:=h1.1;simpa[aA] using this
     have hcs:cs=List.map (Value.int .u8) xs:=agW hlen h2;have kT:rowAt w true mC 1 v xs.length (List.map (Value.int .u8) xs):=by
      rw[<-hcs,Xm];refine⟨h1.1,?_⟩;rcases h1.2 with h|⟨cG,cap,cur',fz,q1,q2,dq⟩
      ·exact .inl h
      ·have:=q2.1 rfl;subst this;exact .inr ⟨cG,cap,cur',fz,q1,q2,dq⟩
     refine An cY (ee b p v T xs w hg kT) ?_
     rintro r w' ⟨rfl,aw,an,bo,cl,ed,gz⟩;rw[Xm] at ed gz;have gP:=S.aif hrow aw an bo cl ed gz;exact bC _ _ _ (ai.cm (us:=[(M,.da b9 .u8 xs)]) gP Y (v:=one (.str (strOf xs))) (bm.str _ _ (by simp)))
   ·exact .fail
  ·exact .fail
 ·exact .fail
end
def B_(P:Program)(g cG:FuncId):Prop:=
 ∀(a b:ByteArray) (w:World),Enters P g #[.string a,.string b] w fun v w'=>∃cQ dV,v=.func (.func cG) #[] #[.pointer (some ⟨w.heap.size+1,0,none⟩),.pointer (some ⟨w.heap.size,0,none⟩),.pointer (some ⟨w.heap.size+2,0,none⟩)]/\
  w'=((w.alloc (.cells #[.string a] cQ)).alloc (.cells #[.string b] cQ)).alloc (.cells #[.int .i64 0] dV)
def CZ(P:Program)(g:FuncId):Prop:=
 ∀(xs:List Int) (v:Value) (w:World) (av:Nat->Prop),bm w av (.sl .u8 xs) v->Enters P g #[v] w fun v' w'=>∃u T,bm w av (.sl .u8 (xs.take 2000)) u/\v'=.pointer (some ⟨w.heap.size,0,none⟩)/\w'=w.alloc (.cells #[u,.int .i64 0] T)
structure bc(P:Program)(C:Ctx):Prop extends CtxOk P C where
 bM:∀g S,C.bM g=some S->aL P g S
 EU:P.follows .mixedOrders=true
 lL:∀g cG,C.lL g=some cG->B_ P g cG
 op:∀g,C.op g=true->CZ P g
 iH:∀g,C.iH g=true->C0 P g
 bs:∀g,C.bs g=true->Dq P g
section
variable {P:Program}{O:World}{U:List Nat}{X:Nat->Prop}{B:Nat->Value}{st:af}{tm:Array Value}{w:World}{D:Oper}
theorem QP:∀{bE:List (Nat×Nat)} {cs:List (List aJ)} {us:List (Nat×Site)} {bs:List Nat},l' st bE=some (cs,us,bs)->dM st.sites us/\∀o,o∈bs->bY st.sites o:=by
 intro bE;induction bE with
 |nil=>intro cs us bs h;simp only[l'] at h;cases h;exact⟨.nil,fun o h=>by simp at h⟩
 |cons c bE ih=>
  obtain⟨o,s⟩:=c;intro cs us bs h;simp only[l'] at h;split at h
  ·rename_i cells nk;split at h
   ·rename_i ds u1 rest u2 b2 eT n';cases h;obtain⟨aw,an⟩:=ih n';refine⟨(Jn eT).append aw,fun M bB=>?_⟩
    rcases List.mem_cons.1 bB with rfl|bB
    ·exact⟨_,hU nk,rfl⟩
    ·exact an M bB
   ·cases h
  ·cases h
theorem IE{l gj:az}{us:List (Nat×Site)}{bs:List Nat}(h:og st l=some (gj,us,bs)):dM st.sites us/\∀o,o∈bs->bY st.sites o:=by
 unfold og at h;split at h
 ·cases h;exact⟨.nil,fun o h=>by simp at h⟩
 ·split at h
  ·rename_i hc;cases h;exact QP hc
  ·cases h
 ·split at h
  ·rename_i Y;cases h;exact⟨Uh Y,fun o h=>by simp at h⟩
  ·cases h
theorem ah4:∀{ab dI:List az} {us:List (Nat×Site)} {bs:List Nat},mY st ab=some (dI,us,bs)->dM st.sites us/\∀o,o∈bs->bY st.sites o:=by
 intro ab;induction ab with
 |nil=>intro dI us bs h;simp only[mY] at h;cases h;exact⟨.nil,fun o h=>by simp at h⟩
 |cons l ab ih=>
  intro dI us bs h;simp only[mY] at h;split at h
  ·rename_i a u1 b1 as u2 b2 h1 h2;cases h;obtain⟨aw,an⟩:=IE h1;obtain⟨bo,cl⟩:=ih h2;refine⟨aw.append bo,fun o bk=>?_⟩
   rcases List.mem_append.1 bk with h|h
   ·exact an o h
   ·exact cl o h
  ·cases h
theorem af3:∀{cK:List aI} {a:kW},jQ st cK=some a->dM st.sites a.e7/\∀o,o∈a.gm->bY st.sites o:=by
 intro cK;induction cK with
 |nil=>intro a h;simp only[jQ] at h;cases h;exact⟨.nil,fun o h=>by simp at h⟩
 |cons sT cK ih=>
  intro a h;unfold jQ at h;split at h
  ·cases ‹sT::cK=[]›
  ·rename_i bZ;cases bZ;split at h
   ·rename_i hr;split at h
    ·cases h;have q:=ih hr;exact q
    ·cases h
   ·cases h
  ·rename_i bZ;cases bZ;split at h
   ·rename_i h1 hr;cases h;obtain⟨aw,an⟩:=IE h1;obtain⟨bo,cl⟩:=ih hr;refine⟨aw.append bo,fun o bk=>?_⟩
    rcases List.mem_append.1 bk with h|h
    ·exact an o h
    ·exact cl o h
   ·cases h
  ·rename_i bZ;cases bZ;split at h
   ·rename_i h1 hr;cases h;obtain⟨aw,an⟩:=ah4 h1;obtain⟨bo,cl⟩:=ih hr;refine⟨aw.append bo,fun o bk=>?_⟩
    rcases List.mem_append.1 bk with h|h
    ·exact an o h
    ·exact cl o h
   ·cases h
  ·cases h
theorem QE{l gj:az}{gs us:List (Nat×Site)}{bs:List Nat}(h:mU st l=some (gj,gs,us,bs)):dM st.sites us/\∀o,o∈bs->bY st.sites o:=by
 unfold mU at h;split at h
 ·split at h
  ·cases h;exact⟨.nil,fun o h=>by simp at h⟩
  ·cases h
 ·cases h;exact⟨.nil,fun o h=>by simp at h⟩
 ·split at h
  ·rename_i hl;cases h;exact IE hl
  ·cases h
theorem aen:∀{ab dI:List az} {gs us:List (Nat×Site)} {bs:List Nat},mQ st ab=some (dI,gs,us,bs)->dM st.sites us/\∀o,o∈bs->bY st.sites o:=by
 intro ab;induction ab with
 |nil=>intro dI gs us bs h;simp only[mQ] at h;cases h;exact⟨.nil,fun o h=>by simp at h⟩
 |cons l ab ih=>
  intro dI gs us bs h;simp only[mQ] at h;split at h
  ·rename_i h1 h2;cases h;obtain⟨aw,an⟩:=QE h1;obtain⟨bo,cl⟩:=ih h2;refine⟨aw.append bo,fun o bk=>?_⟩
   rcases List.mem_append.1 bk with h|h
   ·exact an o h
   ·exact cl o h
  ·cases h
theorem aec:∀{cK:List aI} {a:kW},lf st cK=some a->dM st.sites a.e7/\∀o,o∈a.gm->bY st.sites o:=by
 intro cK;induction cK with
 |nil=>intro a h;simp only[lf] at h;cases h;exact⟨.nil,fun o h=>by simp at h⟩
 |cons sT cK ih=>
  intro a h;unfold lf at h;split at h
  ·cases ‹sT::cK=[]›
  ·rename_i bZ;cases bZ;split at h
   ·rename_i h1 hr;cases h;obtain⟨aw,an⟩:=QE h1;obtain⟨bo,cl⟩:=ih hr;refine⟨aw.append bo,fun o bk=>?_⟩
    rcases List.mem_append.1 bk with h|h
    ·exact an o h
    ·exact cl o h
   ·cases h
  ·rename_i bZ;cases bZ;split at h
   ·rename_i h1 hr;cases h;obtain⟨aw,an⟩:=aen h1;obtain⟨bo,cl⟩:=ih hr;refine⟨aw.append bo,fun o bk=>?_⟩
    rcases List.mem_append.1 bk with h|h
    ·exact an o h
    ·exact cl o h
   ·cases h
  ·cases h
theorem aea{b:Bool}{cK:List aI}{a:kW}(h:tG b st cK=some a):dM st.sites a.e7/\∀o,o∈a.gm->bY st.sites o:=by
 cases b
 ·exact af3 h
 ·exact aec h
theorem alP(S:ai O U X B st tm w)(C:Ctx):∀(xs:List Operand) (cZ:List TypeId),(ho C st xs cZ).length=(xs.map (Act.eval ⟨tm,[]⟩)).length/\
  ∀i (h:i<(ho C st xs cZ).length) (ae:i<(xs.map (Act.eval ⟨tm,[]⟩)).length),cj B st.sites w (ar X B st.sites) ((ho C st xs cZ)[i]) ((xs.map (Act.eval ⟨tm,[]⟩))[i]):=by
 intro xs;induction xs with
 |nil=>intro cZ;cases cZ<;>exact⟨rfl,fun i h=>by simp[ho] at h⟩
 |cons x xs ih=>
  intro cZ;have key:∀(T:TypeId) (M9:List TypeId),ho C st (x::xs) cZ=aS C st T x::ho C st xs M9->(ho C st (x::xs) cZ).length=((x::xs).map (Act.eval ⟨tm,[]⟩)).length/\
    ∀i (h:i<(ho C st (x::xs) cZ).length) (ae:i<((x::xs).map (Act.eval ⟨tm,[]⟩)).length),cj B st.sites w (ar X B st.sites) ((ho C st (x::xs) cZ)[i]) (((x::xs).map (Act.eval ⟨tm,[]⟩))[i]):=by
   intro T M9 e;obtain⟨aw,an⟩:=ih M9;refine⟨by rw[e];simp[aw],fun i h ae=>?_⟩
   simp only[e];cases i with
   |zero=>exact de S C T x
   |succ i=>
    simp only[List.getElem_cons_succ,List.map_cons];exact an i (by simpa[e] using h) (by simpa using ae)
  cases cZ with
  |nil=>exact key 0 [] rfl
  |cons T cZ=>exact key T cZ rfl
theorem afc(S:ai O U X B st tm w){g cG:FuncId}(ee:B_ P g cG){n:Nat}{cK:List aI}{vs:List Value}(hl:cK.length=vs.length)
  (hv:∀i (h:i<cK.length) (ae:i<vs.length),cj B st.sites w (ar X B st.sites) (cK[i]) (vs[i])) (Y:ce st D.dst=true) (cY:(execOp (Act.eval ⟨tm,[]⟩) D).run P w=(callFunc g vs.toArray).run P w):
  Holds (tU cG n st cK) (cJ P O U X st tm w D):=by
 unfold tU;split
 ·rename_i s p;refine Holds.fR ?_
  intro K Q bC;match vs,hl,hv,cY with
  |[sR,vb],_,hv,cY=>
  obtain⟨a,ha,fx⟩:=hK (hv 0 (by simp) (by simp))
  obtain⟨b,hb,cd⟩:=hK (hv 1 (by simp) (by simp))
  simp only[List.getElem_cons_zero,List.getElem_cons_succ] at ha hb;subst ha hb;have core:∀v w',(∃cQ dV,v=.func (.func cG) #[] #[.pointer (some ⟨w.heap.size+1,0,none⟩),.pointer (some ⟨w.heap.size,0,none⟩),.pointer (some ⟨w.heap.size+2,0,none⟩)]/\
    w'=((w.alloc (.cells #[.string a] cQ)).alloc (.cells #[.string b] cQ)).alloc (.cells #[.int .i64 0] dV))->K ⟨cz tm D.dst v,[]⟩ w':=by
   rintro v w' ⟨cQ,dV,rfl,hw⟩;have hsz:w'.heap.size=w.heap.size+3:=by rw[hw];simp
   have hold:∀b,b<w.heap.size->w'.heap[b]? =w.heap[b]? :=fun b hb=>by
    rw[hw];rw[RowKit.Below.heap_alloc _ _ _ (by simp;omega),RowKit.Below.heap_alloc _ _ _ (by simp;omega),RowKit.Below.heap_alloc _ _ _ hb]
   have h0:w'.heap[w.heap.size]? =some (.cells #[.string a] cQ):=by
    rw[hw,RowKit.Below.heap_alloc _ _ _ (by simp only[World.size_alloc];omega),RowKit.Below.heap_alloc _ _ _ (by simp only[World.size_alloc];omega)];exact World.alloc_heap_new w _
   have h1:w'.heap[w.heap.size+1]? =some (.cells #[.string b] cQ):=by
    rw[hw,RowKit.Below.heap_alloc _ _ _ (by simp only[World.size_alloc];omega)]
    have:=World.alloc_heap_new (w.alloc (.cells #[.string a] cQ)) (.cells #[.string b] cQ);rwa[World.size_alloc] at this
   have h2:w'.heap[w.heap.size+2]? =some (.cells #[.int .i64 0] dV):=by
    rw[hw];have:=World.alloc_heap_new ((w.alloc (.cells #[.string a] cQ)).alloc (.cells #[.string b] cQ)) (.cells #[.int .i64 0] dV);rwa[World.size_alloc,World.size_alloc] at this
   have MK:Fr U O w':=⟨by rw[hw];exact S.frame.os,by rw[hw];exact S.frame.tape,by rw[hw];exact S.frame.output,by have:=S.frame.size;omega,fun b hb hn=>by
    have:=S.frame.size;rw[hold b (by omega)];exact S.frame.block b hb hn⟩
   have mh:=S.frame.size;have dk:=S.jump (w':=w') (fun b _ hb=>hold b hb) (by omega) MK
   have mk:∀{B:Nat->Value} {sites:List (Nat×Site)} {av:Nat->Prop} {m k:Nat} {T:TypeId} {x:Value} {d:aJ},B m=.pointer (some ⟨k,0,none⟩)->w'.heap[k]? =some (.cells #[x] T)->bm w' av d x->
     jS B sites w' av m (.box (aZ st m) [.d d]):=by
    intro B sites av m k T x d e1 e2 bp;refine⟨k,T,[x],e1,e2,rfl,fun u hu=>?_,(fun h=>by cases h),fun j h ae=>?_⟩
    ·rw[List.mem_singleton.1 hu];exact bp.jt
    ·match j,h,ae with
     |0,_,_=>exact bp
   obtain⟨N2,_,_⟩:=dk.xC (X':=fun b=>(X b\/(w.heap.size<=b/\b<w'.heap.size))/\b≠w.heap.size+1) (n:=n) (bF:=.box (aZ st n) [.d (.str p)]) (nv:=.pointer (some ⟨w.heap.size+1,0,none⟩)) (fun b h=>h.1)
    (.inl fun aa h=>kD h) (fun b h=>by have h:=List.mem_singleton.1 h;simp only at h;subst h;exact⟨.inr ⟨by omega,by omega⟩,fun h=>h.2 rfl,.inr (by omega)⟩) (fun _ e _ _=>mk e h1 (.str _ _ cd))
   obtain⟨N1,_,_⟩:=N2.xC (X':=fun b=>((X b\/(w.heap.size<=b/\b<w'.heap.size))/\b≠w.heap.size+1)/\b≠w.heap.size) (n:=n+1) (bF:=.box (aZ st (n+1)) [.d (.str s)]) (nv:=.pointer (some ⟨w.heap.size,0,none⟩)) (fun b h=>h.1)
    (.inl fun aa h=>by
     have h:look (cg st.sites n _) (n+1)=some aa:=h;rw[cC,if_neg (by omega)] at h
     exact kD h) (fun b h=>by have h:=List.mem_singleton.1 h;simp only at h;subst h;exact⟨⟨.inr ⟨by omega,by omega⟩,by omega⟩,fun h=>h.2 rfl,.inr (by omega)⟩) (fun _ e _ _=>mk e h0 (.str _ _ fx))
   obtain⟨N0,_,_⟩:=N1.xC (X':=X) (n:=n+2) (bF:=.box (aZ st (n+2)) [.d (.int .i64 0)]) (nv:=.pointer (some ⟨w.heap.size+2,0,none⟩)) (fun b h=>by have:=S.old b h;exact⟨⟨.inl h,by omega⟩,by omega⟩)
    (.inl fun aa h=>by
     have h:look (cg (cg st.sites n _) (n+1) _) (n+2)=some aa:=h;rw[cC,if_neg (by omega),cC,if_neg (by omega)] at h
     exact kD h) (fun b h=>by have h:=List.mem_singleton.1 h;simp only at h;subst h;exact⟨⟨⟨.inr ⟨by omega,by omega⟩,by omega⟩,by omega⟩,fun h=>by have:=S.old _ h;omega,.inr (by omega)⟩) (fun _ e _ _=>mk e h2 (.int _ _))
   refine bC _ _ w' (ai.cm (us:=[(n,.box (aZ st n) [.d (.str p)]),(n+1,.box (aZ st (n+1)) [.d (.str s)]),(n+2,.box (aZ st (n+2)) [.d (.int .i64 0)])]) N0 Y (v:=bP (.clo cG _)) ?_);refine⟨[.pointer (some ⟨w.heap.size+1,0,none⟩),.pointer (some ⟨w.heap.size,0,none⟩),.pointer (some ⟨w.heap.size+2,0,none⟩)],rfl,rfl,fun i hi k3=>?_⟩
   match i,hi,k3 with
   |0,_,_=>exact⟨.box (aZ st n) [.d (.str p)],by simp[aY,cC],Nat.le_refl _,fun _=>by simp[b0]⟩
   |1,_,_=>exact⟨.box (aZ st (n+1)) [.d (.str s)],by simp[aY,cC],Nat.le_refl _,fun _=>by simp[b0]⟩
   |2,_,_=>exact⟨.box (aZ st (n+2)) [.d (.int .i64 0)],by simp[aY,cC],Nat.le_refl _,fun _=>by simp[b0]⟩
  rcases ee a b w with⟨h1,h2⟩|⟨v,w',h1,h2⟩
  ·unfold Oper.wp;rw[cY,h1,Oper.upon_enter];refine h2.mono fun e w' he=>?_
   cases e with
   |returned v=>
    have:=core v w' he;cases dy:D.dst with
    |none=>rw[dy] at this;simpa[Act.put,cz] using this
    |some t=>rw[dy] at this;simpa[Act.put,cz] using this
   |panicked c=>exact he.elim
   |outgrown=>exact he.elim
  ·exact nW (cY.trans h1) (core v w' h2)
 ·exact .fail
theorem ahN(S:ai O U X B st tm w){g:FuncId}(ee:CZ P g){n:Nat}{cK:List aI}{vs:List Value}(hl:cK.length=vs.length)
  (hv:∀i (h:i<cK.length) (ae:i<vs.length),cj B st.sites w (ar X B st.sites) (cK[i]) (vs[i])) (Y:ce st D.dst=true) (cY:(execOp (Act.eval ⟨tm,[]⟩) D).run P w=(callFunc g vs.toArray).run P w):
  Holds (um n st cK) (cJ P O U X st tm w D):=by
 unfold um;split
 ·rename_i xs;refine Holds.fR ?_
  intro K Q bC;match vs,hl,hv,cY with
  |[sR],_,hv,cY=>
  have dt:bm w (ar X B st.sites) (.sl .u8 xs) sR:=hv 0 (by simp) (by simp)
  have core:∀v w',(∃u T,bm w (ar X B st.sites) (.sl .u8 (xs.take 2000)) u/\v=.pointer (some ⟨w.heap.size,0,none⟩)/\w'=w.alloc (.cells #[u,.int .i64 0] T))->K ⟨cz tm D.dst v,[]⟩ w':=by
   rintro v w' ⟨u,T,hu,rfl,hw⟩;have hsz:w'.heap.size=w.heap.size+1:=by rw[hw];simp
   have hold:∀b,b<w.heap.size->w'.heap[b]? =w.heap[b]? :=fun b hb=>by
    rw[hw,RowKit.Below.heap_alloc _ _ _ hb]
   have h0:w'.heap[w.heap.size]? =some (.cells #[u,.int .i64 0] T):=by rw[hw];exact World.alloc_heap_new w _
   have MK:Fr U O w':=⟨by rw[hw];exact S.frame.os,by rw[hw];exact S.frame.tape,by rw[hw];exact S.frame.output,by have:=S.frame.size;omega,fun b hb hn=>by
    have:=S.frame.size;rw[hold b (by omega)];exact S.frame.block b hb hn⟩
   have mh:=S.frame.size;have dk:=S.jump (w':=w') (fun b _ hb=>hold b hb) (by omega) MK
   have hA:∀b,X b->b<w.heap.size:=S.old;have apx:∀b,ar (fun b=>X b\/(w.heap.size<=b/\b<w'.heap.size)) B st.sites b->b<w'.heap.size:=fun b hb=>dk.lt hb
   have vg:cj B st.sites w' (ar (fun b=>X b\/(w.heap.size<=b/\b<w'.heap.size)) B st.sites) (one (.sl .u8 (xs.take 2000))) u:=by
    have G:ib B B st.sites st.sites w w' (ar X B st.sites) (ar (fun b=>X b\/(w.heap.size<=b/\b<w'.heap.size)) B st.sites):=
     ⟨fun M s h=>⟨s,h,Nat.le_refl _,fun _=>rfl⟩,fun b _ cd=>hold b cd,fun b hb cd ae=>by
      rcases ae with(ae|ae)|ae
      ·exact hb (.inl ae)
      ·omega
      ·exact hb (.inr ae)⟩
    exact cj.goes (a:=one (.sl .u8 (xs.take 2000))) G (by omega) apx hu
   obtain⟨N2,Md,ax5⟩:=dk.xC (X':=X) (n:=n) (bF:=.box (aZ st n) [.d (.sl .u8 (xs.take 2000)),.d (.int .i64 0)]) (nv:=.pointer (some ⟨w.heap.size,0,none⟩)) (fun b h=>.inl h)
    (.inl fun aa h=>kD h) (fun b h=>by have h:=List.mem_singleton.1 h;simp only at h;subst h;exact⟨.inr ⟨by omega,by omega⟩,fun h=>by have:=hA _ h;omega,.inr (by omega)⟩) (fun hs e go _=>by
     have yy:=go vg;refine⟨w.heap.size,T,[u,.int .i64 0],e,h0,rfl,fun x hx=>?_,(fun h=>by cases h),fun j h ae=>?_⟩
     ·rcases List.mem_cons.1 hx with rfl|hx
      ·exact bm.jt hu
      ·rw[List.mem_singleton.1 hx];rfl
     ·match j,h,ae with
      |0,_,_=>exact yy
      |1,_,_=>exact bm.int .i64 0)
   refine bC _ _ w' (ai.cm (us:=[(n,.box (aZ st n) [.d (.sl .u8 (xs.take 2000)),.d (.int .i64 0)])]) N2 Y (v:=bP (.ptr n (aZ st n) 0)) ?_);exact⟨w.heap.size,rfl,.box (aZ st n) [.d (.sl .u8 (xs.take 2000)),.d (.int .i64 0)],by simp[aY,cC],Nat.le_refl _,fun _=>by simp[b0]⟩
  rcases ee xs sR w _ dt with⟨h1,h2⟩|⟨v,w',h1,h2⟩
  ·unfold Oper.wp;rw[cY,h1,Oper.upon_enter];refine h2.mono fun e w' he=>?_
   cases e with
   |returned v=>
    have:=core v w' he;cases dy:D.dst with
    |none=>rw[dy] at this;simpa[Act.put,cz] using this
    |some t=>rw[dy] at this;simpa[Act.put,cz] using this
   |panicked c=>exact he.elim
   |outgrown=>exact he.elim
  ·exact nW (cY.trans h1) (core v w' h2)
 ·exact .fail
theorem O0(S:ai O U X B st tm w){C:Ctx}(H:bc P C){c:Go.Call}{f:Operand}(ay:D.op=.call c)(hf:c.callee=.value f)(Y:ce st D.dst=true)(d:Nat)(T:TypeId):
  Holds (mO C d st (aS C st T f) (ho C st c.args.toList c.argTypes.toList)) (cJ P O U X st tm w D):=by
 have bv:=de S C T f;obtain⟨e1,e2⟩:=alP S C c.args.toList c.argTypes.toList;have run:∀{g:FuncId} {fE:List Value},Act.eval ⟨tm,[]⟩ f=.func (.func g) #[] fE.toArray->
   (execOp (Act.eval ⟨tm,[]⟩) D).run P w=(callFunc g (c.args.toList.map (Act.eval ⟨tm,[]⟩)++fE).toArray).run P w:=by
  intro g fE hv;have sZ:(#[]++c.args.map (Act.eval ⟨tm,[]⟩))++fE.toArray=(c.args.toList.map (Act.eval ⟨tm,[]⟩)++fE).toArray:=by apply Array.ext';simp
  unfold execOp;simp only[ay,resolve,hf,hv,Deferred.ofValue,Sem.run_bind,Sem.run_pure,Result.andThen_ok,invoke,sZ]
 have go:∀{g:FuncId} {am:aK} {a:kW} {cs:List (List aJ)} {us:List (Nat×Site)} {bs:List Nat} {fE:List Value} {gb:Bool},C.bM g=some am->tG gb st (ho C st c.args.toList c.argTypes.toList)=some a->
   Act.eval ⟨tm,[]⟩ f=.func (.func g) #[] fE.toArray->(dM st.sites us/\∀o,o∈bs->bY st.sites o)->
   (∀{c4 eX av},fB O U X B st tm w c4 eX av->(∀p,p∈us->p∈c4)->(∀o,o∈bs->o∈eX)->lk w av cs fE)->
   Holds (qy d st am {a with as:=a.as++l9 cs,e7:=a.e7++us,gm:=a.gm++bs}) (cJ P O U X st tm w D):=by
  intro g am a cs us bs fE gb hg ha hv hz hcap;obtain⟨ga,z2⟩:=aea ha;have hfz:dM st.sites (a.e7++us):=ga.append hz.1;have yP:fB O U X B st tm w (a.e7++us) (a.gm++bs) (fun _=>False):=⟨⟨S,hfz⟩,fun b h=>h.elim,fun _ _ _ _ h=>h⟩
  obtain⟨m1,m2,m3,m4,m5,m6⟩:=Pq yP ha e1 e2 (fun p hp=>List.mem_append.2 (.inl hp)) (fun p hp=>List.mem_append.2 (.inl hp))
  refine ait (a:={a with as:=a.as++l9 cs,e7:=a.e7++us,gm:=a.gm++bs}) S (H.bM g am hg) (vs:=c.args.toList.map (Act.eval ⟨tm,[]⟩)++fE) ⟨hfz,fun o bk=>?_,m2,fun av dQ=>?_,?_,m4,?_,m6⟩ Y (run hv)
  ·rcases List.mem_append.1 bk with h|h
   ·exact z2 o h
   ·exact hz.2 o h
  ·obtain⟨n1,_,_,_,_,_⟩:=Pq dQ ha e1 e2 (fun p hp=>List.mem_append.2 (.inl hp)) (fun p hp=>List.mem_append.2 (.inl hp))
   have n2:=aez (hcap dQ (fun p hp=>List.mem_append.2 (.inr hp)) (fun p hp=>List.mem_append.2 (.inr hp)))
   have:=n1.append n2;rwa[List.append_nil] at this
  ·show d_ (a.as++l9 cs) _=_;rw[Ou m1.length,m3,aeB,List.append_nil]
  ·show iV B a.rows (fY (a.as++l9 cs) _);rw[ab9 m1.length,adT,List.append_nil];exact m5
 unfold mO;split
 ·rename_i g bE ML;rw[ML] at bv;obtain⟨fE,h1,h2,h3⟩:=bv;split
  ·rename_i cG lB;split
   ·have hcv:fE=[]:=List.eq_nil_of_length_eq_zero (by simpa using h2)
    subst hcv;have r:=run h1;rw[List.append_nil] at r;exact afc S (H.lL g cG lB) e1 e2 Y r
   ·exact .fail
  ·cases MB:C.op g with
   |true=>
    simp only[cond_true];split
    ·have hcv:fE=[]:=List.eq_nil_of_length_eq_zero (by simpa using h2)
     subst hcv;have r:=run h1;rw[List.append_nil] at r;exact ahN S (H.op g MB) e1 e2 Y r
    ·exact .fail
   |false=>
    simp only[cond_false];have UR:bE=[]->(execOp (Act.eval ⟨tm,[]⟩) D).run P w=(callFunc g (c.args.toList.map (Act.eval ⟨tm,[]⟩)).toArray).run P w:=by
     rintro rfl;have hcv:fE=[]:=List.eq_nil_of_length_eq_zero (by simpa using h2)
     subst hcv;have r:=run h1;rwa[List.append_nil] at r
    cases atX:C.iH g with
    |true=>
     simp only[cond_true];split
     ·exact aiq S (H.iH g atX) e1 e2 Y (UR rfl)
     ·exact .fail
    |false=>
     simp only[cond_false];cases dD:C.bs g with
     |true=>
      simp only[cond_true];split
      ·exact adK S (H.bs g dD) e1 e2 Y (UR rfl)
      ·exact .fail
     |false=>
      simp only[cond_false];split
      ·rename_i am a cs us bs hg ha hc;exact go hg ha h1 (QP hc) (fun dQ hu hb=>QO dQ hc hu hb h2 h3)
      ·exact .fail
 ·rename_i g bE ML;rw[ML] at bv;obtain⟨fE,h1,_⟩:=lk.UM bv;split
  ·rename_i am a hg ha;have:=go (us:=[]) (bs:=[]) (cs:=bE) (gb:=false) hg ha h1 ⟨.nil,fun o h=>by simp at h⟩ (fun {c4 eX av} dQ _ _=>by
    obtain⟨axG,aw,an⟩:=lk.UM (dQ.u9 (bv:bm w (ar X B st.sites) (.fn g bE) _));rw[h1] at aw;simp only[Value.func.injEq,Fn.func.injEq,true_and] at aw;have e:=congrArg Array.toList aw;simp only at e;rw[e];exact an)
   simpa only[List.append_nil] using this
  ·exact .fail
 ·exact .fail
theorem aiR(S:ai O U X B st tm w){C:Ctx}(H:bc P C)(Y:ce st D.dst=true):Holds (step C st D) (cJ P O U X st tm w D):=by
 unfold step;split
 ·rename_i x ay;exact Holds.ok (SJ S (.inl ay) Y _)
 ·rename_i x ay;exact Holds.ok (SJ S (.inr ay) Y _)
 ·rename_i c a b ay;split
  ·rename_i hc;exact Holds.ok (SC S ay Y hc)
  ·rename_i hc;exact Holds.ok (SC S ay Y hc)
  ·exact .fail
 ·rename_i elem ay;split
  ·rename_i o e t n dy a_;exact agC S H.toCtxOk a_ ay Y
  ·rename_i o dy _;split
   ·rename_i z hz;exact Holds.fR (aiB S H.toCtxOk ay dy hz Y)
   ·exact .fail
  ·exact .fail
 ·rename_i elem x ay;split
  ·rename_i o e t n dy a_;exact akj S H.toCtxOk a_ ay Y
  ·rename_i o dy _;split
   ·rename_i a ha;cases dO:hH a.cells with
    |false=>exact .fail
    |true=>
     have bv:=de S C elem x;rw[rk ha] at bv;exact Holds.fR (alV S ay dy bv dO Y)
   ·exact .fail
  ·exact .fail
 ·rename_i t parts ay;split
  ·rename_i bM n z eq a_;exact aiu S H.toCtxOk a_ ay Y
  ·rename_i e ty n a_;split
   ·rename_i z hz;exact agz S H.toCtxOk a_ hz ay Y
   ·exact .fail
  ·exact .fail
 ·rename_i t len parts ay;split
  ·rename_i o e ty bytes dy a_;cases hb:(parts.toList.length.beq len&&qf 0 parts.toList&&Nat.ble (len*aA ty) 1000) with
   |false=>exact .fail
   |true=>
    simp only[Bool.and_eq_true] at hb;obtain⟨⟨b1,b2⟩,b3⟩:=hb;simp only[cond_true];split
    ·rename_i as has;split
     ·rename_i xs us eM;have eM:nX ty st as=some (xs,us):=by
       cases al:(C.eu&&ty.iv) with
       |false=>rw[al] at eM;cases eM
       |true=>rw[al] at eM;exact eM
      cases al:(fm (keys us)&&(look us o).isNone) with
      |false=>exact .fail
      |true=>
       simp only[Bool.and_eq_true] at al;exact Holds.fR (abr S H.toCtxOk a_ ay Y (Nat.eq_of_beq_eq_true b1) b2 (Nat.le_of_ble_eq_true b3) has eM ((pZ _).1 al.1) (OQ al.2))
     ·split
      ·rename_i xs us eM;exact Holds.fR (abM S H.toCtxOk a_ ay dy Y (Nat.eq_of_beq_eq_true b1) b2 (Nat.le_of_ble_eq_true b3) has eM)
      ·exact .fail
    ·exact .fail
  ·exact .fail
 ·rename_i t a ay;split
  ·rename_i e ty n a_;exact ahZ S H.toCtxOk a_ ay Y
  ·cases hk:(C.tt t).known with
   |false=>exact .fail
   |true=>exact ajV S H.toCtxOk ay Y hk
 ·rename_i t a x ay;split
  ·rename_i v hv;split
   ·rename_i e ty n a_;exact afa S H.toCtxOk a_ ay Y hv
   ·cases hk:(C.tt t).known with
    |false=>exact .fail
    |true=>exact ag1 S H.toCtxOk ay Y hk hv
  ·exact .fail
 ·rename_i x ay;split
  ·rename_i hx;exact Holds.ok (Fv S ay Y hx fun vv h=>by obtain⟨b,h,_⟩:=h;exact⟨_,h⟩)
  ·rename_i hx;exact Holds.ok (Fv S ay Y hx fun vv h=>by obtain⟨b,D,h,_⟩:=h;exact⟨_,h⟩)
  ·rename_i hx;exact Holds.ok (Fv S ay Y hx fun vv h=>by obtain⟨b,h,_⟩:=h;exact⟨_,h⟩)
  ·exact .fail
 ·rename_i op t x y oF ay;cases hn:CA y with
  |true=>exact agp S H.toCtxOk ay Y hn
  |false=>exact akm S H.toCtxOk ay Y
 ·rename_i op t x ay;split
  ·rename_i b hx;exact Holds.ok (acL S ay Y hx)
  ·rename_i k n hx;exact Holds.ok (acM S ay Y hx)
  ·rename_i k n hx;exact Holds.ok (acK (T:=D.type) S ay Y hx)
  ·exact .fail
 ·rename_i src dst x ay;split
  ·rename_i o dy;exact air S H.toCtxOk ay dy Y
  ·exact .fail
 ·rename_i fn first captured ay
  split
  ·rename_i g;cases hf:first.toList.isEmpty with
   |false=>exact .fail
   |true=>
    simp only[cond_true];split
    ·rename_i bE hc;exact Holds.ok (ac5 S ay Y hf hc)
    ·exact .fail
  ·exact .fail
 ·rename_i t l c ay;split
  ·rename_i o e ty bytes kn n km m dy a_ hl hc;split
   ·rename_i z hz;unfold se;split
    ·rename_i ds us eT;have eT:sinks st z=some (ds,us):=by
      cases al:(C.eu&&ty.iv) with
      |false=>rw[al] at eT;cases eT
      |true=>rw[al] at eT;exact eT
     split
     ·rename_i eO mx;cases al:us.isEmpty with
      |false=>exact .fail
      |true=>exact Holds.fN fun r hr=>abE S H.toCtxOk a_ ay Y hl hc hz eT al mx r hr
     ·exact .fail
    ·split
     ·rename_i ds us eT;split
      ·rename_i eO mx;exact Holds.fN fun r hr=>ach S H.toCtxOk a_ ay dy Y hl hc hz eT mx r hr
      ·exact .fail
     ·exact .fail
   ·exact .fail
  ·exact .fail
 ·rename_i t x cX hi ET ay;split
  ·split
   ·rename_i e ty n a_;exact afe S H.toCtxOk a_ ay Y
   ·exact ag6 S H.toCtxOk ay Y
  ·exact .fail
 ·rename_i s x f ay;split
  ·rename_i bM n z eq a_;split
   ·rename_i off Nw hf;exact acu S H.toCtxOk a_ ay Y hf
   ·exact .fail
  ·exact .fail
 ·rename_i t x i ay;split
  ·rename_i e ty bytes k n a_ hi;exact acq S H.toCtxOk a_ hi ay Y
  ·rename_i e ty m k n a_ hi;exact abH S H.toCtxOk a_ hi ay Y
  ·exact .fail
 ·rename_i t x i ay;split
  ·rename_i s k n a_ hx hi;exact ah9 S H.toCtxOk ay Y a_ hx hi
  ·rename_i e ty m k n a_ hi;exact agj S H.toCtxOk a_ hi ay Y
  ·exact .fail
 ·rename_i t i ay;split
  ·rename_i as hx;split
   ·rename_i a ha;exact Holds.ok (aeo S ay Y hx ha)
   ·exact .fail
  ·exact .fail
 ·rename_i c ay;split
  ·rename_i f hf;split
   ·exact O0 S H ay hf Y _ _
   ·exact O0 S H ay hf Y _ _
  ·rename_i b hb;obtain⟨callee,args,argTypes⟩:=c;simp only at hb ay ⊢;subst hb;split
   ·rename_i x t kN K4;have e1:args=#[x]:=Array.ext' kN;have e2:argTypes=#[t]:=Array.ext' K4;subst e1 e2;exact alw S H.toCtxOk ay Y
   ·rename_i o s x t u dy kN K4;have e1:args=#[s,x]:=Array.ext' kN;have e2:argTypes=#[t,u]:=Array.ext' K4;subst e1 e2;split
    ·rename_i a_ fa;cases al:xd st (aS C st u x) with
     |true=>exact aeF S H.toCtxOk a_ fa ay dy Y
     |false=>exact agB S H.toCtxOk a_ fa ay dy Y
    ·rename_i a_ fa;exact aeE S H.toCtxOk a_ fa ay dy Y
    ·exact .fail
   ·rename_i x y kN;have e1:args=#[x,y]:=Array.ext' kN;subst e1;split
    ·rename_i hx hy;exact Holds.ok (Qr (ux:=true) S ay Y hx hy)
    ·exact .fail
   ·rename_i x y z u v kN;have e1:args=#[x,y,z,u,v]:=Array.ext' kN;subst e1;split
    ·rename_i hx hy hz hu hv;exact Holds.ok (ajT S ay Y hx hy hz hu hv)
    ·exact .fail
   ·rename_i x y kN;have e1:args=#[x,y]:=Array.ext' kN;subst e1;split
    ·rename_i hx hy;exact Holds.ok (Qr (ux:=false) S ay Y hx hy)
    ·exact .fail
   ·exact .fail
  ·exact .fail
 ·exact aed S H.toCtxOk Y
end
section
variable {st ah:af}
theorem oN{o:Nat}(h:st.aa o=ah.aa o)(s:Nat):rowOf st o s=rowOf ah o s:=by unfold rowOf;rw[h]
theorem vR{o:Nat}(h:st.aa o=ah.aa o)(s:Nat):mW st o s=mW ah o s:=by unfold mW;rw[h]
theorem O4{o:Nat}(h:st.aa o=ah.aa o)(s:Nat):qz st o s=qz ah o s:=by unfold qz;rw[oN h,vR h]
theorem vU{o:Nat}(h:st.aa o=ah.aa o)(s:Nat):gn st o s=gn ah o s:=by unfold gn;rw[h]
theorem mI{o:Nat}(h:st.aa o=ah.aa o):aZ st o=aZ ah o:=by unfold aZ;rw[h]
abbrev cq(st ah:af)(N:List Nat):Prop:=∀o,o∈N->st.aa o=ah.aa o
theorem cq.left{N fJ:List Nat}(h:cq st ah (N++fJ)):cq st ah N:=fun o bk=>h o (List.mem_append.2 (.inl bk))
theorem cq.right{N fJ:List Nat}(h:cq st ah (N++fJ)):cq st ah fJ:=fun o bk=>h o (List.mem_append.2 (.inr bk))
theorem cq.head{n:Nat}{fJ:List Nat}(h:cq st ah (n::fJ)):st.aa n=ah.aa n:=h n List.mem_cons_self
theorem cq.tail{n:Nat}{fJ:List Nat}(h:cq st ah (n::fJ)):cq st ah fJ:=fun o bk=>h o (List.mem_cons_of_mem _ bk)
theorem p2{N:List Nat}(h:cq st ah (e5 st N)):cq st ah N:=by
 induction N with
 |nil=>intro o bk;cases bk
 |cons n N ih=>
  intro o bk;rcases List.mem_cons.1 bk with rfl|bk
  ·exact h.head
  ·exact ih h.tail.right o bk
theorem RR{N:List Nat}(h:cq st ah (e5 st N)){o:Nat}(bk:o∈N):cq st ah (zS st o):=by
 induction N with
 |nil=>cases bk
 |cons n N ih=>
  rcases List.mem_cons.1 bk with rfl|bk
  ·exact h.tail.left
  ·exact ih h.tail.right bk
theorem Ao{N fJ:List Nat}:e5 st (N++fJ)=e5 st N++e5 st fJ:=by
 induction N with
 |nil=>rfl
 |cons n N ih=>simp[e5,ih]
theorem QN{l:az}(h:cq st ah l.names):kx st l=kx ah l:=by
 cases l<;>try rfl
 case own o s=>simp only[kx,nm];rw[oN (h.head) s,vR h.head s,h.head]
 case clo g bE=>cases bE<;>rfl
theorem zJ{ab:List az}(h:cq st ah (c5 ab)):iB st ab=iB ah ab:=by
 induction ab with
 |nil=>rfl
 |cons l ab ih=>
  simp only[c5] at h;simp only[iB,QN h.left,ih h.right]
theorem adP{l:az}(h:cq st ah l.names):sink st l=sink ah l:=by
 cases l<;>try rfl
 case own o s=>simp only[sink];rw[h.head]
 case d v=>cases v<;>rfl
theorem Fs{ab:List az}(h:cq st ah (c5 ab)):sinks st ab=sinks ah ab:=by
 induction ab with
 |nil=>rfl
 |cons l ab ih=>
  simp only[c5] at h;simp only[sinks,adP h.left,ih h.right]
theorem Fy{o s:Nat}{cells:List az}(h:gn st o s=some cells):zS st o=c5 cells:=by
 unfold gn at h;cases hs:st.aa o with
 |none=>rw[hs] at h;cases h
 |some x=>
  rw[hs] at h;cases x with
  |box au cs=>
   have h:(bif au.beq s then some cs else none)=some cells:=h
   unfold zS;rw[hs];cases hb:au.beq s with
   |true=>simp only[hb,cond_true,Option.some.injEq] at h;subst h;rfl
   |false=>simp[hb] at h
  |row _ _ _=>cases h
  |da _ _ _=>cases h
  |deep _ _ _=>cases h
  |map _ _ _=>cases h
  |dead _=>cases h
theorem ac6{agg:Bool}{n:Nat}{a:aI}(h:cq st ah a.names):uu agg n st a=uu agg n ah a:=by
 unfold uu;split
 ·rename_i o s off;rw[vU (show st.aa o=ah.aa o from h o (by simp[aI.names,bH.cells,c5,az.names]))]
 ·rfl
 ·rename_i o s u k off;rw[oN (show st.aa o=ah.aa o from h o (by simp[aI.names,bH.cells,c5,az.names]))]
 ·rfl
theorem ab1{n:Nat}{a:aI}{v:bH}(h:cq st ah a.names)(hv:cq st ah (c5 v.cells)):tS n st a v=tS n ah a v:=by
 unfold tS;congr 1
 split
 ·rename_i o s off;rw[vU (show st.aa o=ah.aa o from h o (by simp[aI.names,bH.cells,c5,az.names]))]
 ·rename_i o s u k off;rw[show st.aa o=ah.aa o from h o (by simp[aI.names,bH.cells,c5,az.names]),zJ hv,Fs hv]
 ·rfl
theorem aa8{u:aH}{x:aI}{i:Int}(h:cq st ah x.names):tf u st x i=tf u ah x i:=by
 unfold tf;split
 ·rfl
 ·rename_i o s;rw[O4 (show st.aa o=ah.aa o from h o (by simp[aI.names,bH.cells,c5,az.names]))]
 ·rfl
theorem ab5{ti:cp}{x:aI}{cX hi:Option aI}(h:cq st ah x.names):tV ti st x cX hi=tV ti ah x cX hi:=by
 unfold tV;split
 ·rfl
 ·rfl
 ·rfl
 ·rename_i o s;simp only[nm];rw[oN (show st.aa o=ah.aa o from h o (by simp[aI.names,bH.cells,c5,az.names])),show st.aa o=ah.aa o from h o (by simp[aI.names,bH.cells,c5,az.names])]
 ·rfl
theorem OP{l:az}(h:cq st ah l.names):mapOf st l=mapOf ah l:=by
 cases l<;>try rfl
 case own o s=>simp only[mapOf];rw[h.head]
 case d v=>cases v<;>rfl
theorem aef{ti:cp}{x:aI}(h:cq st ah x.names):uM ti st x=uM ti ah x:=by
 unfold uM;split<;>try rfl
 rotate_left
 ·rename_i l;rw[OP (l:=l) (fun o bk=>h o (by simp[aI.names,bH.cells,c5,bk]))]
 rename_i o s;rw[O4 (show st.aa o=ah.aa o from h o (by simp[aI.names,bH.cells,c5,az.names]))]
theorem acQ{x:aI}(h:cq st ah x.names):uj st x=uj ah x:=by
 unfold uj;split<;>try rfl
 rename_i o s;rw[oN (show st.aa o=ah.aa o from h o (by simp[aI.names,bH.cells,c5,az.names]))]
theorem N4{o dst s:Nat}(Y:st.aa dst=ah.aa dst):aZ (st.dK o (.dead s)) dst=aZ (ah.dK o (.dead s)) dst:=by
 apply mI;rw[af.nP,af.nP,Y]
theorem Od{bytes:Nat}{t:aH}{dst:Nat}{s:aI}{ys:List (den t)}(h:cq st ah s.names)(Y:st.aa dst=ah.aa dst):rJ bytes t dst st s ys=rJ bytes t dst ah s ys:=by
 unfold rJ;split
 ·simp only[mI Y]
 ·rename_i o s;simp only[show st.aa o=ah.aa o from h o (by simp[aI.names,bH.cells,c5,az.names]),N4 Y]
 ·rfl
theorem abN{bytes:Nat}{t:aH}{dst:Nat}{s x:aI}(h:cq st ah s.names)(hx:cq st ah x.names)(Y:st.aa dst=ah.aa dst):tP bytes t dst st s x=tP bytes t dst ah s x:=by
 unfold tP;rw[acQ hx];split
 ·rfl
 ·split
  ·split
   ·exact Od h Y
   ·rfl
  ·rfl
theorem acm{x:aI}(h:cq st ah x.names):xd st x=xd ah x:=by
 unfold xd;split
 ·rename_i o s;rw[vR (show st.aa o=ah.aa o from h o (by simp[aI.names,bH.cells,c5,az.names]))]
 ·rfl
theorem abP{bytes:Nat}{t:aH}{dst:Nat}{s x:aI}(h:cq st ah s.names)(hx:cq st ah x.names)(Y:st.aa dst=ah.aa dst):tR bytes t dst st s x=tR bytes t dst ah s x:=by
 have e2:∀M u o v,aZ ((st.dK M (.dead u)).dK o (.dead v)) dst=aZ ((ah.dK M (.dead u)).dK o (.dead v)) dst:=fun M u o v=>by
  apply mI;rw[af.nP,af.nP,af.nP,af.nP,Y]
 unfold tR;split
 ·rename_i M u;rw[vR (show st.aa M=ah.aa M from hx M (by simp[aI.names,bH.cells,c5,az.names]))]
  split
  ·split
   ·split
    ·simp only[N4 Y]
    ·rename_i _ o s;rw[vR (show st.aa o=ah.aa o from h o (by simp[aI.names,bH.cells,c5,az.names]))]
     simp only[e2]
    ·rfl
   ·rfl
  ·rfl
 ·rfl
theorem abO{bytes:Nat}{t:aH}{dst:Nat}{s x:aI}(h:cq st ah s.names)(Y:st.aa dst=ah.aa dst):tQ bytes t dst st s x=tQ bytes t dst ah s x:=by
 unfold tQ;split
 ·split
  ·exact Od h Y
  ·rfl
 ·rfl
theorem Pp{o:Nat}{t:aH}{n:Nat}{xs:List (den t)}(Y:st.aa o=ah.aa o):sd o st t n xs=sd o ah t n xs:=by
 unfold sd;rw[mI Y]
theorem acx{o:Nat}{t:aH}{n:Nat}(Y:st.aa o=ah.aa o):ug o st t n=ug o ah t n:=by
 unfold ug;split<;>first|exact Pp Y|rfl
theorem aeC{o:Nat}{t:aH}{n:Nat}{v:aI}(Y:st.aa o=ah.aa o):uW o st t n v=uW o ah t n v:=by
 unfold uW;split
 ·split<;>first|exact Pp Y|rfl
 ·rfl
theorem ac7{t:aH}{n:Nat}{a:aI}(h:cq st ah a.names):uv st t n a=uv ah t n a:=by
 unfold uv;split
 ·rename_i o s u;rw[oN (show st.aa o=ah.aa o from h o (by simp[aI.names,bH.cells,c5,az.names]))]
 ·rfl
theorem ab2{t:aH}{n:Nat}{a:aI}{v:bH}(h:cq st ah a.names):tT st t n a v=tT ah t n a v:=by
 unfold tT;split
 ·rename_i o s u ab;rw[show st.aa o=ah.aa o from h o (by simp[aI.names,bH.cells,c5,az.names])]
 ·rfl
theorem aa9{C:Ctx}{t:aH}{n:Nat}{x:aI}{i:Int}(h:cq st ah x.names):tg C st t n x i=tg C ah t n x i:=by
 unfold tg;split
 ·rename_i o s u;rw[oN (show st.aa o=ah.aa o from h o (by simp[aI.names,bH.cells,c5,az.names]))]
 ·rfl
 ·rfl
theorem ab6{t:aH}{n:Nat}{x:aI}{cX hi:Option aI}(h:cq st ah x.names):tW st t n x cX hi=tW ah t n x cX hi:=by
 unfold tW;split
 ·rename_i o s u;simp only[nm];rw[oN (show st.aa o=ah.aa o from h o (by simp[aI.names,bH.cells,c5,az.names])),show st.aa o=ah.aa o from h o (by simp[aI.names,bH.cells,c5,az.names])]
 ·rfl
theorem aex{t:aH}{as:List bH}(h:cq st ah (qa as)):mr t st as=mr t ah as:=by
 induction as with
 |nil=>rfl
 |cons a as ih=>
  simp only[qa] at h;simp only[mr,zJ h.left,ih h.right]
theorem ab7{t:aH}{as:List bH}(h:cq st ah (qa as)):nX t st as=nX t ah as:=by
 induction as with
 |nil=>rfl
 |cons a as ih=>
  simp only[qa] at h;simp only[nX,Fs h.left,ih h.right]
theorem ado{C:Ctx}{src dst:TypeId}{o:Nat}{x:aI}(h:cq st ah x.names)(Y:st.aa o=ah.aa o):uD C src dst o st x=uD C src dst o ah x:=by
 unfold uD;split<;>try rfl
 ·rename_i M s _ _;rw[oN (show st.aa M=ah.aa M from h M (by simp[aI.names,bH.cells,c5,az.names]))]
 ·rw[mI Y]
theorem Ot{bE:List (Nat×Nat)}(h:cq st ah (e5 st (keys bE))):l' st bE=l' ah bE:=by
 induction bE with
 |nil=>rfl
 |cons p bE ih=>
  obtain⟨o,s⟩:=p;simp only[keys,e5] at h;simp only[l'];rw[<-vU h.head,<-ih h.tail.right];cases hb:gn st o s with
  |none=>rfl
  |some cells=>
   have:=h.tail.left;rw[Fy hb] at this;simp only[zJ this]
theorem FC{l:az}(h:cq st ah (e5 st l.names)):og st l=og ah l:=by
 have Y:=QN (p2 h);unfold og;split
 ·rfl
 ·rename_i g c cs;simp only[az.names] at h;rw[Ot h]
 ·rw[Y]
theorem ac9{ab:List az}(h:cq st ah (e5 st (c5 ab))):mY st ab=mY ah ab:=by
 induction ab with
 |nil=>rfl
 |cons l ab ih=>
  simp only[c5,Ao] at h;simp only[mY,FC h.left,ih h.right]
theorem OU{l:az}(h:cq st ah l.names):oa st l=oa ah l:=by
 unfold oa;split<;>try rfl
 rename_i o s;rw[show st.aa o=ah.aa o from h.head]
theorem ael{ab:List az}(h:cq st ah (c5 ab)):kU st ab=kU ah ab:=by
 induction ab with
 |nil=>rfl
 |cons l ab ih=>
  simp only[c5] at h;simp only[kU,OU h.left,ih h.right]
def hV:List aI->List Nat
 |[]=>[]
 |v::vs=>v.names++hV vs
theorem Ol{vs:List aI}(h:cq st ah (e5 st (hV vs))):jQ st vs=jQ ah vs:=by
 induction vs with
 |nil=>rfl
 |cons v vs ih=>
  simp only[hV,Ao] at h;have ih:=ih h.right;have h:=h.left;cases v with
  |kq as=>rfl
  |av a=>
   cases a with
   |agg ab=>
    simp only[jQ];rw[ac9 (by simpa[aI.names,bH.cells] using h),ih]
   |ag l=>
    have hl:cq st ah (e5 st l.names):=by simpa[aI.names,bH.cells,c5] using h
    unfold jQ;split
    ·rfl
    ·rename_i o s asv bZ;cases bZ;have hl:cq st ah (e5 st [o]):=by simpa[aI.names,bH.cells,c5,az.names] using h
     simp only[e5] at hl;rw[<-vU hl.head,<-ih];cases hb:gn st o s with
     |none=>rfl
     |some cells=>
      have:=hl.tail.left;rw[Fy hb] at this;cases jQ st vs with
      |none=>rfl
      |some r=>simp only[ael this]
    ·rename_i gj asv _ bZ;cases bZ;rw[FC hl,ih]
    ·rename_i bZ;cases bZ
    ·rfl
theorem Oo{l:az}(h:cq st ah (e5 st l.names)):mU st l=mU ah l:=by
 unfold mU;split
 ·rw[OU (p2 h)]
 ·rfl
 ·rw[FC h]
theorem abK{ab:List az}(h:cq st ah (e5 st (c5 ab))):mQ st ab=mQ ah ab:=by
 induction ab with
 |nil=>rfl
 |cons l ab ih=>
  simp only[c5,Ao] at h;simp only[mQ,Oo h.left,ih h.right]
theorem ade{l:az}(h:cq st ah l.names):mj st l=mj ah l:=by
 unfold mj;split<;>try rfl
 rename_i o s;rw[show st.aa o=ah.aa o from h.head]
theorem OM{ab dI:List az}(h:cq st ah (c5 ab)):pa st ab dI=pa ah ab dI:=by
 unfold pa;have:ab.map (mj st)=ab.map (mj ah):=by
  induction ab with
  |nil=>rfl
  |cons l ab ih=>
   simp only[c5] at h;simp only[List.map_cons,ade h.left,ih h.right]
 rw[this]
theorem abD{vs:List aI}(h:cq st ah (e5 st (hV vs))):lf st vs=lf ah vs:=by
 induction vs with
 |nil=>rfl
 |cons v vs ih=>
  simp only[hV,Ao] at h;have ih:=ih h.right;have h:=h.left;cases v with
  |kq as=>rfl
  |av a=>
   cases a with
   |agg ab=>
    have hl:cq st ah (e5 st (c5 ab)):=by simpa[aI.names,bH.cells] using h
    simp only[lf,abK hl,ih,OM (p2 hl)]
   |ag l=>
    have hl:cq st ah (e5 st l.names):=by simpa[aI.names,bH.cells,c5] using h
    have nA:cq st ah (c5 [l]):=by simpa[c5] using p2 hl
    simp only[lf,Oo hl,ih,OM nA]
theorem abC{b:Bool}{vs:List aI}(h:cq st ah (e5 st (hV vs))):tG b st vs=tG b ah vs:=by
 cases b
 ·exact Ol h
 ·exact abD h
theorem vS(hb:∀o,1000000<=o->st.aa o=ah.aa o){o:Nat}(h:1000000<=o):aZ st o=aZ ah o:=mI (hb o h)
theorem Fz(hb:∀o,1000000<=o->st.aa o=ah.aa o):∀{ab:List az} {n:Nat},1000000<=n->take st n ab=take ah n ab:=by
 intro ab;induction ab with
 |nil=>intro n _;rfl
 |cons l ab ih=>
  intro n hn;cases l<;>simp only[take,ih (show 1000000<=n+1 by omega),vS hb hn]
theorem acO(hb:∀o,1000000<=o->st.aa o=ah.aa o):∀{as:List bH} {n:Nat},1000000<=n->ea st n as=ea ah n as:=by
 intro as;induction as with
 |nil=>intro n _;rfl
 |cons a as ih=>
  intro n hn;cases a with
  |ag l=>simp only[ea];rw[Fz hb hn,ih (show 1000000<=n+100 by omega)]
  |agg ab=>simp only[ea];rw[Fz hb hn,ih (show 1000000<=n+100 by omega)]
theorem acN(hb:∀o,1000000<=o->st.aa o=ah.aa o):∀{bs:List (Nat×Nat)} {cF:List (List az)},fK st bs cF=fK ah bs cF:=by
 intro bs;induction bs with
 |nil=>intro cF;cases cF<;>rfl
 |cons p bs ih=>
  obtain⟨o,s⟩:=p;intro cF;cases cF with
  |nil=>rfl
  |cons cs cF=>simp only[fK];rw[Fz hb (by omega),ih]
theorem OZ(hb:∀o,1000000<=o->st.aa o=ah.aa o){dst:Nat}{S:aK}{a:kW}:qy dst st S a=qy dst ah S a:=by
 unfold qy;simp only[acN hb,acO hb (show 1000000<=2000000+dst*10000 by omega)]
theorem ab3{g:FuncId}{n:Nat}{vs:List aI}(hb:∀o,1000000<=o->st.aa o=ah.aa o)(hn:1000000<=n):tU g n st vs=tU g n ah vs:=by
 unfold tU;rw[vS hb hn,vS hb (show 1000000<=n+1 by omega),vS hb (show 1000000<=n+2 by omega)]
theorem ac0{n:Nat}{vs:List aI}(hb:∀o,1000000<=o->st.aa o=ah.aa o)(hn:1000000<=n):um n st vs=um n ah vs:=by
 unfold um;rw[vS hb hn]
theorem adn{vs:List aI}(h:cq st ah (e5 st (hV vs))):copyV st vs=copyV ah vs:=by
 unfold copyV;split
 ·rename_i o s;rw[show st.aa o=ah.aa o from p2 h o (by simp[hV,aI.names,bH.cells,c5,az.names])]
 ·rfl
theorem aby{vs:List aI}(h:cq st ah (e5 st (hV vs))):tD st vs=tD ah vs:=by
 unfold tD;split
 ·rename_i o s;have h0:o∈hV [aI.av (.ag (.ptr o s 0))]:=by simp[hV,aI.names,bH.cells,c5,az.names]
  rw[<-vU (p2 h o h0)];split
  ·rfl
  ·rename_i aaE M u hb;have:=RR h h0;rw[Fy hb] at this;rw[show st.aa M=ah.aa M from this M (by simp[c5,az.names])]
  ·rfl
 ·rfl
theorem N_{C:Ctx}(hb:∀o,1000000<=o->st.aa o=ah.aa o){dst:Nat}{f:aI}{vs:List aI}(hf:cq st ah (e5 st f.names))(h:cq st ah (e5 st (hV vs))):mO C dst st f vs=mO C dst ah f vs:=by
 unfold mO;split
 ·rename_i g bE;have:cq st ah (e5 st (keys bE)):=by simpa[aI.names,bH.cells,c5,az.names] using hf
  simp only[abC h,Ot this,OZ hb,ab3 hb (show 1000000<=3000000+dst*10 by omega),ac0 hb (show 1000000<=4000000+dst by omega),adn h,aby h]
 ·simp only[Ol h,OZ hb]
 ·rfl
theorem aii{C:Ctx}{x:Operand}{T:TypeId}(h:∀t,x=.tmp t->st.get t=ah.get t):aS C st T x=aS C ah T x:=by
 cases x with
 |tmp t=>exact h t rfl
 |_=>rfl
theorem abL{ti:cp}{v:Value}:(wZ ti v).names=[]:=by
 unfold wZ;split<;>try rfl
 all_goals(split<;>rfl)
theorem AT{C:Ctx}{x:Operand}{T:TypeId}:∀{xs:List Operand},x∈xs->∀o,o∈(aS C st T x).names->o∈oY st xs:=by
 intro xs;induction xs with
 |nil=>intro h;cases h
 |cons y xs ih=>
  intro h o bk;rcases List.mem_cons.1 h with rfl|h
  ·cases x with
   |tmp t=>simp only[oY];exact List.mem_append.2 (.inl bk)
   |const v=>simp only[aS,abL] at bk;cases bk
   |global g=>simp[aS,aI.names,bH.cells,c5,az.names,bP] at bk
   |func g=>simp[aS,aI.names,bH.cells,c5,az.names,bP,keys] at bk
  ·have:=ih h o bk;cases y<;>simp only[oY]<;>first|exact List.mem_append.2 (.inr this)|exact this
theorem ac1{t:Nat}:∀{xs:List Operand},.tmp t∈xs->t∈qc xs:=by
 intro xs;induction xs with
 |nil=>intro h;cases h
 |cons y xs ih=>
  intro h;rcases List.mem_cons.1 h with h|h
  ·subst h;simp only[qc];exact List.mem_cons_self
  ·have:=ih h;cases y<;>simp only[qc]<;>first|exact List.mem_cons_of_mem _ this|exact this
theorem PC{v:aI}{a:bH}(h:nn v=some a):c5 a.cells=v.names:=by
 cases v with
 |av b=>simp only[nn,Option.some.injEq] at h;subst h;rfl
 |kq _=>cases h
theorem O2{vs:List aI}:∀{as:List bH},ob vs=some as->∀o,o∈qa as->o∈hV vs:=by
 induction vs with
 |nil=>intro as h;simp only[ob,Option.some.injEq] at h;subst h;intro o bk;cases bk
 |cons v vs ih=>
  intro as h o bk;simp only[ob] at h;split at h
  ·rename_i a kz h1 h2;simp only[Option.some.injEq] at h;subst h;simp only[qa,List.mem_append] at bk;simp only[hV,List.mem_append];rcases bk with bk|bk
   ·exact .inl (by rw[PC h1] at bk;exact bk)
   ·exact .inr (ih h2 o bk)
  ·cases h
end
theorem adM{C:Ctx}{st ah:af}{D:Oper}(hs:∀t,t∈qc (me D.op)->st.get t=ah.get t)(hn:cq st ah (Kr C st D))(hb:CB D.op=true->∀o,1000000<=o->st.aa o=ah.aa o):
  step C st D=step C ah D:=by
 have he:∀x,x∈me D.op->∀T,aS C st T x=aS C ah T x:=fun x hx T=>aii fun t ao=>hs t (ac1 (ao▸hx))
 have Xx:looks D.op=true->cq st ah (e5 st (oY st (me D.op))):=fun h=>by have:=hn.left.left;rw[h] at this;exact this
 have Xp:looks D.op=true->∀x,x∈me D.op->∀T,cq st ah (aS C st T x).names:=fun hl x hx T o bk=>p2 (Xx hl) o (AT hx o bk)
 have Ua:looks D.op=true->∀N:List Nat,(∀o,o∈N->o∈oY st (me D.op))->cq st ah (e5 st N):=by
  intro hl N;have yM:=Xx hl;induction N with
  |nil=>intro _ o bk;cases bk
  |cons n N ih=>
   intro h o bk;simp only[e5,List.mem_cons,List.mem_append] at bk;rcases bk with rfl|bk|bk
   ·exact p2 yM o (h o List.mem_cons_self)
   ·exact RR yM (h n List.mem_cons_self) o bk
   ·exact ih (fun M bB=>h M (List.mem_cons_of_mem _ bB)) o bk
 have Y:∀d,D.dst=some d->st.aa d=ah.aa d:=fun d h=>hn.left.right d (by simp[h])
 have hz:cq st ah (Kf C D.op):=hn.right;obtain⟨dst,op,type,pos,after,guard⟩:=D;simp only at he Xp Ua Y hb hz;cases op<;>(try have gM:=Xp rfl)<;>(try have mi:=Ua rfl)<;>(try simp only[me,List.mem_cons,List.not_mem_nil,or_false,forall_eq_or_imp,forall_eq] at he)<;>
  (try simp only[me,List.mem_cons,List.not_mem_nil,or_false,forall_eq_or_imp,forall_eq] at gM)<;>simp only[step]<;>try rfl
 case move x=>rw[he]
 case assign x=>rw[he]
 case makeMap t r=>
  simp only[l7];cases dst with
  |none=>rfl
  |some o=>
   have e:=mI (Y o rfl);cases C.tt t<;>try rfl
   cases r with
   |none=>simp only[e]
   |some x=>simp only[he x (by simp[me]),e]
 case lookup t m k c=>
  simp only[l7];rw[he.1,he.2];have h1:=gM.1 t;rw[he.1] at h1;generalize aS C ah t m=aaw at h1 ⊢;split
  ·rename_i l n _ _;rw[OP (l:=l) (fun o bk=>h1 o (by simp[aI.names,bH.cells,c5,bk]))]
  ·rfl
 case mapUpdate t m k x=>
  simp only[l7,l7.t_];rw[he.1,he.2.1,he.2.2];have h1:=gM.1 t;rw[he.1] at h1;generalize aS C ah t m=aaw at h1 ⊢;split
  ·rename_i o s n d _ _ _;rw[show st.aa o=ah.aa o from h1 o (by simp[aI.names,bH.cells,c5,az.names])]
  ·rfl
 case insert t m k x=>
  simp only[l7,l7.t_];rw[he.1,he.2.1,he.2.2];have h1:=gM.1 t;rw[he.1] at h1;generalize aS C ah t m=aaw at h1 ⊢;split
  ·rename_i o s n d _ _ _;rw[show st.aa o=ah.aa o from h1 o (by simp[aI.names,bH.cells,c5,az.names])]
  ·rfl
 case pick c a b=>rw[he.1,he.2.1,he.2.2]
 case alloc elem=>
  cases dst with
  |none=>rfl
  |some o=>
   have e:=mI (Y o rfl);cases a_:C.tt elem with
   |arr _ t n=>exact acx (Y o rfl)
   |_=>simp only[e]
 case box elem x=>
  rw[he];cases dst with
  |none=>rfl
  |some o=>
   have e:=mI (Y o rfl);cases a_:C.tt elem with
   |arr _ t n=>exact aeC (Y o rfl)
   |_=>simp only[e]
 case build t ps=>
  have go:∀(bM:List (Nat×Nat)) (r:List (Nat×Operand)) (z:List az),(∀x,x∈r.map (·.2)->∀T,aS C st T x=aS C ah T x)->step.n7 C st bM z r=step.n7 C ah bM z r:=by
    intro bM r;induction r with
    |nil=>intro z _;rfl
    |cons p r ih=>
     obtain⟨i,x⟩:=p;intro z h;simp only[step.n7];rw[h x (by simp)]
     split
     ·rw[ih _ fun x hx=>h x (by simp only[List.map_cons,List.mem_cons];exact .inr hx)]
     ·rfl
  split
  ·exact go _ _ _ he
  ·split
   ·exact go _ _ _ he
   ·rfl
  ·rfl
 case buildSlice t len ps=>
  cases dst with
  |none=>rfl
  |some o=>
   cases h2:C.tt t<;>try rfl
   rename_i e ty bytes;simp only;have h1:some o=some o:=rfl;have em:(ps.toList.map fun p=>aS C st e p.2)=ps.toList.map fun p=>aS C ah e p.2:=by
    apply List.map_congr_left;intro p hp;exact he _ (List.mem_map.2 ⟨p,hp,rfl⟩) e
   have jm:cq st ah (hV (ps.toList.map fun p=>aS C st e p.2)):=by
    have:∀l:List (Nat×Operand),(∀p,p∈l->p∈ps.toList)->cq st ah (hV (l.map fun p=>aS C st e p.2)):=by
     intro l;induction l with
     |nil=>intro _ o bk;cases bk
     |cons p l ih=>
      intro h o bk;simp only[List.map_cons,hV,List.mem_append] at bk;rcases bk with bk|bk
      ·exact gM _ (List.mem_map.2 ⟨p,h p List.mem_cons_self,rfl⟩) e o bk
      ·exact ih (fun q al=>h q (List.mem_cons_of_mem _ al)) o bk
    exact this _ fun _ h=>h
   rw[<-em,mI (Y o h1)];congr 1
   split
   ·rename_i as has;rw[aex fun M bB=>jm M (O2 has M bB),ab7 fun M bB=>jm M (O2 has M bB)]
   ·rfl
 case load t a=>
  rw[<-he];split
  ·exact ac7 (gM _)
  ·rw[ac6 (gM _)]
 case store t a x=>
  rw[<-he.1,<-he.2];split
  ·rename_i v hv;split
   ·exact ab2 (gM.1 _)
   ·rw[ab1 (gM.1 _) (by rw[PC hv];exact gM.2 _)]
  ·rfl
 case nilCheck x=>rw[he]
 case makeInterface t x=>simp only[l7];rw[he]
 case binOp op t x y ty=>rw[he.1,he.2]
 case unOp op t x=>rw[he]
 case convert src ays x=>
  cases dst with
  |none=>rfl
  |some o=>simp only;rw[<-he,ado (gM _) (Y o rfl)]
 case makeFunc fn first captured=>
  split
  ·rename_i g;have go:∀(r:List Operand),(∀x,x∈r->∀T,aS C st T x=aS C ah T x)->step.pc C st r=step.pc C ah r:=by
    intro r;induction r with
    |nil=>intro _;rfl
    |cons x r ih=>
     intro h;simp only[step.pc];rw[h x (by simp),ih fun x hx=>h x (List.mem_cons_of_mem _ hx)]
   rw[go _ he]
  ·rfl
 case makeSlice t l c=>
  rw[<-he.1,<-he.2];cases dst with
  |none=>rfl
  |some o=>
   cases h2:C.tt t<;>try rfl
   rename_i e ty bytes;simp only[Kf,h2] at hz;have e1:=mI (Y o rfl);have e2:∀z n m,(C.tt e).zero=some z->se C.eu bytes o st ty n m z=se C.eu bytes o ah ty n m z:=fun z n m hzz=>by
    simp only[hzz] at hz;unfold se;rw[zJ hz,Fs hz,e1]
   generalize aS C st 0 l=eD;generalize aS C st 0 c=fy;have dU:∀n m:Int,(match(C.tt e).zero with
      |some z=>se C.eu bytes o st ty n m z
      |none=>.fail)=(match(C.tt e).zero with
      |some z=>se C.eu bytes o ah ty n m z
      |none=>.fail):=by
    intro n m;cases hzz:(C.tt e).zero with
    |none=>rfl
    |some z=>exact e2 z n m hzz
   rcases eD with(c9|_)|_<;>try rfl
   cases c9<;>try rfl
   rename_i d1;cases d1<;>try rfl
   rcases fy with(fU|_)|_<;>try rfl
   cases fU<;>try rfl
   rename_i d2;cases d2<;>try rfl
   exact dU _ _
 case slice t x cX hi ET=>
  cases ET with
  |some _=>rfl
  |none=>
   simp only;have e1:cX.map (aS C st 0)=cX.map (aS C ah 0):=by
    cases cX with
    |none=>rfl
    |some y=>simp only[Option.map_some];rw[he.2 y (by simp)]
   have e2:hi.map (aS C st 0)=hi.map (aS C ah 0):=by
    cases hi with
    |none=>rfl
    |some y=>simp only[Option.map_some];rw[he.2 y (by simp)]
   rw[<-he.1,e1,e2];split
   ·exact ab6 (gM.1 _)
   ·exact ab5 (gM.1 _)
 case fieldAddr s x f=>rw[he]
 case indexAddr t x i=>
  rw[<-he.1,<-he.2];split
  ·rw[aa8 (gM.1 _)]
  ·rw[aa9 (gM.1 _)]
  ·rfl
 case index t x i=>rw[he.1,he.2]
 case extract t i=>rw[he]
 case call c=>
  obtain⟨auI,args,L2⟩:=c;simp only;cases auI with
  |invoke r m=>rfl
  |value f=>
   simp only[me,List.mem_append,List.mem_cons,List.not_mem_nil,or_false] at mi;simp only[CB,forall_const] at hb;simp only[List.mem_append,List.mem_cons,List.not_mem_nil,or_false] at he;have em:∀(xs:List Operand) (cZ:List TypeId),(∀x,x∈xs->∀T,aS C st T x=aS C ah T x)->ho C st xs cZ=ho C ah xs cZ:=by
    intro xs;induction xs with
    |nil=>intro cZ _;cases cZ<;>rfl
    |cons x xs ih=>
     intro cZ h;cases cZ with
     |nil=>simp only[ho];rw[h x (by simp),ih [] fun y hy=>h y (List.mem_cons_of_mem _ hy)]
     |cons T cZ=>simp only[ho];rw[h x (by simp),ih cZ fun y hy=>h y (List.mem_cons_of_mem _ hy)]
   have EX:∀(xs ys:List Operand) (cZ:List TypeId),(∀x,x∈xs->x∈ys)->∀o,o∈hV (ho C st xs cZ)->o∈oY st ys:=by
    intro xs ys;induction xs with
    |nil=>intro cZ _ o bk;cases cZ<;>cases bk
    |cons x xs ih=>
     intro cZ h o bk;cases cZ with
     |nil=>
      simp only[ho,hV,List.mem_append] at bk;rcases bk with bk|bk
      ·exact AT (h x List.mem_cons_self) o bk
      ·exact ih [] (fun y hy=>h y (List.mem_cons_of_mem _ hy)) o bk
     |cons T cZ=>
      simp only[ho,hV,List.mem_append] at bk;rcases bk with bk|bk
      ·exact AT (h x List.mem_cons_self) o bk
      ·exact ih cZ (fun y hy=>h y (List.mem_cons_of_mem _ hy)) o bk
   have h1:cq st ah (e5 st (aS C st 0 f).names):=mi _ fun o bk=>AT (List.mem_append.2 (.inl (by simp))) o bk
   have h2:cq st ah (e5 st (hV (ho C st args.toList L2.toList))):=mi _ fun o bk=>EX _ _ _ (fun x hx=>List.mem_append.2 (.inr hx)) o bk
   have h3:=he f (.inl rfl) 0;have aE:=em args.toList L2.toList fun x hx=>he x (.inr hx)
   cases dst with
   |none=>show mO C 0 st _ _=mO C 0 ah _ _;rw[<-h3,<-aE];exact N_ hb h1 h2
   |some d=>show mO C d st _ _=mO C d ah _ _;rw[<-h3,<-aE];exact N_ hb h1 h2
  |builtin b=>
   simp only[List.nil_append] at he gM;generalize args.toList=xs at he gM;generalize L2.toList=b5;cases b<;>try rfl
   case append=>
    rcases dst with _|o
    ·rfl
    rcases xs with _|⟨s,_|⟨x,_|_⟩⟩<;>try rfl
    rcases b5 with _|⟨t,_|⟨u,_|_⟩⟩<;>try rfl
    have e1:=he s (by simp) t
    have e2:=he x (by simp) u
    dsimp only;cases C.tt t<;>try rfl
    cases C.tt u<;>try rfl
    all_goals dsimp only
    all_goals rw[<-e1,<-e2]
    all_goals first|(rw[acm (gM x (by simp) _),abP (gM s (by simp) _) (gM x (by simp) _) (Y o rfl),abN (gM s (by simp) _) (gM x (by simp) _) (Y o rfl)];done)|exact abO (gM s (by simp) _) (Y o rfl)
   case len=>
    rcases xs with _|⟨s,_|⟨x,_|_⟩⟩<;>try rfl
    rcases b5 with _|⟨t,_|⟨u,_|_⟩⟩<;>try rfl
    have e1:=he s (by simp) t
    dsimp only;rw[<-e1];exact aef (gM s (by simp) _)
   case max=>
    rcases xs with _|⟨s,_|⟨x,_|⟨z,_|⟨u,_|⟨v,_|_⟩⟩⟩⟩⟩<;>try rfl
    ·have e1:=he s (by simp) type
     have e2:=he x (by simp) type
     dsimp only;rw[<-e1,<-e2]
    ·have e1:=he s (by simp) type
     have e2:=he x (by simp) type
     have bp:=he z (by simp) type
     have dU:=he u (by simp) type
     have hD:=he v (by simp) type
     dsimp only;rw[<-e1,<-e2,<-bp,<-dU,<-hD]
   case min=>
    rcases xs with _|⟨s,_|⟨x,_|_⟩⟩<;>try rfl
    have e1:=he s (by simp) type
    have e2:=he x (by simp) type
    dsimp only;rw[<-e1,<-e2]
section
variable {P:Program}{O:World}{U:List Nat}{X:Nat->Prop}{B:Nat->Value}{st:af}{tm:Array Value}{w:World}{D:Oper}
structure rQ(w:World)(av:Nat->Prop)(B:Nat->Value)(o:Nat)(t:aH)(xs:List (den t))(k off:Nat)(x:den t)(u:aH)(ys:List (den u))(e:TypeId)(v0 nv:Value)(n1 n2 c1 c2:List Value):Prop where
 vF:B o=.tuple (v0::(n1++nv::n2)).toArray
 aaB:(bJ (B o)).Nodup
 row:rowAt w t.fu e (aA t) v0 xs.length (c1++nv::c2)
 len:c1.length=k*aA t+off
 d1:Deep w av (flat t (xs.take k)++(enc t x).take off) c1 n1
 mid:∃b_ ab,(∀d,d∈flat u ys->d.plain=true)/\rowAt w u.fu b_ (aA u) nv ys.length ab/\cu w av (flat u ys) ab
 d2:Deep w av ((enc t x).drop (off+1)++flat t (xs.drop (k+1))) c2 n2
theorem ai.alt(S:ai O U X B st tm w){o s k off:Nat}{t u:aH}{xs:List (den t)}{x:den t}{ys:List (den u)}(hl:look st.sites o=some (.deep s t xs))(hx:xs[k]? =some x)(hu:(enc t x)[off]? =some (.sl u ys)):
  ∃e v0 nv n1 n2 c1 c2,rQ w (ar X B st.sites) B o t xs k off x u ys e v0 nv n1 n2 c1 c2:=by
 obtain⟨e,v0,ns,cs,h0,eJ,hrow,mi⟩:=S.sites o _ hl;have hk:k<xs.length:=(List.getElem?_eq_some_iff.1 hx).1;have ay:off<(enc t x).length:=(List.getElem?_eq_some_iff.1 hu).1;rw[fW] at ay;obtain⟨d0,Ez,pk⟩:=Ue (x:=x) ay;rw[hu] at Ez;cases Ez;have mA:flat t xs=(flat t (xs.take k)++(enc t x).take off)++(.sl u ys::((enc t x).drop (off+1)++flat t (xs.drop (k+1)))):=by
  rw[HJ t hx];conv=>lhs;rw[pk]
  simp only[List.append_assoc,List.cons_append]
 rw[mA] at mi;obtain⟨c1,_z,n1,iE,rfl,rfl,d1,d23⟩:=mi.inv;have c9:c1.length=k*aA t+off:=by
  rw[d1.len,List.length_append,eG,List.length_take,List.length_take,fW,Nat.min_eq_left (Nat.le_of_lt hk),Nat.min_eq_left (Nat.le_of_lt ay)]
 cases d23 with
 |row b9 oo b_ ab hp h hr k'=>exact⟨e,v0,_,n1,_,c1,_,h0,eJ,hrow,c9,d1,⟨b_,ab,hp,h,hr⟩,k'⟩
 |leaf hp h k'=>cases hp
theorem rQ.ap2{av:Nat->Prop}{o:Nat}{t:aH}{xs:List (den t)}{k off:Nat}{x:den t}{u:aH}{ys:List (den u)}{e:TypeId}{v0 nv:Value}{n1 n2 c1 c2:List Value}(N:rQ w av B o t xs k off x u ys e v0 nv n1 n2 c1 c2):
  (∀b,bq nv=some b->b∈bJ (B o))/\(∀b,bq v0=some b->bq nv≠some b)/\(∀n,n∈n1->∀b,bq n=some b->bq nv≠some b)/\∀n,n∈n2->∀b,bq n=some b->bq nv≠some b:=by
 have eJ:=N.aaB;rw[N.vF] at eJ;simp only[bJ,List.flatMap_cons,List.flatMap_append] at eJ;obtain⟨a1,a2,a3⟩:=List.nodup_append.1 eJ;obtain⟨b1,b2,b3⟩:=List.nodup_append.1 a2;obtain⟨aya,ax9,c3⟩:=List.nodup_append.1 b2;refine⟨fun b hb=>by rw[N.vF];exact kb.2 (.inr ⟨nv,by simp,hb⟩),fun b hb hn=>?_,fun n hn b hb hv=>?_,fun n hn b hb hv=>?_⟩
 ·exact a3 b (by rw[hb];simp) b (List.mem_append.2 (.inr (List.mem_append.2 (.inl (by rw[hn];simp))))) rfl
 ·exact b3 b (List.mem_flatMap.2 ⟨n,hn,by rw[hb];simp⟩) b (List.mem_append.2 (.inl (by rw[hv];simp))) rfl
 ·exact c3 b (by rw[hv];simp) b (List.mem_flatMap.2 ⟨n,hn,by rw[hb];simp⟩) rfl
theorem Pu{C:Ctx}{D:Oper}{eu:Nat}{v:aI}(h:xc C st D=some (eu,v)):∃x,D.op=.move x/\D.dst=some eu/\D.guard=none/\Nat.blt eu st.nt=true/\v=aS C st D.type x:=by
 unfold xc at h;split at h
 ·rename_i x d ay Y hg;cases hb:Nat.blt d st.nt with
  |false=>rw[hb] at h;cases h
  |true=>
   rw[hb] at h;cases h;exact⟨x,ay,Y,hg,hb,rfl⟩
 ·cases h
theorem Ga{C:Ctx}{o1 gf o2:Oper}{q:r_}(h:uq C st o1 gf o2=some q):∃T a e sS b1 c g x,o1.op=.load T a/\o1.dst=some q.d1/\o1.guard=none/\o2.op=.call c/\o2.guard=none/\C.tt T=.slice e sS b1/\aS C st T a=.av (.ag (.eR q.o q.s q.t q.k q.off))/\
  st.aa q.o=some (.deep q.s q.t q.xs)/\c.callee=.value (.func g)/\c.args.toList=[.tmp q.d1,x]/\C.bM g=some q.S/\aS C (st.pf q) 0 x=.av (.ag (.d (.int q.i q.n)))/\Nat.blt q.d1 st.nt=true/\
  xc C (st.set q.d1 (bP .any)) gf=some (q.eu,q.v)/\q.eu≠q.d1:=by
 unfold uq at h;split at h
 ·rename_i T a d1 c Er hd1 hQ lD qT;split at h
  ·rename_i o s u k off ha;split at h
   ·rename_i au t xs g d2 x hs hc kN;split at h
    ·rename_i eu v hm;split at h
     ·rename_i e sS b1 i n S a_ hx ee;cases hb:(d2.beq d1&&au.beq s&&decide (t=u)&&Nat.blt d1 st.nt&&!eu.beq d1) with
      |false=>rw[hb] at h;cases h
      |true=>
       rw[hb] at h;simp only[cond_true,Option.some.injEq] at h;simp only[Bool.and_eq_true,decide_eq_true_eq,Bool.not_eq_true'] at hb;obtain⟨⟨⟨⟨q1,q2⟩,dq⟩,kB⟩,sU⟩:=hb;have q1:=Nat.eq_of_beq_eq_true q1;have q2:=Nat.eq_of_beq_eq_true q2;subst q1 q2 dq h;exact⟨T,a,e,sS,b1,c,g,x,Er,hd1,hQ,lD,qT,a_,ha,hs,hc,kN,ee,hx,kB,hm,fun e=>by
        have e:eu=_:=e;subst e;rw[Nat.beq_refl] at sU;cases sU⟩
     ·cases h
    ·cases h
   ·cases h
  ·cases h
 ·cases h
theorem ajS(S:ai O U X B st tm w){C:Ctx}{gf:Oper}{eu:Nat}{v:aI}(h:xc C st gf=some (eu,v)){K:Act->World->Prop}{Q:Exit->Act->World->Prop}
  (bC:∀dG,ai O U X B (st.set eu v) dG w->(∀t,t≠eu->dG.getD t undef=tm.getD t undef)->K ⟨dG,[]⟩ w):gf.wp P ⟨tm,[]⟩ w K Q:=by
 obtain⟨x,ay,Y,hg,hlt,rfl⟩:=Pu h;refine nW (vv:=Act.eval ⟨tm,[]⟩ x) ?_ (bC _ ?_ fun t ao=>?_)
 ·unfold execOp;simp only[ay,Sem.run_bind,Sem.run_pure]
 ·have nF:ce st gf.dst=true:=by rw[Y];exact hlt
  have:=ai.cm (us:=[]) S nF (de S C gf.type x);rw[Y] at this ⊢;exact this
 ·rw[Y];have:eu≠t:=fun e=>ao e.symm
  simp[cz,Array.getD_eq_getD_getElem?,Array.getElem?_setIfInBounds_ne this]
theorem ahQ(S:ai O U X B st tm w){C:Ctx}(H:bc P C){o1 gf o2:Oper}{q:r_}(al:uq C st o1 gf o2=some q){x:den q.t}(hx:q.xs[q.k]? =some x){u:aH}{ys:List (den u)}(hu:(enc q.t x)[q.off]? =some (.sl u ys))
  {K:Act->World->Prop} {Q:Exit->Act->World->Prop}
  (bC:∀dG,ai O U X B (st.set q.d1 (bP .any)) dG w->(∀t,t≠q.d1->dG.getD t undef=tm.getD t undef)->(∃e v0 n1 n2 c1 c2,rQ w (ar X B st.sites) B q.o q.t q.xs q.k q.off x u ys e v0 (dG.getD q.d1 undef) n1 n2 c1 c2)->K ⟨dG,[]⟩ w):o1.wp P ⟨tm,[]⟩ w K Q:=by
 obtain⟨T,a,fc,sS,b1,c,g,fy,Er,hd1,hQ,lD,qT,a_,ha,hs,hc,kN,ee,Mn,hlt,sE,hne⟩:=Ga al;have hl:look st.sites q.o=some (.deep q.s q.t q.xs):=hs;obtain⟨e,v0,nv,n1,n2,c1,c2,N⟩:=S.alt hl hx hu;have bv:=de S C T a;rw[ha] at bv;obtain⟨b,hv,hr⟩:=bv;obtain⟨n,awp,bX⟩:=Ref.at hr hl rfl;rw[N.vF] at bX;replace bX:v0=.slice (some ⟨b,0,none⟩) n awp:=bX
 have hcell:w.cell? ⟨b,q.k*aA q.t+q.off,none⟩=some nv:=by
  rcases N.row.2 with⟨h,_⟩|⟨cG,cap,cur,fz,h1,_,h2,_,_,_,h3⟩
  ·rw[h] at bX;cases bX
  ·rw[h1] at bX;cases bX;rw[cell_of_row w b _ cur e fz h2];have:(cur.toList.take (q.xs.length*aA q.t))[q.k*aA q.t+q.off]? =some nv:=by
    rw[h3,List.getElem?_append_right (by rw[N.len];exact Nat.le_refl _),N.len,Nat.sub_self]
    rfl
   rw[List.getElem?_take] at this;split at this
   ·simpa using this
   ·cases this
 have bL:=H.tt T;rw[a_] at bL;have cY:=s9 (P:=P) (w:=w) bL (by rintro h;cases h) ⟨b,q.k*aA q.t+q.off,none⟩ [nv] rfl (fun j y hy=>by
  match j,hy with
  |0,hy=>
   simp only[List.getElem?_cons_zero,Option.some.injEq] at hy;subst hy;rw[gV,Nat.add_zero];exact hcell)
 have apm:(cz tm o1.dst nv).getD q.d1 undef=nv:=by
  rw[hd1];have:q.d1<tm.size:=by rw[S.nt];exact Nat.le_of_ble_eq_true hlt
  simp[cz,Array.getD_eq_getD_getElem?,this]
 refine nW (vv:=nv) ?_ (bC _ ?_ (fun t ao=>?_) ?_)
 ·unfold execOp;simp only[Er,Instr.loadAt,Instr.sureAddr,hv,Sem.run_bind,Sem.run_pure,Result.andThen_ok,cY];rfl
 ·have Y:ce st o1.dst=true:=by rw[hd1];exact hlt
  have:=ai.cm (us:=[]) (v:=bP .any) (vv:=nv) S Y trivial;rw[hd1] at this ⊢;exact this
 ·rw[hd1];have:q.d1≠t:=fun e=>ao e.symm
  simp[cz,Array.getD_eq_getD_getElem?,Array.getElem?_setIfInBounds_ne this]
 ·rw[apm];exact⟨e,v0,n1,n2,c1,c2,N⟩
theorem ahP{dG:Array Value}{C:Ctx}(H:bc P C){o1 gf o2:Oper}{q:r_}(al:uq C st o1 gf o2=some q)(S:ai O U X B (st.pf q) dG w){x:den q.t}(hx:q.xs[q.k]? =some x){u:aH}{ys:List (den u)}(hu:(enc q.t x)[q.off]? =some (.sl u ys))
  {e:TypeId} {v0:Value} {n1 n2 c1 c2:List Value} (N:rQ w (ar X B st.sites) B q.o q.t q.xs q.k q.off x u ys e v0 (dG.getD q.d1 undef) n1 n2 c1 c2) {y:(q.S [.av (.ag (.fresh u ys)),.av (.ag (.d (.int q.i q.n)))]).J}
  (hy:(q.S [.av (.ag (.fresh u ys)),.av (.ag (.d (.int q.i q.n)))]).comp=some y) {d:aJ} {b9:aH} {oo:List (den b9)} (h1:(q.S [.av (.ag (.fresh u ys)),.av (.ag (.d (.int q.i q.n)))]).ft y=[.ag (.d d)]) (h2:(q.S [.av (.ag (.fresh u ys)),.av (.ag (.d (.int q.i q.n)))]).eg y=[])
  (h3:(q.S [.av (.ag (.fresh u ys)),.av (.ag (.d (.int q.i q.n)))]).e' y=[.fresh b9 oo]) {db:den q.t} (eM:dec q.t (bA (enc q.t x) q.off [.sl b9 oo])=some db) (mA:d.jh=true) (hh:b9.iv=false) (Y:ce st o2.dst=true)
  {K:Act->World->Prop} {Q:Exit->Act->World->Prop}
  (bC:∀aD bU w',ai O U X aD (((st.pf q).cm o2.dst (one d) [(q.o,.deep q.s q.t (q.xs.set q.k db))])) bU w'->K ⟨bU,[]⟩ w'):o2.wp P ⟨dG,[]⟩ w K Q:=by
 obtain⟨T,a,fc,sS,b1,c,g,fy,Er,hd1,hQ,lD,qT,a_,ha,hs,hc,kN,ee,Mn,hlt,sE,hne⟩:=Ga al;have hl:look (st.pf q).sites q.o=some (.deep q.s q.t q.xs):=hs;obtain⟨nv,yF⟩:∃nv,dG.getD q.d1 undef=nv:=⟨_,rfl⟩;rw[yF] at N;have N:rQ w (ar X B (st.pf q).sites) B q.o q.t q.xs q.k q.off x u ys e v0 nv n1 n2 c1 c2:=N;generalize DG:st.pf q=eo at S hl Mn N bC;have nF:ce eo o2.dst=true:=by rw[<-DG];exact Y
 obtain⟨aw,an,bo,cl⟩:=N.ap2;have gE:bY eo.sites q.o:=⟨_,hl,rfl⟩;have hk:q.k<q.xs.length:=(List.getElem?_eq_some_iff.1 hx).1;have ay:q.off<aA q.t:=by
  have:=(List.getElem?_eq_some_iff.1 hu).1;rwa[fW] at this
 have qI:=de S C 0 fy;rw[Mn] at qI;have apC:Act.eval ⟨dG,[]⟩ fy=.int q.i q.n:=by
  have qI:bm w _ (.int q.i q.n) (Act.eval ⟨dG,[]⟩ fy):=qI;generalize Act.eval ⟨dG,[]⟩ fy=v at qI;cases qI;rfl
 have hvs:c.args.toList.map (Act.eval ⟨dG,[]⟩)=[nv,.int q.i q.n]:=by
  rw[kN];simp only[List.map_cons,List.map_nil,apC];have:Act.eval ⟨dG,[]⟩ (.tmp q.d1)=nv:=yF;rw[this]
 have cY:(execOp (Act.eval ⟨dG,[]⟩) o2).run P w=(callFunc g #[nv,.int q.i q.n]).run P w:=by
  have hf:Act.eval ⟨dG,[]⟩ (.func g)=.func (.func g) #[] #[]:=rfl;have sZ:(#[]++c.args.map (Act.eval ⟨dG,[]⟩))++#[]=#[nv,.int q.i q.n]:=by
   apply Array.ext';simpa using hvs
  unfold execOp;simp only[lD,resolve,hc,hf,Deferred.ofValue,Sem.run_bind,Sem.run_pure,Result.andThen_ok,invoke,sZ]
 obtain⟨b_,ab,k2,hrow,dt⟩:=N.mid;obtain⟨c7,qW⟩:∃c7,(bq nv).toList=c7:=⟨_,rfl⟩;have Xd:∀b,b∈c7 <-> bq nv=some b:=fun b=>by rw[<-qW];simp
 obtain⟨X',oA⟩:∃X':Nat->Prop,∀b,X' b <-> (ar X B eo.sites b/\b∉c7):=⟨_,fun b=>Iff.rfl⟩
 have TC:∀{av b4:Nat->Prop} {w:World} {t:aH} {zs:List (den t)} {vs:List Value},(∀d,d∈flat t zs->d.plain=true)->cu w av (flat t zs) vs->cu w b4 (flat t zs) vs:=fun hp hr=>⟨hr.1,fun j g1 g2=>by
  have pD:=hp _ (List.getElem_mem g1);refine wq ?_ (hr.2 j g1 g2);generalize(flat _ _)[j]=zd at pD ⊢;cases zd<;>first|rfl|cases pD⟩
 have aj5:js w (fun b=>X' b\/b∈c7) [.av (.ag (.fresh u ys)),.av (.ag (.d (.int q.i q.n)))] [nv,.int q.i q.n] c7:=
  ⟨c7,[],by simp,⟨qW.symm,b_,ab,hrow,TC k2 dt⟩,[],[],rfl,⟨rfl,.int _ _⟩,rfl⟩
 have apP:∀b,X' b->b<w.heap.size:=fun b hb=>S.lt ((oA b).1 hb).1
 have hG:jc w c7 X':=by
  obtain⟨g1,g2⟩:=S.la;refine⟨g1,fun b hb h=>?_,fun b hb h=>(g2 b hb).1 ((oA b).1 h).1,fun b hb=>(g2 b hb).2⟩
  exact(g2 b hb).1 (.inr ⟨q.o,gE,aw b ((Xd b).1 h)⟩)
 have E:=H.bM g q.S ee _ y hy w X' [nv,.int q.i q.n] c7 aj5 (by rw[<-qW];cases bq nv<;>simp) (fun b hb hx=>((oA b).1 hx).2 hb) apP hG
 refine An (vs:=[nv,.int q.i q.n]) cY E ?_
 rintro v w' ⟨fl,eC,rv,aO,hB,dJ,rfl,axC,hm⟩;obtain⟨ga,z2,rfl,hb1,hb2⟩:=hB;rw[h2] at hb1;rw[h1] at dJ;rw[h3] at hb2;have ox:fY [.av (.ag (.fresh u ys)),.av (.ag (.d (.int q.i q.n)))] [nv,.int q.i q.n]=[nv]:=by
  simp only[fY,bH.cells,gR,az.tF,Bool.and_true,cond_false,cond_true,List.append_nil,Bool.true_and];exact GA (Fu hrow)
 rw[ox] at hb2;have hb2:gX w' (fun b=>X' b\/b∈ga++z2++eC) [.fresh b9 oo] [nv] z2:=hb2.resolve_left fun h=>by cases h.1
 obtain⟨eV,d',hz,⟨yt,e2,as5,am4,apj⟩,axV⟩:=hb2;match rv,dJ with
 |[v1],⟨a1,a2,axF,kr,MQ⟩=>
 have kr:a1=[]/\bm w' _ d v1:=kr;have atT:az.iv (.d d)=false:=by cases d<;>first|rfl|cases mA
 have yD:∀av,bm w' av d v1:=fun av=>wq atT kr.2
 have Dc:enc q.t db=(enc q.t x).take q.off++.sl b9 oo::(enc q.t x).drop (q.off+1):=by rw[o6 _ _ _ eM,Pj]
 have oi:flat q.t (q.xs.set q.k db)=(flat q.t (q.xs.take q.k)++(enc q.t x).take q.off)++(.sl b9 oo::((enc q.t x).drop (q.off+1)++flat q.t (q.xs.drop (q.k+1)))):=by
  rw[Am q.t hk,Dc];simp only[List.append_assoc,List.cons_append]
 have C8:∀b,b<w.heap.size->bq nv≠some b->w'.heap[b]? =w.heap[b]? :=fun b hb hn=>aO.block b hb fun h=>hn ((Xd b).1 h)
 have DA:∀b,b∈bJ (B q.o)->b<w.heap.size:=fun b hb=>S.eH gE hb
 have yp:∀n,n∈n1\/n∈n2->∀b,bq n=some b->b∈bJ (B q.o):=fun n hn b hb=>by
  rw[N.vF];exact kb.2 (.inr ⟨n,by simp only[List.mem_append,List.mem_cons];exact hn.imp id .inr,hb⟩)
 have G:=S.xZ (o:=q.o) (bF:=.deep q.s q.t (q.xs.set q.k db)) (nv:=B q.o) (w':=w') (ks:=[]) (K:=[q.o]) .nil (fun M=>by simp[keys];intro e;subst e;exact gE)
  (fun b hb hne=>C8 b hb fun h=>hne q.o (by simp) (aw b h)) aO.os aO.tape aO.output aO.size rfl (fun aa hs=>by rw[hl] at hs;cases hs;exact .inr ⟨rfl,rfl⟩)
  (fun b hb=>⟨Nat.lt_of_lt_of_le (DA b hb) aO.size,.inl ⟨q.o,by simp,hb⟩⟩) (fun {bw aD} ej go=>?_)
 ·have Kn:(fun M=>if M=q.o then B q.o else B M)=B:=by funext M;by_cases e:M=q.o<;>simp[e]
  rw[Kn] at G;exact bC B _ w' (ai.cm (us:=[(q.o,.deep q.s q.t (q.xs.set q.k db))]) G nF (v:=one d) (yD _))
 ·have kw:∀{d v},bm w (ar X B eo.sites) d v->bm _ (ar X aD bw) d v:=kK go;refine⟨e,v0,n1++nv::n2,c1++nv::c2,ej.trans N.vF,by rw[ej];exact N.aaB,?_,?_⟩
  ·rw[List.length_set];refine td N.row fun b hb=>C8 b (DA b ?_) (an b hb)
   rw[N.vF];exact kb.2 (.inl hb)
  ·rw[oi];refine(N.d1.map kw fun n hn b hb=>C8 b (DA b (yp n (.inl hn) b hb)) (bo n hn b hb)).cm (.row b9 oo e2 as5 (FK hh) am4 (TC (FK hh) apj) (N.d2.map kw fun n hn b hb=>C8 b (DA b (yp n (.inr hn) b hb)) (cl n hn b hb)))
end
def e4(r:Option Nat):Fence:={Fence.wide with round:=r}
abbrev gQ(r:Option Nat)(P:Program)(c:Code)(Q:Exit->Act->World->Prop)(a:Act)(w:World):Prop:=c.wpIn (e4 r) 0 P Q a w
theorem Ds(r:Option Nat)(f:FuncId):(e4 r).fn f:=trivial
theorem Tc(r:Option Nat)(n:Nat):(e4 r).room n:=fun _ h=>by simp[e4,Fence.wide] at h
theorem gQ.any{r:Option Nat}{P:Program}{c:Code}{Q:Exit->Act->World->Prop}{a:Act}{w:World}(h:gQ r P c Q a w)(n:Nat):c.wpIn (e4 r) n P Q a w:=
 fun b k cs My hb _=>h b k cs My hb (Tc r _)
theorem gQ.of{r:Option Nat}{P:Program}{c:Code}{Q:Exit->Act->World->Prop}{a:Act}{w:World}{n:Nat}(h:c.wpIn (e4 r) n P Q a w):gQ r P c Q a w:=
 fun b k cs My hb _=>h b k cs My hb (Tc r _)
theorem gQ.wp{P:Program}{c:Code}{Q:Exit->Act->World->Prop}{a:Act}{w:World}(h:gQ none P c Q a w):c.wp P Q a w:=(wpIn_wide (n:=0)).1 h
theorem aeA{r:Option Nat}{n:Nat}{P:Program}{f:FuncId}{args:Array Value}{w:World}{R:Ending->World->Prop}(h:Calls P f args w R):CallsIn (e4 r) n P f args w R:=by
 cases r with
 |none=>exact callsIn_wide.2 h
 |some l=>exact CallsIn.inRound l (callsIn_wide.2 h)
theorem afn{r:Option Nat}{n:Nat}{P:Program}{row:String}{args:Array Value}{w:World}{R:Value->World->Prop}(h:Rows P row args w R):RowsIn (e4 r) n P row args w R:=by
 intro c cs _;obtain⟨v,w',hr,hs⟩:=h c cs;exact⟨v,w',hr,stepsIn_wide.2 hs⟩
theorem wu(tm:Array Value)(ds:List Deferred)(dst:Option Nat)(v:Value):(⟨tm,ds⟩:Act).put dst v=⟨cz tm dst v,ds⟩:=by cases dst<;>rfl
theorem un{P:Program}{D:Oper}{tm:Array Value}{w:World}{K:Act->World->Prop}(bC:∀a w,K a w->a.defers=[])(h:D.wp P ⟨tm,[]⟩ w K (fun _ _ _=>False))(r:Option Nat)(ds:List Deferred){Q:Exit->Act->World->Prop}:
  D.wpIn (e4 r) 0 P ⟨tm,ds⟩ w (fun cP w'=>∃v,cP=⟨cz tm D.dst v,ds⟩/\K ⟨cz tm D.dst v,[]⟩ w') Q:=by
 refine⟨fun f _=>Ds r f,?_⟩
 have bv:(⟨tm,ds⟩:Act).eval=(⟨tm,[]⟩:Act).eval:=by funext x;cases x<;>rfl
 rw[bv];unfold Oper.wp at h;have Y:∀c,D.op≠.defer c:=by
  intro c ay;have:(execOp (Act.eval ⟨tm,[]⟩) D)=(do let d <-resolve (Act.eval ⟨tm,[]⟩) c D.type;pure (.defer d)):=by
   unfold execOp;simp only[ay]
  rw[this] at h;simp only[Sem.run_bind] at h;cases hr:(resolve (Act.eval ⟨tm,[]⟩) c D.type).run P w with
  |ok d w'=>
   rw[hr] at h;simp only[Result.andThen_ok,Sem.run_pure,Oper.upon] at h;have:=bC _ _ h;cases dy:D.dst<;>rw[dy] at this<;>simp[Act.put] at this
  |halt x w'=>
   rw[hr] at h;cases x<;>simp[Result.andThen,Oper.upon] at h
 rw[Oper.semAt_eq _ _ _ Y];generalize(execOp (Act.eval ⟨tm,[]⟩) D).run P w=ft at h;have hp:∀v,(⟨tm,ds⟩:Act).put D.dst v=⟨cz tm D.dst v,ds⟩:=wu tm ds D.dst;have pC:∀v,(⟨tm,[]⟩:Act).put D.dst v=⟨cz tm D.dst v,[]⟩:=wu tm [] D.dst;cases ft with
 |ok x w'=>
  cases x with
  |value v=>simp only[Oper.upon,Oper.uponIn,pC] at h ⊢;exact⟨v,hp v,h⟩
  |skip=>simp only[Oper.upon,Oper.uponIn,pC] at h ⊢;exact⟨undef,hp _,h⟩
  |defer d=>
   simp only[Oper.upon] at h;have:=bC _ _ h;cases dy:D.dst<;>rw[dy] at this<;>simp[Act.put] at this
  |enter f args=>
   simp only[Oper.upon,Oper.uponIn] at h ⊢;refine⟨fun h=>by simp[e4,Fence.wide] at h,(aeA h).mono fun e D4 he=>?_⟩
   cases e with
   |returned v=>simp only[pC] at he;exact⟨v,hp v,he⟩
   |panicked c=>exact he.elim
   |outgrown=>obtain⟨a0,O,al⟩:=he;exact al.elim
  |row row args=>
   simp only[Oper.upon,Oper.uponIn] at h ⊢;refine⟨fun h=>by simp[e4,Fence.wide] at h,(afn h).mono fun v D4 he=>?_⟩
   simp only[pC] at he;exact⟨v,hp v,he⟩
  |_=>simp only[Oper.upon] at h
 |halt x w'=>
  cases x<;>simp only[Oper.upon] at h
def ji:List Oper->List Nat
 |[]=>[]
 |D::r=>D.dst.toList++ji r
def ir:Nat:=1000000000
def cA:Code->List Nat
 |.region _ ops _=>ji ops.toList
 |.seq a b|.cond _ a b=>cA a++cA b
 |.block _ a|.loop a=>cA a
 |.rangeFunc _ ps a b=>ir::(ps.toList++(cA a++cA b))
 |_=>[]
def h4:Code->Bool
 |.seq a b|.cond _ a b=>h4 a&&h4 b
 |.block _ a|.loop a=>h4 a
 |.rangeFunc _ _ _ _=>false
 |_=>true
def mark(aJ:Nat):Deferred:={target:=.collected aJ,args:=#[]}
structure iS(O:World)(U:List Nat)(X:Nat->Prop)(aP:World)(dP:List Nat)(c_:Nat->Prop):Prop where
 cH:∀w,Fr dP aP w->Fr U O w
 cf:∀b,(b∈dP\/aP.heap.size<=b)->(b∈U\/O.heap.size<=b)
 x:∀b,X b->c_ b
structure Marks(O:World)(dR:List Nat)(aP:World)(dP:List Nat)(c_:Nat->Prop):Prop where
 nodup:dR.Nodup
 new:∀aJ,aJ∈dR->O.heap.size<=aJ
 iq:∀aJ,aJ∈dR->aP.heap[aJ]? =some (.deferred (some []))/\aJ∉dP/\c_ aJ
def eP(O:World)(U:List Nat)(X:Nat->Prop)(ds:List Deferred)(e8:Array Value)(W:List Nat)(st:af)(a:Act)(w:World):Prop:=
 ∃aP dP c_ B dR,iS O U X aP dP c_/\Marks O dR aP dP c_/\(a.defers=dR.map mark++ds/\(ir∉W->dR=[]))/\ai aP dP c_ B st a.tmps w/\∀t,t∉W->a.tmps.getD t undef=e8.getD t undef
def fL(O:World)(U:List Nat)(X:Nat->Prop)(ds:List Deferred)(e8:Array Value)(W:List Nat):Out->Exit->Act->World->Prop
 |.norm st,.normal,a,w=>eP O U X ds e8 W st a w
 |.exit id st,.exit jH,a,w=>id=jH/\eP O U X ds e8 W st a w
 |.ret st,.ret,a,w=>eP O U X ds e8 W st a w
 |_,_,_,_=>False
theorem iS.refl(O:World)(U:List Nat)(X:Nat->Prop):iS O U X O U X:=⟨fun _ h=>h,fun _ h=>h,fun _ h=>h⟩
theorem iS.trans{O aP w2:World}{U dP fk:List Nat}{X c_ cI:Nat->Prop}(h:iS O U X aP dP c_)(k:iS aP dP c_ w2 fk cI):iS O U X w2 fk cI:=
 ⟨fun w hw=>h.cH w (k.cH w hw),fun b hb=>h.cf b (k.cf b hb),fun b hb=>k.x b (h.x b hb)⟩
theorem Marks.nil(O aP:World)(U:List Nat)(X:Nat->Prop):Marks O [] aP U X:=⟨List.nodup_nil,fun _ h=>by simp at h,fun _ h=>by simp at h⟩
theorem Marks.lt{O aP:World}{U:List Nat}{X:Nat->Prop}{dR:List Nat}(h:Marks O dR aP U X){aJ:Nat}(fb:aJ∈dR):aJ<aP.heap.size:=by
 have:=(h.iq aJ fb).1;exact(Array.getElem?_eq_some_iff.1 this).1
theorem Marks.trans{O aP w2:World}{U dP fk:List Nat}{X c_ cI:Nat->Prop}{dR EO:List Nat}(hb:iS O U X aP dP c_)(h:Marks O dR aP dP c_)(k:iS aP dP c_ w2 fk cI)(m:Marks aP EO w2 fk cI):
  Marks O (EO++dR) w2 fk cI:=by
 have hf:Fr dP aP w2:=k.cH w2 (Fr.refl _ _);refine⟨List.nodup_append.2 ⟨m.nodup,h.nodup,fun a ha b hb e=>?_⟩,fun aJ fb=>?_,fun aJ fb=>?_⟩
 ·subst e;have h1:=m.new a ha;have h2:=h.lt hb;omega
 ·rcases List.mem_append.1 fb with fb|fb
  ·have h1:=m.new aJ fb;have h2:Fr U O aP:=hb.cH aP (Fr.refl _ _);have:=h2.size;omega
  ·exact h.new aJ fb
 ·rcases List.mem_append.1 fb with fb|fb
  ·exact m.iq aJ fb
  ·obtain⟨h1,h2,h3⟩:=h.iq aJ fb;have hlt:=h.lt fb;refine⟨(hf.block aJ hlt h2).trans h1,fun aE=>?_,k.x aJ h3⟩
   rcases k.cf aJ (.inl aE) with br|br
   ·exact h2 br
   ·omega
section
variable {O:World}{U:List Nat}{X:Nat->Prop}{ds:List Deferred}{e8:Array Value}{W:List Nat}
theorem eP.of{B:Nat->Value}{st:af}{tm:Array Value}{w:World}(S:ai O U X B st tm w)(ao:∀t,t∉W->tm.getD t undef=e8.getD t undef):eP O U X ds e8 W st ⟨tm,ds⟩ w:=
 ⟨O,U,X,B,[],iS.refl _ _ _,Marks.nil _ _ _ _,⟨rfl,fun _=>rfl⟩,S,ao⟩
theorem eP.mono{dd:List Nat}(h:∀t,t∈W->t∈dd){st:af}{a:Act}{w:World}(k:eP O U X ds e8 W st a w):eP O U X ds e8 dd st a w:=by
 obtain⟨aP,dP,c_,B,dR,h1,h2,h3,aE,br⟩:=k;exact⟨aP,dP,c_,B,dR,h1,h2,⟨h3.1,fun hn=>h3.2 fun ae=>hn (h _ ae)⟩,aE,fun t ao=>br t fun ae=>ao (h t ae)⟩
theorem fL.mono{dd:List Nat}(h:∀t,t∈W->t∈dd):∀{D:Out} {e:Exit} {a:Act} {w:World},fL O U X ds e8 W D e a w->fL O U X ds e8 dd D e a w:=by
 intro D e a w k;cases D<;>cases e<;>first|exact eP.mono h k|exact⟨k.1,eP.mono h k.2⟩|exact k.elim
theorem eP.trans{aP:World}{dP:List Nat}{c_:Nat->Prop}{dR:List Nat}{W1 j9:List Nat}{dG:Array Value}(hb:iS O U X aP dP c_)(hm:Marks O dR aP dP c_)(hr:ir∉W1->dR=[])(ao:∀t,t∉W1->dG.getD t undef=e8.getD t undef)
  {st:af} {a:Act} {w:World} (k:eP aP dP c_ (dR.map mark++ds) dG j9 st a w):eP O U X ds e8 (W1++j9) st a w:=by
 obtain⟨w2,fk,cI,B,EO,h1,h2,h3,aE,br⟩:=k;refine⟨w2,fk,cI,B,EO++dR,hb.trans h1,hm.trans hb h1 h2,⟨by rw[h3.1,List.map_append,List.append_assoc],fun hn=>by
  simp only[List.mem_append,not_or] at hn;rw[h3.2 hn.2,hr hn.1];rfl⟩,aE,fun t Ms=>?_⟩
 simp only[List.mem_append,not_or] at Ms;rw[br t Ms.2,ao t Ms.1]
theorem fL.trans{aP:World}{dP:List Nat}{c_:Nat->Prop}{dR:List Nat}{W1 j9:List Nat}{dG:Array Value}(hb:iS O U X aP dP c_)(hm:Marks O dR aP dP c_)(hr:ir∉W1->dR=[])(ao:∀t,t∉W1->dG.getD t undef=e8.getD t undef)
  {D:Out} {e:Exit} {a:Act} {w:World} (k:fL aP dP c_ (dR.map mark++ds) dG j9 D e a w):fL O U X ds e8 (W1++j9) D e a w:=by
 cases D<;>cases e<;>first|exact eP.trans hb hm hr ao k|exact⟨k.1,eP.trans hb hm hr ao k.2⟩|exact k.elim
end
def aX(P:Program)(c:Code)(f:ij):Prop:=
 ∀r,r=none\/h4 c=true->∀O U X st y,(f st).comp=some y->∀B tm w ds,ai O U X B st tm w->gQ r P c (fL O U X ds tm (cA c) ((f st).out y)) ⟨tm,ds⟩ w
def gY(P:Program)(C:iC):Code->Nat->Prop
 |.seq a b,p=>(∀f,C.pr p=some f->aX P (.seq a b) f)/\gY P C a (2*p)/\gY P C b (2*p+1)
 |.cond c a b,p=>(∀f,C.pr p=some f->aX P (.cond c a b) f)/\gY P C a (2*p)/\gY P C b (2*p+1)
 |.block id a,p=>(∀f,C.pr p=some f->aX P (.block id a) f)/\gY P C a (2*p)
 |c,p=>∀f,C.pr p=some f->aX P c f
def gF:Code->Nat->List (Nat×Code)
 |.seq a b,p=>(p,.seq a b)::(gF a (2*p)++gF b (2*p+1))
 |.cond c a b,p=>(p,.cond c a b)::(gF a (2*p)++gF b (2*p+1))
 |.block id a,p=>(p,.block id a)::gF a (2*p)
 |c,p=>[(p,c)]
theorem SG{P:Program}{C:iC}:∀(c:Code) (p:Nat),(∀q fV,(q,fV)∈gF c p->∀f,C.pr q=some f->aX P fV f)->gY P C c p:=by
 intro c;induction c with
 |seq a b nr sr=>
  intro p h;simp only[gF] at h;exact⟨h p _ List.mem_cons_self,nr _ fun q fV hm=>h q fV (List.mem_cons_of_mem _ (List.mem_append.2 (.inl hm))),sr _ fun q fV hm=>h q fV (List.mem_cons_of_mem _ (List.mem_append.2 (.inr hm)))⟩
 |cond D a b nr sr=>
  intro p h;simp only[gF] at h;exact⟨h p _ List.mem_cons_self,nr _ fun q fV hm=>h q fV (List.mem_cons_of_mem _ (List.mem_append.2 (.inl hm))),sr _ fun q fV hm=>h q fV (List.mem_cons_of_mem _ (List.mem_append.2 (.inr hm)))⟩
 |block id a nr=>
  intro p h;simp only[gF] at h;exact⟨h p _ List.mem_cons_self,nr _ fun q fV hm=>h q fV (List.mem_cons_of_mem _ hm)⟩
 |_=>intro p h;exact h p _ (by simp[gF])
section
variable {P:Program}{O:World}{U:List Nat}{X:Nat->Prop}{B:Nat->Value}{st:af}{tm:Array Value}{w:World}
theorem ai.mT(S:ai O U X B st tm w){t:Nat}{v:aI}(hv:cj B st.sites w (ar X B st.sites) v (tm.getD t undef)):ai O U X B (st.set t v) tm w:=by
 refine⟨S.nt,fun u=>?_,S.sites,S.dC,S.cf,S.frame,S.old,S.fC⟩
 rw[af.I_];by_cases h:t=u
 ·subst h;simp only[if_true];exact hv
 ·simp only[h,if_false];exact S.cO u
variable {R:Type}{C:Ctx}{ops:Array Oper}
theorem Qk(S:ai O U X B st tm w)(H:bc P C){D:Oper}{K:af->Option R}{r:R}(h:lh C st D K=some r){N:Act->World->Prop}{Q:Exit->Act->World->Prop}
  (bC:∀ah aD bU w',K ah=some r->ai O U X aD ah bU w'->N ⟨bU,[]⟩ w'):D.wp P ⟨tm,[]⟩ w N Q:=by
 unfold lh at h;cases Y:ce st D.dst with
 |false=>simp[Y] at h
 |true=>
  simp only[Y,cond_true] at h;have hs:=aiR S H Y;cases hc:(step C st D).comp with
  |none=>simp[hc] at h
  |some y=>
   simp only[hc,Option.bind_some] at h;cases hk:(step C st D).sM y with
   |false=>simp[hk] at h
   |true=>
    simp only[hk,cond_true] at h;exact hs y hc hk N Q fun aD bU w' b7=>bC _ aD bU w' h b7
theorem adR{T e:TypeId}(h:P.underlying T=some (.slice e))(a:Option Addr)(n c:Nat)(neg:Bool):
  (binOp (if neg then .neq else .eql) T (.slice a n c) (.slice none 0 0)).run P w=.ok (.bool (if neg then !a.isNone else a.isNone)) w:=by
 have e:(Op.equal T (.slice a n c) (.slice none 0 0)).run P w=.ok a.isNone w:=by
  have key:∀d:Nat,(Op.equalIn (d+1) T (.slice a n c) (.slice none 0 0)).run P w=.ok a.isNone w:=fun d=>by cases a<;>simp[Op.equalIn,run_underlying h]
  exact key 9999
 cases neg
 ·show((do pure (.bool (<-Op.equal T (.slice a n c) (.slice none 0 0)))):Sem Value).run P w=_
  simp only[Sem.run_bind,e,Result.andThen_ok,Sem.run_pure];rfl
 ·show((do pure (.bool (!(<-Op.equal T (.slice a n c) (.slice none 0 0))))):Sem Value).run P w=_
  simp only[Sem.run_bind,e,Result.andThen_ok,Sem.run_pure];rfl
theorem aa4{op:BinOp}{T:TypeId}{x y:Operand}{a b:Option Addr}{n c mF fV:Nat}:(eqGuard op T x y (.slice a n c) (.slice b mF fV)).run P w=.ok () w:=by
 unfold eqGuard;cases op<;>rfl
theorem ad6{D:Oper}{t:aH}{xs:List (den t)}{neg:Bool}(h:JM C st D=some (⟨t,xs⟩,neg)):∃T x oF e ty bytes,D.op=.binOp (if neg then .neq else .eql) T x (.const (.slice none 0 0)) oF/\C.tt T=.slice e ty bytes/\aS C st T x=.av (.ag (.d (.sl t xs))):=by
 unfold JM at h;split at h
 ·rename_i op T x oF ay;split at h
  ·rename_i e ty bytes a_;split at h
   ·split at h
    ·rename_i be iT hx;cases h;exact⟨T,x,oF,e,ty,bytes,ay,a_,hx⟩
    ·cases h
   ·split at h
    ·rename_i be iT hx;cases h;exact⟨T,x,oF,e,ty,bytes,ay,a_,hx⟩
    ·cases h
   ·cases h
  ·cases h
 ·cases h
theorem abw{t:aH}{xs:List (den t)}{a b:Option R}{r:R}(h:rm xs a b=some r):b=some r/\(xs=[]->a=some r):=by
 unfold rm at h;split at h
 ·rename_i _m;exact⟨h,fun he=>(_m he).trans h⟩
 ·cases h
theorem aha(S:ai O U X B st tm w)(H:bc P C){D:Oper}{K:af->Option R}{r:R}(h:xo C st D K=some r){N:Act->World->Prop}{Q:Exit->Act->World->Prop}
  (bC:∀ah aD bU w',K ah=some r->ai O U X aD ah bU w'->N ⟨bU,[]⟩ w'):D.wp P ⟨tm,[]⟩ w N Q:=by
 unfold xo at h;split at h
 ·rename_i t xs neg hn;cases Y:ce st D.dst with
  |false=>simp[Y] at h
  |true=>
   simp only[Y,cond_true] at h;obtain⟨h2,h1⟩:=abw h;obtain⟨T,x,oF,e,ty,bytes,ay,a_,hx⟩:=ad6 hn;have hs:=de S C T x;rw[hx] at hs;have bL:=H.tt T;rw[a_] at bL;have run:∀{a:Option Addr} {n c:Nat},Act.eval ⟨tm,[]⟩ x=.slice a n c->(execOp (Act.eval ⟨tm,[]⟩) D).run P w=.ok (.value (.bool (if neg then !a.isNone else a.isNone))) w:=by
    intro a n c hv;unfold execOp;have hc:Act.eval ⟨tm,[]⟩ (.const (.slice none 0 0))=.slice none 0 0:=rfl;simp only[ay,hv,hc,Sem.run_bind,aa4,adR bL.1.1,Result.andThen_ok,Sem.run_pure]
   have fin:∀b:Bool,(execOp (Act.eval ⟨tm,[]⟩) D).run P w=.ok (.value (.bool b)) w->K (st.cm D.dst (one (.bool b)) [])=some r->D.wp P ⟨tm,[]⟩ w N Q:=by
    intro b hr hk;refine nW hr (bC _ _ _ _ hk (ai.cm (us:=[]) S Y ?_));exact bm.bool b
   have hs:bm w (ar X B st.sites) (.sl t xs) (Act.eval ⟨tm,[]⟩ x):=hs;generalize jB:Act.eval ⟨tm,[]⟩ x=v at hs;cases hs with
   |nil=>
    have:=run jB;cases neg
    ·exact fin true this (h1 rfl)
    ·exact fin false this (h1 rfl)
   |sl t xs a cap cs n fv hcap hb hl hc hr=>
    have:=run jB;cases neg
    ·exact fin false this h2
    ·exact fin true this h2
 ·exact Qk S H h bC
theorem aff(S:ai O U X B st tm w){D:Oper}{K:af->Option R}{r:R}(h:tX st D K=some r){N:Act->World->Prop}
  (bC:∀ah aD bU w',K ah=some r->ai O U X aD ah bU w'->N ⟨bU,[]⟩ w'):N ((⟨tm,[]⟩:Act).put D.dst undef) w:=by
 unfold tX at h;cases Y:ce st D.dst with
 |false=>simp[Y] at h
 |true=>
  simp only[Y,cond_true] at h;have:(⟨tm,[]⟩:Act).put D.dst undef=⟨cz tm D.dst undef,[]⟩:=by cases D.dst<;>rfl
  rw[this];exact bC _ _ _ _ h (ai.cm (us:=[]) S Y rfl)
theorem iK{tm:Array Value}{dst:Option Nat}{v:Value}{t:Nat}(h:t∉dst.toList):(cz tm dst v).getD t undef=tm.getD t undef:=by
 cases dst with
 |none=>rfl
 |some d=>
  have:d≠t:=fun e=>h (by simp[e])
  simp[cz,Array.getD_eq_getD_getElem?,Array.getElem?_setIfInBounds_ne this]
variable {rn:Option Nat}{ds:List Deferred}
theorem G3(S:ai O U X B st tm w)(H:bc P C){D:Oper}{K:af->Option R}{r:R}(h:xo C st D K=some r){N:Act->World->Prop}{Q:Exit->Act->World->Prop}
  (bC:∀ah aD bU w',K ah=some r->ai O U X aD ah bU w'->(∀t,t∉D.dst.toList->bU.getD t undef=tm.getD t undef)->N ⟨bU,ds⟩ w'):D.wpIn (e4 rn) 0 P ⟨tm,ds⟩ w N Q:=by
 refine Oper.wpIn_mono ?_ (un (K:=fun a w=>a.defers=[]/\∃ah aD,K ah=some r/\ai O U X aD ah a.tmps w) (fun _ _ h=>h.1) (aha S H h fun ah aD bU w' hk b7=>⟨rfl,ah,aD,hk,b7⟩) rn ds)
 rintro a w' ⟨v,rfl,_,ah,aD,hk,b7⟩;exact bC ah aD _ w' hk b7 fun t ao=>iK ao
theorem oP(S:ai O U X B st tm w)(H:bc P C){D:Oper}{K:af->Option R}{r:R}(h:lh C st D K=some r){N:Act->World->Prop}{Q:Exit->Act->World->Prop}
  (bC:∀ah aD bU w',K ah=some r->ai O U X aD ah bU w'->(∀t,t∉D.dst.toList->bU.getD t undef=tm.getD t undef)->N ⟨bU,ds⟩ w'):D.wpIn (e4 rn) 0 P ⟨tm,ds⟩ w N Q:=by
 refine Oper.wpIn_mono ?_ (un (K:=fun a w=>a.defers=[]/\∃ah aD,K ah=some r/\ai O U X aD ah a.tmps w) (fun _ _ h=>h.1) (Qk S H h fun ah aD bU w' hk b7=>⟨rfl,ah,aD,hk,b7⟩) rn ds)
 rintro a w' ⟨v,rfl,_,ah,aD,hk,b7⟩;exact bC ah aD _ w' hk b7 fun t ao=>iK ao
theorem zR(S:ai O U X B st tm w){D:Oper}{K:af->Option R}{r:R}(h:tX st D K=some r){N:Act->World->Prop}
  (bC:∀ah aD bU w',K ah=some r->ai O U X aD ah bU w'->(∀t,t∉D.dst.toList->bU.getD t undef=tm.getD t undef)->N ⟨bU,ds⟩ w'):N ((⟨tm,ds⟩:Act).put D.dst undef) w:=by
 rw[wu];refine aff (N:=fun a w=>∀t0,a.tmps=t0->t0=cz tm D.dst undef->N ⟨t0,ds⟩ w) S h (fun ah aD bU w' hk b7 t0 e1 e2=>?_) (cz tm D.dst undef) (by rw[wu]) rfl
 subst e1;exact bC ah aD _ w' hk b7 fun t ao=>by have e2:bU=cz tm D.dst undef:=e2;rw[e2];exact iK ao
theorem acU{D:Oper}{r:List Oper}{K:af->Option R}{y:R}(h:nZ C ops (D::r) st K=some y):wU C ops st D (fun ah=>nZ C ops r ah K)=some y\/
  ∃gf o2 r2 q,r=gf::o2::r2/\uq C st D gf o2=some q/\SI st o2 q (fun ah=>nZ C ops r2 ah K)=some y:=by
 match r,h with
 |[],h=>exact .inl h
 |[o2],h=>exact .inl h
 |gf::o2::r2,h=>
  simp only[nZ] at h;split at h
  ·rename_i q al;exact .inr ⟨gf,o2,r2,q,rfl,al,h⟩
  ·exact .inl h
theorem afm(H:bc P C){r:R}{W:List Nat}:∀(n k:Nat),ops.size=k+n->(∀D,D∈ops.toList.drop k->∀t,t∈D.dst.toList->t∈W)->∀(st:af) (B:Nat->Value) (tm:Array Value) (w:World) (K:af->Option R) (Q:Exit->Act->World->Prop),ai O U X B st tm w->
  nZ C ops (ops.toList.drop k) st K=some r->(∀ah aD bU w',K ah=some r->ai O U X aD ah bU w'->(∀t,t∉W->bU.getD t undef=tm.getD t undef)->Q .normal ⟨bU,ds⟩ w')->wpOpsIn (e4 rn) 0 P ops Q (List.range' k n) ⟨tm,ds⟩ w:=by
 intro n;induction n using Nat.strongRecOn with
 |ind n ih=>
 intro k hk hW st B tm w K Q S h bC;match n,ih,hk with
 |0,ih,hk=>
  rw[List.drop_eq_nil_of_le (by simp;omega)] at h
  exact bC st B tm w h S fun _ _=>rfl
 |n+1,ih,hk=>
  have hlt:k<ops.size:=by omega
  have ay:ops[k]? =some ops[k]:=Array.getElem?_eq_getElem hlt;have xz:ops.toList.drop k=ops[k]::ops.toList.drop (k+1):=by
   rw[List.drop_eq_getElem_cons (by simpa using hlt)];simp
  rw[xz] at h hW;rw[show List.range' k (n+1)=k::List.range' (k+1) n from rfl]
  simp only[wpOpsIn,ay];rcases acU h with h|⟨gf,o2,r2,q,yC,al,h⟩
  rotate_left
  ·-- three at axr
   have hlt2:k+1<ops.size/\k+2<ops.size:=by
    have:=congrArg List.length yC;simp at this;omega
   have lD:ops[k+1]? =some (ops[k+1]'hlt2.1):=Array.getElem?_eq_getElem hlt2.1;have Z9:ops[k+2]? =some (ops[k+2]'hlt2.2):=Array.getElem?_eq_getElem hlt2.2;have alH:ops.toList.drop (k+1)=(ops[k+1]'hlt2.1)::(ops[k+2]'hlt2.2)::ops.toList.drop (k+3):=by
    rw[List.drop_eq_getElem_cons (by simpa using hlt2.1),List.drop_eq_getElem_cons (by simpa using hlt2.2)];simp
   rw[alH] at yC hW;obtain⟨e1,atu⟩:=List.cons.inj yC;obtain⟨e2,bp⟩:=List.cons.inj atu;subst e1 e2 bp;obtain⟨mF,rfl⟩:∃mF,n=mF+2:=⟨n-2,by omega⟩
   have EC:=hW _ List.mem_cons_self;have _n:=hW _ (List.mem_cons_of_mem _ List.mem_cons_self);have XA:=hW _ (List.mem_cons_of_mem _ (List.mem_cons_of_mem _ List.mem_cons_self));have yO:=fun D ay=>hW D (List.mem_cons_of_mem _ (List.mem_cons_of_mem _ (List.mem_cons_of_mem _ ay)))
   generalize(ops[k+1]'hlt2.1)=gf at al _n lD;generalize(ops[k+2]'hlt2.2)=o2 at h al XA Z9;generalize ops[k]=D at al EC ⊢;obtain⟨_,_,_,_,_,_,_,_,_,hd1,hQ,_,qT,_,_,_,_,_,_,_,_,sE,hne⟩:=Ga al;obtain⟨_,_,ax1,atN,_,_⟩:=Pu sE;rw[if_pos (by simp[Region.wanted,hQ])]
   obtain⟨x,hx,h⟩:=Option.bind_eq_some_iff.1 h;split at h
   ·rename_i u ys hu;obtain⟨y,hy,h⟩:=Option.bind_eq_some_iff.1 h;unfold US at h;split at h
    ·rename_i d b9 oo h1 h2 h3;split at h
     ·rename_i db eM;cases hb:(d.jh&&!b9.iv&&ce st o2.dst) with
      |false=>rw[hb] at h;cases h
      |true=>
       rw[hb] at h;simp only[cond_true] at h;simp only[Bool.and_eq_true,Bool.not_eq_true'] at hb;obtain⟨⟨b1,b2⟩,b3⟩:=hb;refine Oper.wpIn_mono ?_ (un (K:=fun a aP=>a.defers=[]/\aP=w/\ai O U X B (st.set q.d1 (bP .any)) a.tmps w/\(∀t,t≠q.d1->a.tmps.getD t undef=tm.getD t undef)/\
        ∃e v0 n1 n2 c1 c2,rQ w (ar X B st.sites) B q.o q.t q.xs q.k q.off x u ys e v0 (a.tmps.getD q.d1 undef) n1 n2 c1 c2) (fun _ _ h=>h.1) (ahQ S H al hx hu fun dG q1 q2 dq=>⟨rfl,rfl,q1,q2,dq⟩) rn ds)
       rintro a aP ⟨v,rfl,_,rfl,dk,kept,e,v0,n1,n2,c1,c2,N⟩;rw[show List.range' (k+1) (mF+2)=(k+1)::(k+2)::List.range' (k+3) mF from rfl]
       simp only[wpOpsIn,lD,Z9];rw[if_pos (by simp[Region.wanted,atN])]
       refine Oper.wpIn_mono ?_ (un (K:=fun a w2=>a.defers=[]/\w2=aP/\ai O U X B (st.pf q) a.tmps aP/\(∀t,t≠q.eu->a.tmps.getD t undef=(cz tm D.dst v).getD t undef)) (fun _ _ h=>h.1) (ajS dk sE fun dG q1 q2=>⟨rfl,rfl,q1,q2⟩) rn ds)
       rintro a w2 ⟨v1,rfl,_,rfl,au3,amZ⟩;rw[if_pos (by simp[Region.wanted,qT])]
       rw[<-amZ q.d1 (fun e=>hne e.symm)] at N
       refine Oper.wpIn_mono ?_ (un (K:=fun a aP=>a.defers=[]/\∃aD,ai O U X aD (((st.pf q).cm o2.dst (one d) [(q.o,.deep q.s q.t (q.xs.set q.k db))])) a.tmps aP) (fun _ _ h=>h.1)
        (ahP H al au3 hx hu N hy h1 h2 h3 eM b1 b2 b3 fun aD bU w' b7=>⟨rfl,aD,b7⟩) rn ds)
       rintro a cr ⟨v2,rfl,_,aD,gP⟩;refine ih mF (by omega) (k+3) (by omega) yO _ aD _ cr K Q gP h fun so gJ oq pP hk2 jM yB=>bC so gJ oq pP hk2 jM fun t sw=>?_
       rw[yB t sw,iK fun ae=>sw (XA t ae),iK fun ae=>sw (_n t ae)]
       exact iK fun ae=>sw (EC t ae)
     ·cases h
    ·cases h
   ·cases h
  have EC:=hW _ List.mem_cons_self;have yO:=fun D ay=>hW D (List.mem_cons_of_mem _ ay)
  have next:∀ah aD bU w',nZ C ops (ops.toList.drop (k+1)) ah K=some r->ai O U X aD ah bU w'->(∀t,t∉(ops[k]).dst.toList->bU.getD t undef=tm.getD t undef)->wpOpsIn (e4 rn) 0 P ops Q (List.range' (k+1) n) ⟨bU,ds⟩ w':=
   fun ah aD bU w' ae b7 ao=>ih n (by omega) (k+1) (by omega) yO ah aD bU w' K Q b7 ae fun so gJ oq w2 hk2 gP yB=>bC so gJ oq w2 hk2 gP fun t sw=>(yB t sw).trans (ao t fun ae=>sw (EC t ae))
  generalize ops[k]=D at h next ⊢
  have pS:∀f,D.about P w (Act.eval ⟨tm,ds⟩)=some f->(e4 rn).fn f:=fun f _=>Ds rn f
  unfold wU at h;cases hg:D.guard with
  |none=>
   simp only[hg] at h;rw[if_pos (by simp[Region.wanted,hg])]
   exact G3 S H h next
  |some NA=>
   obtain⟨j,want⟩:=NA;simp only[hg] at h;have hw:Region.wanted D (yielded ops tm)=(yielded ops tm j==some want):=by simp[Region.wanted,hg]
   cases hj:(ops[j]?).bind (·.dst) with
   |none=>simp[hj] at h
   |some t=>
    simp only[hj] at h;have jT:=S.cO t;split at h
    ·rename_i b hb;rw[hb] at jT;have hv:=ke jT;have hy:yielded ops tm j=some b:=by
      have ao:t<tm.size:=by
       rcases Nat.lt_or_ge t tm.size with ae|ae
       ·exact ae
       ·simp[Array.getD,Nat.not_lt.2 ae,undef] at hv
      have:tm[t]? =some (.bool b):=by
       rw[Array.getElem?_eq_getElem ao];simpa[Array.getD,ao] using hv
      simp[yielded,hj,this]
     rw[hy] at hw;have go:∀bf,b=bf->ai O U X B (st.set t (one (.bool bf))) tm w:=fun bf e=>S.mT (by rw[hv,e];exact .bool _)
     cases b<;>cases want<;>simp only[cond_true,cond_false,Bool.not_true,Bool.not_false] at h
     ·rw[if_pos (by rw[hw];rfl)];exact G3 (go false rfl) H h next
     ·rw[if_neg (by rw[hw];decide)];exact⟨pS,zR (go false rfl) h next⟩
     ·rw[if_neg (by rw[hw];decide)];exact⟨pS,zR (go true rfl) h next⟩
     ·rw[if_pos (by rw[hw];rfl)];exact G3 (go true rfl) H h next
    ·rename_i x hb;rw[hb] at jT;have hv:tm.getD t undef=.tuple x:=jT;have hy:yielded ops tm j=none:=by
      simp only[yielded,hj,Option.bind_some];cases ao:tm[t]? with
      |none=>rfl
      |some v=>
       have:tm.getD t undef=v:=by simp[Array.getD_eq_getD_getElem?,ao]
       rw[this] at hv;rw[hv]
     rw[hy] at hw;rw[if_neg (by rw[hw];simp)]
     exact⟨pS,zR S h next⟩
    ·cases h
end
abbrev pV:=Nat⊕Nat
def ez(st:af):pV->aI⊕Option Site
 |.inl t=>.inl (st.get t)
 |.inr o=>.inr (st.aa o)
def oT{aB:Type}:List (Nat×aB)->Nat->Option aB
 |[],_=>none
 |(k,v)::r,n=>match oT r n with
  |some x=>some x
  |none=>bif k.beq n then some v else none
def Rec.wr(x:Rec):pV->Option (aI⊕Option Site)
 |.inl t=>match x.D.dst with
  |some d=>bif d.beq t then some (.inl x.v) else none
  |none=>none
 |.inr o=>(oT x.us o).map fun s=>.inr (some s)
theorem ae5:∀(us:List (Nat×Site)) (st:af) (o:Nat),(st.iP us).aa o=match oT us o with|some s=>some s|none=>st.aa o:=by
 intro us;induction us with
 |nil=>intro st o;rfl
 |cons p us ih=>
  obtain⟨k,s⟩:=p;intro st o;simp only[af.iP,ih,oT];cases oT us o with
  |some x=>rfl
  |none=>
   simp only[af.nP];by_cases h:k=o
   ·subst h;simp
   ·simp[h,ko h]
theorem Q3:∀(us:List (Nat×Site)) (st:af) (t:Nat),(st.iP us).get t=st.get t:=by
 intro us;induction us with
 |nil=>intro st t;rfl
 |cons p us ih=>intro st t;simp only[af.iP,ih,af.adf]
theorem R6:∀(us:List (Nat×Site)) (st:af),(st.iP us).nt=st.nt:=by
 intro us;induction us with
 |nil=>intro st;rfl
 |cons p us ih=>intro st;simp only[af.iP,ih,af.ad5]
theorem Kd(st:af)(d:Option Nat)(v:aI)(us:List (Nat×Site)):(st.cm d v us).nt=st.nt:=by
 cases d<;>simp only[af.cm,af.als,R6]
theorem Ap(st:af)(x:Rec)(l:pV):ez (st.cm x.D.dst x.v x.us) l=match x.wr l with|some u=>u|none=>ez st l:=by
 cases l with
 |inl t=>
  simp only[ez,Rec.wr];cases x.D.dst with
  |none=>simp only[af.cm,Q3]
  |some d=>
   simp only[af.cm,af.I_,Q3];by_cases h:d=t
   ·subst h;simp
   ·simp[h,ko h]
 |inr o=>
  simp only[ez,Rec.wr];have:(st.cm x.D.dst x.v x.us).aa o=(st.iP x.us).aa o:=by cases x.D.dst<;>simp only[af.cm,af.ag7]
  rw[this,ae5];cases oT x.us o<;>rfl
def eK(L:Nat->Bool):Nat->List Rec->af->af
 |_,[],st=>st
 |k,x::r,st=>eK L (k+1) r (bif L k then st.cm x.D.dst x.v x.us else st)
theorem HP{L:Nat->Bool}:∀{xs:List Rec} {k:Nat} {st:af},(eK L k xs st).nt=st.nt:=by
 intro xs;induction xs with
 |nil=>intro k st;rfl
 |cons x xs ih=>intro k st;simp only[eK,ih];cases L k<;>simp[Kd]
theorem FN{L L':Nat->Bool}:∀{xs:List Rec} {k:Nat} {st ah:af} {l:pV},ez st l=ez ah l->(∀j x,xs[j]? =some x->x.wr l≠none->L (k+j)=L' (k+j))->ez (eK L k xs st) l=ez (eK L' k xs ah) l:=by
 intro xs;induction xs with
 |nil=>intro k st ah l h _;exact h
 |cons x xs ih=>
  intro k st ah l h dQ;simp only[eK];refine ih ?_ fun j y hy hw=>?_
  ·cases hw:x.wr l with
   |none=>
    have e1:∀s:af,ez (s.cm x.D.dst x.v x.us) l=ez s l:=fun s=>by rw[Ap,hw]
    cases L k<;>cases L' k<;>simp only[cond_true,cond_false,e1,h]
   |some u=>
    have:=dQ 0 x rfl (by rw[hw];intro h;cases h)
    simp only[Nat.add_zero] at this;rw[this];cases L' k with
    |true=>simp only[cond_true,Ap,hw]
    |false=>simp only[cond_false,h]
  ·have:=dQ (j+1) y (by simpa using hy) hw
   rw[show k+(j+1)=k+1+j from by omega] at this
   exact this
theorem FO{xs:List Rec}:∀{k:Nat} {st:af} {L:Nat->Bool},(∀j,k<=j->L j=false)->eK L k xs st=st:=by
 induction xs with
 |nil=>intro k st L _;rfl
 |cons x xs ih=>
  intro k st L h;simp only[eK,h k (Nat.le_refl _),cond_false];exact ih fun j hj=>h j (by omega)
theorem O3{L L':Nat->Bool}:∀{xs:List Rec} {k k':Nat} {st:af},(∀j,j<xs.length->L (k+j)=L' (k'+j))->eK L k xs st=eK L' k' xs st:=by
 intro xs;induction xs with
 |nil=>intro k k' st _;rfl
 |cons x xs ih=>
  intro k k' st h;simp only[eK];have h0:=h 0 (by simp)
  simp only[Nat.add_zero] at h0;rw[h0];exact ih fun j hj=>by have:=h (j+1) (by simpa using hj);rw[show k+(j+1)=k+1+j from by omega,show k'+(j+1)=k'+1+j from by omega] at this;exact this
theorem aeD{L:Nat->Bool}:∀{xs:List Rec} {k i:Nat} {st:af} {l:pV} {x:Rec} {u:aI⊕Option Site},xs[i]? =some x->L (k+i)=true->x.wr l=some u->
  (∀j y,i<j->xs[j]? =some y->y.wr l≠none->L (k+j)=false)->ez (eK L k xs st) l=u:=by
 intro xs;induction xs with
 |nil=>intro k i st l x u h;cases h
 |cons y xs ih=>
  intro k i st l x u h dQ hw hj;simp only[eK];cases i with
  |zero=>
   simp only[List.getElem?_cons_zero,Option.some.injEq] at h;subst h;simp only[Nat.add_zero] at dQ;rw[dQ];simp only[cond_true];have e:ez (st.cm y.D.dst y.v y.us) l=u:=by rw[Ap,hw]
   rw[<-e];have e2:st.cm y.D.dst y.v y.us=eK (fun _=>false) (k+1) xs (st.cm y.D.dst y.v y.us):=(FO fun _ _=>rfl).symm
   conv=>rhs;rw[e2]
   refine FN rfl fun j z hz Mo=>?_
   have:=hj (j+1) z (by omega) (by simpa using hz) Mo
   rw[show k+(j+1)=k+1+j from by omega] at this
   exact this
  |succ i=>
   refine ih (by simpa using h) (by rw[show k+1+i=k+(i+1) from by omega];exact dQ) hw fun j z qR hz Mo=>?_
   have:=hj (j+1) z (by omega) (by simpa using hz) Mo
   rw[show k+(j+1)=k+1+j from by omega] at this
   exact this
section
variable {P:Program}{ops:Array Oper}
def D0(ops:Array Oper)(L:Nat->Bool)(i:Nat):Prop:=∀D,ops[i]? =some D->∀e,e∈D.after.toList->Region.binds .any e=true->L e.on=true
def C1(ops:Array Oper)(L:Nat->Bool):Prop:=∀j,L j=true->D0 ops L j
def vA(ops:Array Oper)(k i:Nat):Prop:=∀L,C1 ops L->D0 ops L i->L k=true
theorem SN{aB:Type}{l:List (Nat×aB)}{n:Nat}{v:aB}(h:look l n=some v):(n,v)∈l:=by
 induction l with
 |nil=>cases h
 |cons p l ih=>
  obtain⟨m,u⟩:=p;simp only[look] at h;cases hb:m.beq n with
  |true=>
   simp only[hb,cond_true,Option.some.injEq] at h;rw[<-Nat.eq_of_beq_eq_true hb,h];exact List.mem_cons_self
  |false=>simp only[hb,cond_false] at h;exact List.mem_cons_of_mem _ (ih h)
theorem aix{acc:List (Nat×Rec×List Nat)}(ha:∀k x b,(k,x,b)∈acc->∀m,m∈b->vA ops m k){i:Nat}:∀{es:List Edge} {m:Nat},m∈m_ acc es->∀L,C1 ops L->
  (∀e,e∈es->Region.binds .any e=true->L e.on=true)->L m=true:=by
 intro es;induction es with
 |nil=>intro m h;cases h
 |cons e es ih=>
  intro m h L hc hf;simp only[m_] at h;cases hb:Region.binds .any e with
  |false=>
   simp only[hb,cond_false] at h;exact ih h L hc fun b_ nE=>hf b_ (List.mem_cons_of_mem _ nE)
  |true=>
   simp only[hb,cond_true] at h;have h0:=hf e List.mem_cons_self hb;split at h
   ·rename_i x hx;rcases List.mem_cons.1 h with rfl|h
    ·exact h0
    ·rcases List.mem_append.1 h with h|h
     ·have hm:(e.on,x)∈acc:=SN hx;obtain⟨eD,fy⟩:=x;exact ha _ _ _ hm m h L hc (hc _ h0)
     ·exact ih h L hc fun b_ nE=>hf b_ (List.mem_cons_of_mem _ nE)
   ·exact ih h L hc fun b_ nE=>hf b_ (List.mem_cons_of_mem _ nE)
structure uH(C:Ctx)(ops:Array Oper)(st:af)(D:Oper)(x:Rec):Prop where
 iq:x.D=D
 guard:∀j want,D.guard=some (j,want)->∃t,(ops[j]?).bind (·.dst)=some t/\t∈x.lM/\((∃b,st.get t=one (.bool b)/\(x.go=(b==want)))\/((∃u,st.get t=bP (.cL (.tuple u)))/\x.go=false))
 free:D.guard=none->x.go=true
 skip:x.go=false->x.v=Cc/\x.us=[]
 run:x.go=true->∃y,(step C st D).comp=some y/\(step C st D).sM y=true/\x.v=(step C st D).val y/\x.us=(step C st D).us y/\(∀t,t∈qc (me D.op)->t∈x.lM)/\(∀o,o∈Kr C st D->o∈x.rn)/\(CB D.op=true->x.EG=true)
inductive lU(C:Ctx)(ops:Array Oper):List Oper->Nat->List (Nat×Rec×List Nat)->af->List Rec->af->Prop where
 |nil {i acc st}:lU C ops [] i acc st [] st
 |cons {D r i acc st x xs ah} (Y:ce st D.dst=true) (he:tO i D.after.toList=true) (hx:uH C ops st D x) (hk:tZ (m_ acc D.after.toList) x acc=true)
   (h:lU C ops r (i+1) ((i,x,m_ acc D.after.toList)::acc) (st.cm D.dst x.v x.us) xs ah):lU C ops (D::r) i acc st (x::xs) ah
theorem agb{R:Type}{g:Bool}{v:aI}{K:aI->Option R}{r:R}(h:KX g v K=some r):K v=some r:=by
 unfold KX at h;cases g with
 |false=>exact h
 |true=>
  simp only[cond_true] at h;split at h
  ·rename_i b;cases b<;>exact h
  ·exact h
theorem adk{R:Type}{C:Ctx}{g:Bool}{st:af}{D:Oper}{K:Rec->Option R}{r:R}(h:Kb C ops g st D K=some r):∃x,uH C ops st D x/\K x=some r:=by
 have run:∀gs,B8 C g st D gs K=some r->(∀j want,D.guard=some (j,want)->∃t,(ops[j]?).bind (·.dst)=some t/\t∈gs/\∃b,st.get t=one (.bool b)/\(b==want)=true)->∃x,uH C ops st D x/\K x=some r:=by
  intro gs h hg;unfold B8 at h;obtain⟨y,hy,h⟩:=Option.bind_eq_some_iff.1 h;cases hc:(step C st D).sM y with
  |false=>simp[hc] at h
  |true=>
   simp only[hc,cond_true] at h;refine⟨_,⟨rfl,fun j want hj=>?_,fun _=>rfl,fun h=>(by cases h),fun _=>⟨y,hy,hc,rfl,rfl,fun t ao=>List.mem_append.2 (.inr ao),fun _ h=>h,fun h=>h⟩⟩,agb h⟩
   obtain⟨t,h1,h2,b,h3,aE⟩:=hg j want hj;exact⟨t,h1,List.mem_append.2 (.inl h2),.inl ⟨b,h3,aE.symm⟩⟩
 have skip:∀gs,HM D gs K=some r->(∃j want,D.guard=some (j,want)/\∃t,(ops[j]?).bind (·.dst)=some t/\t∈gs/\((∃b,st.get t=one (.bool b)/\(b==want)=false)\/∃u,st.get t=bP (.cL (.tuple u))))->∃x,uH C ops st D x/\K x=some r:=by
  intro gs h hg;obtain⟨j,want,hj,t,h1,h2,h3⟩:=hg;refine⟨_,⟨rfl,fun aaF aw9 ku=>?_,fun h=>(by rw[hj] at h;cases h),fun _=>⟨rfl,rfl⟩,fun h=>(by cases h)⟩,h⟩
  rw[hj] at ku;cases ku;refine⟨t,h1,h2,?_⟩;rcases h3 with⟨b,h3,aE⟩|h3
  ·exact .inl ⟨b,h3,aE.symm⟩
  ·exact .inr ⟨h3,rfl⟩
 unfold Kb at h;split at h
 ·rename_i hg;exact run [] h fun j want hj=>by rw[hg] at hj;cases hj
 ·rename_i j want hg;split at h
  ·rename_i t ao;split at h
   ·rename_i b hb;cases b<;>cases want<;>simp only[cond_true,cond_false,Bool.not_true,Bool.not_false] at h
    ·exact run [t] h fun aaF w' ku=>by rw[hg] at ku;cases ku;exact⟨t,ao,List.mem_singleton.2 rfl,false,hb,rfl⟩
    ·exact skip [t] h ⟨j,true,hg,t,ao,List.mem_singleton.2 rfl,.inl ⟨false,hb,rfl⟩⟩
    ·exact skip [t] h ⟨j,false,hg,t,ao,List.mem_singleton.2 rfl,.inl ⟨true,hb,rfl⟩⟩
    ·exact run [t] h fun aaF w' ku=>by rw[hg] at ku;cases ku;exact⟨t,ao,List.mem_singleton.2 rfl,true,hb,rfl⟩
   ·rename_i u hu;exact skip [t] h ⟨j,want,hg,t,ao,List.mem_singleton.2 rfl,.inr ⟨u,hu⟩⟩
   ·cases h
  ·cases h
theorem agu{R:Type}{C:Ctx}{K:af->Option R}{r:R}:∀{os:List Oper} {i:Nat} {acc:List (Nat×Rec×List Nat)} {st:af},CW C ops os i acc st K=some r->∃xs ah,lU C ops os i acc st xs ah/\K ah=some r:=by
 intro os;induction os with
 |nil=>intro i acc st h;exact⟨[],st,.nil,h⟩
 |cons D os ih=>
  intro i acc st h;simp only[CW] at h;cases Y:ce st D.dst&&tO i D.after.toList with
  |false=>simp[Y] at h
  |true=>
   simp only[Y,cond_true] at h;obtain⟨x,hx,h⟩:=adk h;cases hk:tZ (m_ acc D.after.toList) x acc with
   |false=>simp[hk] at h
   |true=>
    simp only[hk,cond_true] at h;obtain⟨xs,ah,h1,h2⟩:=ih h;simp only[Bool.and_eq_true] at Y;exact⟨x::xs,ah,.cons Y.1 Y.2 hx hk h1,h2⟩
theorem lU.length{C:Ctx}{os:List Oper}{i:Nat}{acc:List (Nat×Rec×List Nat)}{st ah:af}{xs:List Rec}(h:lU C ops os i acc st xs ah):xs.length=os.length:=by
 induction h with
 |nil=>rfl
 |cons _ _ _ _ _ ih=>simp[ih]
theorem lU.apU{C:Ctx}{os:List Oper}{i:Nat}{acc:List (Nat×Rec×List Nat)}{st ah:af}{xs:List Rec}(h:lU C ops os i acc st xs ah):∀k,eK (fun _=>true) k xs st=ah:=by
 induction h with
 |nil=>intro k;rfl
 |cons _ _ hx _ _ ih=>intro k;simp only[eK,cond_true,hx.iq];exact ih _
theorem lU.at_{C:Ctx}{os:List Oper}{i:Nat}{acc:List (Nat×Rec×List Nat)}{st ah:af}{xs:List Rec}(h:lU C ops os i acc st xs ah):∀j x,xs[j]? =some x->
  ∃D,os[j]? =some D/\ce st D.dst=true/\tO (i+j) D.after.toList=true/\uH C ops (eK (fun k=>decide (k<j)) 0 xs st) D x:=by
 induction h with
 |nil=>intro j x h;cases h
 |@cons D r i acc st x xs ah Y he hx hk h ih=>
  intro j y hy;cases j with
  |zero=>
   simp only[List.getElem?_cons_zero,Option.some.injEq] at hy;subst hy;refine⟨D,rfl,Y,he,?_⟩;rw[FO fun j _=>by simp[Nat.blt]]
   exact hx
  |succ j=>
   obtain⟨cW,h1,h2,h3,aE⟩:=ih j y (by simpa using hy)
   refine⟨cW,by simpa using h1,?_,by rw[show i+(j+1)=i+1+j from by omega];exact h3,?_⟩
   ·revert h2;cases cW.dst<;>simp[ce,Kd]
   ·simp only[eK];have fc:decide (0<j+1)=true:=by simp
    rw[fc,cond_true,hx.iq];rw[O3 (L':=fun k=>decide (k<j)) (k':=0) fun m _=>by simp only[decide_eq_decide];omega]
    exact aE
theorem Qq{n:Nat}{l:List Nat}:gG n l=true <-> n∈l:=by
 induction l with
 |nil=>simp[gG]
 |cons m l ih=>
  simp only[gG,Bool.or_eq_true,ih,List.mem_cons];constructor
  ·rintro(h|h)
   ·exact .inl (Nat.eq_of_beq_eq_true h)
   ·exact .inr h
  ·rintro(h|h)
   ·exact .inl (by rw[h];exact Nat.beq_refl m)
   ·exact .inr h
theorem ad4{yU:List Nat}{x:Rec}:∀{acc:List (Nat×Rec×List Nat)},tZ yU x acc=true->∀k y b,(k,y,b)∈acc->k∈yU\/nh y x=false:=by
 intro acc;induction acc with
 |nil=>intro _ k y b h;cases h
 |cons p acc ih=>
  obtain⟨j,z,ayt⟩:=p;intro h k y b hm;simp only[tZ,Bool.and_eq_true,Bool.or_eq_true] at h;rcases List.mem_cons.1 hm with hm|hm
  ·cases hm;rcases h.1 with h1|h1
   ·exact .inl (Qq.1 h1)
   ·exact .inr (by simpa using h1)
  ·exact ih h.2 k y b hm
theorem lU.asP{C:Ctx}{os:List Oper}{i:Nat}{acc:List (Nat×Rec×List Nat)}{st ah:af}{xs:List Rec}(h:lU C ops os i acc st xs ah):∀(pre:List Rec),pre.length=i->(∀j,ops[i+j]? =os[j]?)->
  (∀k y,pre[k]? =some y->∃b,(k,y,b)∈acc)->(∀k x b,(k,x,b)∈acc->∀m,m∈b->vA ops m k)->∀j x,xs[j]? =some x->∀k y,k<i+j->(pre++xs)[k]? =some y->vA ops k (i+j)\/nh y x=false:=by
 induction h with
 |nil=>intro pre _ _ _ _ j x h;cases h
 |@cons D r i acc st x xs ah Y he hx hk h ih=>
  intro pre hlen Xo Xn jW j y hy k z atF hz;have Xy:∀m,m∈m_ acc D.after.toList->vA ops m i:=fun m hm L hc hf=>by
   refine aix jW (i:=i) hm L hc fun e he hb=>hf D ?_ e he hb
   have:=Xo 0;simpa using this
  cases j with
  |zero=>
   simp only[List.getElem?_cons_zero,Option.some.injEq] at hy;subst hy;simp only[Nat.add_zero] at atF ⊢;rw[List.getElem?_append_left (by omega)] at hz
   obtain⟨b,hb⟩:=Xn k z hz;rcases ad4 hk k z b hb with h1|h1
   ·exact .inl (Xy k h1)
   ·exact .inr h1
  |succ j=>
   have:=ih (pre++[x]) (by simp[hlen]) (fun j=>by have:=Xo (j+1);rw[show i+1+j=i+(j+1) from by omega];simpa using this)
    (fun k y hy=>?_) (fun k db b hm m Z_=>?_) j y (by simpa using hy) k z (by omega) (by simpa using hz)
   ·rw[show i+(j+1)=i+1+j from by omega];exact this
   ·rcases Nat.lt_or_ge k pre.length with ae|ae
    ·rw[List.getElem?_append_left ae] at hy;obtain⟨b,hb⟩:=Xn k y hy;exact⟨b,List.mem_cons_of_mem _ hb⟩
    ·rw[List.getElem?_append_right ae] at hy;have h0:k-pre.length=0:=by
      rcases Nat.eq_zero_or_pos (k-pre.length) with h0|h0
      ·exact h0
      ·rw[List.getElem?_eq_none (by simp;omega)] at hy;cases hy
     rw[h0] at hy;simp only[List.getElem?_cons_zero,Option.some.injEq] at hy;subst hy;have:k=i:=by omega
     subst this;exact⟨_,List.mem_cons_self⟩
   ·rcases List.mem_cons.1 hm with hm|hm
    ·cases hm;exact Xy m Z_
    ·exact jW k db b hm m Z_
end
section
variable {P:Program}{O:World}{U:List Nat}{X:Nat->Prop}{B:Nat->Value}{st ah:af}{tm:Array Value}{w:World}
theorem ai.same(S:ai O U X B st tm w)(hv:∀l,ez st l=ez ah l)(hn:st.nt=ah.nt):ai O U X B ah tm w:=by
 have hs:∀o,look st.sites o=look ah.sites o:=fun o=>by have:=hv (.inr o);simpa[ez,af.aa] using this
 have hg:∀t,st.get t=ah.get t:=fun t=>by have:=hv (.inl t);simpa[ez] using this
 have hl:∀o,bY st.sites o <-> bY ah.sites o:=fun o=>by unfold bY;rw[hs]
 have ha:ar X B ah.sites=ar X B st.sites:=by
  funext b
  unfold ar;simp only[hl]
 have G:ib B B st.sites ah.sites w w (ar X B st.sites) (ar X B ah.sites):=by
  rw[ha];exact⟨fun o aa h=>⟨aa,by rw[<-hs];exact h,Nat.le_refl _,fun _=>rfl⟩,fun _ _ _=>rfl,fun _ h _=>h⟩
 have hlt:∀b,ar X B ah.sites b->b<w.heap.size:=fun b hb=>S.lt (by rw[<-ha];exact hb)
 refine⟨S.nt.trans hn,fun t=>?_,fun o aa h=>?_,fun o M b h1 h2=>S.dC o M b ((hl o).2 h1) ((hl M).2 h2),fun o b h=>S.cf o b ((hl o).2 h),S.frame,S.old,S.fC⟩
 ·rw[<-hg];exact(S.cO t).goes G (Nat.le_refl _) hlt
 ·exact(S.sites o aa (by rw[hs];exact h)).goes G (Nat.le_refl _) hlt rfl (fun _ _ _=>rfl)
theorem ai.drawn(S:ai O U X B st tm w)(n:Nat):ai O U X B st tm {w with drawn:=n}:=by
 have G:ib B B st.sites st.sites w {w with drawn:=n} (ar X B st.sites) (ar X B st.sites):=
  ⟨fun o aa h=>⟨aa,h,Nat.le_refl _,fun _=>rfl⟩,fun _ _ _=>rfl,fun _ h _=>h⟩
 refine⟨S.nt,fun t=>(S.cO t).goes G (Nat.le_refl _) fun b hb=>S.lt hb,fun o aa h=>(S.sites o aa h).goes G (Nat.le_refl _) (fun b hb=>S.lt hb) rfl (fun _ _ _=>rfl),S.dC,S.cf,⟨S.frame.os,S.frame.tape,S.frame.output,S.frame.size,S.frame.block⟩,S.old,S.fC⟩
theorem abF{aB:Type}:∀{us:List (Nat×aB)} {o:Nat} {s:aB},oT us o=some s->o∈keys us:=by
 intro us;induction us with
 |nil=>intro o s h;cases h
 |cons p us ih=>
  obtain⟨k,v⟩:=p;intro o s h;simp only[oT] at h;split at h
  ·rename_i x hx;exact List.mem_cons_of_mem _ (ih hx)
  ·cases hb:k.beq o with
   |true=>rw[<-Nat.eq_of_beq_eq_true hb];exact List.mem_cons_self
   |false=>simp[hb] at h
theorem Gb{n:Nat}{l:List Nat}:gG n l=true <-> n∈l:=Qq
theorem tq{l m:List Nat}{n:Nat}(h1:n∈l)(h2:n∈m):fr l m=false:=by
 induction l with
 |nil=>cases h1
 |cons k l ih=>
  simp only[fr];rcases List.mem_cons.1 h1 with rfl|h1
  ·rw[Gb.2 h2];rfl
  ·rw[ih h1,Bool.and_false]
theorem PG{l:List Nat}{n:Nat}(h1:n∈l)(h2:1000000<=n):xi l=true:=by
 induction l with
 |nil=>cases h1
 |cons k l ih=>
  simp only[xi,Bool.or_eq_true];rcases List.mem_cons.1 h1 with rfl|h1
  ·exact .inl (Nat.ble_eq_true_of_le h2)
  ·exact .inr (ih h1)
def Rec.at_(x:Rec):pV->Prop
 |.inl t=>t∈x.lM
 |.inr o=>o∈x.rn\/(x.EG=true/\1000000<=o)
theorem Cb{x:Rec}{t:Nat}(h:x.wr (.inl t)≠none):x.D.dst=some t:=by
 simp only[Rec.wr] at h;split at h
 ·rename_i d Y;cases hb:d.beq t with
  |true=>rw[Y,Nat.eq_of_beq_eq_true hb]
  |false=>simp[hb] at h
 ·exact absurd rfl h
theorem Ca{x:Rec}{o:Nat}(h:x.wr (.inr o)≠none):o∈keys x.us:=by
 simp only[Rec.wr] at h;cases hl:oT x.us o with
 |none=>simp[hl] at h
 |some s=>exact abF hl
theorem aj3{a b:Rec}{l:pV}(h1:a.wr l≠none)(h2:b.at_ l):nh a b=true:=by
 unfold nh;cases l with
 |inl t=>
  have:=Cb h1;have h2:t∈b.lM:=h2;simp[this,uL,Gb.2 h2]
 |inr o=>
  have:=Ca h1;rcases h2 with h2|⟨h2,h3⟩
  ·have:fr (keys a.us) (b.rn++keys b.us)=false:=tq this (List.mem_append.2 (.inl h2));simp[this]
  ·have:=PG this h3;simp[this,h2]
theorem aj4{a b:Rec}{l:pV}(h1:a.at_ l)(h2:b.wr l≠none):nh a b=true:=by
 unfold nh;cases l with
 |inl t=>
  have:=Cb h2;have h1:t∈a.lM:=h1;simp[this,uL,Gb.2 h1]
 |inr o=>
  have:=Ca h2;rcases h1 with h2|⟨h2,h3⟩
  ·have:fr (keys b.us) a.rn=false:=tq this h2;simp[this]
  ·have:=PG this h3;simp[this,h2]
theorem aj2{a b:Rec}{l:pV}(h1:a.wr l≠none)(h2:b.wr l≠none):nh a b=true:=by
 unfold nh;cases l with
 |inl t=>
  have e1:=Cb h1;have e2:=Cb h2;simp[e1,e2,uL,gG]
 |inr o=>
  have e1:=Ca h1;have e2:=Ca h2;have:fr (keys a.us) (b.rn++keys b.us)=false:=tq e1 (List.mem_append.2 (.inr e2));simp[this]
variable {C:Ctx}{ops:Array Oper}{rn:Option Nat}{ds:List Deferred}
def pn(L:Nat->Bool)(i:Nat):Nat->Bool:=fun j=>L j||decide (j=i)
theorem agt(H:bc P C){xs:List Rec}{bn:af}{i:Nat}{D:Oper}{x:Rec}(hx:xs[i]? =some x)(Y:ce bn D.dst=true)(hr:uH C ops (eK (fun k=>decide (k<i)) 0 xs bn) D x)
  (ng:∀j y,xs[j]? =some y->∀k z,k<j->xs[k]? =some z->vA ops k j\/nh z y=false) {L:Nat->Bool} (hc:C1 ops L) (hi:L i=false) (hf:D0 ops L i) (atz:ops[i]? =some D)
  (S:ai O U X B (eK L 0 xs bn) tm w) {Q:Exit->Act->World->Prop} {K:Act->World->Prop} (bC:∀aD bU w',ai O U X aD (eK (pn L i) 0 xs bn) bU w'->(∀t,t∉D.dst.toList->bU.getD t undef=tm.getD t undef)->K ⟨bU,ds⟩ w'):wpOpIn (e4 rn) 0 P ops Q i K ⟨tm,ds⟩ w:=by
 have L7:∀l,x.at_ l->ez (eK (fun k=>decide (k<i)) 0 xs bn) l=ez (eK L 0 xs bn) l:=fun l hl=>by
  refine(FN rfl fun j y hy hw=>?_).symm
  simp only[Nat.zero_add];rcases Nat.lt_trichotomy j i with h|h|h
  ·rcases ng i x hx j y h hy with h1|h1
   ·rw[h1 L hc hf];simp[h]
   ·rw[aj3 hw hl] at h1;cases h1
  ·subst h;rw[hi];simp
  ·have:L j=false:=by
    cases sI:L j with
    |false=>rfl
    |true=>
     rcases ng j y hy i x h hx with h1|h1
     ·have:=h1 L hc (hc j sI);rw[hi] at this;cases this
     ·rw[aj4 hl hw] at h1;cases h1
   rw[this];simp;omega
 have VD:∀t,t∈x.lM->(eK (fun k=>decide (k<i)) 0 xs bn).get t=(eK L 0 xs bn).get t:=fun t ao=>by
  have:=L7 (.inl t) ao;simpa[ez] using this
 have C7:∀l,ez ((eK L 0 xs bn).cm x.D.dst x.v x.us) l=ez (eK (pn L i) 0 xs bn) l:=fun l=>by
  rw[Ap];cases hw:x.wr l with
  |none=>
   simp only;refine FN rfl fun j y hy Mp=>?_
   simp only[Nat.zero_add,pn];by_cases h:j=i
   ·subst h;rw[hx] at hy;cases hy;exact absurd hw Mp
   ·simp[h]
  |some u=>
   simp only;refine(aeD hx (by simp[pn]) hw fun j y qR hy Mp=>?_).symm
   simp only[Nat.zero_add,pn];have:L j=false:=by
    cases sI:L j with
    |false=>rfl
    |true=>
     rcases ng j y hy i x qR hx with h1|h1
     ·have:=h1 L hc (hc j sI);rw[hi] at this;cases this
     ·rw[aj2 (by rw[hw];intro h;cases h) Mp] at h1;cases h1
   rw[this];simp;omega
 have _k:ce (eK L 0 xs bn) D.dst=true:=by revert Y;cases D.dst<;>simp[ce,HP]
 have fin:∀aD bU w',ai O U X aD ((eK L 0 xs bn).cm x.D.dst x.v x.us) bU w'->(∀t,t∉D.dst.toList->bU.getD t undef=tm.getD t undef)->K ⟨bU,ds⟩ w':=fun aD bU w' b7=>bC aD bU w' (b7.same C7 (by rw[Kd,HP,HP]))
 unfold wpOpIn;rw[atz];simp only;have C_:Region.wanted D (yielded ops tm)=x.go:=by
  cases hg:D.guard with
  |none=>rw[hr.free hg];simp[Region.wanted,hg]
  |some NA=>
   obtain⟨j,want⟩:=NA;obtain⟨t,h1,h2,h3⟩:=hr.guard j want hg;rw[show Region.wanted D (yielded ops tm)=(yielded ops tm j==some want) by simp[Region.wanted,hg]]
   have jT:=S.cO t;rw[<-VD t h2] at jT;rcases h3 with⟨b,h3,aE⟩|⟨⟨u,h3⟩,aE⟩
   ·rw[h3] at jT;have hv:=ke jT;have hy:yielded ops tm j=some b:=by
     have ao:t<tm.size:=by
      rcases Nat.lt_or_ge t tm.size with ae|ae
      ·exact ae
      ·simp[Array.getD,Nat.not_lt.2 ae,undef] at hv
     have:tm[t]? =some (.bool b):=by
      rw[Array.getElem?_eq_getElem ao];simpa[Array.getD,ao] using hv
     simp[yielded,h1,this]
    rw[hy,aE];cases b<;>cases want<;>rfl
   ·rw[h3] at jT;have hv:tm.getD t undef=.tuple u:=jT;have hy:yielded ops tm j=none:=by
     simp only[yielded,h1,Option.bind_some];cases ao:tm[t]? with
     |none=>rfl
     |some v=>
      have:tm.getD t undef=v:=by simp[Array.getD_eq_getD_getElem?,ao]
      rw[this] at hv;rw[hv]
    rw[hy,aE];rfl
 cases vr:x.go with
 |false=>
  rw[vr] at C_;rw[if_neg (by rw[C_];decide)]
  obtain⟨e1,e2⟩:=hr.skip vr;refine⟨fun f _=>Ds rn f,zR (R:=af) (r:=(eK L 0 xs bn).cm D.dst Cc []) S (K:=some) (by simp[tX,_k]) fun eo gK dG aP h1 dk=>?_⟩
  cases h1;refine fin gK dG aP ?_
  rw[hr.iq,e1,e2];exact dk
 |true=>
  rw[vr] at C_;rw[if_pos C_];obtain⟨y,g1,g2,g3,g4,g5,g6,g7⟩:=hr.run vr;have dO:step C (eK (fun k=>decide (k<i)) 0 xs bn) D=step C (eK L 0 xs bn) D:=by
   refine adM (fun t ao=>VD t (g5 t ao)) (fun o bk=>?_) fun anc o bk=>?_
   ·have:=L7 (.inr o) (.inl (g6 o bk));simpa[ez] using this
   ·have:=L7 (.inr o) (.inr ⟨g7 anc,bk⟩);simpa[ez] using this
  revert y
  rw[dO];intro y g1 g2 g3 g4;refine oP (R:=af) (r:=(eK L 0 xs bn).cm D.dst x.v x.us) S H (K:=some) ?_ fun eo gK dG aP h1 dk=>?_
  ·unfold lh;rw[_k,cond_true,g1];simp only[Option.bind_some,g2,cond_true,g3,g4]
  ·cases h1;refine fin gK dG aP ?_
   rw[hr.iq];exact dk
def ye(listed:Array Bool):Nat:=listed.toList.count false
def hL(listed:Array Bool):Nat->Bool:=fun j=>listed.getD j false
theorem aiM{listed:Array Bool}{i:Nat}(h:listed.getD i true=false):ye (listed.setIfInBounds i true)+1=ye listed:=by
 unfold ye;have hlt:i<listed.size:=by
  rcases Nat.lt_or_ge i listed.size with ae|ae
  ·exact ae
  ·simp[Array.getD,Nat.not_lt.2 ae] at h
 have hv:listed.toList[i]'(by simpa using hlt)=false:=by simpa[Array.getD,hlt] using h
 rw[Array.toList_setIfInBounds,List.count_set (by simpa using hlt)]
 rw[hv];have:0<listed.toList.count false:=List.count_pos_iff.2 (by rw[<-hv];exact List.getElem_mem _)
 have e1:(if(false==false)=true then 1 else 0)=1:=rfl
 have e2:(if(true==false)=true then 1 else 0)=0:=rfl
 rw[e1,e2];omega
theorem QK{D:Oper}{t:Nat}:∀{l:List Oper},D∈l->t∈D.dst.toList->t∈ji l:=by
 intro l;induction l with
 |nil=>intro h;cases h
 |cons p l ih=>
  intro h ao;simp only[ji,List.mem_append];rcases List.mem_cons.1 h with rfl|h
  ·exact .inl ao
  ·exact .inr (ih h ao)
theorem ain(H:bc P C){bn D9:af}{xs:List Rec}(a_:lU C ops ops.toList 0 [] bn xs D9){Q:Exit->Act->World->Prop}{e8:Array Value}(EV:∀B tm w,ai O U X B D9 tm w->(∀t,t∉ji ops.toList->tm.getD t undef=e8.getD t undef)->Q .normal ⟨tm,ds⟩ w):
  ∀(nl:Nat) (listed:Array Bool) (B:Nat->Value) (tm:Array Value) (w:World),listed.size=ops.size->ye listed<=nl->C1 ops (hL listed)->ai O U X B (eK (hL listed) 0 xs bn) tm w->
   (∀t,t∉ji ops.toList->tm.getD t undef=e8.getD t undef)->wpAnyIn (e4 rn) 0 P .any ops Q nl listed ⟨tm,ds⟩ w:=by
 have hlen:xs.length=ops.size:=by rw[a_.length];simp
 have ng:∀j y,xs[j]? =some y->∀k z,k<j->xs[k]? =some z->vA ops k j\/nh z y=false:=fun j y hy k z hk hz=>by
  have:=a_.asP [] rfl (fun j=>by simp) (fun k y h=>by simp at h) (fun k x b h=>by simp at h) j y hy k z (by omega) (by simpa using hz)
  simpa using this
 have all:∀listed:Array Bool,listed.size=ops.size->(∀j,j<ops.size->hL listed j=true)->∀B tm w,ai O U X B (eK (hL listed) 0 xs bn) tm w->(∀t,t∉ji ops.toList->tm.getD t undef=e8.getD t undef)->Q .normal ⟨tm,ds⟩ w:=fun listed hs hl B tm w S ao=>by
  refine EV B tm w ?_ ao;rw[<-a_.apU 0];rw[O3 (L':=hL listed) (k':=0) fun j hj=>by simp only[Nat.zero_add];rw[hl j (by omega)]]
  exact S
 have done:∀listed:Array Bool,listed.size=ops.size->Region.ready .any ops listed=[]->∀j,j<ops.size->hL listed j=true:=fun listed hs hr j=>by
  induction j using Nat.strongRecOn with
  |_ j ih=>
   intro hj;cases sI:hL listed j with
   |true=>rfl
   |false=>
    exfalso
    have hx:xs[j]? =some (xs[j]'(by omega)):=List.getElem?_eq_getElem _
    obtain⟨D,h1,_,h3,_⟩:=a_.at_ j _ hx;have h1:ops[j]? =some D:=by simpa using h1
    have hm:j∈Region.ready .any ops listed:=by
     rw[mem_ready];refine⟨?_,D,h1,fun e he hb=>?_⟩
     ·have hlt:j<listed.size:=by omega
      simpa[hL,Array.getD,hlt] using sI
     ·have:e.on<j:=by
       have nE:e∈D.after.toList:=by simpa using he
       clear he hr;revert h3
       simp only[Nat.zero_add];generalize D.after.toList=es at nE;induction es with
       |nil=>cases nE
       |cons b_ es ata=>
        intro h3;simp only[tO,Bool.and_eq_true] at h3;rcases List.mem_cons.1 nE with rfl|nE
        ·rw[hb] at h3;simpa using h3.1
        ·exact ata nE h3.2
      have:=ih e.on this (by omega)
      simpa[hL] using this
    rw[hr] at hm;cases hm
 intro nl;induction nl with
 |zero=>
  intro listed B tm w hs hu hc S ao;have ol:∀j,j<ops.size->hL listed j=true:=fun j hj=>by
   have h0:listed.toList.count false=0:=Nat.le_zero.1 hu;rw[List.count_eq_zero] at h0;cases sI:hL listed j with
   |true=>rfl
   |false=>
    exfalso
    have hlt:j<listed.size:=by omega
    apply h0;have:listed.toList[j]'(by simpa using hlt)=false:=by simpa[hL,Array.getD,hlt] using sI
    rw[<-this];exact List.getElem_mem _
  refine⟨?_,all listed hs ol B tm w S ao⟩;rw[List.eq_nil_iff_forall_not_mem];intro j hj;rw[mem_ready] at hj;obtain⟨h1,D,h2,_⟩:=hj;have hj:j<ops.size:=(Array.getElem?_eq_some_iff.1 h2).1;have:=ol j hj;have hlt:j<listed.size:=by omega
  simp[hL,Array.getD,hlt] at this h1;rw[h1] at this;cases this
 |succ nl ih=>
  intro listed B tm w hs hu hc S ao;refine⟨fun hr=>all listed hs (done listed hs hr) B tm w S ao,fun i hi=>?_⟩
  have k3:=mem_ready.1 hi;obtain⟨h1,D,h2,h3⟩:=k3;have lF:i<ops.size:=(Array.getElem?_eq_some_iff.1 h2).1;have hx:xs[i]? =some (xs[i]'(by omega)):=List.getElem?_eq_getElem _
  obtain⟨cW,g1,g2,g3,g4⟩:=a_.at_ i _ hx;have g1:ops[i]? =some cW:=by simpa using g1
  rw[h2] at g1;cases g1;have hlt:i<listed.size:=by omega
  have at5:hL listed i=false:=by simpa[hL,Array.getD,hlt] using h1
  have hf:D0 ops (hL listed) i:=fun o2 lD e he hb=>by
   rw[h2] at lD;cases lD;have:=h3 e (by simpa using he) hb
   simpa[hL] using this
  have oi:hL (listed.setIfInBounds i true)=pn (hL listed) i:=by
   funext j
   simp only[hL,pn];by_cases h:j=i
   ·subst h;simp[hlt]
   ·simp[h,Array.getElem?_setIfInBounds_ne (show i≠j from fun e=>h e.symm)]
  refine agt H hx g2 g4 ng hc at5 hf h2 S fun aD bU w' b7 sx=>ih _ aD bU w' (by simpa using hs) (by have:=aiM h1;omega) ?_ (by rw[oi];exact b7) fun t htn=>(sx t fun ae=>htn (QK (l:=ops.toList) (by simpa using Array.mem_of_getElem? h2) ae)).trans (ao t htn)
  rw[oi];intro j hj o2 lD e he hb;simp only[pn,Bool.or_eq_true,decide_eq_true_eq] at hj;simp only[pn,Bool.or_eq_true,decide_eq_true_eq];rcases hj with hj|hj
  ·exact .inl (hc j hj o2 lD e he hb)
  ·subst hj;exact .inl (hf o2 lD e he hb)
theorem agm:∀l:List Nat,dM st.sites (CO st l):=by
 intro l;induction l with
 |nil=>exact .nil
 |cons t l ih=>
  refine dM.append ?_ ih;unfold Va;split
  ·rename_i o s _;split
   ·rename_i au t xs hs;cases hb:au.beq s with
    |false=>exact .nil
    |true=>
     intro M aa hm;simp only[cond_true,List.mem_singleton,Prod.mk.injEq] at hm;obtain⟨rfl,rfl⟩:=hm;exact⟨au,t,xs,rfl,.inl hs⟩
   ·exact .nil
  ·exact .nil
theorem aeu(H:bc P C)(hm:P.follows .mixedOrders=true){R:Type}{r:R}{K:af->Option R}{id:Nat}{Q:Exit->Act->World->Prop}(S:ai O U X B st tm w)(h:S7 C ops st K=some r)
  (bC:∀ah aD bU w',K ah=some r->ai O U X aD ah bU w'->(∀t,t∉ji ops.toList->bU.getD t undef=tm.getD t undef)->Q .normal ⟨bU,ds⟩ w'):gQ rn P (Code.region id ops true) Q ⟨tm,ds⟩ w:=by
 obtain⟨xs,D9,a_,hk⟩:=agu h;have S:ai O U X B (st.iP (CO st (G0 ops.toList ops.toList))) tm w:=by rw[af.wE];exact S.B5 (agm _)
 refine wpIn_region_any hm (ain H a_ (fun B tm w S=>bC D9 B tm w hk S) _ _ B tm _ (by simp) ?_ ?_ ?_ (fun _ _=>rfl))
 ·unfold ye;simp
 ·intro j hj;simp only[hL] at hj;exfalso
  rw[Array.getD_eq_getD_getElem?,Array.getElem?_replicate] at hj;split at hj<;>cases hj
 ·rw[FO fun j _=>by
   simp only[hL];rw[Array.getD_eq_getD_getElem?,Array.getElem?_replicate];split<;>rfl]
  exact S.drawn _
end
def uJ(r:Option Nat)(c:Code):Prop:=r=none\/h4 c=true
theorem uJ.left{r:Option Nat}{a b:Bool}(h:r=none\/(a&&b)=true):r=none\/a=true:=by
 rcases h with h|h
 ·exact .inl h
 ·simp only[Bool.and_eq_true] at h;exact .inr h.1
theorem uJ.right{r:Option Nat}{a b:Bool}(h:r=none\/(a&&b)=true):r=none\/b=true:=by
 rcases h with h|h
 ·exact .inl h
 ·simp only[Bool.and_eq_true] at h;exact .inr h.2
theorem kc{P:Program}{C:iC}(H:bc P C.toCtx){R:Type}{r:R}{rn:Option Nat}:∀(c:Code) (p:Nat),(rn=none\/h4 c=true)->gY P C c p->∀(O:World) (U:List Nat) (X:Nat->Prop) (st:af) (B:Nat->Value) (tm:Array Value) (w:World)
  (ds:List Deferred) (K:Out->Option R)
  (Q:Exit->Act->World->Prop),exec C c p st K=some r->ai O U X B st tm w->(∀D e a w',K D=some r->fL O U X ds tm (cA c) D e a w'->Q e a w')->gQ rn P c Q ⟨tm,ds⟩ w:=by
 have piece:∀(c:Code) (p:Nat),(rn=none\/h4 c=true)->(∀f,C.pr p=some f->aX P c f)->∀(O:World) (U:List Nat) (X:Nat->Prop) (st:af) (B:Nat->Value) (tm:Array Value) (w:World) (ds:List Deferred) (K:Out->Option R) (Q:Exit->Act->World->Prop) (x:Option R),
   wrap C p st K x=some r->ai O U X B st tm w->(∀D e a w',K D=some r->fL O U X ds tm (cA c) D e a w'->Q e a w')->(x=some r->gQ rn P c Q ⟨tm,ds⟩ w)->gQ rn P c Q ⟨tm,ds⟩ w:=by
  intro c p hn hf O U X st B tm w ds K Q x h S bC hx;unfold wrap at h;cases ay:C.pr p with
  |none=>simp only[ay] at h;exact hx h
  |some f=>
   simp only[ay] at h;cases hc:(f st).comp with
   |none=>simp[hc] at h
   |some y=>
    simp only[hc,Option.bind_some,(f st).run_eq] at h;exact wpIn_mono (hf f ay rn hn O U X st y hc B tm w ds S) fun e a w' hl=>bC _ e a w' h hl
 intro c;induction c with
 |skip=>
  intro p _ _ O U X st B tm w ds K Q h S bC;exact wpIn_skip (bC (.norm st) .normal _ _ h (eP.of S fun _ _=>rfl))
 |region id ops draw=>
  intro p hn eF O U X st B tm w ds K Q h S bC;cases draw with
  |false=>
   simp only[exec] at h;refine piece _ p hn eF O U X st B tm w ds K Q _ h S bC fun ae=>?_
   refine wpIn_region ?_
   rw[List.range_eq_range'];refine afm H (W:=ji ops.toList) ops.size 0 (by omega) (fun D ay t ao=>QK (by simpa using ay) ao) st B tm w _ Q S ae ?_
   intro ah aD bU w' hk b7 ao;exact bC (.norm ah) .normal _ _ hk (eP.of b7 ao)
  |true=>
   simp only[exec] at h;refine piece _ p hn eF O U X st B tm w ds K Q _ h S bC fun ae=>?_
   exact aeu H H.EU S ae fun ah aD bU w' hk b7 ao=>bC (.norm ah) .normal _ _ hk (eP.of b7 ao)
 |seq a b nr sr=>
  intro p hn eF O U X st B tm w ds K Q h S bC;simp only[exec] at h;refine piece _ p hn eF.1 O U X st B tm w ds K Q _ h S bC fun ae=>?_
  refine wpIn_seq (nr _ (uJ.left hn) eF.2.1 O U X st B tm w ds _ _ ae S ?_);intro D e cP w' hk hl;have up:∀{D e cP w'},fL O U X ds tm (cA a) D e cP w'->fL O U X ds tm (cA (.seq a b)) D e cP w':=fun hl=>hl.mono fun t ao=>List.mem_append.2 (.inl ao)
  cases D with
  |norm ah=>
   cases e<;>try exact hl.elim
   obtain⟨aP,dP,c_,aD,dR,h1,h2,h3,b7,br⟩:=hl;obtain⟨bU,NH⟩:=cP;obtain⟨h3,auj⟩:=h3;have h3:NH=dR.map mark++ds:=h3;subst h3;exact sr _ (uJ.right hn) eF.2.2 aP dP c_ ah aD bU w' _ K Q hk b7 fun D e a2 w2 hk2 nA=>bC D e a2 w2 hk2 (fL.trans h1 h2 auj br nA)
  |exit id ah=>
   cases e<;>try exact hl.elim
   exact bC _ _ _ _ hk (up hl)
  |ret ah=>
   cases e<;>try exact hl.elim
   exact bC _ _ _ _ hk (up hl)
 |cond D a b nr sr=>
  intro p hn eF O U X st B tm w ds K Q h S bC;simp only[exec] at h;refine piece _ p hn eF.1 O U X st B tm w ds K Q _ h S bC fun ae=>?_
  split at ae
  ·rename_i t ao;have hv:=Ji S ao;have hv:Act.eval ⟨tm,ds⟩ D=.bool t:=by cases D<;>exact hv
   cases t with
   |true=>exact wpIn_cond hv (nr _ (uJ.left hn) eF.2.1 O U X st B tm w ds K Q ae S fun D e a2 w2 hk2 nA=>bC D e a2 w2 hk2 (nA.mono fun t ao=>List.mem_append.2 (.inl ao)))
   |false=>exact wpIn_cond hv (sr _ (uJ.right hn) eF.2.2 O U X st B tm w ds K Q ae S fun D e a2 w2 hk2 nA=>bC D e a2 w2 hk2 (nA.mono fun t ao=>List.mem_append.2 (.inr ao)))
  ·cases ae
 |block id a nr=>
  intro p hn eF O U X st B tm w ds K Q h S bC;simp only[exec] at h;refine piece _ p hn eF.1 O U X st B tm w ds K Q _ h S bC fun ae=>?_
  refine wpIn_block (nr _ hn eF.2 O U X st B tm w ds _ _ ae S ?_);intro D e cP w' hk hl;cases D with
  |norm ah=>
   cases e<;>try exact hl.elim
   exact bC _ _ _ _ hk hl
  |exit jH ah=>
   cases e<;>try exact hl.elim
   rename_i axU;obtain⟨rfl,hl⟩:=hl;simp only[Exit.inBlock];cases hb:jH.beq id with
   |true=>
    simp only[hb,cond_true] at hk;have:=Nat.eq_of_beq_eq_true hb;subst this;simp only[if_true];exact bC _ _ _ _ hk hl
   |false=>
    simp only[hb,cond_false] at hk;have:jH≠id:=by rintro rfl;rw[Nat.beq_refl] at hb;cases hb
    simp only[this,if_false];exact bC _ _ _ _ hk ⟨rfl,hl⟩
  |ret ah=>
   cases e<;>try exact hl.elim
   exact bC _ _ _ _ hk hl
 |loop a _=>
  intro p hn eF O U X st B tm w ds K Q h S bC;simp only[exec] at h;exact piece _ p hn eF O U X st B tm w ds K Q _ h S bC fun ae=>by cases ae
 |rangeFunc=>
  intro p hn eF O U X st B tm w ds K Q h S bC;simp only[exec] at h;exact piece _ p hn eF O U X st B tm w ds K Q _ h S bC fun ae=>by cases ae
 |exit id=>
  intro p _ _ O U X st B tm w ds K Q h S bC;exact wpIn_exit (bC (.exit id st) (.exit id) _ _ h ⟨rfl,eP.of S fun _ _=>rfl⟩)
 |ret=>
  intro p _ _ O U X st B tm w ds K Q h S bC;exact wpIn_ret (bC (.ret st) .ret _ _ h (eP.of S fun _ _=>rfl))
 |_=>
  intro p _ _ O U X st B tm w ds K Q h S bC;simp only[exec] at h;cases h
inductive dW:Type where
 |int (k:IntKind)
 |bool
 |str
 |sl (t:aH)
 |map (t:aH)
 |err (T:Nat)
@[reducible] def dW.J:dW->Type
 |.int _=>Int
 |.bool=>Bool
 |.str=>F
 |.sl t=>List (den t)
 |.map t=>List (F×den t)
 |.err _=>Option Int
def dW.mk:(s:dW)->s.J->aJ
 |.int k,n=>.int k n
 |.bool,b=>.bool b
 |.str,s=>.str s
 |.sl t,xs=>.sl t xs
 |.map t,es=>.map t es
 |.err T,D=>.err T D
def dW.ex:(s:dW)->aJ->Option s.J
 |.int k,.int k' n=>if k=k' then some n else none
 |.bool,.bool b=>some b
 |.str,.str s=>some s
 |.sl t,.sl be xs=>if h:be=t then some (h▸xs) else none
 |.map t,.map be es=>if h:be=t then some (h▸es) else none
 |.err T,.err gB D=>if gB=T then some D else none
 |_,_=>none
theorem dW.UU{s:dW}{d:aJ}{y:s.J}(h:s.ex d=some y):s.mk y=d:=by
 unfold dW.ex at h;split at h
 ·split at h
  ·rename_i e;cases h;subst e;rfl
  ·cases h
 ·cases h;rfl
 ·cases h;rfl
 ·split at h
  ·rename_i e;cases h;subst e;rfl
  ·cases h
 ·split at h
  ·rename_i e;cases h;subst e;rfl
  ·cases h
 ·split at h
  ·rename_i e;cases h;subst e;rfl
  ·cases h
 ·cases h
@[reducible] def lI:List dW->Type
 |[]=>Unit
 |s::r=>s.J×lI r
def gp:(aV:List dW)->lI aV->List aJ
 |[],_=>[]
 |s::r,(y,z)=>s.mk y::gp r z
def x0:(aV:List dW)->List aJ->Option (lI aV)
 |[],[]=>some ()
 |s::r,d::ds=>match s.ex d,x0 r ds with
  |some y,some z=>some (y,z)
  |_,_=>none
 |_,_=>none
theorem SK:∀{aV:List dW} {ds:List aJ} {y:lI aV},x0 aV ds=some y->gp aV y=ds:=by
 intro aV;induction aV with
 |nil=>intro ds y h;cases ds with
  |nil=>rfl
  |cons=>cases h
 |cons s aV ih=>
  intro ds y h;cases ds with
  |nil=>cases h
  |cons d ds=>
   simp only[x0] at h;split at h
   ·rename_i a b h1 h2;cases h;simp only[gp,dW.UU h1,ih h2]
   ·cases h
@[reducible] def x3:List (List dW)->Type
 |[]=>Unit
 |s::r=>lI s×x3 r
def xt:(aV:List (List dW))->x3 aV->List (List aJ)
 |[],_=>[]
 |s::r,(y,z)=>gp s y::xt r z
def Dj:(aV:List (List dW))->List (List aJ)->Option (x3 aV)
 |[],[]=>some ()
 |s::r,d::ds=>match x0 s d,Dj r ds with
  |some y,some z=>some (y,z)
  |_,_=>none
 |_,_=>none
theorem ahV:∀{aV:List (List dW)} {ds:List (List aJ)} {y:x3 aV},Dj aV ds=some y->xt aV y=ds:=by
 intro aV;induction aV with
 |nil=>intro ds y h;cases ds with
  |nil=>rfl
  |cons=>cases h
 |cons s aV ih=>
  intro ds y h;cases ds with
  |nil=>cases h
  |cons d ds=>
   simp only[Dj] at h;split at h
   ·rename_i a b h1 h2;cases h;simp only[xt,SK h1,ih h2]
   ·cases h
inductive fI:Type where
 |any
 |d (s:dW)
 |fn (g:FuncId) (cF:List (List dW))
 |eQ (aV:List dW) (off:Nat)
 |own (n:Nat)
 |ptr (n off:Nat)
 |clo (g:FuncId) (ns:List Nat)
 |dH
 |Dz -- ot nil interface
 |eR (n:Nat) (t:aH)
@[reducible] def fI.J:fI->Type
 |.d s=>s.J
 |.fn _ cF=>x3 cF
 |.eQ aV _=>lI aV
 |_=>Unit
def fI.mk:(s:fI)->s.J->az
 |.any,_=>.any
 |.d s,y=>.d (s.mk y)
 |.fn g cF,y=>.d (.fn g (xt cF y))
 |.eQ aV off,y=>.eQ (gp aV y) off
 |.own n,_=>.own n 0
 |.ptr n off,_=>.ptr n 0 off
 |.clo g ns,_=>.clo g (ns.map fun n=>(n,0))
 |.dH,_=>.dH
 |.Dz,_=>.cL .nilIface
 |.eR n t,_=>.eR n 0 t 0 0
abbrev Ren:=List (Nat×Option (Nat×Nat))
def n9(ρ:Ren)(n o s:Nat):Bool:=match look ρ n with
 |some (some (LX,au))=>LX.beq o&&au.beq s
 |_=>false
def wI(ρ:Ren):List Nat->List (Nat×Nat)->Bool
 |[],[]=>true
 |n::ns,(o,s)::cs=>n9 ρ n o s&&wI ρ ns cs
 |_,_=>false
def nU(ρ:Ren):List Nat
 :=match ρ with
 |[]=>[]
 |(_,some (o,_))::r=>o::nU r
 |(_,none)::r=>nU r
def fI.ex(st:af)(ρ:Ren):(s:fI)->az->Option s.J
 |.any,_=>some ()
 |.d s,.d v=>s.ex v
 |.d (.sl t),.nil _=>some ([]:List (den t))
 |.d (.err _),.cL .nilIface=>some (none:Option Int)
 |.d (.sl t),.own o s=>match st.aa o with
  |some (.da au be xs)=>bif au.beq s then(if h:be=t then some (h▸xs:List (den t)) else none) else none
  |_=>none
 |.d (.map t),.own o s=>match st.aa o with
  |some (.map au be es)=>bif au.beq s&&!gG o (nU ρ) then(if h:be=t then some (h▸es:List (F×den t)) else none) else none
  |_=>none
 |.fn g cF,.d (.fn cG cs)=>bif Nat.beq g cG then Dj cF cs else none
 |.fn g [],.clo cG []=>bif Nat.beq g cG then some () else none
 |.eQ aV off,.eQ ds qD=>bif Nat.beq off qD then x0 aV ds else none
 |.own n,.own o s=>bif n9 ρ n o s then some () else none
 |.own n,.nil _=>match look ρ n with|some none=>some ()|_=>none
 |.ptr n off,.ptr o s qD=>bif n9 ρ n o s&&Nat.beq off qD then some () else none
 |.clo g ns,.clo cG cs=>bif Nat.beq g cG&&wI ρ ns cs then some () else none
 |.dH,.dH=>some ()
 |.Dz,.cL .nilIface=>some ()
 |.eR n t,.eR o s be 0 0=>bif n9 ρ n o s then(if be=t then some () else none) else none
 |_,_=>none
@[reducible] def sk:List fI->Type
 |[]=>Unit
 |s::r=>s.J×sk r
def ur:(aV:List fI)->sk aV->List az
 |[],_=>[]
 |s::r,(y,z)=>s.mk y::ur r z
def r4(st:af)(ρ:Ren):(aV:List fI)->List az->Option (sk aV)
 |[],[]=>some ()
 |s::r,l::ab=>match s.ex st ρ l,r4 st ρ r ab with
  |some y,some z=>some (y,z)
  |_,_=>none
 |_,_=>none
inductive fF:Type where
 |ag (s:fI)
 |agg (aV:List fI)
@[reducible] def fF.J:fF->Type
 |.ag s=>s.J
 |.agg aV=>sk aV
def fF.mk:(s:fF)->s.J->aI
 |.ag s,y=>bP (s.mk y)
 |.agg aV,y=>.av (.agg (ur aV y))
def fF.ex(st:af)(ρ:Ren):(s:fF)->aI->Option s.J
 |.ag s,.av (.ag l)=>s.ex st ρ l
 |.agg aV,.av (.agg ab)=>r4 st ρ aV ab
 |_,_=>none
@[reducible] def xj:List (Nat×fF)->Type
 |[]=>Unit
 |s::r=>s.2.J×xj r
def wN:(aV:List (Nat×fF))->xj aV->List (Nat×aI)
 |[],_=>[]
 |s::r,(y,z)=>(s.1,s.2.mk y)::wN r z
def B6(st:af)(ρ:Ren):(aV:List (Nat×fF))->Option (xj aV)
 |[]=>some ()
 |s::r=>match s.2.ex st ρ (st.get s.1),B6 st ρ r with
  |some y,some z=>some (y,z)
  |_,_=>none
inductive et:Type where
 |row (t:aH)
 |r' (t:aH) (n:Nat) -- ayv awZ row,aw8 length iq told
 |deep (t:aH)
 |box (aV:List fI)
 |map (t:aH)
@[reducible] def et.J:et->Type
 |.row t=>List (den t)
 |.r' t _=>List (den t)
 |.deep t=>List (den t)
 |.box aV=>sk aV
 |.map t=>List (F×den t)
def Dy{aB:Type}(z:aB):Nat->List aB->List aB
 |0,_=>[]
 |n+1,xs=>xs.headD z::Dy z n xs.tail
theorem SE{aB:Type}(z:aB):∀(xs:List aB),Dy z xs.length xs=xs
 |[]=>rfl
 |x::xs=>by simp only[List.length_cons,Dy,List.headD_cons,List.tail_cons,SE z xs]
def pad{t:aH}(n:Nat)(xs:List (den t)):List (den t):=match y1 t with
 |some z=>Dy z n xs
 |none=>xs
theorem alp{t:aH}{n:Nat}{xs:List (den t)}(h:xs.length=n):pad n xs=xs:=by
 subst h;unfold pad;split
 ·exact SE _ _
 ·rfl
def et.mk:(s:et)->s.J->Site
 |.row t,xs=>.row 0 t xs
 |.r' t n,xs=>.row 0 t (pad n xs)
 |.deep t,xs=>.deep 0 t xs
 |.box aV,y=>.box 0 (ur aV y)
 |.map t,es=>.map 0 t es
def et.ex(st:af)(ρ:Ren):(s:et)->Option (Nat×Nat)->Option s.J
 |.row t,none=>some ([]:List (den t))
 |.row t,some (o,s)=>match st.aa o with
  |some (.row au be xs)=>bif au.beq s then(if h:be=t then some (h▸xs:List (den t)) else none) else none
  |_=>none
 |.deep t,none=>some ([]:List (den t))
 |.deep t,some (o,s)=>match st.aa o with
  |some (.deep au be xs)=>bif au.beq s then(if h:be=t then some (h▸xs:List (den t)) else none) else none
  |_=>none
 |.r' _ _,none=>none
 |.r' t n,some (o,s)=>match st.aa o with
  |some (.row au be xs)=>bif au.beq s then(if h:be=t then(if xs.length=n then some (h▸xs:List (den t)) else none) else none) else none
  |_=>none
 |.box aV,some (o,s)=>match gn st o s with
  |some cells=>r4 st ρ aV cells
  |none=>none
 |.box _,none=>none
 |.map t,some (o,s)=>match st.aa o with
  |some (.map au be es)=>bif au.beq s then(if h:be=t then some (h▸es:List (F×den t)) else none) else none
  |_=>none
 |.map _,none=>none
inductive Loc:Type where
 |same
 |slot (t j:Nat)
 |cell (o j:Nat)
def amT(st:af):Loc->Option az
 |.same=>none
 |.slot t j=>match st.get t with
  |.av (.ag l)=>bif Nat.beq j 0 then some l else none
  |.av (.agg ab)=>ab[j]?
  |_=>none
 |.cell o j=>match st.aa o with
  |some (.box _ cells)=>cells[j]?
  |_=>none
def Kl(st:af)(n:Nat)(l:Loc):Option (Option (Nat×Nat)):=
 match l with
 |.same=>match st.aa n with|some s=>some (some (n,s.b'))|none=>none
 |l=>match amT st l with
  |some (.own o s)=>some (some (o,s))
  |some (.ptr o s _)=>some (some (o,s))
  |some (.eR o s _ _ _)=>some (some (o,s))
  |some (.nil _)=>some none
  |_=>none
@[reducible] def uh:List (Nat×et×Loc)->Type
 |[]=>Unit
 |s::r=>s.2.1.J×uh r
def gD:(aV:List (Nat×et×Loc))->uh aV->List (Nat×Site)
 |[],_=>[]
 |s::r,(y,z)=>(s.1,s.2.1.mk y)::gD r z
def B7(st:af)(ρ:Ren):(aV:List (Nat×et×Loc))->Option (uh aV)
 |[]=>some ()
 |s::r=>match(look ρ s.1).bind fun D=>s.2.1.ex st ρ D,B7 st ρ r with
  |some y,some z=>some (y,z)
  |_,_=>none
def rT(st:af):List (Nat×et×Loc)->Option Ren
 |[]=>some []
 |s::r=>match Kl st s.1 s.2.2,rT st r with
  |some D,some ρ=>some ((s.1,D)::ρ)
  |_,_=>none
structure Shape where
 cO:List (Nat×fF)
 sites:List (Nat×et×Loc)
 nt:Nat
@[reducible] def Shape.J(aN:Shape):Type:=xj aN.cO×uh aN.sites
def Shape.st(aN:Shape)(y:aN.J):af:=⟨wN aN.cO y.1,gD aN.sites y.2,aN.nt⟩
def DJ(st:af):fI->az->List (Nat×Site)
 |.d (.sl _),.own o s=>match st.aa o with
  |some (.row au t xs)=>bif au.beq s then [(o,.da s t xs)] else []
  |some (.deep au t xs)=>bif au.beq s then [(o,.da s t xs)] else []
  |_=>[]
 |_,_=>[]
def DI(st:af):List fI->List az->List (Nat×Site)
 |s::aV,l::ab=>DJ st s l++DI st aV ab
 |_,_=>[]
def XE(st:af):fF->aI->List (Nat×Site)
 |.ag s,.av (.ag l)=>DJ st s l
 |.agg aV,.av (.agg ab)=>DI st aV ab
 |_,_=>[]
def rz(st:af):List (Nat×fF)->List (Nat×Site)
 |[]=>[]
 |s::r=>XE st s.2 (st.get s.1)++rz st r
def XD(st:af):et->Option (Option (Nat×Nat))->List (Nat×Site)
 |.box aV,some (some (o,s))=>match gn st o s with
  |some cells=>DI st aV cells
  |none=>[]
 |_,_=>[]
def rA(st:af):List (Nat×et×Loc)->List (Nat×Site)
 |[]=>[]
 |s::r=>XD st s.2.1 (Kl st s.1 s.2.2)++rA st r
def Shape.ex(aN:Shape)(bn:af):Option aN.J:=
 let st:=bn.iP (rz bn aN.cO++rA bn aN.sites)
 bif st.nt.beq aN.nt then
  match rT st aN.sites with
  |some ρ=>bif fm (keys ρ)&&fm (nU ρ) then
    match B6 st ρ aN.cO,B7 st ρ aN.sites with
    |some y,some z=>some (y,z)
    |_,_=>none
   else none
  |none=>none
 else none
theorem S4{st:af}{s:fI}{l:az}:dM st.sites (DJ st s l):=by
 unfold DJ;split
 ·rename_i o s;split
  ·rename_i au t xs hl;cases hb:au.beq s with
   |false=>exact .nil
   |true=>
    have:=Nat.eq_of_beq_eq_true hb;subst this;intro M aa hm;simp only[cond_true,List.mem_singleton,Prod.mk.injEq] at hm;obtain⟨rfl,rfl⟩:=hm;exact⟨_,_,_,rfl,.inl hl⟩
  ·rename_i au t xs hl;cases hb:au.beq s with
   |false=>exact .nil
   |true=>
    have:=Nat.eq_of_beq_eq_true hb;subst this;intro M aa hm;simp only[cond_true,List.mem_singleton,Prod.mk.injEq] at hm;obtain⟨rfl,rfl⟩:=hm;exact⟨_,_,_,rfl,.inr (.inr hl)⟩
  ·exact .nil
 ·exact .nil
theorem S3{st:af}:∀{aV:List fI} {ab:List az},dM st.sites (DI st aV ab):=by
 intro aV;induction aV with
 |nil=>intro ab;cases ab<;>exact .nil
 |cons s aV ih=>
  intro ab;cases ab with
  |nil=>exact .nil
  |cons l ab=>exact S4.append ih
theorem adg{st:af}:∀{aV:List (Nat×fF)},dM st.sites (rz st aV):=by
 intro aV;induction aV with
 |nil=>exact .nil
 |cons s aV ih=>
  refine dM.append ?_ ih;unfold XE;split
  ·exact S4
  ·exact S3
  ·exact .nil
theorem adh{st:af}:∀{aV:List (Nat×et×Loc)},dM st.sites (rA st aV):=by
 intro aV;induction aV with
 |nil=>exact .nil
 |cons s aV ih=>
  refine dM.append ?_ ih;unfold XD;split
  ·split
   ·exact S3
   ·exact .nil
  ·exact .nil
def uG(st:af)(ρ:Ren)(bw:List (Nat×Site)):Prop:=
 ∀n D,look ρ n=some D->(∃au,look bw n=some au/\au.b'=0)/\∀o s,D=some (o,s)->∃aa,look st.sites o=some aa/\aa.b'=s/\aa.live=true
def fq(B:Nat->Value)(ρ:Ren)(bw:List (Nat×Site))(n:Nat):Value:=
 match look ρ n with
 |some (some (o,_))=>B o
 |some none=>match look bw n with
  |some (.deep _ _ _)=>.tuple #[.slice none 0 0]
  |_=>.slice none 0 0
 |none=>undef
theorem Qp{B:Nat->Value}{ρ:Ren}{bw:List (Nat×Site)}{n:Nat}(h:look ρ n=some none):b0 (fq B ρ bw n)=.slice none 0 0/\bJ (fq B ρ bw n)=[]:=by
 unfold fq;rw[h];simp only;split<;>exact⟨rfl,rfl⟩
theorem adU{ρ:Ren}{n o s:Nat}(h:n9 ρ n o s=true):look ρ n=some (some (o,s)):=by
 unfold n9 at h;split at h
 ·rename_i LX au hl;simp only[Bool.and_eq_true] at h;rw[hl,Nat.eq_of_beq_eq_true h.1,Nat.eq_of_beq_eq_true h.2]
 ·cases h
section
variable {O:World}{U:List Nat}{X:Nat->Prop}{B:Nat->Value}{st:af}{tm:Array Value}{w:World}{ρ:Ren}{bw:List (Nat×Site)}{b4:Nat->Prop}
theorem Bx(S:ai O U X B st tm w)(hR:uG st ρ bw){n o s:Nat}(h:n9 ρ n o s=true){p k9:Prop}(hr:Ref st.sites o s p)(hp:fq B ρ bw n=B o->p->k9):Ref bw n 0 k9:=by
 have hl:=adU h;obtain⟨⟨au,h1,h2⟩,h3⟩:=hR n _ hl;obtain⟨aa,aE,br,_⟩:=h3 o s rfl;exact Ref.mk h1 h2 (hp (by simp[fq,hl]) (Ref.at hr aE br))
theorem adV(S:ai O U X B st tm w)(hR:uG st ρ bw):∀{ns:List Nat} {cs:List (Nat×Nat)} {vs:List Value},wI ρ ns cs=true->vs.length=cs.length->
  (∀i (h:i<cs.length) (ae:i<vs.length),Ref st.sites (cs[i]).1 (cs[i]).2 (vs[i]=b0 (B (cs[i]).1)))->
  vs.length=(ns.map fun n=>(n,0)).length/\∀i (h:i<(ns.map fun n=>((n,0):Nat×Nat)).length) (ae:i<vs.length),Ref bw ((ns.map fun n=>((n,0):Nat×Nat))[i]).1 ((ns.map fun n=>((n,0):Nat×Nat))[i]).2 (vs[i]=b0 (fq B ρ bw ((ns.map fun n=>((n,0):Nat×Nat))[i]).1)):=by
 intro ns;induction ns with
 |nil=>
  intro cs vs h hl _;match cs,h with
  |[],_=>exact⟨by simpa using hl,fun i h=>by simp at h⟩
 |cons n ns ih=>
  intro cs vs h hl hr;match cs,h with
  |(o,s)::cs,h=>
   simp only[wI,Bool.and_eq_true] at h;match vs,hl with
   |v::vs,hl=>
    obtain⟨aw,an⟩:=ih (vs:=vs) h.2 (by simpa using hl) (fun i g1 g2=>hr (i+1) (by simpa using g1) (by simpa using g2))
    refine⟨by simpa using aw,fun i g1 g2=>?_⟩
    cases i with
    |zero=>exact Bx S hR h.1 (hr 0 (by simp) (by simp)) (fun e p=>p.trans (congrArg b0 e.symm))
    |succ i=>exact an i (by simpa using g1) (by simpa using g2)
def Dt(B:Nat->Value)(st:af)(ρ:Ren)(b4:Nat->Prop):Prop:=∀o,bY st.sites o->gG o (nU ρ)=false->∀b,b∈bJ (B o)->¬b4 b
theorem fI.gW(S:ai O U X B st tm w)(hR:uG st ρ bw)(b8:∀b,b4 b->ar X B st.sites b)(eF:Dt B st ρ b4){s:fI}{l:az}{y:s.J}{v:Value}(h:s.ex st ρ l=some y)(hv:dF B st.sites w (ar X B st.sites) l v):
  dF (fq B ρ bw) bw w b4 (s.mk y) v:=by
 have gu:∀{d:aJ} {v:Value},bm w (ar X B st.sites) d v->bm w b4 d v:=fun h=>cj.gu (B:=B) (sites:=[]) (a:=one _) b8 (fun b hb=>S.lt (b8 b hb)) h
 unfold fI.ex at h;split at h
 ·trivial
 ·rename_i s v';have:s.mk y=v':=dW.UU h;show bm w b4 (s.mk y) v;rw[this];exact gu hv
 ·rename_i t u;cases h;have hv:v=.slice none 0 0:=hv;rw[hv];exact bm.nil t
 ·rename_i T;cases h;have hv:v=.nilIface:=hv;rw[hv];exact bm.x1 T
 ·rename_i t o s;split at h
  ·rename_i au be xs hl;cases hb:au.beq s with
   |false=>simp[hb] at h
   |true=>
    simp only[hb,cond_true] at h;split at h
    ·rename_i e;subst e;cases h;have hs:=Nat.eq_of_beq_eq_true hb;subst hs;have hl:look st.sites o=some (.da au be xs):=hl;have j4:v=b0 (B o):=Ref.at hv.2 hl rfl;rw[j4];exact gu (S.sites o _ hl).1
    ·cases h
  ·cases h
 ·rename_i t o s;split at h
  ·rename_i au be es hl;cases hb:(au.beq s&&!gG o (nU ρ)) with
   |false=>simp[hb] at h
   |true=>
    simp only[hb,cond_true] at h;simp only[Bool.and_eq_true,Bool.not_eq_true'] at hb;split at h
    ·rename_i e;subst e;cases h;have hs:=Nat.eq_of_beq_eq_true hb.1;subst hs;have hl:look st.sites o=some (.map au be es):=hl;have j4:v=b0 (B o):=Ref.at hv.2 hl rfl;obtain⟨b,h1,h2⟩:=S.sites o _ hl;rw[j4,h1];exact bm.map be es b (eF o ⟨_,hl,rfl⟩ hb.2 b (gT (by rw[h1];rfl))) h2
    ·cases h
  ·cases h
 ·rename_i g cF cG cs;cases hb:Nat.beq g cG with
  |false=>simp[hb] at h
  |true=>
   simp only[hb,cond_true] at h;have:=Nat.eq_of_beq_eq_true hb;subst this;show bm w b4 (.fn g (xt cF y)) v;rw[ahV h];exact gu hv
 ·rename_i g cG;cases hb:Nat.beq g cG with
  |false=>simp[hb] at h
  |true=>
   have:=Nat.eq_of_beq_eq_true hb;subst this;obtain⟨vs,h1,h2,_⟩:=hv;rw[List.eq_nil_of_length_eq_zero h2] at h1;rw[h1];exact lk.fn (bE:=[]) (vs:=[]) trivial
 ·rename_i aV off ds qD;cases hb:Nat.beq off qD with
  |false=>simp[hb] at h
  |true=>
   simp only[hb,cond_true] at h;have:=Nat.eq_of_beq_eq_true hb;subst this;have e:=SK h;obtain⟨b,D,h1,h2,h3,cs,aE,br,cB⟩:=hv;show dF (fq B ρ bw) bw w b4 (.eQ (gp aV y) off) v;rw[e];exact⟨b,D,h1,fun hx=>h2 (b8 b hx),h3,cs,aE,br,fun j g1 g2=>gu (cB j g1 g2)⟩
 ·rename_i n o s;cases hb:n9 ρ n o s with
  |false=>simp[hb] at h
  |true=>exact⟨hv.1,Bx S hR hb hv.2 (fun e p=>p.trans (by rw[e]))⟩
 ·rename_i n t;split at h
  ·rename_i hl;have hv:v=.slice none 0 0:=hv;obtain⟨⟨au,h1,h2⟩,_⟩:=hR n _ hl;exact⟨by rw[hv];rfl,Ref.mk h1 h2 (by rw[(Qp hl).1,hv])⟩
  ·cases h
 ·rename_i n off o s qD;cases hb:(n9 ρ n o s&&Nat.beq off qD) with
  |false=>simp[hb] at h
  |true=>
   simp only[Bool.and_eq_true] at hb;have:=Nat.eq_of_beq_eq_true hb.2;subst this;obtain⟨b,h1,h2⟩:=hv;exact⟨b,h1,Bx S hR hb.1 h2 (fun e p=>by rw[e];exact p)⟩
 ·rename_i g ns cG cs;cases hb:(Nat.beq g cG&&wI ρ ns cs) with
  |false=>simp[hb] at h
  |true=>
   simp only[Bool.and_eq_true] at hb;have:=Nat.eq_of_beq_eq_true hb.1;subst this;obtain⟨vs,h1,h2,h3⟩:=hv;obtain⟨aw,an⟩:=adV S hR hb.2 h2 h3;exact⟨vs,h1,aw,an⟩
 ·trivial
 ·exact hv
 ·rename_i n t o s be;cases hb:n9 ρ n o s with
  |false=>simp[hb] at h
  |true=>
   simp only[hb,cond_true] at h;split at h
   ·rename_i e;subst e;obtain⟨b,h1,h2⟩:=hv;exact⟨b,h1,Bx S hR hb h2 (fun e p=>by rw[e];exact p)⟩
   ·cases h
 ·cases h
theorem aer{aV:List fI}{ab:List az}{y:sk aV}(h:r4 st ρ aV ab=some y)(bT:(ur aV y).head?=some .dH):ab.head?=some .dH:=by
 cases aV with
 |nil=>cases bT
 |cons s aV=>
  cases ab with
  |nil=>cases h
  |cons l ab=>
   simp only[r4] at h;split at h
   ·rename_i a b h1 h2;cases h;simp only[ur,List.head?_cons,Option.some.injEq] at bT ⊢;cases s with
    |dH=>cases l<;>first|rfl|cases h1
    |_=>cases bT
   ·cases h
theorem RQ(S:ai O U X B st tm w)(hR:uG st ρ bw)(b8:∀b,b4 b->ar X B st.sites b)(eF:Dt B st ρ b4):∀{aV:List fI} {ab:List az} {y:sk aV} {vs:List Value},r4 st ρ aV ab=some y->
  cy B st.sites w (ar X B st.sites) ab vs->cy (fq B ρ bw) bw w b4 (ur aV y) vs:=by
 intro aV;induction aV with
 |nil=>
  intro ab y vs h hv;match ab,h with
  |[],_=>rw[hv.l8];exact .nil
 |cons s aV ih=>
  intro ab y vs h hv;match ab,h with
  |l::ab,h=>
   simp only[r4] at h;split at h
   ·rename_i a b h1 h2;cases h;obtain⟨v,ca,rfl,aw,an⟩:=hv.inv;exact .cons (fI.gW S hR b8 eF h1 aw) (ih h2 an)
   ·cases h
theorem fF.gW(S:ai O U X B st tm w)(hR:uG st ρ bw)(b8:∀b,b4 b->ar X B st.sites b)(eF:Dt B st ρ b4){s:fF}{a:aI}{y:s.J}{v:Value}(h:s.ex st ρ a=some y)(hv:cj B st.sites w (ar X B st.sites) a v):
  cj (fq B ρ bw) bw w b4 (s.mk y) v:=by
 unfold fF.ex at h;split at h
 ·exact fI.gW S hR b8 eF h hv
 ·obtain⟨vs,h1,h2,h3⟩:=hv;have:=RQ S hR b8 eF h ⟨h2,h3⟩;exact⟨vs,h1,this.1,this.2⟩
 ·cases h
theorem aep:∀{aV:List (Nat×fF)} {y:xj aV},B6 st ρ aV=some y->∀t v,look (wN aV y) t=some v->∃s:fF,∃y':s.J,s.ex st ρ (st.get t)=some y'/\v=s.mk y':=by
 intro aV;induction aV with
 |nil=>intro y h t v hl;cases hl
 |cons s aV ih=>
  intro y h t v hl;simp only[B6] at h;split at h
  ·rename_i a b h1 h2;cases h;simp only[wN,look] at hl;cases hb:s.1.beq t with
   |true=>
    simp only[hb,cond_true,Option.some.injEq] at hl;have:=Nat.eq_of_beq_eq_true hb;subst this;exact⟨s.2,a,h1,hl.symm⟩
   |false=>
    simp only[hb,cond_false] at hl;exact ih h2 t v hl
  ·cases h
theorem aeq:∀{aV:List (Nat×et×Loc)} {y:uh aV},B7 st ρ aV=some y->∀n bF,look (gD aV y) n=some bF->∃z:et,∃y':z.J,∃D,look ρ n=some D/\z.ex st ρ D=some y'/\bF=z.mk y':=by
 intro aV;induction aV with
 |nil=>intro y h n bF hl;cases hl
 |cons s aV ih=>
  intro y h n bF hl;simp only[B7] at h;split at h
  ·rename_i a b h1 h2;cases h;simp only[gD,look] at hl;cases hb:s.1.beq n with
   |true=>
    simp only[hb,cond_true,Option.some.injEq] at hl;have:=Nat.eq_of_beq_eq_true hb;subst this;obtain⟨D,aw,an⟩:=Option.bind_eq_some_iff.1 h1;exact⟨s.2.1,a,D,aw,an,hl.symm⟩
   |false=>
    simp only[hb,cond_false] at hl;exact ih h2 n bF hl
  ·cases h
theorem et.b'(z:et)(y:z.J):(z.mk y).b'=0:=by cases z<;>rfl
theorem ad9{eo:af}:∀{aV:List (Nat×et×Loc)} {ρ:Ren} {y:uh aV},rT eo aV=some ρ->∀n D,look ρ n=some D->(∃au,look (gD aV y) n=some au/\au.b'=0):=by
 intro aV;induction aV with
 |nil=>intro ρ y h n D hl;simp only[rT] at h;cases h;cases hl
 |cons s aV ih=>
  intro ρ y h n D hl;simp only[rT] at h;split at h
  ·rename_i a b h1 h2;cases h;obtain⟨eV,d'⟩:=y;simp only[gD,look] at hl ⊢;cases hb:s.1.beq n with
   |true=>simp only[cond_true];exact⟨_,rfl,et.b' _ _⟩
   |false=>
    simp only[hb,cond_false] at hl ⊢;exact ih h2 n D hl
  ·cases h
theorem ad8{eo:af}:∀{aV:List (Nat×et×Loc)} {ρ:Ren},rT eo aV=some ρ->(keys ρ).Nodup->∀n z,(n,z,Loc.same)∈aV->∃s,look ρ n=some (some (n,s)):=by
 intro aV;induction aV with
 |nil=>intro ρ h _ n z hm;simp at hm
 |cons s aV ih=>
  intro ρ h hn n z hm;simp only[rT] at h;split at h
  ·rename_i a b h1 h2;cases h;simp only[keys,List.nodup_cons] at hn;rcases List.mem_cons.1 hm with hm|hm
   ·subst hm;simp only[Kl] at h1;split at h1
    ·cases h1;exact⟨_,by simp[look];rfl⟩
    ·cases h1
   ·obtain⟨au,fD⟩:=ih h2 hn.2 n z hm;refine⟨au,?_⟩;simp only[look];have:¬s.1=n:=by
     rintro rfl;have key:∀{ρ:Ren} {n:Nat} {D},look ρ n=some D->n∈keys ρ:=by
      intro ρ;induction ρ with
      |nil=>intro n D h;cases h
      |cons p ρ atb=>
       obtain⟨m,q⟩:=p;intro n D h;simp only[look] at h;cases hb:m.beq n with
       |true=>have:=Nat.eq_of_beq_eq_true hb;subst this;exact List.mem_cons_self
       |false=>simp only[hb,cond_false] at h;exact List.mem_cons_of_mem _ (atb h)
     exact hn.1 (key fD)
    rw[ko this];exact fD
  ·cases h
theorem Ft:∀{ρ:Ren} {n o s:Nat},look ρ n=some (some (o,s))->o∈nU ρ:=by
 intro ρ;induction ρ with
 |nil=>intro n o s h;cases h
 |cons p ρ ih=>
  obtain⟨m,D⟩:=p;intro n o s h;simp only[look] at h;cases hb:m.beq n with
  |true=>
   simp only[hb,cond_true,Option.some.injEq] at h;subst h;exact List.mem_cons_self
  |false=>
   simp only[hb,cond_false] at h;have:=ih h;cases D with
   |none=>exact this
   |some q=>exact List.mem_cons_of_mem _ this
theorem acW:∀{ρ:Ren} {n m o s au:Nat},(nU ρ).Nodup->look ρ n=some (some (o,s))->look ρ m=some (some (o,au))->n=m:=by
 intro ρ;induction ρ with
 |nil=>intro n m o s au _ h;cases h
 |cons p ρ ih=>
  obtain⟨k,D⟩:=p;intro n m o s au Y h ae;simp only[look] at h ae;have nF:(nU ρ).Nodup:=by
   cases D with
   |none=>exact Y
   |some q=>exact(List.nodup_cons.1 Y).2
  cases hb:k.beq n with
  |true=>
   simp only[hb,cond_true,Option.some.injEq] at h;subst h;cases cd:k.beq m with
   |true=>rw[<-Nat.eq_of_beq_eq_true hb,<-Nat.eq_of_beq_eq_true cd]
   |false=>
    simp only[cd,cond_false] at ae;exact absurd (Ft ae) (List.nodup_cons.1 Y).1
  |false=>
   simp only[hb,cond_false] at h;cases cd:k.beq m with
   |true=>
    simp only[cd,cond_true,Option.some.injEq] at ae;subst ae;exact absurd (Ft h) (List.nodup_cons.1 Y).1
   |false=>
    simp only[cd,cond_false] at ae;exact ih nF h ae
theorem Shape.gW(S:ai O U X B st tm w){aN:Shape}{y:aN.J}(h:aN.ex st=some y):∃aD,ai O U X aD (aN.st y) tm w/\∀n z,(n,z,Loc.same)∈aN.sites->aD n=B n:=by
 unfold Shape.ex at h;have fH:dM st.sites (rz st aN.cO++rA st aN.sites):=adg.append adh;have dk:=S.B5 fH;rw[<-af.wE] at dk;generalize st.iP (rz st aN.cO++rA st aN.sites)=eo at h dk;cases sC:eo.nt.beq aN.nt with
 |false=>simp[sC] at h
 |true=>
  simp only[sC,cond_true] at h;split at h
  ·rename_i ρ yq;cases hc:(fm (keys ρ)&&fm (nU ρ)) with
   |false=>simp[hc] at h
   |true=>
    simp only[hc,cond_true] at h;simp only[Bool.and_eq_true,pZ] at hc;split at h
    ·rename_i eV d' h1 h2;cases h;have facts:=aeq h2;have UD:∀{z:et} {y':z.J} {o s:Nat},z.ex eo ρ (some (o,s))=some y'->∃aa,look eo.sites o=some aa/\aa.b'=s/\aa.live=true:=by
      intro z y' o s hz;cases z with
      |row t=>
       simp only[et.ex] at hz;split at hz
       ·rename_i au be xs hl;cases hb:au.beq s with
        |false=>simp[hb] at hz
        |true=>exact⟨_,hl,Nat.eq_of_beq_eq_true hb,rfl⟩
       ·cases hz
      |r' t n=>
       simp only[et.ex] at hz;split at hz
       ·rename_i au be xs hl;cases hb:au.beq s with
        |false=>simp[hb] at hz
        |true=>exact⟨_,hl,Nat.eq_of_beq_eq_true hb,rfl⟩
       ·cases hz
      |deep t=>
       simp only[et.ex] at hz;split at hz
       ·rename_i au be xs hl;cases hb:au.beq s with
        |false=>simp[hb] at hz
        |true=>exact⟨_,hl,Nat.eq_of_beq_eq_true hb,rfl⟩
       ·cases hz
      |box aV=>
       simp only[et.ex] at hz;split at hz
       ·rename_i hl;exact⟨_,hU hl,rfl,rfl⟩
       ·cases hz
      |map t=>
       simp only[et.ex] at hz;split at hz
       ·rename_i au be xs hl;cases hb:au.beq s with
        |false=>simp[hb] at hz
        |true=>exact⟨_,hl,Nat.eq_of_beq_eq_true hb,rfl⟩
       ·cases hz
     have hR:uG eo ρ (gD aN.sites d'):=by
      intro n D hn;obtain⟨au,lC,sy⟩:=ad9 (y:=d') yq n D hn;refine⟨⟨au,lC,sy⟩,fun o s e=>?_⟩
      obtain⟨z,y',cW,aw,an,_⟩:=facts n au lC;rw[hn] at aw;cases aw;subst e;exact UD an
     have live:∀n,bY (gD aN.sites d') n->∀b,b∈bJ (fq B ρ (gD aN.sites d') n)->∃o s,look ρ n=some (some (o,s))/\bY eo.sites o/\fq B ρ (gD aN.sites d') n=B o:=by
      rintro n ⟨bF,hn,_⟩ b hb;obtain⟨z,y',D,aw,an,_⟩:=facts n bF hn;cases D with
      |none=>rw[(Qp aw).2] at hb;cases hb
      |some q=>
       obtain⟨o,s⟩:=q;obtain⟨aa,q1,_,dq⟩:=UD an;exact⟨o,s,aw,⟨aa,q1,dq⟩,by simp[fq,aw]⟩
     have b8:∀b,ar X (fq B ρ (gD aN.sites d')) (gD aN.sites d') b->ar X B eo.sites b:=by
      rintro b (hb|⟨n,hn,hb⟩)
      ·exact .inl hb
      ·obtain⟨o,s,_,q2,dq⟩:=live n hn b hb;exact .inr ⟨o,q2,by rw[<-dq];exact hb⟩
     have gu:∀{d:aJ} {v:Value},bm w (ar X B eo.sites) d v->bm w (ar X (fq B ρ (gD aN.sites d')) (gD aN.sites d')) d v:=
      fun h=>cj.gu (B:=B) (sites:=[]) (a:=one _) b8 (fun b hb=>dk.lt (b8 b hb)) h
     have eF:Dt B eo ρ (ar X (fq B ρ (gD aN.sites d')) (gD aN.sites d')):=by
      rintro o cE hm b hb (hx|⟨n,hn,yG⟩)
      ·exact(dk.cf o b cE hb).1 hx
      ·obtain⟨M,s,q1,q2,dq⟩:=live n hn b yG;rw[dq] at yG;have e:=dk.dC o M b cE q2 hb yG;subst e;have hin:=Ft q1;rw[<-wv] at hin;rw[hm] at hin;cases hin
     refine⟨fq B ρ (gD aN.sites d'),⟨?_,fun t=>?_,fun n bF hn=>?_,fun n m b c9 fU g1 g2=>?_,fun n b c9 g1=>?_,dk.frame,dk.old,dk.fC⟩,fun n z hm=>?_⟩
     ·rw[dk.nt];exact Nat.eq_of_beq_eq_true sC
     ·show cj _ _ _ _ (af.get _ t) _;unfold af.get;cases hl:look (wN aN.cO eV) t with
      |none=>simp only[Shape.st,hl];trivial
      |some v=>
       simp only[Shape.st,hl];obtain⟨s,y',aw,an⟩:=aep h1 t v hl;rw[an];exact fF.gW dk hR b8 eF aw (dk.cO t)
     ·have hn:look (gD aN.sites d') n=some bF:=hn;obtain⟨z,y',D,aw,an,bo⟩:=facts n bF hn;rw[bo];cases z with
      |row t=>
       cases D with
       |none=>
        simp only[et.ex] at an;cases an;exact⟨0,[],⟨by simp,.inl ⟨by rw[bo] at hn;unfold fq;rw[aw,hn];rfl,rfl⟩⟩,fun j h=>by simp[flat] at h⟩
       |some q=>
        obtain⟨o,s⟩:=q;simp only[et.ex] at an;split at an
        ·rename_i au be xs hl;cases hb:au.beq s with
         |false=>simp[hb] at an
         |true=>
          simp only[hb,cond_true] at an;split at an
          ·rename_i e;subst e;cases an;obtain⟨e,cs,q1,q2⟩:=dk.sites o _ hl;refine⟨e,cs,?_,fun j g1 g2=>gu (q2 j g1 g2)⟩
           have:fq B ρ (gD aN.sites d') n=B o:=by simp[fq,aw]
           rw[this];exact q1
          ·cases an
        ·cases an
      |r' t m=>
       cases D with
       |none=>cases an
       |some q=>
        obtain⟨o,s⟩:=q;simp only[et.ex] at an;split at an
        ·rename_i au be xs hl;cases hb:au.beq s with
         |false=>simp[hb] at an
         |true=>
          simp only[hb,cond_true] at an;split at an
          ·rename_i e;subst e;split at an
           ·rename_i hlen;cases an;obtain⟨e,cs,q1,q2⟩:=dk.sites o _ hl;simp only[et.mk,alp hlen];refine⟨e,cs,?_,fun j g1 g2=>gu (q2 j g1 g2)⟩
            have:fq B ρ (gD aN.sites d') n=B o:=by simp[fq,aw]
            rw[this];exact q1
           ·cases an
          ·cases an
        ·cases an
      |deep t=>
       cases D with
       |none=>
        simp only[et.ex] at an;cases an;have e:fq B ρ (gD aN.sites d') n=.tuple #[.slice none 0 0]:=by rw[bo] at hn;unfold fq;rw[aw,hn];rfl
        exact⟨0,.slice none 0 0,[],[],e,by rw[e];exact List.nodup_nil,⟨by simp,.inl ⟨rfl,rfl⟩⟩,.nil⟩
       |some q=>
        obtain⟨o,s⟩:=q;simp only[et.ex] at an;split at an
        ·rename_i au be xs hl;cases hb:au.beq s with
         |false=>simp[hb] at an
         |true=>
          simp only[hb,cond_true] at an;split at an
          ·rename_i e;subst e;cases an;obtain⟨e,v,ns,cs,q1,q2,dq,kB⟩:=dk.sites o _ hl;have:fq B ρ (gD aN.sites d') n=B o:=by simp[fq,aw]
           exact⟨e,v,ns,cs,this.trans q1,by rw[this];exact q2,dq,kB.map gu fun _ _ _ _=>rfl⟩
          ·cases an
        ·cases an
      |box aV=>
       cases D with
       |none=>cases an
       |some q=>
        obtain⟨o,s⟩:=q;simp only[et.ex] at an;split at an
        ·rename_i cells hl;obtain⟨b,T,cur,q1,q2,dq,kB,asM,sU⟩:=dk.sites o _ (hU hl);have:=RQ dk hR b8 eF an ⟨dq,sU⟩;exact⟨b,T,cur,by simp[fq,aw,q1],q2,this.1,kB,fun bT=>asM (aer an bT),this.2⟩
        ·cases an
      |map t=>
       cases D with
       |none=>cases an
       |some q=>
        obtain⟨o,s⟩:=q;simp only[et.ex] at an;split at an
        ·rename_i au be es hl;cases hb:au.beq s with
         |false=>simp[hb] at an
         |true=>
          simp only[hb,cond_true] at an;split at an
          ·rename_i e;subst e;cases an;obtain⟨b,q1,q2⟩:=dk.sites o _ hl;have:fq B ρ (gD aN.sites d') n=B o:=by simp[fq,aw]
           exact⟨b,this.trans q1,q2⟩
          ·cases an
        ·cases an
     ·obtain⟨o,s,a1,a2,a3⟩:=live n c9 b g1;obtain⟨M,au,b1,b2,b3⟩:=live m fU b g2;rw[a3] at g1;rw[b3] at g2;have:=dk.dC o M b a2 b2 g1 g2;subst this;exact acW hc.2 a1 b1
     ·obtain⟨o,s,a1,a2,a3⟩:=live n c9 b g1;rw[a3] at g1;exact dk.cf o b a2 g1
     ·obtain⟨s,hs⟩:=ad8 yq hc.1 n z hm;simp[fq,hs]
    ·cases h
  ·cases h
end
end Go.Jk
