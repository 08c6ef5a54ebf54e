/- FnExactRootSwap: the program's RootSwap returns what the reference's returns, for all arguments. (part 2 of 6: JnOps17, JnOps18, JnCall1, JnCall2, JnCall3, JnCall4, JnCall5, JnBld, JnCall6, JnDraw1, JnNest, JnLogic, JnWalk0, JnDraw2, JnDraw3, JnWalk1, JnShape, JnShape2, JnWalk2) Conditions: none beyond the statement. -/
import Derived.Test.YthllakklnccioaaGreatDoorZFnExactRootSwap0
import Derived.RangeFuncRecord
import Derived.Below
import Derived.RangeFuncSeq
import Derived.Orders
import Derived.OrdersIn
import Derived.ControlIn
import Derived.LoopIn
import Derived.RangeFuncCalls
set_option linter.unusedVariables false
set_option linter.unusedSimpArgs false
namespace Go.Jk
section
variable {P:Program}{L:World}{J:List Nat}{X:Nat->Prop}{B:Nat->Value}{st:ad}{tm:Array Value}{w:World}{D:Oper}
theorem Km(S:ah L J X B st tm w){T:TypeId}{g' kC:TypeId}{t:aG}{r:Option Operand}{o:Nat}(au:D.op=.makeMap T r)(db:D.dst=some o)(Y:b6 st D.dst=true)(a0:P.underlying T=some (.map g' kC))
  (hr:∀x,r=some x->∃k n,Act.eval ⟨tm,[]⟩ x=.int k n):cz P L J X st tm w D (bP (.own o (aZ st o))) [(o,.map (aZ st o) t [])]:=by
 have bZ:=S.makeMap (o:=o) (t:=t);refine io (us:=[(o,.map (aZ st o) t [])]) bZ Y (vv:=.map (some w.heap.size)) ?_ ?_
 ·unfold execOp;cases r with
  |none=>simp[au,Instr.makeMap]
  |some x=>
   obtain⟨k,n,hx⟩:=hr x rfl;simp[au,Instr.makeMap,hx,run_underlying a0,asInt,asIntOf,Result.andThen]
 ·refine⟨rfl,Ref.mk (O:=.map (aZ st o) t []) ?_ rfl (by simp[bY])⟩
  simp only[aW,cn];simp
theorem K6(S:ah L J X B st tm w){C:Ctx}(az:CtxOk P C){T:TypeId}{m k x:Operand}(au:D.op=.mapUpdate T m k x\/D.op=.insert T m k x)(Y:b6 st D.dst=true):
  Holds (kQ.rK C st T m k x) (cz P L J X st tm w D):=by
 have bL:=az.tt T;unfold kQ.rK;split
 ·rename_i g' kC t o s n d a0 hm ag hx;rw[a0] at bL;split
  ·rename_i am u es hl;cases hb:(am.beq s&&decide (u=t)) with
   |false=>exact .fail
   |true=>
    simp only[cond_true];simp only[Bool.and_eq_true,decide_eq_true_eq] at hb;have M:=Nat.eq_of_beq_eq_true hb.1;subst M;split
    ·rename_i v hv;refine Holds.e9 ?_
     have em:=cV S C T m;rw[hm] at em;have qM:=cV S C 0 k;rw[ag] at qM;have ex:=cV S C 0 x;rw[hx] at ex;have hl:look st.sites o=some (.map am u es):=hl;obtain⟨b,h1,arr,clock,h2,aa⟩:=S.sites o _ hl;have qq:Act.eval ⟨tm,[]⟩ m=B o:=(Ref.at em.2 hl rfl:_=bY (B o)).trans (by rw[h1];rfl)
     obtain⟨bs,pa,lc⟩:=hp (s:=n) qM;have AS:Act.eval ⟨tm,[]⟩ k=gD n:=by rw[pa];exact Mt lc
     have AI:Act.eval ⟨tm,[]⟩ x=nb u v:=adX hv (av:=an X B st.sites) ex;obtain⟨o6,oJ,r1,r2⟩:=XE (T:=T) bL.1.1 bL.2.1 h2 aa n v;have bZ:=S.acQ hl h1 h2 (oJ:=oJ) r2;refine qW (us:=[(o,.map am u (oH es n v))]) bZ Y ?_
     unfold execOp;rcases au with au|au
     ·simp only[au,qq,h1,AS,AI,Sem.run_bind,r1,Result.andThen_ok,Sem.run_pure]
     ·simp only[au,qq,h1,AS,AI,Sem.run_bind,r1,Result.andThen_ok,Sem.run_pure]
    ·exact .fail
  ·exact .fail
 ·exact .fail
theorem ZF(S:ah L J X B st tm w){C:Ctx}(az:CtxOk P C){T g' kC:TypeId}{t:aG}{m k:Operand}{c:Bool}{l:aw}{n:al}{es:List (al×den t)}{d:aM}(au:D.op=.lookup T m k c)(Y:b6 st D.dst=true)
  (a0:C.tt T=.map g' kC t) (hm:aP C st T m=.av (.ai l)) (ag:aP C st 0 k=.av (.ai (.d (.str n)))) (HZ:mapOf st l=some ⟨t,es⟩) (H0:uK t (j3 es n)=some d):
  cz P L J X st tm w D (bif c then .je [.ai (.d d),.ai (.d (.bool (j3 es n).isSome))] else one d) []:=by
 have bL:=az.tt T;rw[a0] at bL;have em:=cV S C T m;rw[hm] at em;have qM:=cV S C 0 k;rw[ag] at qM;obtain⟨bs,pa,lc⟩:=hp (s:=n) qM;have AS:Act.eval ⟨tm,[]⟩ k=gD n:=by rw[pa];exact Mt lc
 have hz:∀c5:Option (den t),uK t c5=some d->(∀x,c5=some x->∀av,bj w av d (nb t x))/\(c5=none->∃z,(zeroValue kC).run P w=.ok z w/\∀av,bj w av d z):=by
  intro c5 h;have he:=bL.2.2;have key:∀{U5:TypeDesc} {z:Value},iE P kC U5 z->(zeroValue kC).run P w=.ok z w:=by
   intro U5 z h;obtain⟨_,_,_,h⟩:=h;cases hi:P.info? kC with
   |none=>simp[hi] at h
   |some i=>
    simp only[hi,Option.map_some,Option.some.injEq,Prod.mk.injEq] at h;simp[zeroValue,kJ hi,h.2]
  cases t<;>first|(exact he.elim)|skip
  ·simp only[uK,Option.some.injEq] at h;subst h;refine⟨fun x hx av=>by subst hx;exact .int _ _,fun hn=>?_⟩
   subst hn;exact⟨_,key he,fun av=>.int _ _⟩
  ·simp only[uK,Option.some.injEq] at h;subst h;refine⟨fun x hx av=>by subst hx;exact .bool _,fun hn=>?_⟩
   subst hn;exact⟨_,key he,fun av=>.bool _⟩
 obtain⟨hz1,hz2⟩:=hz _ H0;have main:∃v,(Instr.lookup T (Act.eval ⟨tm,[]⟩ m) (Act.eval ⟨tm,[]⟩ k) c).run P w=.ok (if c then .tuple #[v,.bool (j3 es n).isSome] else v) w/\∀av,bj w av d v:=by
  rw[AS];rcases MN S em HZ with⟨h1,rfl⟩|⟨b,h1,arr,clock,h2,aa⟩
  ·obtain⟨z,fR,gN⟩:=hz2 rfl;refine⟨z,?_,gN⟩;have hf:=xo (w:=w) (t:=t) bL.2.1 (es:=[]) (arr:=#[]) rfl n;have HY:(Instr.findKey g' (gD n) []).run P w=.ok none w:=hf;simp[Instr.lookup,run_underlying bL.1.1,h1,tA bL.2.1,HY,fR,j3,Result.andThen]
  ·have hf:=xo (w:=w) bL.2.1 aa n;have hg:=ZC n es 0;cases a3:kX es n 0 with
   |none=>
    rw[a3] at hf hg;have hg:j3 es n=none:=hg.symm;obtain⟨z,fR,gN⟩:=hz2 hg;refine⟨z,?_,gN⟩;simp[Instr.lookup,run_underlying bL.1.1,h1,MapKept.run_getObj_map h2,tA bL.2.1,hf,fR,hg,Result.andThen]
   |some p=>
    rw[a3] at hf hg;have hg:j3 es n=some p.2:=hg.symm;refine⟨nb t p.2,?_,hz1 p.2 hg⟩;simp[Instr.lookup,run_underlying bL.1.1,h1,MapKept.run_getObj_map h2,tA bL.2.1,hf,hg,Result.andThen]
 obtain⟨v,r1,r2⟩:=main;refine dx S Y (vv:=if c then .tuple #[v,.bool (j3 es n).isSome] else v) ?_ ?_
 ·unfold execOp;simp only[au,Sem.run_bind,r1,Result.andThen_ok,Sem.run_pure]
 ·cases c with
  |true=>
   refine⟨[v,.bool (j3 es n).isSome],rfl,rfl,fun j g1 g2=>?_⟩
   match j,g1 with
   |0,_=>exact r2 _
   |1,_=>exact bj.bool _
  |false=>exact r2 _
theorem XZ(S:ah L J X B st tm w){C:Ctx}(az:CtxOk P C)(Y:b6 st D.dst=true):Holds (kQ C st D) (cz P L J X st tm w D):=by
 unfold kQ;split
 ·rename_i t r au;split
  ·rename_i o g' kC ty db a0;have bL:=az.tt t;rw[a0] at bL;split
   ·exact Holds.e9 (Km S au db Y bL.1.1 (fun x h=>by cases h))
   ·rename_i x;split
    ·rename_i k n hx;refine Holds.e9 (Km S au db Y bL.1.1 (fun y h=>?_))
     cases h;have ex:=cV S C 0 x;rw[hx] at ex;exact⟨k,n,hq ex⟩
    ·exact .fail
  ·exact .fail
 ·rename_i t m k x au;exact K6 S az (.inl au) Y
 ·rename_i t m k x au;exact K6 S az (.inr au) Y
 ·rename_i t m k c au;split
  ·rename_i g' kC ty l n a0 hm ag;split
   ·rename_i u es HZ;cases hu:decide (u=ty) with
    |false=>exact .fail
    |true=>
     have hu:=of_decide_eq_true hu;subst hu;simp only[cond_true];split
     ·rename_i d H0;exact Holds.ok (ZF S az au Y a0 hm ag HZ H0)
     ·exact .fail
   ·exact .fail
  ·exact .fail
 ·rename_i t x au;split
  ·rename_i bM q z e n a0 hx;exact Holds.ok (Vp S az au Y a0 hx)
  ·exact .fail
 ·exact .fail
end
theorem nl{P:Program}{e:TypeId}{t:aG}(h:Er P e t):ax t=1/\(∃d z,iE P e d z)/\∃l ea,sI t=some l/\wh t=some ea/\cC (enc t ea)=[l]:=by
 cases t<;>first|exact h.elim|exact⟨rfl,⟨_,_,h⟩,_,_,rfl,rfl,rfl⟩
theorem Kx{P:Program}{e:TypeId}{t:aG}{T:TypeId}(h:Er P e t):t.en=true->T=lh:=by intro ab;cases t<;>first|exact h.elim|cases ab
theorem Cx(t:aG)(x:den t)(xs:List (den t)):flat t (x::xs)=enc t x++flat t xs:=by simp[flat]
theorem Ep(a b:List aM):cC (a++b)=cC a++cC b:=by simp[cC]
theorem M2{t:aG}{z:den t}(hz:wh t=some z)(xs:List (den t)):Ai t xs xs.length=cC (flat t xs):=by
 unfold Ai;rw[hz];suffices h:∀(ys fQ:List (den t)),xs=fQ++ys->((List.range' fQ.length ys.length).flatMap fun j=>cC (enc t (xs.getD j z)))=cC (flat t ys) by
  have:=h xs [] rfl;rw[List.length_nil,<-List.range_eq_range'] at this;exact this
 intro ys;induction ys with
 |nil=>intro fQ _;rfl
 |cons y ys ih=>
  intro fQ hx;rw[List.length_cons,List.range'_succ,List.flatMap_cons,Cx,Ep];have e1:xs.getD fQ.length z=y:=by rw[hx];simp[List.getD]
  have e2:=ih (fQ++[y]) (by rw[hx];simp)
  rw[List.length_append,List.length_singleton] at e2;rw[e1,e2]
theorem En{t:aG}:∀{U:List aw} {xs:List (den t)},sF t U=some xs->U=cC (flat t xs):=by
 intro U;induction U with
 |nil=>intro xs h;cases h;rfl
 |cons l U ih=>
  intro xs h;cases l<;>try(cases h;done)
  rename_i d;simp only[sF] at h;split at h
  ·rename_i x ys h1 h2;cases h;rw[Cx,Ep,<-ih h2,nD _ _ _ h1];rfl
  ·cases h
theorem tC{aD:Type}{n:Nat}{xs ys:List aD}(h:long n xs=some ys):ys=xs/\xs.length=n:=by
 unfold long at h;split at h
 ·cases h;exact⟨rfl,by assumption⟩
 ·cases h
section
variable {P:Program}{L:World}{J:List Nat}{X:Nat->Prop}{B:Nat->Value}{st:ad}{tm:Array Value}{w:World}{D:Oper}
theorem ah.jV(S:ah L J X B st tm w):ph w/\∀b,b∈n9->¬an X B st.sites b/\b<w.heap.size:=by
 have G:=S.eS;refine⟨aem (fun b hb=>S.frame.block b (G.lt b hb) (G.J b hb)) G.ok,fun b hb=>⟨?_,Nat.lt_of_lt_of_le (G.lt b hb) S.frame.size⟩⟩
 rintro(h|⟨o,h1,h2⟩)
 ·exact G.X b hb h
 ·rcases(S.b7 o b h1 h2).2 with h|h
  ·exact G.J b hb h
  ·have:=G.lt b hb;omega
theorem acU{ds:List aM}{vs:List Value}{av:Nat->Prop}(h:ch w av ds vs):∀u∈vs,u.oneCell'=true:=by
 intro u hu;obtain⟨j,hj,rfl⟩:=List.getElem_of_mem hu;exact(h.2 j (by rw[<-h.1];exact hj) hj).h4
theorem MJ(S:ah L J X B st tm w){T:TypeId}{o n:Nat}{t:aG}{xs:List (den t)}{vs:List Value}(he:ax t=1)(ez:t.en=true->T=lh)(hv:ch w (an X B st.sites) (flat t xs) vs)(Y:b6 st D.dst=true)
  (cI:(execOp (Act.eval ⟨tm,[]⟩) D).run P w=.ok (.value (.pointer (some ⟨w.heap.size,0,none⟩))) (w.alloc (.cells vs.toArray T (0,0)))):Holds (pZ o st t n xs) (cz P L J X st tm w D):=by
 unfold pZ;cases hc:(xs.length.beq n&&Nat.ble n 1000) with
 |false=>exact .fail
 |true=>
  simp only[Bool.and_eq_true] at hc;have h1:=Nat.eq_of_beq_eq_true hc.1;have h2:=Nat.le_of_ble_eq_true hc.2;simp only[cond_true];have hl:vs.length=xs.length:=by rw[hv.1,dR,he,Nat.mul_one]
  have bZ:=S.DN (o:=o) (T:=T) (rest:=[]) (cap:=n) hv (by rw[he,hl,h1];simp) (by unfold maxLen;omega) ez
  rw[List.append_nil] at bZ;refine Holds.e9 (io (us:=[(o,.row (aZ st o) t xs)]) bZ Y cI ?_);refine⟨w.heap.size,by simp,Ref.mk (O:=.row (aZ st o) t xs) ?_ rfl ⟨xs.length,n,by simp[bY]⟩⟩
  simp only[aW,cn];simp
theorem Z1(S:ah L J X B st tm w){C:Ctx}(az:CtxOk P C){elem e:TypeId}{t:aG}{n o:Nat}(a0:C.tt elem=.arr e t n)(au:D.op=.alloc elem)(Y:b6 st D.dst=true):Holds (rS o st t n) (cz P L J X st tm w D):=by
 have bL:=az.tt elem;rw[a0] at bL;obtain⟨_,_,l5⟩:=id bL;obtain⟨he,_,l,ea,hzl,jL,hzz⟩:=nl l5;unfold rS;rw[jL];obtain⟨v,hv,hzv⟩:=cf.xn (w:=w) bL (z:=List.replicate n l) (by simp only[cf.zero,hzl,Option.map_some])
 obtain⟨h1,h2,aa⟩:=qV hzv;have hr:ch w (an X B st.sites) (flat t (List.replicate n ea)) v.cells.toList:=by
  have:=aa B st.sites w (an X B st.sites);have e1:∀n,cC (flat t (List.replicate n ea))=List.replicate n l:=by
   intro n;induction n with
   |zero=>rfl
   |succ n ih=>rw[List.replicate_succ,Cx,Ep,hzz,List.replicate_succ,ih];rfl
  refine ir (B:=B) (sites:=st.sites) ?_
  rw[e1];exact⟨h1,this⟩
 refine MJ (T:=elem) S he (Kx l5) hr Y ?_
 unfold execOp;simp[au,Instr.alloc,hv,newVar,newRow]
theorem ab1(S:ah L J X B st tm w){C:Ctx}(az:CtxOk P C){elem e:TypeId}{t:aG}{n o:Nat}{x:Operand}(a0:C.tt elem=.arr e t n)(au:D.op=.box elem x)(Y:b6 st D.dst=true):Holds (sH o st t n (aP C st elem x)) (cz P L J X st tm w D):=by
 have bL:=az.tt elem;rw[a0] at bL;have he:=(nl bL.2.2).1;have bo:=cV S C elem x;unfold sH;split
 ·rename_i U hx;rw[hx] at bo;split
  ·rename_i xs nX;obtain⟨vs,hv,hl,hr⟩:∃vs:List Value,Act.eval ⟨tm,[]⟩ x=.agg vs.toArray/\vs.length=U.length/\∀j (h:j<U.length) (ab:j<vs.length),dk B st.sites w (an X B st.sites) (U[j]) (vs[j]):=bo;have o8:ck B st.sites w (an X B st.sites) U vs:=⟨hl,hr⟩;rw[En nX] at o8;refine MJ (T:=elem) S he (Kx bL.2.2) (ir o8) Y ?_
   unfold execOp;simp[au,Instr.box,newVar,newRow,hv,Value.cells]
  ·exact .fail
 ·exact .fail
theorem ah.arr(S:ah L J X B st tm w){o s:Nat}{t:aG}{xs:List (den t)}{v:Value}(hr:rowOf st o s=some ⟨t,xs⟩)(hv:dk B st.sites w (an X B st.sites) (.ek o s t 0 0) v):
  ∃b c,∃cs:List Value,v=.pointer (some ⟨b,0,none⟩)/\bY (B o)=.slice (some ⟨b,0,none⟩) xs.length c/\ho w b 0 cs/\ch w (an X B st.sites) (flat t xs) cs:=by
 obtain⟨cs,hl,iX⟩:=S.row hr;obtain⟨O,gd,jO⟩:∃O,look st.sites o=some O/\O.b2=s:=by
  rcases jw hr with h|h<;>exact⟨_,h,rfl⟩
 obtain⟨b,hv,u3⟩:=hv;obtain⟨n,c,bW⟩:=Ref.at u3 gd jO;rcases iX with⟨oV,_⟩|⟨a',fq,dK,hcs,_⟩
 ·rw[oV] at bW;cases bW
 ·have QA:=bW;rw[dK] at QA;cases QA;exact⟨b,c,cs,by simpa using hv,dK,hcs,ir hl⟩
theorem aaa(S:ah L J X B st tm w){C:Ctx}(az:CtxOk P C){T e:TypeId}{t:aG}{n:Nat}{x:Operand}(a0:C.tt T=.arr e t n)(au:D.op=.load T x)(Y:b6 st D.dst=true):Holds (sa st t n (aP C st T x)) (cz P L J X st tm w D):=by
 have bL:=az.tt T;rw[a0] at bL;obtain⟨he,_,_,ea,_,jL,_⟩:=nl bL.2.2;have bo:=cV S C T x;unfold sa;split
 ·rename_i o s u hx;rw[hx] at bo;split
  ·rename_i bk xs cJ;split
   ·rename_i g8;obtain⟨rfl,rfl⟩:=g8;refine Holds.d' fun y ak=>?_
    obtain⟨rfl,hlen⟩:=tC (ak:long n xs=some y);obtain⟨b,c,cs,hv,_,hc,hr⟩:=S.arr cJ bo;have hcl:cs.length=n:=by rw[hr.1,dR,he,hlen,Nat.mul_one]
    refine dx S Y (vv:=.agg cs.toArray) ?_ ?_
    ·have cI:=qT (P:=P) (w:=w) bL (by rintro h;cases h) ⟨b,0,none⟩ cs hcl (fun j u hu=>by rw[gl];exact hc j u hu)
     unfold execOp;simp only[au,Instr.loadAt,Instr.sureAddr,hv,Sem.run_bind,Sem.run_pure,Result.andThen_ok,cI];rfl
    ·subst hlen;have:=gX (B:=B) (sites:=st.sites) hr.1 hr.2;rw[<-M2 jL] at this;exact⟨cs,rfl,this.1,this.2⟩
   ·exact .fail
  ·exact .fail
 ·exact .fail
theorem Y1(S:ah L J X B st tm w){C:Ctx}(az:CtxOk P C){T e:TypeId}{t:aG}{n:Nat}{a x:Operand}{v:bA}(a0:C.tt T=.arr e t n)(au:D.op=.store T a x)(Y:b6 st D.dst=true)(hv:lR (aP C st T x)=some v):
  Holds (rD st t n (aP C st T a) v) (cz P L J X st tm w D):=by
 have bL:=az.tt T;rw[a0] at bL;have he:=(nl bL.2.2).1;have n7:=cV S C T a;have hex:=cV S C T x;rw[px hv] at hex;unfold rD;split
 ·rename_i o s u U hx;rw[hx] at n7;split
  ·rename_i am bk xs fj;have fj:look st.sites o=some (.row am bk xs):=fj;split
   ·rename_i g8;obtain⟨rfl,rfl,rfl⟩:=g8;split
    ·rename_i ys ajA;cases hc:ys.length.beq n with
     |false=>exact .fail
     |true=>
      have AH:=Nat.eq_of_beq_eq_true hc;refine Holds.e4 fun r hr=>?_
      obtain⟨_,hlen⟩:=tC (hr:long n xs=some r);obtain⟨vs,nY,hl,dH⟩:∃vs:List Value,Act.eval ⟨tm,[]⟩ x=.agg vs.toArray/\vs.length=U.length/\∀j (h:j<U.length) (ab:j<vs.length),dk B st.sites w (an X B st.sites) (U[j]) (vs[j]):=hex;have o8:ck B st.sites w (an X B st.sites) U vs:=⟨hl,dH⟩;rw[En ajA] at o8;have mV:=ir o8;have kh:vs.length=n:=by rw[mV.1,dR,he,AH,Nat.mul_one]
      obtain⟨b,AN,u3⟩:=n7;obtain⟨m,c,bW⟩:=Ref.at u3 fj rfl;obtain⟨b4,cs,iB,hcs⟩:=S.sites o _ fj;rcases iB.2 with⟨hn,_⟩|⟨g,cap,cur,bG,gu,hz,hg,hnc,gv,ht,jN⟩
      ·rw[hn] at bW;cases bW
      ·have pc:=bW;rw[gu] at pc;cases pc;have akh:cur.size=c:=by rw[ht,he,Nat.mul_one]
       have iD:0+vs.length<=cur.toList.length:=by
        have:cur.toList.length=cur.size:=Array.length_toList;omega
       have bZ:ah L J X B {st with sites:=b8 st.sites o (.row am bk ys)} tm (w.setRow b (a_ cur.toList 0 vs).toArray):=by
        refine S.write fj rfl rfl rfl (fW (by rw[gu];rfl)) hg (fun M hw kq go=>?_)
        refine⟨b4,vs,⟨by rw[he,AH,Nat.mul_one];exact kh,.inr ⟨b,c,_,bG,by rw[gu,hlen,AH],?_,kq,by omega,gv,?_,?_⟩⟩,fun j g1 g2=>jB go (mV.2 j g1 g2)⟩
        ·refine⟨hz.1,hz.2.imp id fun h=>⟨h.1,?_⟩⟩
         rw[List.size_toArray,mi _ _ _ iD];simpa using h.2
        ·rw[List.size_toArray,mi _ _ _ iD,Array.length_toList,akh,he,Nat.mul_one]
        ·rw[he,Nat.mul_one,AH,<-kh];simp[a_]
       refine qW (us:=[(o,.row am bk ys)]) bZ Y ?_
       have cI:=Jj (P:=P) (w:=w) bL (by rintro h;cases h) (vv:=.agg vs.toArray) (cur:=cur.toList) (off:=0) (by simpa using hg) (by simpa using hz) (by simpa[Value.cells,cf.size] using kh) (by simpa[Value.cells] using iD) (by simpa[Value.cells] using acU mV)
       unfold execOp;simp only[au,AN,nY,Instr.storeAt,Instr.sureAddr,Sem.run_bind,Sem.run_pure,Result.andThen_ok,Nat.zero_mul,Nat.zero_add,cI];simp[Value.cells]
    ·exact .fail
   ·exact .fail
  ·exact .fail
 ·exact .fail
theorem VP(S:ah L J X B st tm w){C:Ctx}(az:CtxOk P C){T e:TypeId}{t:aG}{m:Nat}{x i:Operand}{k:IntKind}{n:Int}(a0:C.tt T=.arr e t m)(hi:aP C st 0 i=.av (.ai (.d (.int k n))))(au:D.op=.indexAddr T x i)(Y:b6 st D.dst=true):
  Holds (qY C st t m (aP C st T x) n) (cz P L J X st tm w D):=by
 have bL:=az.tt T;rw[a0] at bL;obtain⟨dZ,_,l5⟩:=bL;obtain⟨he,⟨d,Bl,mU⟩,_⟩:=nl l5;have u0:=jA S hi;have bo:=cV S C T x;obtain⟨inf,ka,gF⟩:∃inf,P.info? e=some inf/\inf.size=1:=by
  have:=mU.2.2.2;cases ay:P.info? e with
  |none=>simp[ay] at this
  |some i=>simp only[ay,Option.map_some,Option.some.injEq,Prod.mk.injEq] at this;exact⟨i,rfl,this.1⟩
 have run:∀{b:Nat},Act.eval ⟨tm,[]⟩ x=.pointer (some ⟨b,0,none⟩)->0<=n->n<m->(execOp (Act.eval ⟨tm,[]⟩) D).run P w=.ok (.value (.pointer (some ⟨b,n.toNat,none⟩))) w:=by
  intro b hx h0 h1;unfold execOp;simp[au,hx,u0,Instr.indexAt,Instr.sureAddr,asIntOf,run_underlying dZ,h0,h1,sizeOf,kJ ka,gF,gl]
 unfold qY;split
 ·rename_i o s u hx;rw[hx] at bo;split
  ·rename_i bk xs cJ;split
   ·rename_i g8;obtain⟨rfl,rfl⟩:=g8;refine Holds.d' fun y ak=>?_
    obtain⟨fQ,hz1,hz2⟩:=Option.bind_eq_some_iff.1 (ak:(long m xs).bind (fun xs=>e_ xs.length n)=some y)
    obtain⟨rfl,hlen⟩:=tC hz1;unfold e_ at hz2;split at hz2
    ·rename_i hb;cases hz2;obtain⟨b,c,cs,hv,bW,_⟩:=S.arr cJ bo;refine dx S Y (run hv hb.1 (by rw[<-hlen];exact hb.2)) ⟨b,?_,?_⟩
     ·rw[he,Nat.mul_one,Nat.add_zero]
     ·rcases jw cJ with h|h<;>exact Ref.mk h rfl ⟨_,_,bW⟩
    ·cases hz2
   ·exact .fail
  ·exact .fail
 ·rename_i g hx;rw[hx] at bo;split
  ·rename_i bk xs qt;cases hc:(decide (bk=t)&&xs.length.beq m) with
   |false=>exact .fail
   |true=>
    simp only[Bool.and_eq_true,decide_eq_true_eq] at hc;obtain⟨rfl,hlen⟩:=hc;have hlen:=Nat.eq_of_beq_eq_true hlen;refine Holds.d' fun y ak=>?_
    have dN:bl xs n=some y:=ak;unfold bl at dN;split at dN
    ·rename_i h0;have aX:n.toNat<xs.length:=by
      rcases Nat.lt_or_ge n.toNat xs.length with h|h
      ·exact h
      ·rw[List.getElem?_eq_none h] at dN;cases dN
     obtain⟨AW,s0⟩:=az.gt g _ _ qt;obtain⟨ff,b1⟩:=S.jV;obtain⟨fC,s5,cs,hg,dH⟩:=s0 w (an X B st.sites) ff;have hv:Act.eval ⟨tm,[]⟩ x=.pointer (some ⟨g,0,none⟩):=bo;refine dx S Y (run hv h0 (by omega)) ⟨g,n.toNat,rfl,(b1 g AW).1,(b1 g AW).2,(cs.drop n.toNat).take 1,?_,fun j u hu=>?_,?_⟩
     ·have:cs.length=xs.length:=by rw[dH.1,dR,he,Nat.mul_one]
      rw[fc,he];simp;omega
     ·exact(((ho.row hg).drop n.toNat).take 1) j u hu|>fun h=>by simpa using h
     ·have M:=tx bk xs n.toNat y dN;rw[he,Nat.mul_one] at M;have mN:ch w (an X B st.sites) (flat bk xs) cs:=dH;have aej:=gX (B:=B) (sites:=st.sites) mN.1 mN.2;have h2:=ir (ds:=((flat bk xs).drop n.toNat).take 1) (by
       have:=(aej.drop n.toNat).take 1;simpa[cC,List.map_drop,List.map_take] using this)
      rw[M] at h2;exact h2.2
    ·cases dN
  ·exact .fail
 ·exact .fail
theorem ZL(S:ah L J X B st tm w){C:Ctx}(az:CtxOk P C){T e:TypeId}{t:aG}{m:Nat}{x i:Operand}{k:IntKind}{n:Int}(a0:C.tt T=.arr e t m)(hi:aP C st 0 i=.av (.ai (.d (.int k n))))(au:D.op=.index T x i)(Y:b6 st D.dst=true):
  Holds (E5 t m (aP C st T x) n) (cz P L J X st tm w D):=by
 have bL:=az.tt T;rw[a0] at bL;obtain⟨dZ,_,l5⟩:=bL;obtain⟨he,⟨d,Bl,mU⟩,_⟩:=nl l5;have u0:=jA S hi;have bo:=cV S C T x;obtain⟨inf,ka,gF⟩:∃inf,P.info? e=some inf/\inf.size=1:=by
  have:=mU.2.2.2;cases ay:P.info? e with
  |none=>simp[ay] at this
  |some i=>simp only[ay,Option.map_some,Option.some.injEq,Prod.mk.injEq] at this;exact⟨i,rfl,this.1⟩
 unfold E5;split
 ·rename_i U hx;rw[hx] at bo;split
  ·rename_i xs nX;cases hc:xs.length.beq m with
   |false=>exact .fail
   |true=>
    have hlen:=Nat.eq_of_beq_eq_true hc;refine Holds.d' fun y ak=>?_
    have dN:bl xs n=some y:=ak;unfold bl at dN;split at dN
    ·rename_i h0;have aX:n.toNat<xs.length:=by
      rcases Nat.lt_or_ge n.toNat xs.length with h|h
      ·exact h
      ·rw[List.getElem?_eq_none h] at dN;cases dN
     obtain⟨vs,hv,hl,hr⟩:∃vs:List Value,Act.eval ⟨tm,[]⟩ x=.agg vs.toArray/\vs.length=U.length/\∀j (h:j<U.length) (ab:j<vs.length),dk B st.sites w (an X B st.sites) (U[j]) (vs[j]):=bo;have o8:ck B st.sites w (an X B st.sites) U vs:=⟨hl,hr⟩;rw[En nX] at o8;have mV:=ir o8;have kh:vs.length=xs.length:=by rw[mV.1,dR,he,Nat.mul_one]
     obtain⟨d1,ji⟩:∃d1,enc t y=[d1]:=by
      have:=fc t y;rw[he] at this;match h:enc t y,this with
      |[d1],_=>exact⟨d1,rfl⟩
     simp only[ji];have cr:n.toNat<vs.length:=by omega
     refine dx S Y (vv:=vs[n.toNat]) ?_ ?_
     ·have Gu:(isAgg e).run P w=.ok false w:=by
       have h1:=mU.1;simp only[isAgg,Sem.run_bind,run_underlying h1,Result.andThen_ok];have g1:=mU.2.1;have g2:=mU.2.2.1;cases d<;>first|rfl|exact absurd rfl (g1 _)|exact absurd rfl (g2 _ _)
      have h1:n<(m:Int):=by omega
      unfold execOp;simp[au,hv,u0,Instr.index,asIntOf,run_underlying dZ,h0,h1,sizeOf,kJ ka,gF,part,Gu,cr]
     ·have M:=tx t xs n.toNat y dN;rw[he,Nat.mul_one,ji] at M;have mX:n.toNat<(flat t xs).length:=by rw[dR,he,Nat.mul_one];exact aX
      have e1:(flat t xs)[n.toNat]=d1:=by
       have:=congrArg (fun l=>l[0]?) M
       simp only[List.getElem?_take,List.getElem?_drop] at this;rw[if_pos (by decide),Nat.add_zero,List.getElem?_eq_getElem mX] at this
       simpa using this
      have:=mV.2 n.toNat mX cr;rw[e1] at this;exact this
    ·cases dN
  ·exact .fail
 ·exact .fail
theorem Y5(S:ah L J X B st tm w){C:Ctx}(az:CtxOk P C){T e:TypeId}{t:aG}{m:Nat}{x:Operand}{cG hi:Option Operand}(a0:C.tt T=.arr e t m)(au:D.op=.slice T x cG hi none)(Y:b6 st D.dst=true):
  Holds (rG st t m (aP C st T x) (cG.map (aP C st 0)) (hi.map (aP C st 0))) (cz P L J X st tm w D):=by
 have bL:=az.tt T;rw[a0] at bL;obtain⟨dZ,_,l5⟩:=bL;obtain⟨he,⟨d,Bl,mU⟩,_⟩:=nl l5;have bo:=cV S C T x;obtain⟨inf,ka,gF⟩:∃inf,P.info? e=some inf/\inf.size=1:=by
  have:=mU.2.2.2;cases ay:P.info? e with
  |none=>simp[ay] at this
  |some i=>simp only[ay,Option.map_some,Option.some.injEq,Prod.mk.injEq] at this;exact⟨i,rfl,this.1⟩
 have p4:∀{cG:Option Operand} {k5 l:Int},h7 k5 (cG.map (aP C st 0))=some l->(cG.map (Act.eval ⟨tm,[]⟩)=none/\l=k5)\/∃k,cG.map (Act.eval ⟨tm,[]⟩)=some (.int k l):=by
  intro cG k5 l h;rcases Me S h with⟨rfl,ab⟩|⟨x,k,rfl,ab⟩
  ·exact .inl ⟨rfl,ab⟩
  ·exact .inr ⟨k,by simp[ab]⟩
 unfold rG;split
 ·rename_i o s u hx;rw[hx] at bo;split
  ·rename_i bk xs l h cJ fP iL;split
   ·rename_i g8;obtain⟨rfl,rfl⟩:=g8;refine Holds.e4 fun r hr=>?_
    obtain⟨fQ,hz1,hz2⟩:=Option.bind_eq_some_iff.1 (hr:(long m xs).bind (fun xs=>dy xs l h)=some r)
    obtain⟨rfl,hlen⟩:=tC hz1;unfold dy at hz2;split at hz2
    ·rename_i hb;obtain⟨h0,h1,h2⟩:=hb;cases hz2;obtain⟨b,c,cs,hv,bW,_⟩:=S.arr cJ bo;refine KR (us:=[(o,.cS s bk fQ)]) (L_ cJ).symm ?_
     have hD:dq st.sites [(o,.cS s bk fQ)]:=by
      intro F O hm;simp only[List.mem_singleton,Prod.mk.injEq] at hm;obtain⟨rfl,rfl⟩:=hm;exact⟨s,bk,fQ,rfl,(jw cJ).elim .inl fun h=>.inr (.inl h)⟩
     have aR:kI L J X B st tm w [(o,.cS s bk fQ)]:=⟨S,hD⟩;have o9:=wE hD (List.mem_singleton.2 rfl);obtain⟨dH,OU⟩:=aR.new.sites o _ o9;rw[bW] at dH;generalize Tj:Value.slice (some ⟨b,0,none⟩) fQ.length c=v at dH;cases dH with
     |nil=>cases Tj
     |sl _ _ a cap jl k ag hcap b9 hl hc hr=>
      cases Tj;have akk:=BS (P:=P) (w:=w) false m m (cG.map (Act.eval ⟨tm,[]⟩)) (hi.map (Act.eval ⟨tm,[]⟩)) l h (p4 fP) (p4 iL) h0 h1 (by omega) (Nat.le_refl _)
      refine io (us:=[(o,.cS s bk fQ)]) aR.new Y (vv:=.slice (if m=l.toNat then some ⟨b,0,none⟩ else(some (⟨b,0,none⟩:Addr)).map (·.add (l.toNat*ax bk))) (h.toNat-l.toNat) (m-l.toNat)) ?_ ?_
      ·unfold execOp;simp only[au,Option.map_none,Sem.run_bind,Instr.sliceAt,run_underlying dZ,Result.andThen_ok,hv,Instr.sureAddr,Sem.run_pure,akk,sizeOf,kJ ka,gF,he];split<;>simp
      ·exact DM b9 ⟨hl,hr⟩ hc l.toNat h.toNat m (by omega) (by omega) (by omega)
    ·cases hz2
   ·exact .fail
  ·exact .fail
 ·exact .fail
theorem ZQ{f g:Nat->Option (Nat×Nat)}(h:∀i p,f i=some p->g i=some p):∀(l:List (Nat×Value)) (cs jl:Array Value),Instr.fill f cs l=some jl->Instr.fill g cs l=some jl:=by
 intro l;induction l with
 |nil=>intro cs jl k;exact k
 |cons p l ih=>
  obtain⟨i,v⟩:=p;intro cs jl k;simp only[Instr.fill] at k ⊢;cases hf:f i with
  |none=>simp[hf] at k
  |some q=>
   obtain⟨off,size⟩:=q;rw[h i _ hf];rw[hf] at k;simp only at k ⊢;split at k
   ·cases k
   ·rename_i hn;rw[if_neg hn];exact ih _ _ k
theorem ZY(S:ah L J X B st tm w){C:Ctx}(az:CtxOk P C){T e:TypeId}{t:aG}{n:Nat}{z:aw}{parts:Array (Nat×Operand)}(a0:C.tt T=.arr e t n)(hz:sI t=some z)(au:D.op=.build T parts)(Y:b6 st D.dst=true):
  Holds (step.mB C st ((List.range n).map fun j=>(j,1)) (List.replicate n z) parts.toList) (cz P L J X st tm w D):=by
 have bL:=az.tt T;rw[a0] at bL;obtain⟨dZ,⟨fm,fR,ka,hz1,hzz⟩,l5⟩:=bL;rw[hz] at hz1;cases hz1;obtain⟨he,⟨d,Bl,mU⟩,_⟩:=nl l5;obtain⟨ao7,aj8,ago⟩:∃inf,P.info? e=some inf/\inf.size=1:=by
  have:=mU.2.2.2;cases ay:P.info? e with
  |none=>simp[ay] at this
  |some i=>simp only[ay,Option.map_some,Option.some.injEq,Prod.mk.injEq] at this;exact⟨i,rfl,this.1⟩
 obtain⟨aC,ao,bv⟩:=qV hzz;intro y ak hc;obtain⟨g1,iU,g2,g3⟩:=Lm S parts.toList (List.replicate n z) fm ⟨aC,fun j h ab=>bv _ _ _ _ j h ab⟩ y ak hc
 rw[g1];refine dx S Y (vv:=.agg iU) ?_ g3;cases hi:P.info? T with
 |none=>simp[hi] at ka
 |some UY=>
  simp only[hi,Option.map_some,Option.some.injEq,Prod.mk.injEq] at ka;have hb:P.built T (parts.toList.map fun p=>(p.1,Act.eval ⟨tm,[]⟩ p.2))=some iU:=by
   unfold Program.built;simp only[hi,dZ,ka.2,aj8,ago];refine ZQ (fun i p aj=>?_) _ _ _ g2
   simp only[List.getElem?_toArray,List.getElem?_map,Option.map_eq_some_iff] at aj;obtain⟨a,a3,rfl⟩:=aj;have:=List.getElem?_eq_some_iff.1 a3;obtain⟨h1,h2⟩:=this;simp at h2;subst h2;simp
  have b9:P.built T (parts.map fun p=>(p.1,Act.eval ⟨tm,[]⟩ p.2)).toList=some iU:=by simpa using hb
  unfold execOp;simp only[au,Sem.run_bind,run_build w T _ iU b9,Result.andThen_ok,Sem.run_pure]
theorem WK(S:ah L J X B st tm w){C:Ctx}{x:Operand}{k:IntKind}{n:Int}{T ed:TypeId}(au:D.op=.unOp .xor ed x)(Y:b6 st D.dst=true)(hc:aP C st T x=.av (.ai (.d (.int k n)))):
  cz P L J X st tm w D (one (.int k (sp k (if k.signed then-1 else k.max) n))) []:=by
 refine dx S Y (vv:=.int k (sp k (if k.signed then-1 else k.max) n)) ?_ (.int _ _)
 unfold execOp;simp[au,jA S hc,Op.unary,Op.intBits,sp]
end
def lI:Nat->Value:=fun _=>undef
def lG(w:World)(av:Nat->Prop)(l:aw)(v:Value)(bs:List Nat):Prop:=
 match l with
 |.fresh t xs=>bs=(a7 v).toList/\∃e,∃cs:List Value,rowAt w t.en e (ax t) v xs.length cs/\ch w av (flat t xs) cs
 |.eK t xs=>∃e,∃cs aA:List Value,bs=bI (.tuple (v::aA).toArray)/\rowAt w t.en e (ax t) v xs.length cs/\Deep w av (flat t xs) cs aA
 |l=>bs=[]/\dk lI [] w av l v
def fY(w:World)(av:Nat->Prop):List aw->List Value->List Nat->Prop
 |[],[],bs=>bs=[]
 |l::U,v::vs,bs=>∃aT aJ,bs=aT++aJ/\lG w av l v aT/\fY w av U vs aJ
 |_,_,_=>False
def zW(w:World)(av:Nat->Prop):bA->Value->List Nat->Prop
 |.ai l,v,bs=>lG w av l v bs
 |.agg U,v,bs=>∃vs:List Value,v=.agg vs.toArray/\fY w av U vs bs
def j5(w:World)(av:Nat->Prop):List bA->List Value->List Nat->Prop
 |[],[],bs=>bs=[]
 |l::U,v::vs,bs=>∃aT aJ,bs=aT++aJ/\zW w av l v aT/\j5 w av U vs aJ
 |_,_,_=>False
def Es(w:World)(av:Nat->Prop)(b:Nat)(cells:List aw)(bs:List Nat):Prop:=
 ∃T,∃cur:List Value,∃n',bs=b::n'/\w.heap[b]? =some (.cells cur.toArray T (0,0))/\(∀u∈cur,u.oneCell'=true)/\mJ cells T cur b/\fY w av cells cur n'
def M3(w:World)(av:Nat->Prop):Arg->Value->List Nat->Prop
 |.av a,v,bs=>zW w av a v bs
 |.dJ cells,v,bs=>∃b,v=.pointer (some ⟨b,0,none⟩)/\Es w av b cells bs
def h3(w:World)(av:Nat->Prop):List Arg->List Value->List Nat->Prop
 |[],[],bs=>bs=[]
 |l::U,v::vs,bs=>∃aT aJ,bs=aT++aJ/\M3 w av l v aT/\h3 w av U vs aJ
 |_,_,_=>False
def dj:List Arg->List Value->List Nat
 |.dJ _::as,.pointer (some a)::vs=>a.block::dj as vs
 |_::as,_::vs=>dj as vs
 |_,_=>[]
def lA(w:World)(av:Nat->Prop):List Nat->List (List aw)->List Nat->Prop
 |[],[],bs=>bs=[]
 |b::c9,cs::ct,bs=>∃aT aJ,bs=aT++aJ/\Es w av b cs aT/\lA w av c9 ct aJ
 |_,_,_=>False
def hR:Value->List Value
 |.agg vs=>vs.toList
 |v=>[v]
def e0:List Arg->List Value->List Value
 |.av a::as,v::vs=>(bif fV a.cells then [] else hR v)++e0 as vs
 |.dJ _::as,_::vs=>e0 as vs
 |_,_=>[]
def oM(w:World)(av:Nat->Prop)(c9:List Nat)(ct:List (List aw))(rv:List Value)(ey:List aw)(bs:List Nat):Prop:=
 ∃c1 c2,bs=c1++c2/\lA w av c9 ct c1/\(ey=[]/\c2=[]\/fY w av ey rv c2)
theorem oM.of{w:World}{av:Nat->Prop}{c9:List Nat}{ct:List (List aw)}{rv:List Value}{bs:List Nat}(h:lA w av c9 ct bs):oM w av c9 ct rv [] bs:=⟨bs,[],by simp,h,.inl ⟨rfl,rfl⟩⟩
def nE:List Value->Value
 |[v]=>v
 |vs=>.tuple vs.toArray
def Enters(P:Program)(g:FuncId)(vs:Array Value)(w:World)(R:Value->World->Prop):Prop:=
 ((callFunc g vs).run P w=.ok (.enter g vs) w/\Calls P g vs w fun|.returned v,w'=>R v w'|_,_=>False)\/(∃v w',(callFunc g vs).run P w=.ok (.value v) w'/\R v w')
def a4(P:Program)(g:FuncId)(S:aU):Prop:=
 ∀as y,(S as).comp=some y->∀(w:World) (X:Nat->Prop) (vs:List Value) (cE:List Nat),h3 w (fun b=>X b\/b∈cE) as vs cE->cE.Nodup->(∀b,b∈cE->¬X b)->(∀b,X b->b<w.heap.size)->hO w cE X->
  Enters P g vs.toArray w fun v w'=>∃dS du rv,Fr cE w w'/\oM w' (fun b=>X b\/b∈dS++du) (dj as vs) ((S as).dJ y) (e0 as vs) ((S as).ey y) dS/\j5 w' (fun b=>X b\/b∈dS++du) ((S as).eQ y) rv du/\
   v=nE rv/\(dS++du).Nodup/\∀b,b∈dS++du->¬X b/\(b∈cE\/w.heap.size<=b)
section
variable {L:World}{J:List Nat}{X:Nat->Prop}{B:Nat->Value}{st:ad}{tm:Array Value}{w:World}
theorem b_.fw{sites:List (Nat×Site)}{av bT:Nat->Prop}(h:∀b,bT b->av b)(aX:∀b,bT b->b<w.heap.size){a:aL}{v:Value}(k:b_ B sites w av a v):b_ B sites w bT a v:=by
 have G:gG B B sites sites w w av bT:=⟨fun o O M=>⟨O,M,Nat.le_refl _,fun _=>rfl⟩,fun _ _ _=>rfl,fun b hb _ ab=>hb (h b ab)⟩
 exact k.goes G (Nat.le_refl _) aX
theorem iw.fw{sites:List (Nat×Site)}{av bT:Nat->Prop}(h:∀b,bT b->av b)(aX:∀b,bT b->b<w.heap.size){o:Nat}{O:Site}(k:iw B sites w av o O):iw B sites w bT o O:=by
 have G:gG B B sites sites w w av bT:=⟨fun o O M=>⟨O,M,Nat.le_refl _,fun _=>rfl⟩,fun _ _ _=>rfl,fun b hb _ ab=>hb (h b ab)⟩
 exact k.goes G (Nat.le_refl _) aX rfl (fun _ _ _=>rfl)
theorem ah.lt(S:ah L J X B st tm w){b:Nat}(h:an X B st.sites b):b<w.heap.size:=by
 rcases h with h|⟨o,h1,h2⟩
 ·exact S.old b h
 ·exact S.dX h1 h2
theorem ah.shrink(S:ah L J X B st tm w){X':Nat->Prop}(h:∀b,X' b->X b):ah L J X' B st tm w:=by
 have b1:∀b,an X' B st.sites b->an X B st.sites b:=by
  rintro b (hb|hb)
  ·exact .inl (h b hb)
  ·exact .inr hb
 have aX:=fun b hb=>S.lt (b1 b hb)
 exact⟨S.nt,fun t=>(S.cF t).fw b1 aX,fun o O M=>(S.sites o O M).fw b1 aX,S.df,fun o b h1 h2=>⟨fun hx=>(S.b7 o b h1 h2).1 (h b hx),(S.b7 o b h1 h2).2⟩,S.frame,fun b hb=>S.old b (h b hb),S.eS.less fun b _=>h b⟩
theorem ah.kill(S:ah L J X B st tm w){o:Nat}{O:Site}(hl:look st.sites o=some O)(fF:O.live=true):
  ah L J (fun b=>X b\/b∈bI (B o)) B {st with sites:=b8 st.sites o (.dead O.b2)} tm w:=by
 have cr:∀F,bX (b8 st.sites o (.dead O.b2)) F->F≠o/\bX st.sites F:=by
  rintro F ⟨s,h1,h2⟩;rw[cn] at h1;by_cases e:o=F
  ·subst e;simp at h1;subst h1;cases h2
  ·simp only[e,if_false] at h1;exact⟨fun h=>e h.symm,s,h1,h2⟩
 have b1:∀b,an (fun b=>X b\/b∈bI (B o)) B (b8 st.sites o (.dead O.b2)) b->an X B st.sites b:=by
  rintro b ((h|h)|⟨F,h1,h2⟩)
  ·exact .inl h
  ·exact .inr ⟨o,⟨O,hl,fF⟩,h⟩
  ·exact .inr ⟨F,(cr F h1).2,h2⟩
 have aX:=fun b hb=>S.lt (b1 b hb)
 have bZ:ah L J X B {st with sites:=b8 st.sites o (.dead O.b2)} tm w:=by
  have u4:∀b,an X B (b8 st.sites o (.dead O.b2)) b->an X B st.sites b:=by
   rintro b (h|⟨F,h1,h2⟩)
   ·exact .inl h
   ·exact .inr ⟨F,(cr F h1).2,h2⟩
  refine S.oS (fun F s M=>?_) (fun _ _ _=>rfl) (fun b hb _ ab=>hb (u4 b ab)) (fun go F s M=>?_) (fun F aO b h1 h2 g1 g2=>S.df F aO b (cr F h1).2 (cr aO h2).2 g1 g2) (fun F b h1 h2=>S.b7 F b (cr F h1).2 h2)
   (fun F b h1 h2=>S.dX (cr F h1).2 h2) S.frame (Nat.le_refl _)
  ·rw[cn];by_cases e:o=F
   ·subst e;rw[hl] at M;cases M;exact⟨.dead O.b2,by simp,Nat.le_refl _,fun _=>rfl⟩
   ·exact⟨s,by simp[e,M],Nat.le_refl _,fun _=>rfl⟩
  ·rw[cn] at M;by_cases e:o=F
   ·simp only[e,if_true,Option.some.injEq] at M;subst M;exact .inr trivial
   ·simp only[e,if_false] at M;exact .inl ⟨M,rfl,fun _ _ _=>rfl⟩
 refine⟨bZ.nt,fun t=>?_,fun F s M=>?_,bZ.df,fun F b h1 h2=>⟨?_,(bZ.b7 F b h1 h2).2⟩,bZ.frame,?_,S.eS.less fun b hb hx=>hx.elim id fun e=>absurd (.inr ⟨o,⟨O,hl,fF⟩,e⟩) (S.jV.2 b hb).1⟩
 ·have G:gG B B st.sites (b8 st.sites o (.dead O.b2)) w w (an X B st.sites) (an (fun b=>X b\/b∈bI (B o)) B (b8 st.sites o (.dead O.b2))):=
   ⟨fun F s M=>by
    rw[cn];by_cases e:o=F
    ·subst e;rw[hl] at M;cases M;exact⟨.dead O.b2,by simp,Nat.le_refl _,fun _=>rfl⟩
    ·exact⟨s,by simp[e,M],Nat.le_refl _,fun _=>rfl⟩,fun _ _ _=>rfl,fun b hb _ ab=>hb (b1 b ab)⟩
  exact(S.cF t).goes G (Nat.le_refl _) aX
 ·have eT:look (b8 st.sites o (.dead O.b2)) F=some s:=M;rw[cn] at eT;by_cases e:o=F
  ·simp only[e,if_true,Option.some.injEq] at eT;subst eT;trivial
  ·simp only[e,if_false] at eT;have G:gG B B st.sites (b8 st.sites o (.dead O.b2)) w w (an X B st.sites) (an (fun b=>X b\/b∈bI (B o)) B (b8 st.sites o (.dead O.b2))):=
    ⟨fun F s M=>by
     rw[cn];by_cases e:o=F
     ·subst e;rw[hl] at M;cases M;exact⟨.dead O.b2,by simp,Nat.le_refl _,fun _=>rfl⟩
     ·exact⟨s,by simp[e,M],Nat.le_refl _,fun _=>rfl⟩,fun _ _ _=>rfl,fun b hb _ ab=>hb (b1 b ab)⟩
   exact(S.sites F s eT).goes G (Nat.le_refl _) aX rfl (fun _ _ _=>rfl)
 ·rintro(hx|hx)
  ·exact(bZ.b7 F b h1 h2).1 hx
  ·exact(cr F h1).1 (S.df F o b (cr F h1).2 ⟨O,hl,fF⟩ h2 hx)
 ·rintro b (hb|hb)
  ·exact S.old b hb
  ·exact S.dX ⟨O,hl,fF⟩ hb
theorem ah.jump(S:ah L J X B st tm w){w':World}(h:∀b,¬X b->b<w.heap.size->w'.heap[b]? =w.heap[b]?)(M:w.heap.size<=w'.heap.size)(hf:Fr J L w'):
  ah L J (fun b=>X b\/(w.heap.size<=b/\b<w'.heap.size)) B st tm w':=by
 have aX:∀b,an (fun b=>X b\/(w.heap.size<=b/\b<w'.heap.size)) B st.sites b->b<w'.heap.size:=by
  rintro b ((hb|hb)|⟨F,h1,h2⟩)
  ·exact Nat.lt_of_lt_of_le (S.old b hb) M
  ·exact hb.2
  ·exact Nat.lt_of_lt_of_le (S.dX h1 h2) M
 have G:gG B B st.sites st.sites w w' (an X B st.sites) (an (fun b=>X b\/(w.heap.size<=b/\b<w'.heap.size)) B st.sites):=
  ⟨fun F s h=>⟨s,h,Nat.le_refl _,fun _=>rfl⟩,fun b hb b9=>h b (fun hx=>hb (.inl hx)) b9,fun b hb b9 ab=>by
   rcases ab with(ab|ab)|ab
   ·exact hb (.inl ab)
   ·omega
   ·exact hb (.inr ab)⟩
 refine⟨S.nt,fun t=>(S.cF t).goes G M aX,fun o s h1=>(S.sites o s h1).goes G M aX rfl (fun hl b hb=>?_),S.df,fun o b h1 h2=>⟨?_,(S.b7 o b h1 h2).2⟩,hf,?_,S.eS.less fun b hb hx=>hx.elim id fun e=>absurd (S.jV.2 b hb).2 (by omega)⟩
 ·exact h b (S.b7 o b ⟨s,h1,hl⟩ hb).1 (S.dX ⟨s,h1,hl⟩ hb)
 ·rintro(hx|hx)
  ·exact(S.b7 o b h1 h2).1 hx
  ·have:=S.dX h1 h2;omega
 ·rintro b (hb|hb)
  ·exact Nat.lt_of_lt_of_le (S.old b hb) M
  ·exact hb.2
theorem ah.uM(S:ah L J X B st tm w){X':Nat->Prop}{n:Nat}{bH:Site}{nv:Value}(gR:∀b,X' b->X b)
  (c':(∀O,look st.sites n=some O->O.b2<bH.b2)\/(bY (B n)=bY nv/\∀O,look st.sites n=some O->O.b2=bH.b2/\O.live=false))
  (hb:∀b,b∈bI nv->X b/\¬X' b/\(b∈J\/L.heap.size<=b))
  (ff:∀{bp:List (Nat×Site)} {aB:Nat->Value},bp=b8 st.sites n bH->aB n=nv->(∀{a v},b_ B st.sites w (an X B st.sites) a v->b_ aB bp w (an X' aB bp) a v)->
   (∀b,an X' aB bp b->an X B st.sites b)->iw aB bp w (an X' aB bp) n bH):
  ah L J X' (fun F=>if F=n then nv else B F) {st with sites:=b8 st.sites n bH} tm w/\
   (∀b,an X' (fun F=>if F=n then nv else B F) (b8 st.sites n bH) b->an X B st.sites b)/\
   (∀{a v},b_ B st.sites w (an X B st.sites) a v->b_ (fun F=>if F=n then nv else B F) (b8 st.sites n bH) w (an X' (fun F=>if F=n then nv else B F) (b8 st.sites n bH)) a v):=by
 have cr:∀F,bX (b8 st.sites n bH) F->F=n\/(F≠n/\bX st.sites F):=by
  rintro F ⟨s,h1,h2⟩;rw[cn] at h1;by_cases e:n=F
  ·exact .inl e.symm
  ·simp only[e,if_false] at h1;exact .inr ⟨fun h=>e h.symm,s,h1,h2⟩
 have b1:∀b,an X' (fun F=>if F=n then nv else B F) (b8 st.sites n bH) b->an X B st.sites b:=by
  rintro b (h|⟨F,h1,h2⟩)
  ·exact .inl (gR b h)
  ·rcases cr F h1 with rfl|⟨aa,aH⟩
   ·simp at h2;exact .inl (hb b h2).1
   ·simp only[aa,if_false] at h2;exact .inr ⟨F,aH,h2⟩
 have p2:∀o O,look st.sites o=some O->∃am,look (b8 st.sites n bH) o=some am/\O.b2<=am.b2/\(am.b2=O.b2->bY ((fun F=>if F=n then nv else B F) o)=bY (B o)):=by
  intro F s M;rw[cn];by_cases e:n=F
  ·subst e;refine⟨bH,by simp,?_,fun h=>?_⟩
   ·rcases c' with h|⟨_,h⟩
    ·exact Nat.le_of_lt (h s M)
    ·exact Nat.le_of_eq (h s M).1
   ·rcases c' with ab|⟨ab,_⟩
    ·have:=ab s M;omega
    ·simp[ab]
  ·have b4:¬F=n:=fun h=>e h.symm
   exact⟨s,by simp[e,M],Nat.le_refl _,fun _=>by simp[b4]⟩
 have G:gG B (fun F=>if F=n then nv else B F) st.sites (b8 st.sites n bH) w w (an X B st.sites) (an X' (fun F=>if F=n then nv else B F) (b8 st.sites n bH)):=
  ⟨p2,fun _ _ _=>rfl,fun b hb _ ab=>hb (b1 b ab)⟩
 have aX:=fun b hb=>S.lt (b1 b hb)
 refine⟨⟨S.nt,fun t=>(S.cF t).goes G (Nat.le_refl _) aX,fun F s M=>?_,fun F aO b h1 h2 g1 g2=>?_,fun F b h1 h2=>?_,S.frame,fun b h=>S.old b (gR b h),S.eS.less fun b _=>gR b⟩,b1,fun h=>h.goes G (Nat.le_refl _) aX⟩
 ·have eT:look (b8 st.sites n bH) F=some s:=M;rw[cn] at eT;by_cases e:n=F
  ·subst e;simp only[if_true,Option.some.injEq] at eT;subst eT;exact ff rfl (by simp) (fun h=>h.goes G (Nat.le_refl _) aX) b1
  ·have b4:¬F=n:=fun h=>e h.symm
   simp only[e,if_false] at eT;exact(S.sites F s eT).goes G (Nat.le_refl _) aX (by simp[b4]) (fun _ _ _=>rfl)
 ·rcases cr F h1 with rfl|⟨n1,cY⟩<;>rcases cr aO h2 with rfl|⟨n2,gh⟩
  ·rfl
  ·simp only[if_true] at g1;simp only[n2,if_false] at g2;exact absurd (hb b g1).1 (S.b7 aO b gh g2).1
  ·simp only[if_true] at g2;simp only[n1,if_false] at g1;exact absurd (hb b g2).1 (S.b7 F b cY g1).1
  ·simp only[n1,if_false] at g1;simp only[n2,if_false] at g2;exact S.df F aO b cY gh g1 g2
 ·rcases cr F h1 with rfl|⟨n1,cY⟩
  ·simp only[if_true] at h2;exact⟨(hb b h2).2.1,(hb b h2).2.2⟩
  ·simp only[n1,if_false] at h2;exact⟨fun hx=>(S.b7 F b cY h2).1 (gR b hx),(S.b7 F b cY h2).2⟩
end
def j6(w:World)(av:Nat->Prop):List (List aM)->List Value->Prop
 |[],[]=>True
 |ds::r,v::vs=>(∃b,∃cs:List Value,v=.pointer (some ⟨b,0,none⟩)/\¬av b/\b<w.heap.size/\ho w b 0 cs/\ch w av ds cs)/\j6 w av r vs
 |_,_=>False
theorem j6.fn{w:World}{av:Nat->Prop}{g:FuncId}:∀{bE:List (List aM)} {vs:List Value},j6 w av bE vs->bj w av (.fn g bE) (.func (.func g) #[] vs.toArray):=by
 intro bE vs h;have key:∀{bE:List (List aM)} {vs:List Value},j6 w av bE vs->∃nh:List Nat,∃eU:List (List Value),vs=nh.map (fun b=>Value.pointer (some ⟨b,0,none⟩))/\nh.length=bE.length/\eU.length=bE.length/\
   (∀b,b∈nh->¬av b/\b<w.heap.size)/\(∀i (h:i<nh.length) (ab:i<eU.length),ho w nh[i] 0 eU[i])/\(∀i (h:i<bE.length) (ab:i<eU.length),ch w av bE[i] eU[i]):=by
  intro bE;induction bE with
  |nil=>
   intro vs h;match vs,h with
   |[],_=>exact⟨[],[],rfl,rfl,rfl,fun b h=>by simp at h,fun i h=>by simp at h,fun i h=>by simp at h⟩
  |cons ds bE ih=>
   intro vs h;match vs,h with
   |v::vs,⟨⟨b,cs,h1,h2,aa,aH,bD⟩,di⟩=>
    obtain⟨nh,eU,aC,ao,bv,ca,dT,gP⟩:=ih di;refine⟨b::nh,cs::eU,by simp[h1,aC],by simp[ao],by simp[bv],fun c hc=>?_,fun i g1 g2=>?_,fun i g1 g2=>?_⟩
    ·rcases List.mem_cons.1 hc with rfl|hc
     ·exact⟨h2,aa⟩
     ·exact ca c hc
    ·cases i with
     |zero=>exact aH
     |succ i=>exact dT i (by simpa using g1) (by simpa using g2)
    ·cases i with
     |zero=>exact bD
     |succ i=>exact gP i (by simpa using g1) (by simpa using g2)
 obtain⟨nh,eU,aC,ao,bv,ca,dT,gP⟩:=key h;refine .fn g bE nh (fun i=>eU.getD i []) _ (by rw[aC]) ao (fun b hb=>(ca b hb).1) (fun b hb=>(ca b hb).2) (fun i hi=>?_) (fun i hi j u hu=>?_) (fun i hi j h1 h2=>?_)
 ·have ab:i<eU.length:=by omega
  have:=(gP i hi ab).1;simpa[List.getD,ab] using this
 ·have ab:i<eU.length:=by omega
  have:=dT i hi ab j u (by simpa[List.getD,ab] using hu)
  simpa using this
 ·have ab:i<eU.length:=by omega
  have h2':j<eU[i].length:=by simpa[List.getD,ab] using h2
  have:=(gP i hi ab).2 j h1 h2';simpa[List.getD,ab] using this
theorem j6.Ot{w:World}{av:Nat->Prop}{g:FuncId}{bE:List (List aM)}{v:Value}(h:bj w av (.fn g bE) v):∃vs:List Value,v=.func (.func g) #[] vs.toArray/\j6 w av bE vs:=by
 cases h with
 |fn _ _ bs il lb AQ pe hb aX hl hc hr=>
  refine⟨bs.map fun b=>Value.pointer (some ⟨b,0,none⟩),by rw[AQ],?_⟩
  have key:∀(bE:List (List aM)) (bs:List Nat) (il:Nat->List Value),bs.length=bE.length->(∀b,b∈bs->¬av b/\b<w.heap.size)->(∀i (h:i<bE.length),(il i).length=(bE[i]).length)->
    (∀i (h:i<bs.length) j u,(il i)[j]? =some u->w.cell? ⟨bs[i],j,none⟩=some u)->(∀i (h:i<bE.length) j (h1:j<(bE[i]).length) (h2:j<(il i).length),bj w av ((bE[i])[j]) ((il i)[j]))->
    j6 w av bE (bs.map fun b=>Value.pointer (some ⟨b,0,none⟩)):=by
   intro bE;induction bE with
   |nil=>intro bs il h _ _ _ _;rw[List.eq_nil_of_length_eq_zero h];trivial
   |cons ds bE ih=>
    intro bs il h h1 h2 aa aH;match bs,h with
    |b::bs,h=>
     refine⟨⟨b,il 0,rfl,(h1 b List.mem_cons_self).1,(h1 b List.mem_cons_self).2,fun j u hu=>?_,h2 0 (by simp),fun j g1 g2=>aH 0 (by simp) j g1 g2⟩,?_⟩
     ·have:=aa 0 (by simp) j u hu
      simpa using this
     ·exact ih bs (fun i=>il (i+1)) (by simpa using h) (fun c hc=>h1 c (List.mem_cons_of_mem _ hc)) (fun i hi=>h2 (i+1) (by simpa using hi)) (fun i hi j u hu=>aa (i+1) (by simpa using hi) j u hu)
       (fun i hi j g1 g2=>aH (i+1) (by simpa using hi) j g1 g2)
  exact key bE bs il pe (fun b h=>⟨hb b h,aX b h⟩) hl hc hr
section
variable {L:World}{J:List Nat}{X:Nat->Prop}{B:Nat->Value}{st:ad}{tm:Array Value}{w:World}
structure eR(L:World)(J:List Nat)(X:Nat->Prop)(B:Nat->Value)(st:ad)(tm:Array Value)(w:World)(cL:List (Nat×Site))(eh:List Nat)(av:Nat->Prop):Prop where
 bG:kI L J X B st tm w cL
 le:∀b,av b->an X B (aW st.sites cL) b
 na:∀o,o∈eh->∀b,a7 (B o)=some b->¬av b
variable {cL:List (Nat×Site)}{eh:List Nat}{av:Nat->Prop}
theorem eR.lt(aq:eR L J X B st tm w cL eh av){b:Nat}(h:av b):b<w.heap.size:=aq.bG.new.lt (aq.le b h)
theorem eR.sub(aq:eR L J X B st tm w cL eh av){b:Nat}(h:av b):an X B st.sites b:=by
 rcases aq.le b h with h|⟨o,⟨O,h1,h2⟩,aa⟩
 ·exact .inl h
 ·refine .inr ⟨o,?_,aa⟩;rcases lq aq.bG.bG o with h|⟨s,t,xs,aH,bD⟩
  ·exact⟨O,h▸h1,h2⟩
  ·rw[bD] at h1;cases h1;cases h2
theorem eR.rd(aq:eR L J X B st tm w cL eh av){d:aM}{v:Value}(h:bj w (an X B (aW st.sites cL)) d v):bj w av d v:=
 b_.fw (B:=B) (sites:=[]) (a:=one d) (v:=v) aq.le (fun b hb=>aq.lt hb) h
theorem eR.sN(aq:eR L J X B st tm w cL eh av){d:aM}{v:Value}(h:bj w (an X B st.sites) d v):bj w av d v:=
 b_.fw (B:=B) (sites:=[]) (a:=one d) (v:=v) (fun b hb=>aq.sub hb) (fun b hb=>aq.lt hb) h
theorem Lk(aq:eR L J X B st tm w cL eh av):∀{bE:List (Nat×Nat)} {cs:List (List aM)} {us:List (Nat×Site)} {bs:List Nat} {vs:List Value},kV st bE=some (cs,us,bs)->
  (∀p,p∈us->p∈cL)->(∀o,o∈bs->o∈eh)->vs.length=bE.length->(∀i (h:i<bE.length) (ab:i<vs.length),Ref st.sites (bE[i]).1 (bE[i]).2 (vs[i]=bY (B (bE[i]).1)))->j6 w av cs vs:=by
 intro bE;induction bE with
 |nil=>
  intro cs us bs vs h _ _ hl _;simp only[kV] at h;cases h;rw[List.eq_nil_of_length_eq_zero hl];trivial
 |cons c bE ih=>
  obtain⟨o,s⟩:=c;intro cs us bs vs h dO dh hl hr;simp only[kV] at h;split at h
  ·rename_i cells lN;split at h
   ·rename_i ds u1 rest u2 aJ ef mG;cases h;match vs,hl with
    |v::vs,hl=>
     have iW:=gy lN;obtain⟨b,T,cur,h1,h2,aa,aH,_,bD⟩:=aq.bG.old.sites o _ iW;have hv:v=B o:=(Ref.at (hr 0 (by simp) (by simp)) iW rfl:v=bY (B o)).trans (by rw[h1];rfl)
     have dH:=yI ef ⟨aa,bD⟩ aq.bG (fun p aj=>dO p (List.mem_append.2 (.inl aj)))
     refine⟨⟨b,cur,by rw[hv,h1],aq.na o (dh o List.mem_cons_self) b (by rw[h1];rfl),aq.bG.old.dX ⟨_,iW,rfl⟩ (fW (by rw[h1];rfl)),.row h2,dH.1,fun j g1 g2=>aq.rd (dH.2 j g1 g2)⟩,?_⟩
     exact ih mG (fun p aj=>dO p (List.mem_append.2 (.inr aj))) (fun F bB=>dh F (List.mem_cons_of_mem _ bB)) (by simpa using hl) (fun i g1 g2=>hr (i+1) (by simpa using g1) (by simpa using g2))
   ·cases h
  ·cases h
theorem DO(aq:eR L J X B st tm w cL eh av){l fo:aw}{us:List (Nat×Site)}{bs:List Nat}{v:Value}(h:mL st l=some (fo,us,bs))(dO:∀p,p∈us->p∈cL)(dh:∀o,o∈bs->o∈eh)
  (hv:dk B st.sites w (an X B st.sites) l v):lG w av fo v []:=by
 unfold mL at h;split at h
 ·rename_i cells;cases h;obtain⟨b,D,h1,h2,aa,cs,aH,bD,di⟩:=hv;exact⟨rfl,b,D,h1,fun hx=>h2 (aq.sub hx),aa,cs,aH,bD,fun j g1 g2=>aq.sN (di j g1 g2)⟩
 ·rename_i g c cs;split at h
  ·rename_i ds u b hc;cases h;obtain⟨vs,h1,h2,aa⟩:=hv;rw[h1];exact⟨rfl,(Lk aq hc dO dh h2 aa).fn⟩
  ·cases h
 ·split at h
  ·rename_i d u Y;cases h;exact⟨rfl,aq.rd (NV Y hv aq.bG dO)⟩
  ·cases h
theorem aab(aq:eR L J X B st tm w cL eh av):∀{U dm:List aw} {us:List (Nat×Site)} {bs:List Nat} {vs:List Value},lB st U=some (dm,us,bs)->(∀p,p∈us->p∈cL)->(∀o,o∈bs->o∈eh)->
  ck B st.sites w (an X B st.sites) U vs->fY w av dm vs []:=by
 intro U;induction U with
 |nil=>intro dm us bs vs h _ _ hv;simp only[lB] at h;cases h;rw[hv.kR];rfl
 |cons l U ih=>
  intro dm us bs vs h dO dh hv;simp only[lB] at h;split at h
  ·rename_i a u1 aT as u2 aJ h1 h2;cases h;obtain⟨v,cq,rfl,jg,jM⟩:=hv.inv;exact⟨[],[],rfl,DO aq h1 (fun p aj=>dO p (List.mem_append.2 (.inl aj))) (fun p aj=>dh p (List.mem_append.2 (.inl aj))) jg,
    ih h2 (fun p aj=>dO p (List.mem_append.2 (.inr aj))) (fun p aj=>dh p (List.mem_append.2 (.inr aj))) jM⟩
  ·cases h
theorem abC(aq:eR L J X B st tm w cL eh av){o s:Nat}{t:aG}{xs:List (den t)}(hl:look st.sites o=some (.row s t xs)):
  ∃e,∃cs:List Value,rowAt w t.en e (ax t) (B o) xs.length cs/\ch w av (flat t xs) cs:=by
 obtain⟨e,cs,h1,h2⟩:=aq.bG.old.sites o _ hl;refine⟨e,cs,h1,by rw[dR];exact h1.1,fun j g1 g2=>aq.sN (h2 j g1 g2)⟩
theorem xv(aq:eR L J X B st tm w cL eh av){l fo:aw}{us:List (Nat×Site)}{v:Value}(h:mH st l=some (fo,us))(hv:dk B st.sites w (an X B st.sites) l v):
  lG w av fo v (cp B (keys us))/\eP st.sites us:=by
 unfold mH at h;split at h
 ·cases h;exact⟨⟨rfl,aq.sN hv⟩,.nil⟩
 ·rename_i t;cases h;have hv:v=.slice none 0 0:=hv;subst hv;exact⟨⟨rfl,0,[],⟨by simp,.inl ⟨rfl,rfl⟩⟩,rfl,fun j g=>by simp[flat] at g⟩,.nil⟩
 ·rename_i o s;split at h
  ·rename_i am t xs hl;cases hb:am.beq s with
   |false=>simp[hb] at h
   |true=>
    simp only[hb,cond_true,Option.some.injEq,Prod.mk.injEq] at h;obtain⟨rfl,rfl⟩:=h;have M:=Nat.eq_of_beq_eq_true hb;subst M;have hl:look st.sites o=some (.row am t xs):=hl;obtain⟨e,cs,h1,h2⟩:=abC aq hl;have iI:v=B o:=(Ref.at hv.2 hl rfl:v=bY (B o)).trans (iv h1).1;refine⟨⟨?_,e,cs,by rw[iI];exact h1,h2⟩,fun F aiY hm=>?_⟩
    ·simp only[keys,cp,List.flatMap_cons,List.flatMap_nil,iI,(iv h1).2,List.append_nil]
    ·simp only[List.mem_singleton,Prod.mk.injEq] at hm;obtain⟨rfl,rfl⟩:=hm;exact⟨_,hl,rfl,rfl⟩
  ·rename_i am t xs hl;cases hb:am.beq s with
   |false=>simp[hb] at h
   |true=>
    simp only[hb,cond_true,Option.some.injEq,Prod.mk.injEq] at h;obtain⟨rfl,rfl⟩:=h;have M:=Nat.eq_of_beq_eq_true hb;subst M;have hl:look st.sites o=some (.cS am t xs):=hl;have iI:v=bY (B o):=Ref.at hv.2 hl rfl;refine⟨⟨rfl,?_⟩,.nil⟩;rw[iI];exact aq.sN (aq.bG.old.sites o _ hl).1
  ·rename_i am t xs hl;cases hb:am.beq s with
   |false=>simp[hb] at h
   |true=>
    simp only[hb,cond_true,Option.some.injEq,Prod.mk.injEq] at h;obtain⟨rfl,rfl⟩:=h;have M:=Nat.eq_of_beq_eq_true hb;subst M;have hl:look st.sites o=some (.deep am t xs):=hl;obtain⟨e,v',aA,cs,h1,_,h2,aa⟩:=aq.bG.old.sites o _ hl;have iI:v=v':=(Ref.at hv.2 hl rfl:v=bY (B o)).trans (by rw[h1];rfl)
    subst iI;refine⟨⟨e,cs,aA,?_,h2,aa.map (fun h=>aq.sN h) fun _ _ _ _=>rfl⟩,fun F aiY hm=>?_⟩
    ·simp only[keys,cp,List.flatMap_cons,List.flatMap_nil,List.append_nil,h1]
    ·simp only[List.mem_singleton,Prod.mk.injEq] at hm;obtain⟨rfl,rfl⟩:=hm;exact⟨_,hl,rfl,rfl⟩
  ·cases h
 ·cases h;exact⟨⟨rfl,trivial⟩,.nil⟩
 ·cases h;exact⟨⟨rfl,hv⟩,.nil⟩
 ·cases h
theorem Lb{U dm:List aw}{us:List (Nat×Site)}(h:jG st U=some (dm,us))(bQ:dm.head?=some .ew):U.head?=some .ew:=by
 cases U with
 |nil=>simp only[jG] at h;cases h;cases bQ
 |cons l U=>
  simp only[jG] at h;split at h
  ·rename_i a u1 as u2 h1 h2;cases h;simp only[List.head?_cons,Option.some.injEq] at bQ ⊢;subst bQ;unfold mH at h1;split at h1<;>try(cases h1;done)
   ·split at h1;all_goals first|cases h1;done|skip
    all_goals
     rename_i am t xs _;revert h1
     generalize am.beq _=q;intro h1;cases q<;>cases h1
   ·rfl
  ·cases h
theorem yd(aq:eR L J X B st tm w cL eh av):∀{U dm:List aw} {us:List (Nat×Site)} {vs:List Value},jG st U=some (dm,us)->ck B st.sites w (an X B st.sites) U vs->
  fY w av dm vs (cp B (keys us))/\eP st.sites us:=by
 intro U;induction U with
 |nil=>intro dm us vs h hv;simp only[jG] at h;cases h;rw[hv.kR];exact⟨rfl,.nil⟩
 |cons l U ih=>
  intro dm us vs h hv;simp only[jG] at h;split at h
  ·rename_i a u1 as u2 h1 h2;cases h;obtain⟨v,cq,rfl,jg,jM⟩:=hv.inv;obtain⟨aC,ao⟩:=xv aq h1 jg;obtain⟨bv,ca⟩:=ih h2 jM;exact⟨⟨_,_,by rw[gi,jY],aC,bv⟩,ao.append ca⟩
  ·cases h
theorem h3.append{as jm:List Arg}{vs cq:List Value}{bs n':List Nat}(h:h3 w av as vs bs)(ab:h3 w av jm cq n'):h3 w av (as++jm) (vs++cq) (bs++n'):=by
 induction as generalizing vs bs with
 |nil=>
  match vs,h with
  |[],h=>have h:bs=[]:=h;subst h;exact ab
 |cons a as ih=>
  match vs,h with
  |v::vs,⟨aT,aJ,h1,h2,aa⟩=>exact⟨aT,aJ++n',by rw[h1,List.append_assoc],h2,ih aa⟩
theorem Yk{cs:List (List aM)}{vs:List Value}(h:j6 w av cs vs):h3 w av (kS cs) vs []:=by
 induction cs generalizing vs with
 |nil=>
  match vs,h with
  |[],_=>rfl
 |cons ds cs ih=>
  match vs,h with
  |v::vs,⟨⟨b,cur,h1,h2,aa,aH,bD⟩,di⟩=>
   refine⟨[],[],rfl,⟨rfl,b,0,by rw[h1],h2,aa,cur,by rw[bD.1],fun j u hu=>aH j u hu,bD.2⟩,ih di⟩
theorem JG{as jm:List Arg}{vs cq:List Value}(hl:as.length=vs.length):dj (as++jm) (vs++cq)=dj as vs++dj jm cq:=by
 induction as generalizing vs with
 |nil=>rw[List.eq_nil_of_length_eq_zero hl.symm];rfl
 |cons a as ih=>
  match vs,hl with
  |v::vs,hl=>
   have:=ih (vs:=vs) (by simpa using hl)
   cases a with
   |av a=>cases v<;>simp[dj,this]
   |dJ c=>
    cases v<;>try(simp[dj,this];done)
    rename_i p;cases p<;>simp[dj,this]
theorem Ym(cs:List (List aM))(vs:List Value):dj (kS cs) vs=[]:=by
 induction cs generalizing vs with
 |nil=>cases vs<;>rfl
 |cons c cs ih=>cases vs<;>simp[kS,dj,ih]
theorem Wd{as jm:List Arg}{vs cq:List Value}(hl:as.length=vs.length):e0 (as++jm) (vs++cq)=e0 as vs++e0 jm cq:=by
 induction as generalizing vs with
 |nil=>rw[List.eq_nil_of_length_eq_zero hl.symm];rfl
 |cons a as ih=>
  match vs,hl with
  |v::vs,hl=>
   have:=ih (vs:=vs) (by simpa using hl)
   cases a<;>simp[e0,this]
theorem XH(cs:List (List aM))(vs:List Value):e0 (kS cs) vs=[]:=by
 induction cs generalizing vs with
 |nil=>cases vs<;>rfl
 |cons c cs ih=>cases vs<;>simp[kS,e0,ih,bA.cells,fV,aw.ri]
def hF(B:Nat->Value):List (Option (Nat×Nat))->List Value->Prop
 |[],_=>True
 |none::r,_::vs=>hF B r vs
 |some p::r,v::vs=>v=bY (B p.1)/\hF B r vs
 |_::_,[]=>False
theorem hF.append{B:Nat->Value}{r iN:List (Option (Nat×Nat))}{vs cq:List Value}(hl:r.length=vs.length)(h:hF B r vs)(ab:hF B iN cq):hF B (r++iN) (vs++cq):=by
 induction r generalizing vs with
 |nil=>rw[List.eq_nil_of_length_eq_zero hl.symm];exact ab
 |cons D r ih=>
  match vs,hl with
  |v::vs,hl=>
   cases D with
   |none=>exact ih (by simpa using hl) h
   |some p=>exact⟨h.1,ih (by simpa using hl) h.2⟩
theorem h3.length{as:List Arg}{vs:List Value}{bs:List Nat}(h:h3 w av as vs bs):as.length=vs.length:=by
 induction as generalizing vs bs with
 |nil=>
  match vs,h with
  |[],_=>rfl
 |cons a as ih=>
  match vs,h with
  |v::vs,⟨_,_,_,_,h⟩=>simp[ih h]
theorem Zx(aq:eR L J X B st tm w cL eh av):∀{cA:List aL} {a:jJ} {vs:List Value},iu st cA=some a->cA.length=vs.length->
  (∀i (h:i<cA.length) (ab:i<vs.length),b_ B st.sites w (an X B st.sites) (cA[i]) (vs[i]))->(∀p,p∈a.et->p∈cL)->(∀o,o∈a.fu->o∈eh)->
  h3 w av a.as vs (cp B (keys a.gone))/\eP st.sites a.gone/\dj a.as vs=cp B (keys a.boxes)/\(∀o s,(o,s)∈a.boxes->(o,.dead s)∈a.gone/\∃b,B o=.pointer (some ⟨b,0,none⟩))/\a.rows=[]:=by
 intro cA;induction cA with
 |nil=>
  intro a vs h hl _ _ _;simp only[iu] at h;cases h;rw[List.eq_nil_of_length_eq_zero hl.symm];exact⟨rfl,.nil,rfl,fun o s hm=>by simp at hm,rfl⟩
 |cons qI cA ih=>
  intro a vs h hl hv dO dh;match vs,hl with
  |v::vs,hl=>
   have la:=hv 0 (by simp) (by simp)
   have hvs:∀i (h:i<cA.length) (ab:i<vs.length),b_ B st.sites w (an X B st.sites) (cA[i]) (vs[i]):=fun i g1 g2=>hv (i+1) (by simpa using g1) (by simpa using g2)
   have fy:cA.length=vs.length:=by simpa using hl
   simp only[List.getElem_cons_zero] at la;unfold iu at h;split at h
   ·cases ‹qI::cA=[]›
   ·rename_i o s cq bV;cases bV;split at h
    ·rename_i cells r lN hr;split at h
     ·rename_i cs gone hg;cases h;obtain⟨aC,ao,bv,ca,dT⟩:=ih hr fy hvs dO dh;have iW:=gy lN;obtain⟨b,T,cur,e1,e2,bK,c_,fh⟩:=aq.bG.old.box iW la;have Ge:mJ cells T cur b:=by
       obtain⟨aJ,dA,QW,q1,q2,_,_,dC,_⟩:=aq.bG.old.sites o _ iW;rw[e1] at q1;cases q1;rw[bK] at q2;cases q2;exact dC
      obtain⟨g1,g2⟩:=yd aq hg fh;subst e2;refine⟨⟨b::cp B (keys gone),_,?_,⟨b,rfl,T,cur,_,rfl,bK,c_,fun bQ=>Ge (Lb hg bQ),g1⟩,aC⟩,?_,?_,?_,dT⟩
      ·show cp B (keys (((o,Site.dead s)::gone)++r.gone))=_;rw[gi,jY];congr 1
       simp[keys,cp,e1,a7,bI]
      ·refine eP.append ?_ ao;intro F am hm;rcases List.mem_cons.1 hm with hm|hm
       ·cases hm;exact⟨_,iW,rfl,rfl⟩
       ·exact g2 F am hm
      ·simp[dj,bv,keys,cp,e1,a7,bI]
      ·intro F am hm;rcases List.mem_cons.1 hm with hm|hm
       ·cases hm;exact⟨by simp,b,e1⟩
       ·obtain⟨q1,q2⟩:=ca F am hm;exact⟨List.mem_append.2 (.inr q1),q2⟩
     ·cases h
    ·cases h
   ·rename_i l cq _ bV;cases bV;split at h
    ·rename_i fo us bs r h1 hr;cases h;obtain⟨aC,ao,bv,ca,_⟩:=ih hr fy hvs (fun p aj=>dO p (List.mem_append.2 (.inr aj))) (fun p aj=>dh p (List.mem_append.2 (.inr aj)))
     have:=DO aq h1 (fun p aj=>dO p (List.mem_append.2 (.inl aj))) (fun p aj=>dh p (List.mem_append.2 (.inl aj))) la
     refine⟨⟨[],_,rfl,this,aC⟩,ao,?_,ca,rfl⟩;cases v<;>simp[dj,bv]
    ·cases h
   ·rename_i U cq bV;cases bV;split at h
    ·rename_i dm us bs r h1 hr;cases h;obtain⟨aC,ao,bv,ca,_⟩:=ih hr fy hvs (fun p aj=>dO p (List.mem_append.2 (.inr aj))) (fun p aj=>dh p (List.mem_append.2 (.inr aj)))
     obtain⟨jd,e1,e2,bK⟩:=la;have:=aab aq h1 (fun p aj=>dO p (List.mem_append.2 (.inl aj))) (fun p aj=>dh p (List.mem_append.2 (.inl aj))) ⟨e2,bK⟩
     refine⟨⟨[],_,rfl,⟨jd,e1,this⟩,aC⟩,ao,?_,ca,rfl⟩;cases v<;>simp[dj,bv]
    ·cases h
   ·cases h
theorem Lc(aq:eR L J X B st tm w cL eh av){l fo:aw}{gs us:List (Nat×Site)}{bs:List Nat}{v:Value}(h:lx st l=some (fo,gs,us,bs))(dO:∀p,p∈us->p∈cL)(dh:∀o,o∈bs->o∈eh)
  (hv:dk B st.sites w (an X B st.sites) l v):lG w av fo v (cp B (keys gs))/\eP st.sites gs:=by
 unfold lx at h;split at h
 ·split at h
  ·rename_i hg;cases h;exact xv aq hg hv
  ·cases h
 ·cases h;exact xv (l:=.nil _) (us:=[]) aq rfl hv
 ·split at h
  ·rename_i hl;cases h;exact⟨DO aq hl dO dh hv,.nil⟩
  ·cases h
theorem Ks(aq:eR L J X B st tm w cL eh av){l fo:aw}{gs us:List (Nat×Site)}{bs:List Nat}{v:Value}(h:lx st l=some (fo,gs,us,bs))(hv:dk B st.sites w (an X B st.sites) l v):
  ∀o s,k0 st l=some (o,s)->v=bY (B o)/\(o,.dead s)∈gs:=by
 intro o s hg;unfold k0 at hg;split at hg
 ·rename_i G6 am;unfold lx at h;simp only[mH] at h;split at hg
  ·rename_i u t xs hl;cases hg;rw[hl] at h;simp only at h;cases hb:u.beq s with
   |false=>simp[hb] at h
   |true=>
    have M:=Nat.eq_of_beq_eq_true hb;subst M;simp only[hb,cond_true] at h;cases h;exact⟨Ref.at hv.2 hl rfl,List.mem_singleton.2 rfl⟩
  ·rename_i u t xs hl;cases hg;rw[hl] at h;simp only at h;cases hb:u.beq s with
   |false=>simp[hb] at h
   |true=>
    have M:=Nat.eq_of_beq_eq_true hb;subst M;simp only[hb,cond_true] at h;cases h;exact⟨Ref.at hv.2 hl rfl,List.mem_singleton.2 rfl⟩
  ·cases hg
 ·cases hg
theorem X7(aq:eR L J X B st tm w cL eh av):∀{U dm:List aw} {gs us:List (Nat×Site)} {bs:List Nat} {vs:List Value},lv st U=some (dm,gs,us,bs)->(∀p,p∈us->p∈cL)->(∀o,o∈bs->o∈eh)->
  ck B st.sites w (an X B st.sites) U vs->fY w av dm vs (cp B (keys gs))/\eP st.sites gs/\hF B (U.map (k0 st)) vs/\∀o s,some (o,s)∈U.map (k0 st)->(o,.dead s)∈gs:=by
 intro U;induction U with
 |nil=>intro dm gs us bs vs h _ _ hv;simp only[lv] at h;cases h;rw[hv.kR];exact⟨rfl,.nil,trivial,fun o s h=>by simp at h⟩
 |cons l U ih=>
  intro dm gs us bs vs h dO dh hv;simp only[lv] at h;split at h
  ·rename_i a u1 f1 aT as u2 f2 aJ h1 h2;cases h;obtain⟨v,cq,rfl,jg,jM⟩:=hv.inv;obtain⟨aC,ao⟩:=Lc aq h1 (fun p aj=>dO p (List.mem_append.2 (.inl aj))) (fun p aj=>dh p (List.mem_append.2 (.inl aj))) jg
   obtain⟨bv,ca,dT,gP⟩:=ih h2 (fun p aj=>dO p (List.mem_append.2 (.inr aj))) (fun p aj=>dh p (List.mem_append.2 (.inr aj))) jM
   have hr:=Ks aq h1 jg;refine⟨⟨_,_,by rw[gi,jY],aC,bv⟩,ao.append ca,?_,fun o s hm=>?_⟩
   ·simp only[List.map_cons];cases ay:k0 st l with
    |none=>exact dT
    |some p=>exact⟨(hr p.1 p.2 ay).1,dT⟩
   ·simp only[List.map_cons,List.mem_cons] at hm;rcases hm with hm|hm
    ·exact List.mem_append.2 (.inl (hr o s hm.symm).2)
    ·exact List.mem_append.2 (.inr (gP o s hm))
  ·cases h
theorem Cy{v:Value}(h:v.oneCell'=true):hR v=[v]:=by
 cases v<;>first|rfl|cases h
theorem ZM{l:aw}{v:Value}{bs:List Nat}(hn:l.ri=false)(h:lG w av l v bs):v.oneCell'=true:=by
 cases l with
 |fresh t xs=>
  obtain⟨_,e,cs,k,_⟩:=h;rcases k.2 with⟨h,_⟩|⟨g,cap,cur,bG,h,_⟩<;>rw[h]<;>rfl
 |eK t xs=>
  obtain⟨e,cs,aA,_,k,_⟩:=h;rcases k.2 with⟨h,_⟩|⟨g,cap,cur,bG,h,_⟩<;>rw[h]<;>rfl
 |_=>cases hn
theorem fY.length{U:List aw}{vs:List Value}{bs:List Nat}(h:fY w av U vs bs):vs.length=U.length:=by
 induction U generalizing vs bs with
 |nil=>
  match vs,h with
  |[],_=>rfl
 |cons l U ih=>
  match vs,h with
  |v::vs,⟨_,_,_,_,h⟩=>simp[ih h]
theorem XX(aq:eR L J X B st tm w cL eh av):∀{cA:List aL} {a:jJ} {vs:List Value},jZ st cA=some a->cA.length=vs.length->
  (∀i (h:i<cA.length) (ab:i<vs.length),b_ B st.sites w (an X B st.sites) (cA[i]) (vs[i]))->(∀p,p∈a.et->p∈cL)->(∀o,o∈a.fu->o∈eh)->
  h3 w av a.as vs (cp B (keys a.gone))/\eP st.sites a.gone/\dj a.as vs=cp B (keys a.boxes)/\(∀o s,(o,s)∈a.boxes->(o,.dead s)∈a.gone/\∃b,B o=.pointer (some ⟨b,0,none⟩))/\
   hF B a.rows (e0 a.as vs)/\∀o s,some (o,s)∈a.rows->(o,.dead s)∈a.gone:=by
 intro cA;induction cA with
 |nil=>
  intro a vs h hl _ _ _;simp only[jZ] at h;cases h;rw[List.eq_nil_of_length_eq_zero hl.symm];exact⟨rfl,.nil,rfl,fun o s hm=>by simp at hm,trivial,fun o s hm=>by simp at hm⟩
 |cons qI cA ih=>
  intro a vs h hl hv dO dh;match vs,hl with
  |v::vs,hl=>
   have la:=hv 0 (by simp) (by simp)
   have hvs:∀i (h:i<cA.length) (ab:i<vs.length),b_ B st.sites w (an X B st.sites) (cA[i]) (vs[i]):=fun i g1 g2=>hv (i+1) (by simpa using g1) (by simpa using g2)
   have fy:cA.length=vs.length:=by simpa using hl
   simp only[List.getElem_cons_zero] at la;unfold jZ at h;split at h
   ·cases ‹qI::cA=[]›
   ·rename_i l cq bV;cases bV;split at h
    ·rename_i fo gs us bs r h1 hr;cases h;obtain⟨aC,ao,bv,ca,dT,gP⟩:=ih hr fy hvs (fun p aj=>dO p (List.mem_append.2 (.inr aj))) (fun p aj=>dh p (List.mem_append.2 (.inr aj)))
     obtain⟨g1,g2⟩:=Lc aq h1 (fun p aj=>dO p (List.mem_append.2 (.inl aj))) (fun p aj=>dh p (List.mem_append.2 (.inl aj))) la
     have cJ:=Ks aq h1 la;refine⟨⟨_,_,by rw[gi,jY],g1,aC⟩,g2.append ao,?_,fun F am hm=>?_,?_,fun F am hm=>?_⟩
     ·cases v<;>simp[dj,bv]
     ·obtain⟨q1,q2⟩:=ca F am hm;exact⟨List.mem_append.2 (.inr q1),q2⟩
     ·simp only[e0,bA.cells,nG];cases hn:fV [fo] with
      |true=>exact dT
      |false=>
       have e':fo.ri=false:=by simpa[fV] using hn
       simp only[cond_false,Cy (ZM e' g1)];refine hF.append (by simp) ?_ dT
       simp only[List.map_cons,List.map_nil];cases ay:k0 st l with
       |none=>trivial
       |some p=>exact⟨(cJ p.1 p.2 ay).1,trivial⟩
     ·simp only[nG] at hm;rcases List.mem_append.1 hm with hm|hm
      ·cases hn:fV [fo] with
       |true=>rw[hn] at hm;simp at hm
       |false=>
        rw[hn] at hm;simp only[cond_false,List.map_cons,List.map_nil,List.mem_singleton] at hm;exact List.mem_append.2 (.inl (cJ F am hm.symm).2)
      ·exact List.mem_append.2 (.inr (gP F am hm))
    ·cases h
   ·rename_i U cq bV;cases bV;split at h
    ·rename_i dm gs us bs r h1 hr;cases h;obtain⟨aC,ao,bv,ca,dT,gP⟩:=ih hr fy hvs (fun p aj=>dO p (List.mem_append.2 (.inr aj))) (fun p aj=>dh p (List.mem_append.2 (.inr aj)))
     obtain⟨jd,e1,e2,bK⟩:=la;obtain⟨g1,g2,g3,eH⟩:=X7 aq h1 (fun p aj=>dO p (List.mem_append.2 (.inl aj))) (fun p aj=>dh p (List.mem_append.2 (.inl aj))) ⟨e2,bK⟩
     subst e1;refine⟨⟨_,_,by rw[gi,jY],⟨jd,rfl,g1⟩,aC⟩,g2.append ao,?_,fun F am hm=>?_,?_,fun F am hm=>?_⟩
     ·simp[dj,bv]
     ·obtain⟨q1,q2⟩:=ca F am hm;exact⟨List.mem_append.2 (.inr q1),q2⟩
     ·simp only[e0,bA.cells,nG];cases hn:fV dm with
      |true=>exact dT
      |false=>
       simp only[cond_false,hR];exact hF.append (by simp[e2]) g3 dT
     ·simp only[nG] at hm;rcases List.mem_append.1 hm with hm|hm
      ·cases hn:fV dm with
       |true=>rw[hn] at hm;simp at hm
       |false=>
        rw[hn] at hm;exact List.mem_append.2 (.inl (eH F am hm))
      ·exact List.mem_append.2 (.inr (gP F am hm))
    ·cases h
   ·cases h
theorem Kl{b:Bool}(aq:eR L J X B st tm w cL eh av){cA:List aL}{a:jJ}{vs:List Value}(h:rk b st cA=some a)(hl:cA.length=vs.length)
  (hv:∀i (h:i<cA.length) (ab:i<vs.length),b_ B st.sites w (an X B st.sites) (cA[i]) (vs[i])) (h1:∀p,p∈a.et->p∈cL) (h2:∀o,o∈a.fu->o∈eh):
  h3 w av a.as vs (cp B (keys a.gone))/\eP st.sites a.gone/\dj a.as vs=cp B (keys a.boxes)/\(∀o s,(o,s)∈a.boxes->(o,.dead s)∈a.gone/\∃b,B o=.pointer (some ⟨b,0,none⟩))/\
   hF B a.rows (e0 a.as vs)/\∀o s,some (o,s)∈a.rows->(o,.dead s)∈a.gone:=by
 cases b
 ·obtain⟨aC,ao,bv,ca,dT⟩:=Zx aq h hl hv h1 h2;exact⟨aC,ao,bv,ca,by rw[dT];trivial,by rw[dT];intro o s h;simp at h⟩
 ·exact XX aq h hl hv h1 h2
end
theorem Lh(l m:List Nat):eO l m=true <-> ∀n,n∈l->n∉m:=by
 induction l with
 |nil=>simp[eO]
 |cons n l ih=>
  simp only[eO,Bool.and_eq_true,ih,Bool.not_eq_true',List.mem_cons];constructor
  ·rintro⟨h1,h2⟩ k (rfl|ag)
   ·intro h;rw[(tN k m).2 h] at h1;cases h1
   ·exact h2 k ag
  ·intro h;refine⟨?_,fun k ag=>h k (.inr ag)⟩
   cases ab:fI n m with
   |false=>rfl
   |true=>exact absurd ((tN n m).1 ab) (h n (.inl rfl))
section
variable {L:World}{J:List Nat}{X:Nat->Prop}{B:Nat->Value}{st:ad}{tm:Array Value}{w:World}
theorem ah.ad1:∀{us:List (Nat×Site)} {st:ad} {X:Nat->Prop},ah L J X B st tm w->eP st.sites us->(keys us).Nodup->
  ah L J (fun b=>X b\/b∈cp B (keys us)) B {st with sites:=aW st.sites us} tm w:=by
 intro us;induction us with
 |nil=>intro st X S _ _;exact S.shrink fun b h=>by rcases h with h|h;exact h;simp[keys,cp] at h
 |cons p us ih=>
  obtain⟨o,am⟩:=p;intro st X S hg hn;obtain⟨O,h1,h2,rfl⟩:=hg o am List.mem_cons_self;simp only[keys,List.nodup_cons] at hn;have c7:=S.kill h1 h2;have fT:=ih c7 (fun F s hm=>by
   obtain⟨t,aC,ao,bv⟩:=hg F s (List.mem_cons_of_mem _ hm);have:¬o=F:=fun e=>hn.1 (by rw[e];exact CP hm)
   exact⟨t,by simp[cn,this,aC],ao,bv⟩) hn.2
  refine fT.shrink fun b h=>?_
  rcases h with h|h
  ·exact .inl (.inl h)
  ·simp only[keys,cp,List.flatMap_cons,List.mem_append] at h;rcases h with h|h
   ·exact .inl (.inr h)
   ·exact .inr h
structure fx(L:World)(J:List Nat)(X X':Nat->Prop)(B aB:Nat->Value)(st:ad)(tm:Array Value)(w:World)(us:List (Nat×Site)):Prop where
 ga:ah L J X' aB {st with sites:=aW st.sites us} tm w
 le:∀c,an X' aB (aW st.sites us) c->an X B st.sites c
 go:∀{a v},b_ B st.sites w (an X B st.sites) a v->b_ aB (aW st.sites us) w (an X' aB (aW st.sites us)) a v
 same:∀o,o∉keys us->aB o=B o
theorem fx.nil{X':Nat->Prop}(S:ah L J X B st tm w)(h:∀b,X' b->X b):fx L J X X' B B st tm w []:=
 ⟨S.shrink h,fun c hc=>by
  rcases hc with hc|hc
  ·exact .inl (h c hc)
  ·exact .inr hc,fun k=>k.fw (fun c hc=>by
   rcases hc with hc|hc
   ·exact .inl (h c hc)
   ·exact .inr hc) (fun c hc=>(S.shrink h).lt hc),fun _ _=>rfl⟩
theorem fx.trans{cQ cx:Nat->Prop}{fM fL:Nat->Value}{us vs:List (Nat×Site)}(A:fx L J X cQ B fM st tm w us)(br:fx L J cQ cx fM fL {st with sites:=aW st.sites us} tm w vs):
  fx L J X cx B fL st tm w (us++vs):=by
 refine⟨?_,?_,?_,fun o h=>?_⟩
 ·rw[hZ];exact br.ga
 ·rw[hZ];exact fun c hc=>A.le c (br.le c hc)
 ·rw[hZ];exact fun h=>br.go (A.go h)
 ·rw[gi,List.mem_append,not_or] at h;rw[br.same o h.2,A.same o h.1]
theorem fx.one{X':Nat->Prop}{n:Nat}{bH:Site}{nv:Value}(S:ah L J X B st tm w)(gR:∀b,X' b->X b)
  (c':(∀O,look st.sites n=some O->O.b2<bH.b2)\/(bY (B n)=bY nv/\∀O,look st.sites n=some O->O.b2=bH.b2/\O.live=false))
  (hb:∀b,b∈bI nv->X b/\¬X' b/\(b∈J\/L.heap.size<=b))
  (ff:∀{bp:List (Nat×Site)} {aB:Nat->Value},bp=b8 st.sites n bH->aB n=nv->(∀{a v},b_ B st.sites w (an X B st.sites) a v->b_ aB bp w (an X' aB bp) a v)->
   (∀b,an X' aB bp b->an X B st.sites b)->iw aB bp w (an X' aB bp) n bH):
  fx L J X X' B (fun F=>if F=n then nv else B F) st tm w [(n,bH)]:=by
 obtain⟨h1,h2,aa⟩:=S.uM gR c' hb ff;exact⟨h1,h2,aa,fun o h=>by
  simp only[keys,List.mem_singleton] at h;simp[h]⟩
theorem BV{av bT:Nat->Prop}{l:aw}{v:Value}{sites:List (Nat×Site)}(hf:∀t xs,l≠.fresh t xs)(AY:∀t xs,l≠.eK t xs)(h:dk lI [] w av l v)(c4:∀b,bT b->av b)(aX:∀b,bT b->b<w.heap.size):dk B sites w bT l v:=by
 have fw:∀{d:aM} {v:Value},bj w av d v->bj w bT d v:=fun h=>b_.fw (B:=B) (sites:=[]) (a:=one _) c4 aX h
 cases l with
 |d x=>exact fw h
 |nil t=>exact h
 |own o s=>obtain⟨_,_,h,_⟩:=h;cases h
 |ptr o s off=>obtain⟨_,_,_,h,_⟩:=h;cases h
 |ee cells off=>
  obtain⟨b,D,h1,h2,aa,cs,aH,bD,di⟩:=h;exact⟨b,D,h1,fun hx=>h2 (c4 b hx),aa,cs,aH,bD,fun j g1 g2=>fw (di j g1 g2)⟩
 |ek o s t k off=>obtain⟨_,_,_,h,_⟩:=h;cases h
 |clo g bE=>
  obtain⟨vs,h1,h2,aa⟩:=h;match bE,vs,h2 with
  |[],[],_=>exact⟨[],h1,rfl,fun i h=>by simp at h⟩
  |c::bE,v::vs,_=>obtain⟨_,h,_⟩:=aa 0 (by simp) (by simp);cases h
 |cB u=>exact h
 |fresh t xs=>exact absurd rfl (hf t xs)
 |eK t xs=>exact absurd rfl (AY t xs)
 |ew=>trivial
 |any=>trivial
theorem ck.go{aB:Nat->Value}{sites bp:List (Nat×Site)}{w':World}{av bT:Nat->Prop}(go:∀{a:aL} {v:Value},b_ B sites w av a v->b_ aB bp w' bT a v){U:List aw}{vs:List Value}
  (h:ck B sites w av U vs):ck aB bp w' bT U vs:=y6 go h
structure Left(L:World)(J:List Nat)(X:Nat->Prop)(B:Nat->Value)(st:ad)(av:Nat->Prop)(bs:List Nat):Prop where
 nodup:bs.Nodup
 b7:∀b,b∈bs->¬X b/\(b∈J\/L.heap.size<=b)
 le:∀c,an (fun b=>X b\/b∈bs) B st.sites c->av c
def iY(bn:ad)(sites:List (Nat×Site))(ks:List Nat):Prop:=∀m,m∈ks->∀O,look sites m=some O->O.b2<aZ bn m
theorem iY.step{bn:ad}{sites us:List (Nat×Site)}{ks:List Nat}(h:iY bn sites ks)(Y:∀n,n∈keys us->n∉ks):iY bn (aW sites us) ks:=by
 intro m hm O M;rw[kK (fun ab=>Y m ab hm)] at M
 exact h m hm O M
theorem BL{u:Bool}{e:TypeId}{s:Nat}{v:Value}{n:Nat}{cs:List Value}(h:rowAt w u e s v n cs):v.oneCell'=true:=by
 rcases h.2 with⟨h,_⟩|⟨g,cap,cur,bG,h,_⟩<;>rw[h]<;>rfl
theorem Mk{av:Nat->Prop}(bn:ad):∀(U:List aw) (n:Nat) {B:Nat->Value} {st:ad} {vs:List Value} {bs rest:List Nat},ah L J (fun b=>X b\/b∈bs++rest) B st tm w->fY w av U vs bs->
  Left L J X B st av (bs++rest)->iY bn st.sites (keys (take bn n U).2)->(keys (take bn n U).2).Nodup->
  ∃aB,fx L J (fun b=>X b\/b∈bs++rest) (fun b=>X b\/b∈rest) B aB st tm w (take bn n U).2/\ck aB (aW st.sites (take bn n U).2) w (an (fun b=>X b\/b∈rest) aB (aW st.sites (take bn n U).2)) (take bn n U).1 vs/\
   Left L J X aB {st with sites:=aW st.sites (take bn n U).2} av rest:=by
 intro U;induction U with
 |nil=>
  intro n B st vs bs rest S h aq fp Y;match vs,h with
  |[],h=>
   have h:bs=[]:=h;subst h;exact⟨B,.nil S (fun b hb=>hb),.nil,aq⟩
 |cons l U ih=>
  intro n B st vs bs rest S h aq fp Y;match vs,h with
  |v::vs,⟨aT,aJ,dh,h1,h2⟩=>
   subst dh;by_cases hf:∃t xs,l=.fresh t xs
   ·obtain⟨t,xs,rfl⟩:=hf;obtain⟨hb1,e,cs,au,hr⟩:=h1;simp only[take,keys,List.nodup_cons] at Y fp;have dn:=aq.nodup;rw[List.append_assoc,hb1] at dn;have cH:fx L J (fun b=>X b\/b∈aT++aJ++rest) (fun b=>X b\/b∈aJ++rest) B (fun F=>if F=n then v else B F) st tm w [(n,.row (aZ bn n) t xs)]:=by
     refine .one S (fun b hb=>?_) (.inl fun O M=>fp n List.mem_cons_self O M) (fun b hb=>?_) (fun eT dK go le=>?_)
     ·rcases hb with hb|hb
      ·exact .inl hb
      ·exact .inr (by rw[List.append_assoc];exact List.mem_append.2 (.inr hb))
     ·have hb:a7 v=some b:=tV au hb;have hm:b∈aT:=by rw[hb1,hb];simp
      have gK:b∈aT++aJ++rest:=by rw[List.append_assoc];exact List.mem_append.2 (.inl hm)
      refine⟨.inr gK,?_,(aq.b7 b gK).2⟩;rintro(hx|hx)
      ·exact(aq.b7 b gK).1 hx
      ·rw[hb] at dn;simp only[Option.toList_some,List.singleton_append,List.nodup_cons] at dn;exact dn.1 hx
     ·refine⟨e,cs,by rw[dK];exact au,fun j g1 g2=>?_⟩
      have k:=hr.2 j g1 g2;have c4:∀b,an (fun b=>X b\/b∈aJ++rest) _ _ b->av b:=fun b hb=>aq.le b (le b hb)
      exact b_.fw (B:=B) (sites:=[]) (a:=one _) c4 (fun b hb=>S.lt (le b hb)) k
    have kH:Left L J X (fun F=>if F=n then v else B F) {st with sites:=aW st.sites [(n,.row (aZ bn n) t xs)]} av (aJ++rest):=by
     refine⟨(List.nodup_append.1 (by rw[List.append_assoc] at aq;exact aq.nodup)).2.1,fun b hb=>aq.b7 b (by rw[List.append_assoc];exact List.mem_append.2 (.inr hb)),fun c hc=>aq.le c (cH.le c hc)⟩
    obtain⟨aB,dA,aa,aH⟩:=ih (n+1) (st:={st with sites:=aW st.sites [(n,.row (aZ bn n) t xs)]}) cH.ga h2 kH
     (iY.step (us:=[(n,.row (aZ bn n) t xs)]) (fun m hm=>fp m (List.mem_cons_of_mem _ hm)) (fun m hm=>by simp only[keys,List.mem_singleton] at hm;subst hm;exact Y.1)) Y.2
    refine⟨aB,cH.trans dA,?_,aH⟩;refine ck.cons ?_ aa;have:dk (fun F=>if F=n then v else B F) (aW st.sites [(n,.row (aZ bn n) t xs)]) w (an (fun b=>X b\/b∈aJ++rest) (fun F=>if F=n then v else B F) (aW st.sites [(n,.row (aZ bn n) t xs)])) (.own n (aZ bn n)) v:=
     ⟨BL au,Ref.mk (O:=.row (aZ bn n) t xs) (by simp[aW,cn]) rfl (by simp[(iv au).1])⟩
    exact dA.go (a:=bP (.own n (aZ bn n))) (v:=v) this
   ·by_cases AY:∃t xs,l=.eK t xs
    ·obtain⟨t,xs,rfl⟩:=AY;obtain⟨e,cs,aA,hb1,au,hr⟩:=h1;simp only[take,keys,List.nodup_cons] at Y fp;have dn:=aq.nodup;rw[List.append_assoc,hb1] at dn;have cH:fx L J (fun b=>X b\/b∈aT++aJ++rest) (fun b=>X b\/b∈aJ++rest) B (fun F=>if F=n then .tuple (v::aA).toArray else B F) st tm w [(n,.deep (aZ bn n) t xs)]:=by
      refine .one S (fun b hb=>?_) (.inl fun O M=>fp n List.mem_cons_self O M) (fun b hb=>?_) (fun eT dK go le=>?_)
      ·rcases hb with hb|hb
       ·exact .inl hb
       ·exact .inr (by rw[List.append_assoc];exact List.mem_append.2 (.inr hb))
      ·have hm:b∈aT:=by rw[hb1];exact hb
       have gK:b∈aT++aJ++rest:=by rw[List.append_assoc];exact List.mem_append.2 (.inl hm)
       refine⟨.inr gK,?_,(aq.b7 b gK).2⟩;rintro(hx|hx)
       ·exact(aq.b7 b gK).1 hx
       ·exact(List.nodup_append.1 dn).2.2 b hb b hx rfl
      ·have c4:∀b,an (fun b=>X b\/b∈aJ++rest) _ _ b->av b:=fun b hb=>aq.le b (le b hb)
       exact⟨e,v,aA,cs,dK,by rw[dK];exact(List.nodup_append.1 dn).1,au,hr.map (fun k=>b_.fw (B:=B) (sites:=[]) (a:=one _) c4 (fun b hb=>S.lt (le b hb)) k) fun _ _ _ _=>rfl⟩
     have kH:Left L J X (fun F=>if F=n then .tuple (v::aA).toArray else B F) {st with sites:=aW st.sites [(n,.deep (aZ bn n) t xs)]} av (aJ++rest):=by
      refine⟨(List.nodup_append.1 (by rw[List.append_assoc] at aq;exact aq.nodup)).2.1,fun b hb=>aq.b7 b (by rw[List.append_assoc];exact List.mem_append.2 (.inr hb)),fun c hc=>aq.le c (cH.le c hc)⟩
     obtain⟨aB,dA,aa,aH⟩:=ih (n+1) (st:={st with sites:=aW st.sites [(n,.deep (aZ bn n) t xs)]}) cH.ga h2 kH
      (iY.step (us:=[(n,.deep (aZ bn n) t xs)]) (fun m hm=>fp m (List.mem_cons_of_mem _ hm)) (fun m hm=>by simp only[keys,List.mem_singleton] at hm;subst hm;exact Y.1)) Y.2
     refine⟨aB,cH.trans dA,?_,aH⟩;refine ck.cons ?_ aa;have:dk (fun F=>if F=n then .tuple (v::aA).toArray else B F) (aW st.sites [(n,.deep (aZ bn n) t xs)]) w (an (fun b=>X b\/b∈aJ++rest) (fun F=>if F=n then .tuple (v::aA).toArray else B F) (aW st.sites [(n,.deep (aZ bn n) t xs)])) (.own n (aZ bn n)) v:=
      ⟨BL au,Ref.mk (O:=.deep (aZ bn n) t xs) (by simp[aW,cn]) rfl (by simp[bY])⟩
     exact dA.go (a:=bP (.own n (aZ bn n))) (v:=v) this
    ·have HQ:∀t xs,l≠.fresh t xs:=fun t xs h=>hf ⟨t,xs,h⟩
     have Gk:∀t xs,l≠.eK t xs:=fun t xs h=>AY ⟨t,xs,h⟩
     have aeo:take bn n (l::U)=(l::(take bn (n+1) U).1,(take bn (n+1) U).2):=by
      cases l<;>first|rfl|exact absurd rfl (HQ _ _)|exact absurd rfl (Gk _ _)
     have h1':aT=[]/\dk lI [] w av l v:=by
      cases l<;>first|exact h1|exact absurd rfl (HQ _ _)|exact absurd rfl (Gk _ _)
     obtain⟨rfl,h1'⟩:=h1';rw[aeo] at Y fp ⊢;simp only[List.nil_append] at S aq ⊢;obtain⟨aB,dA,aa,aH⟩:=ih (n+1) S h2 aq fp Y;refine⟨aB,dA,?_,aH⟩;refine ck.cons ?_ aa;exact BV HQ Gk h1' (fun b hb=>aq.le b (dA.le b hb)) (fun b hb=>dA.ga.lt hb)
end
section
variable {L:World}{J:List Nat}{X:Nat->Prop}{B:Nat->Value}{st:ad}{tm:Array Value}{w:World}
def nJ(B:Nat->Value)(sites:List (Nat×Site))(w:World)(av:Nat->Prop)(as:List bA)(vs:List Value):Prop:=
 vs.length=as.length/\∀j (h:j<as.length) (ab:j<vs.length),f_ B sites w av (as[j]) (vs[j])
theorem nJ.cons{sites:List (Nat×Site)}{av:Nat->Prop}{a:bA}{as:List bA}{v:Value}{vs:List Value}(h:f_ B sites w av a v)(M:nJ B sites w av as vs):nJ B sites w av (a::as) (v::vs):=
 ⟨by simp[M.1],fun j h1 h2=>by
  cases j with
  |zero=>exact h
  |succ j=>exact M.2 j (by simpa using h1) (by simpa using h2)⟩
theorem Left.rest{av:Nat->Prop}{a b:List Nat}(aq:Left L J X B st av (a++b)){aB:Nat->Value}{af:ad}(h:∀c,an (fun c=>X c\/c∈b) aB af.sites c->an (fun c=>X c\/c∈a++b) B st.sites c):Left L J X aB af av b:=
 ⟨(List.nodup_append.1 aq.nodup).2.1,fun c hc=>aq.b7 c (List.mem_append.2 (.inr hc)),fun c hc=>aq.le c (h c hc)⟩
theorem YX{bn:ad}{n:Nat}{U:List aw}(h:(take bn n U).1.head?=some .ew):U.head?=some .ew:=by
 cases U with
 |nil=>cases h
 |cons l U=>cases l<;>first|exact h|cases h
theorem take_one(bn:ad)(n:Nat)(l:aw):∃fo,(take bn n [l]).1=[fo]:=by cases l<;>exact⟨_,rfl⟩
theorem LF{av:Nat->Prop}(bn:ad):∀(as:List bA) (n:Nat) {B:Nat->Value} {st:ad} {vs:List Value} {bs rest:List Nat},ah L J (fun b=>X b\/b∈bs++rest) B st tm w->j5 w av as vs bs->
  Left L J X B st av (bs++rest)->iY bn st.sites (keys (dG bn n as).2)->(keys (dG bn n as).2).Nodup->
  ∃aB,fx L J (fun b=>X b\/b∈bs++rest) (fun b=>X b\/b∈rest) B aB st tm w (dG bn n as).2/\nJ aB (aW st.sites (dG bn n as).2) w (an (fun b=>X b\/b∈rest) aB (aW st.sites (dG bn n as).2)) (dG bn n as).1 vs/\
   Left L J X aB {st with sites:=aW st.sites (dG bn n as).2} av rest:=by
 intro as;induction as with
 |nil=>
  intro n B st vs bs rest S h aq fp Y;match vs,h with
  |[],h=>
   have h:bs=[]:=h;subst h;exact⟨B,.nil S (fun b hb=>hb),⟨rfl,fun j h=>by simp[dG] at h⟩,aq⟩
 |cons a as ih=>
  intro n B st vs bs rest S h aq fp Y;match vs,h with
  |v::vs,⟨aT,aJ,dh,h1,h2⟩=>
   subst dh;have go:∀(U:List aw) (us:List Value),fY w av U us aT->(dG bn n (a::as)).2=(take bn n U).2++(dG bn (n+100) as).2->
     ∃aB,fx L J (fun b=>X b\/b∈aT++aJ++rest) (fun b=>X b\/b∈rest) B aB st tm w (dG bn n (a::as)).2/\ck aB (aW st.sites (dG bn n (a::as)).2) w (an (fun b=>X b\/b∈rest) aB (aW st.sites (dG bn n (a::as)).2)) (take bn n U).1 us/\
      nJ aB (aW st.sites (dG bn n (a::as)).2) w (an (fun b=>X b\/b∈rest) aB (aW st.sites (dG bn n (a::as)).2)) (dG bn (n+100) as).1 vs/\Left L J X aB {st with sites:=aW st.sites (dG bn n (a::as)).2} av rest:=by
    intro U us bQ e;rw[e] at fp Y ⊢;rw[gi] at fp Y;obtain⟨d1,d2,d3⟩:=List.nodup_append.1 Y;rw[List.append_assoc] at S aq ⊢;obtain⟨fM,cH,aC,kH⟩:=Mk bn U n S bQ aq (fun m hm=>fp m (List.mem_append.2 (.inl hm))) d1
    obtain⟨fL,dA,ao,pt⟩:=ih (n+100) (st:={st with sites:=aW st.sites (take bn n U).2}) cH.ga h2 kH
     (iY.step (fun m hm=>fp m (List.mem_append.2 (.inr hm))) (fun m hm gK=>d3 m hm m gK rfl)) d2
    refine⟨fL,cH.trans dA,?_,?_,?_⟩
    ·rw[hZ];exact aC.go dA.go
    ·rw[hZ];exact ao
    ·rw[hZ];exact pt
   cases a with
   |ai l=>
    have h1:lG w av l v aT:=h1;obtain⟨aB,T,aC,ao,bv⟩:=go [l] [v] ⟨aT,[],by simp,h1,rfl⟩ rfl
    refine⟨aB,T,?_,bv⟩;obtain⟨fo,fy⟩:=take_one bn n l;have:(dG bn n (bA.ai l::as)).1=bA.ai fo::(dG bn (n+100) as).1:=by simp only[dG,fy]
    rw[this];refine nJ.cons ?_ ao;rw[fy] at aC;exact aC.2 0 (by simp) (by simp)
   |agg U=>
    obtain⟨us,e,h1⟩:=h1;obtain⟨aB,T,aC,ao,bv⟩:=go U us h1 rfl;refine⟨aB,T,?_,bv⟩;have:(dG bn n (bA.agg U::as)).1=bA.agg (take bn n U).1::(dG bn (n+100) as).1:=rfl;rw[this];exact nJ.cons ⟨us,e,aC.1,aC.2⟩ ao
def m7(B:Nat->Value):List (Nat×Nat)->List Nat->Prop
 |[],[]=>True
 |p::r,b::c9=>B p.1=.pointer (some ⟨b,0,none⟩)/\m7 B r c9
 |_,_=>False
theorem m7.of:∀{boxes:List (Nat×Nat)},(∀o s,(o,s)∈boxes->∃b,B o=.pointer (some ⟨b,0,none⟩))->m7 B boxes (cp B (keys boxes)):=by
 intro boxes;induction boxes with
 |nil=>intro _;trivial
 |cons q boxes ih=>
  obtain⟨aO,r⟩:=q;intro h;obtain⟨c,hc⟩:=h aO r List.mem_cons_self;have:=ih fun o s hm=>h o s (List.mem_cons_of_mem _ hm)
  have e:cp B (keys ((aO,r)::boxes))=c::cp B (keys boxes):=by simp[cp,keys,hc,a7,bI]
  rw[e];exact⟨hc,this⟩
theorem m7.congr{aB:Nat->Value}:∀{boxes:List (Nat×Nat)} {c9:List Nat},m7 B boxes c9->(∀F,F∈keys boxes->aB F=B F)->m7 aB boxes c9:=by
 intro boxes;induction boxes with
 |nil=>
  intro c9 h _;match c9,h with
  |[],_=>trivial
 |cons q boxes ih=>
  intro c9 h ab;match c9,h with
  |b::c9,⟨h1,h2⟩=>exact⟨by rw[ab q.1 List.mem_cons_self];exact h1,ih h2 fun F bB=>ab F (List.mem_cons_of_mem _ bB)⟩
theorem Ke{av:Nat->Prop}{bn:ad}{F:Nat}:∀{boxes:List (Nat×Nat)} {ct:List (List aw)} {c9 bs:List Nat},m7 B boxes c9->lA w av c9 ct bs->F∈keys boxes->F∈keys (eZ bn boxes ct):=by
 intro boxes;induction boxes with
 |nil=>intro ct c9 bs _ _ h;simp[keys] at h
 |cons q boxes ih=>
  obtain⟨aO,r⟩:=q;intro ct c9 bs hl bQ hm;match c9,ct,hl,bQ with
  |c::c9,cs::ct,⟨_,hl⟩,⟨_,_,_,_,bQ⟩=>
   simp only[eZ,gi,keys,List.mem_append,List.mem_cons];rcases List.mem_cons.1 hm with rfl|hm
   ·exact .inr (.inl rfl)
   ·exact .inr (.inr (ih hl bQ hm))
theorem LD{av:Nat->Prop}(bn:ad):∀(boxes:List (Nat×Nat)) {ct:List (List aw)} {B:Nat->Value} {st:ad} {c9 bs rest:List Nat},ah L J (fun b=>X b\/b∈bs++rest) B st tm w->m7 B boxes c9->lA w av c9 ct bs->
  (∀o s,(o,s)∈boxes->look st.sites o=some (.dead s))->
  Left L J X B st av (bs++rest)->iY bn st.sites (keys (eZ bn boxes ct))->(keys (eZ bn boxes ct)).Nodup->
  ∃aB,fx L J (fun b=>X b\/b∈bs++rest) (fun b=>X b\/b∈rest) B aB st tm w (eZ bn boxes ct)/\Left L J X aB {st with sites:=aW st.sites (eZ bn boxes ct)} av rest:=by
 intro boxes;induction boxes with
 |nil=>
  intro ct B st c9 bs rest S eg h fS aq fp Y;match c9,ct,eg,h with
  |[],[],_,h=>
   have h:bs=[]:=h;subst h;exact⟨B,.nil S (fun b hb=>hb),aq⟩
 |cons p boxes ih=>
  obtain⟨o,s⟩:=p;intro ct B st c9 bs rest S eg h fS aq fp Y;have bh:=fS o s List.mem_cons_self;match c9,ct,eg,h with
  |b::c9,cs::ct,⟨hb,eg⟩,⟨aT,aJ,dh,⟨T,cur,pm,e1,e2,bK,c_⟩,h2⟩=>
   subst dh e1;have hb:B o=.pointer (some ⟨b,0,none⟩):=hb;have qM:eZ bn ((o,s)::boxes) (cs::ct)=(take bn (1000000+o*100) cs).2++([(o,Site.box s (take bn (1000000+o*100) cs).1)]++eZ bn boxes ct):=rfl;rw[qM] at fp Y ⊢;rw[gi,gi] at fp Y;obtain⟨d1,d2,d3⟩:=List.nodup_append.1 Y;obtain⟨d4,d5,d6⟩:=List.nodup_append.1 d2;have zJ:∀c,c∈b::pm++aJ++rest <-> c∈pm++(b::(aJ++rest)):=by intro c;simp[or_assoc,or_left_comm]
   have alg:=aq.nodup;have c7:ah L J (fun c=>X c\/c∈pm++(b::(aJ++rest))) B st tm w:=S.shrink fun c hc=>hc.imp id (zJ c).2
   have kH:Left L J X B st av (pm++(b::(aJ++rest))):=by
    refine⟨?_,fun c hc=>aq.b7 c ((zJ c).2 hc),fun c hc=>aq.le c ?_⟩
    ·have:List.Perm (b::pm++aJ++rest) (pm++(b::(aJ++rest))):=by
      simp only[List.cons_append,List.append_assoc];exact List.perm_middle.symm
     exact this.nodup_iff.1 alg
    ·rcases hc with hc|hc
     ·exact .inl (hc.imp id (zJ c).2)
     ·exact .inr hc
   obtain⟨fM,cH,aC,pt⟩:=Mk bn cs (1000000+o*100) c7 c_.2 kH (fun m hm=>fp m (List.mem_append.2 (.inl hm))) d1
   have Qz:o∉keys (take bn (1000000+o*100) cs).2:=fun h=>d3 o h o (by simp[keys]) rfl
   have Gb:fM o=B o:=cH.same o Qz;have hl1:look (aW st.sites (take bn (1000000+o*100) cs).2) o=some (.dead s):=by rw[kK Qz,bh]
   have TE:=pt.nodup;simp only[List.nodup_cons] at TE;have dA:fx L J (fun c=>X c\/c∈b::(aJ++rest)) (fun c=>X c\/c∈aJ++rest) fM (fun F=>if F=o then B o else fM F) {st with sites:=aW st.sites (take bn (1000000+o*100) cs).2} tm w [(o,Site.box s (take bn (1000000+o*100) cs).1)]:=by
    refine .one cH.ga (fun c hc=>hc.imp id (List.mem_cons_of_mem _)) (.inr ⟨by rw[Gb],fun O M=>?_⟩) (fun c hc=>?_) (fun eT dK go le=>?_)
    ·have M:look (aW st.sites (take bn (1000000+o*100) cs).2) o=some O:=M;rw[hl1] at M;cases M;exact⟨rfl,rfl⟩
    ·rw[hb] at hc;have hc:c=b:=List.mem_singleton.1 hc;rw[hc];refine⟨.inr List.mem_cons_self,?_,(pt.b7 b List.mem_cons_self).2⟩;rintro(hx|hx)
     ·exact(pt.b7 b List.mem_cons_self).1 hx
     ·exact TE.1 hx
    ·have:=y6 go aC;exact⟨b,T,cur,by rw[dK,hb],e2,this.1,bK,fun bQ=>c_.1 (YX bQ),this.2⟩
   have anl:Left L J X (fun F=>if F=o then B o else fM F) {st with sites:=aW (aW st.sites (take bn (1000000+o*100) cs).2) [(o,Site.box s (take bn (1000000+o*100) cs).1)]} av (aJ++rest):=
    Left.rest (a:=[b]) (st:={st with sites:=aW st.sites (take bn (1000000+o*100) cs).2}) pt dA.le
   have vY:∀F,F∈keys boxes->(fun F=>if F=o then B o else fM F) F=B F:=by
    intro F bB;have ag:=Ke (bn:=bn) eg h2 bB;by_cases e:F=o
    ·subst e;simp
    ·simp only[e,if_false];exact cH.same F fun hm=>d3 F hm F (List.mem_append.2 (.inr ag)) rfl
   obtain⟨aB,fB,ank⟩:=ih (st:={st with sites:=aW (aW st.sites (take bn (1000000+o*100) cs).2) [(o,Site.box s (take bn (1000000+o*100) cs).1)]}) dA.ga (eg.congr vY) h2
    (fun F r hm=>by
     have ag:=Ke (bn:=bn) eg h2 (CP hm);show look (aW (aW st.sites _) _) F=_;rw[kK (fun h=>d6 F h F ag rfl),kK (fun h=>d3 F h F (List.mem_append.2 (.inr ag)) rfl)]
     exact fS F r (List.mem_cons_of_mem _ hm))
    anl
    (iY.step (iY.step (fun m hm=>fp m (List.mem_append.2 (.inr (List.mem_append.2 (.inr hm))))) (fun m hm gK=>d3 m hm m (List.mem_append.2 (.inr gK)) rfl)) (fun m hm gK=>d6 m hm m gK rfl)) d5
   refine⟨aB,?_,?_⟩
   ·have ak4:=cH.trans dA;have mg:fx L J (fun c=>X c\/c∈b::pm++aJ++rest) (fun c=>X c\/c∈pm++(b::(aJ++rest))) B B st tm w []:=.nil S fun c hc=>hc.imp id (zJ c).2
    have agP:=mg.trans (vs:=(take bn (1000000+o*100) cs).2++[(o,Site.box s (take bn (1000000+o*100) cs).1)]) ak4;have:=agP.trans (vs:=eZ bn boxes ct) (by simpa only[List.nil_append,hZ] using fB)
    simpa only[List.nil_append,List.append_assoc] using this
   ·simpa only[hZ] using ank
theorem hF.congr{aB:Nat->Value}:∀{rows:List (Option (Nat×Nat))} {vs:List Value},hF B rows vs->(∀o s,some (o,s)∈rows->bY (aB o)=bY (B o))->hF aB rows vs:=by
 intro rows;induction rows with
 |nil=>intro vs h _;trivial
 |cons D r ih=>
  intro vs h hc;match D,vs,h with
  |none,v::vs,h=>exact ih h fun o s hm=>hc o s (List.mem_cons_of_mem _ hm)
  |some p,v::vs,h=>exact⟨h.1.trans (hc p.1 p.2 List.mem_cons_self).symm,ih h.2 fun o s hm=>hc o s (List.mem_cons_of_mem _ hm)⟩
  |none,[],h=>exact h.elim
  |some p,[],h=>exact h.elim
theorem YY{U:List aw}:eL [] U=[]:=by cases U<;>rfl
theorem Kd{rows:List (Option (Nat×Nat))}:eL rows []=[]:=by
 cases rows with
 |nil=>rfl
 |cons D r=>cases D<;>rfl
theorem Xv{r:List (Option (Nat×Nat))}{l:aw}{U:List aw}:eL (none::r) (l::U)=eL r U:=by cases l<;>rfl
theorem wJ{o s:Nat}:∀{rows:List (Option (Nat×Nat))},some (o,s)∈rows->o∈oA rows
 |[],h=>by cases h
 |none::r,h=>by
  rcases List.mem_cons.1 h with h|h
  ·cases h
  ·exact wJ (rows:=r) h
 |some p::r,h=>by
  rcases List.mem_cons.1 h with h|h
  ·cases h;exact List.mem_cons_self
  ·exact List.mem_cons_of_mem _ (wJ h)
theorem We{D:Option (Nat×Nat)}{rows:List (Option (Nat×Nat))}(h:(oA (D::rows)).Nodup):(oA rows).Nodup:=by
 cases D with
 |none=>exact h
 |some p=>exact(List.nodup_cons.1 h).2
theorem _q{av:Nat->Prop}:∀(rows:List (Option (Nat×Nat))) {U:List aw} {B:Nat->Value} {st:ad} {vs:List Value} {bs rest:List Nat},ah L J (fun b=>X b\/b∈bs++rest) B st tm w->fY w av U vs bs->hF B rows vs->
  (∀o s,some (o,s)∈rows->look st.sites o=some (.dead s))->(oA rows).Nodup->Left L J X B st av (bs++rest)->(keys (eL rows U)).Nodup->
  ∃aB,fx L J (fun b=>X b\/b∈bs++rest) (fun b=>X b\/b∈rest) B aB st tm w (eL rows U)/\Left L J X aB {st with sites:=aW st.sites (eL rows U)} av rest:=by
 intro rows;have skip:∀{B:Nat->Value} {st:ad} {bs rest:List Nat},ah L J (fun b=>X b\/b∈bs++rest) B st tm w->Left L J X B st av (bs++rest)->
   fx L J (fun b=>X b\/b∈bs++rest) (fun b=>X b\/b∈rest) B B st tm w []/\Left L J X B st av rest:=by
  intro B st bs rest S aq;have T:fx L J (fun b=>X b\/b∈bs++rest) (fun b=>X b\/b∈rest) B B st tm w []:=.nil S fun b hb=>hb.imp id fun h=>List.mem_append.2 (.inr h)
  exact⟨T,aq.rest (fun c hc=>T.le c hc)⟩
 induction rows with
 |nil=>
  intro U B st vs bs rest S h hr eA fp aq Y;obtain⟨T,L'⟩:=skip S aq;rw[YY];exact⟨B,T,L'⟩
 |cons D r ih=>
  intro U B st vs bs rest S h hr eA fp aq Y;match U,vs,h with
  |[],[],h=>
   obtain⟨T,L'⟩:=skip S aq;rw[Kd];exact⟨B,T,L'⟩
  |l::U,v::vs,⟨aT,aJ,dh,h1,h2⟩=>
   subst dh;have pass:hF B r vs->eL (D::r) (l::U)=eL r U->∃aB,fx L J (fun b=>X b\/b∈aT++aJ++rest) (fun b=>X b\/b∈rest) B aB st tm w (eL (D::r) (l::U))/\Left L J X aB {st with sites:=aW st.sites (eL (D::r) (l::U))} av rest:=by
    intro cN e;rw[e] at Y ⊢;have mg:fx L J (fun b=>X b\/b∈aT++aJ++rest) (fun b=>X b\/b∈aJ++rest) B B st tm w []:=.nil S fun b hb=>hb.imp id fun h=>by rw[List.append_assoc];exact List.mem_append.2 (.inr h)
    have wB:Left L J X B st av (aJ++rest):=Left.rest (a:=aT) (by rw[<-List.append_assoc];exact aq) fun c hc=>(mg.le c hc).imp (fun h=>h.imp id fun h=>by rwa[<-List.append_assoc]) id
    obtain⟨aB,T,L'⟩:=ih mg.ga h2 cN (fun o s hm=>eA o s (List.mem_cons_of_mem _ hm)) (We fp) wB Y
    exact⟨aB,mg.trans (vs:=eL r U) T,L'⟩
   have back:∀(o s:Nat) (bH:Site) (nv:Value),D=some (o,s)->bH.b2=s->eL (D::r) (l::U)=(o,bH)::eL r U->bY nv=v->(∀b,b∈bI nv->b∈aT)->
     (∀{bp:List (Nat×Site)} {aB:Nat->Value},aB o=nv->(∀b,an (fun b=>X b\/b∈aJ++rest) aB bp b->av b)->(∀b,an (fun b=>X b\/b∈aJ++rest) aB bp b->b<w.heap.size)->iw aB bp w (an (fun b=>X b\/b∈aJ++rest) aB bp) o bH)->
     ∃aB,fx L J (fun b=>X b\/b∈aT++aJ++rest) (fun b=>X b\/b∈rest) B aB st tm w (eL (D::r) (l::U))/\Left L J X aB {st with sites:=aW st.sites (eL (D::r) (l::U))} av rest:=by
    intro o s bH nv au c' e vM pe ff;subst au;rw[e] at Y ⊢;simp only[keys,List.nodup_cons] at Y;have bh:=eA o s List.mem_cons_self;have dn:=aq.nodup;rw[List.append_assoc] at dn;have cH:fx L J (fun b=>X b\/b∈aT++aJ++rest) (fun b=>X b\/b∈aJ++rest) B (fun F=>if F=o then nv else B F) st tm w [(o,bH)]:=by
     refine .one S (fun b hb=>hb.imp id fun h=>by rw[List.append_assoc];exact List.mem_append.2 (.inr h)) (.inr ⟨?_,fun O M=>?_⟩) (fun b hb=>?_) (fun eT dK go le=>?_)
     ·rw[vM];exact hr.1.symm
     ·rw[bh] at M;cases M;exact⟨c'.symm,rfl⟩
     ·have hm:=pe b hb;have gK:b∈aT++aJ++rest:=by rw[List.append_assoc];exact List.mem_append.2 (.inl hm)
      refine⟨.inr gK,?_,(aq.b7 b gK).2⟩;rintro(hx|hx)
      ·exact(aq.b7 b gK).1 hx
      ·exact(List.nodup_append.1 dn).2.2 b hm b hx rfl
     ·exact ff dK (fun b hb=>aq.le b (le b hb)) (fun b hb=>S.lt (le b hb))
    have kH:Left L J X (fun F=>if F=o then nv else B F) {st with sites:=aW st.sites [(o,bH)]} av (aJ++rest):=
     ⟨(List.nodup_append.1 dn).2.1,fun b hb=>aq.b7 b (by rw[List.append_assoc];exact List.mem_append.2 (.inr hb)),fun c hc=>aq.le c (cH.le c hc)⟩
    have vI:hF (fun F=>if F=o then nv else B F) r vs:=hr.2.congr fun F t hm=>by
     by_cases e:F=o
     ·subst e;have:=hr.1;simp only[if_true,vM];exact this
     ·simp[e]
    obtain⟨aB,dA,pt⟩:=ih (st:={st with sites:=aW st.sites [(o,bH)]}) cH.ga h2 vI (fun F t hm=>by
     have b4:¬o=F:=fun e=>(List.nodup_cons.1 fp).1 (by subst e;exact wJ hm)
     simp only[aW,cn,b4,if_false];exact eA F t (List.mem_cons_of_mem _ hm)) (List.nodup_cons.1 fp).2 kH Y.2
    exact⟨aB,cH.trans dA,pt⟩
   match D,hr with
   |none,hr=>exact pass hr Xv
   |some (o,s),hr=>
    cases l with
    |fresh t xs=>
     obtain⟨hb1,e,cs,au,dH⟩:=h1;refine back o s (.row s t xs) v rfl rfl rfl (iv au).1 (fun b hb=>by rw[hb1,tV au hb];simp) fun dK c4 aX=>⟨e,cs,by rw[dK];exact au,fun j g1 g2=>?_⟩
     exact b_.fw (B:=B) (sites:=[]) (a:=one _) c4 aX (dH.2 j g1 g2)
    |eK t xs=>
     obtain⟨e,cs,aA,hb1,au,dH⟩:=h1;refine back o s (.deep s t xs) (.tuple (v::aA).toArray) rfl rfl rfl rfl (fun b hb=>by rw[hb1];exact hb) fun dK c4 aX=>⟨e,v,aA,cs,dK,?_,au,dH.map (fun k=>b_.fw (B:=B) (sites:=[]) (a:=one _) c4 aX k) fun _ _ _ _=>rfl⟩
     rw[dK,<-hb1];have:=aq.nodup;rw[List.append_assoc] at this;exact(List.nodup_append.1 this).1
    |_=>exact pass hr.2 rfl
end
theorem wG{us:List (Nat×Site)}:∀{sites:List (Nat×Site)} {o:Nat} {s:Site},(keys us).Nodup->(o,s)∈us->look (aW sites us) o=some s:=by
 induction us with
 |nil=>intro sites o s _ h;simp at h
 |cons p us ih=>
  obtain⟨n,am⟩:=p;intro sites o s hn hm;simp only[keys,List.nodup_cons] at hn;simp only[aW];rcases List.mem_cons.1 hm with hm|hm
  ·cases hm;rw[kK hn.1,cn];simp
  ·exact ih hn.2 hm
section plain
variable {w:World}{av bT:Nat->Prop}
theorem tL{d:aM}{v:Value}(h:aw.gW (.d d)=false)(r:bj w av d v):bj w bT d v:=by
 cases r with
 |int k n=>exact .int k n
 |bool b=>exact .bool b
 |str l s M=>exact .str l s M
 |nil t=>cases h
 |sl=>cases h
 |fn=>cases h
 |sx=>cases h
 |map=>cases h
 |p' T=>exact .p' T
 |err T n=>exact .err T n
theorem ZT{t:aG}(h:t.gW=false)(x:den t):∀d,d∈enc t x->aw.gW (.d d)=false:=by
 cases t<;>first|(cases h;done)|(intro d Y;simp only[enc,List.mem_cons,List.not_mem_nil,or_false] at Y;(rcases Y with rfl|rfl|rfl|rfl|rfl);all_goals rfl)|skip
 all_goals(intro d Y;simp only[enc,List.mem_cons,List.not_mem_nil,or_false] at Y)
 all_goals first|(subst Y;rfl)|(rcases Y with rfl|rfl<;>rfl)|(rcases Y with rfl|rfl|rfl<;>rfl)|(rcases Y with rfl|rfl|rfl|rfl<;>rfl)
theorem Zc{t:aG}{xs:List (den t)}{cs:List Value}(h:t.gW=false)(r:ch w av (flat t xs) cs):ch w bT (flat t xs) cs:=by
 refine⟨r.1,fun j g1 g2=>tL ?_ (r.2 j g1 g2)⟩
 have hm:(flat t xs)[j]∈flat t xs:=List.getElem_mem g1;simp only[flat,List.mem_flatMap] at hm;obtain⟨x,_,hx⟩:=hm;exact ZT h x _ hx
theorem Yi{ds:List aM}{cs aA:List Value}(k:Deep w av ds cs aA):Deep w bT ds cs aA:=by
 have pl:∀{d:aM} {v:Value},d.plain=true->bj w av d v->bj w bT d v:=fun {d v} aj r=>tL (by cases d<;>first|rfl|cases aj) r
 induction k with
 |nil=>exact .nil
 |row u ys e U aj h hr _ ih=>exact .row u ys e U aj h ⟨hr.1,fun j g1 g2=>pl (aj _ (List.getElem_mem g1)) (hr.2 j g1 g2)⟩ ih
 |leaf aj h _ ih=>exact .leaf aj (pl aj h) ih
theorem JW{l:aw}{v:Value}{bs:List Nat}(h:l.gW=false)(k:lG w av l v bs):lG w bT l v bs:=by
 cases l with
 |d x=>exact⟨k.1,tL h k.2⟩
 |fresh t xs=>
  obtain⟨h1,e,cs,h2,aa⟩:=k;exact⟨h1,e,cs,h2,Zc h aa⟩
 |eK t xs=>
  obtain⟨e,cs,aA,h1,h2,aa⟩:=k;exact⟨e,cs,aA,h1,h2,Yi aa⟩
 |cB v=>exact k
 |ew=>exact k
 |_=>cases h
theorem BN:∀{U:List aw} {vs:List Value} {bs:List Nat},nr U=false->fY w av U vs bs->fY w bT U vs bs:=by
 intro U;induction U with
 |nil=>
  intro vs bs _ k;match vs,k with
  |[],k=>exact k
 |cons l U ih=>
  intro vs bs h k;simp only[nr,Bool.or_eq_false_iff] at h;match vs,k with
  |v::vs,⟨aT,aJ,aC,ao,bv⟩=>exact⟨aT,aJ,aC,JW h.1 ao,ih h.2 bv⟩
theorem Wt:∀{as:List bA} {vs:List Value} {bs:List Nat},q4 as=false->j5 w av as vs bs->j5 w bT as vs bs:=by
 intro as;induction as with
 |nil=>
  intro vs bs _ k;match vs,k with
  |[],k=>exact k
 |cons a as ih=>
  intro vs bs h k;simp only[q4,Bool.or_eq_false_iff] at h;match vs,k with
  |v::vs,⟨aT,aJ,aC,ao,bv⟩=>
   refine⟨aT,aJ,aC,?_,ih h.2 bv⟩;cases a with
   |ai l=>
    have h1:=h.1;simp only[bA.cells,nr,Bool.or_false] at h1;exact JW h1 ao
   |agg U=>
    obtain⟨us,e,ao⟩:=ao;exact⟨us,e,BN h.1 ao⟩
theorem Ws:∀{ct:List (List aw)} {c9 bs:List Nat},q3 ct=false->lA w av c9 ct bs->lA w bT c9 ct bs:=by
 intro ct;induction ct with
 |nil=>
  intro c9 bs _ k;match c9,k with
  |[],k=>exact k
 |cons a as ih=>
  intro c9 bs h k;simp only[q3,Bool.or_eq_false_iff] at h;match c9,k with
  |b::c9,⟨aT,aJ,aC,⟨T,cur,n',e1,e2,bK,c_,fh⟩,bv⟩=>
   exact⟨aT,aJ,aC,⟨T,cur,n',e1,e2,bK,c_,BN h.1 fh⟩,ih h.2 bv⟩
theorem L7{l:aw}{v:Value}{bs:List Nat}(k:lG w av l v bs):∀b,b∈bs->b<w.heap.size:=by
 cases l with
 |fresh t xs=>
  obtain⟨h1,e,cs,h2,aa⟩:=k;intro b hb;rw[h1] at hb;exact tK h2 (Option.mem_toList.1 hb)
 |eK t xs=>
  obtain⟨e,cs,aA,h1,h2,aa⟩:=k;intro b hb;rw[h1] at hb;rcases iq.1 hb with hb|⟨n,hn,hb⟩
  ·exact tK h2 hb
  ·exact aa.lt n hn b hb
 |_=>intro b hb;rw[k.1] at hb;simp at hb
theorem CZ:∀{U:List aw} {vs:List Value} {bs:List Nat},fY w av U vs bs->∀b,b∈bs->b<w.heap.size:=by
 intro U;induction U with
 |nil=>
  intro vs bs k;match vs,k with
  |[],k=>have k:bs=[]:=k;intro b hb;rw[k] at hb;simp at hb
 |cons l U ih=>
  intro vs bs k;match vs,k with
  |v::vs,⟨aT,aJ,aC,ao,bv⟩=>
   intro b hb;rw[aC] at hb;rcases List.mem_append.1 hb with hb|hb
   ·exact L7 ao b hb
   ·exact ih bv b hb
theorem La:∀{as:List bA} {vs:List Value} {bs:List Nat},j5 w av as vs bs->∀b,b∈bs->b<w.heap.size:=by
 intro as;induction as with
 |nil=>
  intro vs bs k;match vs,k with
  |[],k=>have k:bs=[]:=k;intro b hb;rw[k] at hb;simp at hb
 |cons a as ih=>
  intro vs bs k;match vs,k with
  |v::vs,⟨aT,aJ,aC,ao,bv⟩=>
   intro b hb;rw[aC] at hb;rcases List.mem_append.1 hb with hb|hb
   ·cases a with
    |ai l=>exact L7 (show lG w av l v aT from ao) b hb
    |agg U=>obtain⟨us,e,ao⟩:=ao;exact CZ ao b hb
   ·exact ih bv b hb
theorem K':∀{ct:List (List aw)} {c9 bs:List Nat},lA w av c9 ct bs->∀b,b∈bs->b<w.heap.size:=by
 intro ct;induction ct with
 |nil=>
  intro c9 bs k;match c9,k with
  |[],k=>have k:bs=[]:=k;intro b hb;rw[k] at hb;simp at hb
 |cons a as ih=>
  intro c9 bs k;match c9,k with
  |c::c9,⟨aT,aJ,aC,⟨T,cur,n',e1,e2,bK,_,c_⟩,bv⟩=>
   intro b hb;rw[aC] at hb;rcases List.mem_append.1 hb with hb|hb
   ·rw[e1] at hb;rcases List.mem_cons.1 hb with rfl|hb
    ·exact(Array.getElem?_eq_some_iff.1 e2).1
    ·exact CZ c_ b hb
   ·exact ih bv b hb
end plain
section
variable {P:Program}{L:World}{J:List Nat}{X:Nat->Prop}{B:Nat->Value}{st:ad}{tm:Array Value}{w:World}{D:Oper}
theorem nj{ks:List Nat}{b:Nat}:b∈cp B ks <-> ∃o,o∈ks/\b∈bI (B o):=by simp[cp]
theorem JH(S:ah L J X B st tm w):∀{ks:List Nat},ks.Nodup->(∀o,o∈ks->bX st.sites o)->(cp B ks).Nodup:=by
 intro ks;induction ks with
 |nil=>intro _ _;exact List.nodup_nil
 |cons o ks ih=>
  intro hn hl;rw[List.nodup_cons] at hn;have:=ih hn.2 fun F bB=>hl F (List.mem_cons_of_mem _ bB)
  simp only[cp,List.flatMap_cons] at this ⊢;refine List.nodup_append.2 ⟨S.Ny (hl o List.mem_cons_self),this,fun b hb c hc e=>?_⟩
  subst e;obtain⟨F,h1,h2⟩:=nj.1 hc;have:=S.df o F b (hl o List.mem_cons_self) (hl F (List.mem_cons_of_mem _ h1)) hb h2;subst this;exact hn.1 h1
structure agQ(L:World)(J:List Nat)(X:Nat->Prop)(B:Nat->Value)(st:ad)(tm:Array Value)(w:World)(a:jJ)(vs:List Value):Prop where
 bG:dq st.sites a.et
 lb:∀o,o∈a.fu->bX st.sites o
 nf:eP st.sites a.gone
 arg:∀av,eR L J X B st tm w a.et a.fu av->h3 w av a.as vs (cp B (keys a.gone))
 c9:dj a.as vs=cp B (keys a.boxes)
 dJ:∀o s,(o,s)∈a.boxes->(o,.dead s)∈a.gone/\∃b,B o=.pointer (some ⟨b,0,none⟩)
 jT:hF B a.rows (e0 a.as vs)
 rg:∀o s,some (o,s)∈a.rows->(o,.dead s)∈a.gone
theorem JY{us:List (Nat×Site)}{sites:List (Nat×Site)}(aR:dq sites us){o:Nat}(h:bX (aW sites us) o):bX sites o:=by
 obtain⟨O,h1,h2⟩:=h;rcases lq aR o with h|⟨s,t,xs,aH,bD⟩
 ·exact⟨O,h▸h1,h2⟩
 ·rw[bD] at h1;cases h1;cases h2
theorem aaz(S:ah L J X B st tm w){g:FuncId}{aF:aU}(gS:a4 P g aF){a:jJ}{vs:List Value}(A:agQ L J X B st tm w a vs){d:Nat}(Y:b6 st D.dst=true)
  (cI:(execOp (Act.eval ⟨tm,[]⟩) D).run P w=(callFunc g vs.toArray).run P w):Holds (oQ d st aF a) (cz P L J X st tm w D):=by
 intro y ak hc;simp only[oQ] at y ak hc ⊢;simp only[Bool.and_eq_true] at hc;obtain⟨⟨⟨⟨⟨c1,c2⟩,c3⟩,dV⟩,js⟩,c6,U7⟩:=hc;rw[ou] at c1 c3 c6;rw[Lh] at c2 dV U7;have q6:∀o,o∈keys a.gone->bX st.sites o:=fun o bh=>by
  obtain⟨s,M⟩:=ox bh;obtain⟨O,h1,h2,_⟩:=A.nf o s M;exact⟨O,h1,h2⟩
 have K8:∀o,o∈keys a.gone->o∉keys a.et:=fun o h1 h2=>c2 o (List.mem_append.2 (.inl h2)) h1
 have am4:∃X':Nat->Prop,∀b,X' b <-> (an X B (aW st.sites a.et) b/\b∉cp B (keys a.gone)/\∀o,o∈a.fu->b∉bI (B o)):=⟨_,fun b=>Iff.rfl⟩
 obtain⟨X',mY⟩:=am4;have eb:eR L J X B st tm w a.et a.fu (fun b=>X' b\/b∈cp B (keys a.gone)):=by
  refine⟨⟨S,A.bG⟩,fun b hb=>?_,fun o bh b hb hx=>?_⟩
  ·rcases hb with hb|hb
   ·exact((mY b).1 hb).1
   ·obtain⟨o,h1,h2⟩:=nj.1 hb;obtain⟨O,aa,aH⟩:=q6 o h1;exact .inr ⟨o,⟨O,by rw[kK (K8 o h1)];exact aa,aH⟩,h2⟩
  ·rcases hx with hx|hx
   ·exact((mY b).1 hx).2.2 o bh (fW hb)
   ·obtain⟨F,h1,h2⟩:=nj.1 hx;have:=S.df o F b (A.lb o bh) (q6 F h1) (fW hb) h2;subst this;exact c2 o (List.mem_append.2 (.inr bh)) h1
 have pg:(cp B (keys a.gone)).Nodup:=JH S c1 q6;have C0:∀b,b∈cp B (keys a.gone)->¬X b/\(b∈J\/L.heap.size<=b):=fun b hb=>by
  obtain⟨o,h1,h2⟩:=nj.1 hb;exact S.b7 o b (q6 o h1) h2
 have TS:∀b,X b->X' b:=fun b hb=>(mY b).2 ⟨.inl hb,fun h=>(C0 b h).1 hb,fun o bh h=>(S.b7 o b (A.lb o bh) h).1 hb⟩
 have hG:hO w (cp B (keys a.gone)) X':=by
  obtain⟨g1,g2⟩:=S.jV;refine⟨g1,fun b hb h=>?_,fun b hb h=>?_,fun b hb=>(g2 b hb).2⟩
  ·obtain⟨o,h1,h2⟩:=nj.1 h;exact(g2 b hb).1 (.inr ⟨o,q6 o h1,h2⟩)
  ·rcases((mY b).1 h).1 with h|⟨o,h1,h2⟩
   ·exact(g2 b hb).1 (.inl h)
   ·exact(g2 b hb).1 (.inr ⟨o,JY A.bG h1,h2⟩)
 have E:=gS a.as y ak w X' vs (cp B (keys a.gone)) (A.arg _ eb) pg (fun b hb hx=>((mY b).1 hx).2.1 hb) (fun b hb=>eb.lt (.inl hb)) hG
 intro K Q bC;have lP:∀v w',(∃dS du rv,Fr (cp B (keys a.gone)) w w'/\oM w' (fun b=>X' b\/b∈dS++du) (dj a.as vs) ((aF a.as).dJ y) (e0 a.as vs) ((aF a.as).ey y) dS/\j5 w' (fun b=>X' b\/b∈dS++du) ((aF a.as).eQ y) rv du/\
   v=nE rv/\(dS++du).Nodup/\∀b,b∈dS++du->¬X' b/\(b∈cp B (keys a.gone)\/w.heap.size<=b))->K ⟨cl tm D.dst v,[]⟩ w':=by
  rintro v w' ⟨dS,du,rv,aR,fS,hA,rfl,dn,hm⟩;obtain⟨sl,gd⟩:∃sl,(q4 ((aF a.as).eQ y)||q3 ((aF a.as).dJ y)||nr ((aF a.as).ey y))=sl:=⟨_,rfl⟩;rw[gd] at js bC;obtain⟨cL,A4⟩:∃cL,(bif sl then a.et else [])=cL:=⟨_,rfl⟩
  rw[A4] at bC;have QT:dq st.sites cL:=by rw[<-A4];cases sl;exact .nil;exact A.bG
  have ad2:∀o,o∈keys cL->o∈keys a.et:=by rw[<-A4];cases sl;intro o h;simp[keys] at h;exact fun o h=>h
  have c7:ah L J X B {st with sites:=aW st.sites cL} tm w:=S.yE QT
  have A5:eP (aW st.sites cL) a.gone:=fun o s M=>by
   obtain⟨O,h1,h2,aa⟩:=A.nf o s M;exact⟨O,by rw[kK (fun h=>K8 o (CP M) (ad2 o h))];exact h1,h2,aa⟩
  have fT:=c7.ad1 A5 c1;have im:=fT.jump (w':=w') (fun b hb aX=>aR.block b aX (fun h=>hb (.inr h))) aR.size
   ⟨aR.os.trans S.frame.os,aR.tape.trans S.frame.tape,aR.output.trans S.frame.output,Nat.le_trans S.frame.size aR.size,fun b aX hb=>by
    rw[aR.block b (Nat.lt_of_lt_of_le aX S.frame.size) (fun h=>by rcases(C0 b h).2 with ab|ab;exact hb ab;omega)]
    exact S.frame.block b aX hb⟩
  have aji:∀b,b∈dS++du->b<w'.heap.size:=fun b hb=>by
   rcases List.mem_append.1 hb with hb|hb
   ·obtain⟨d1,d2,e1,e2,bK⟩:=fS;rw[e1] at hb;rcases List.mem_append.1 hb with hb|hb
    ·exact K' e2 b hb
    ·rcases bK with⟨_,bK⟩|bK
     ·rw[bK] at hb;simp at hb
     ·exact CZ bK b hb
   ·exact La hA b hb
  have mh:ah L J (fun b=>X b\/b∈dS++(du++[])) B {st with sites:=aW (aW st.sites cL) a.gone} tm w':=im.shrink fun b hb=>by
   rcases hb with hb|hb
   ·exact .inl (.inl hb)
   ·rw[List.append_nil] at hb;rcases(hm b hb).2 with h|h
    ·exact .inl (.inr h)
    ·exact .inr ⟨h,aji b hb⟩
  obtain⟨av,QQ,agy,agx⟩:∃av:Nat->Prop,oM w' av (dj a.as vs) ((aF a.as).dJ y) (e0 a.as vs) ((aF a.as).ey y) dS/\j5 w' av ((aF a.as).eQ y) rv du/\
    ∀c,an (fun b=>X b\/b∈dS++(du++[])) B (aW (aW st.sites cL) a.gone) c->av c:=by
   cases sl with
   |false=>
    rw[Bool.or_eq_false_iff,Bool.or_eq_false_iff] at gd;obtain⟨d1,d2,e1,e2,bK⟩:=fS;exact⟨_,⟨d1,d2,e1,Ws gd.1.2 e2,bK.imp id (BN gd.2)⟩,Wt gd.1.1 hA,fun c hc=>hc⟩
   |true=>
    refine⟨_,fS,hA,fun c hc=>?_⟩
    rcases hc with(hc|hc)|⟨o,⟨O,h1,h2⟩,aa⟩
    ·exact .inl (TS c hc)
    ·rw[List.append_nil] at hc;exact .inr hc
    ·refine .inl ((mY c).2 ?_);have bh:o∉keys a.gone:=fun h=>by
      obtain⟨s,M⟩:=ox h;rw[wG c1 M] at h1;obtain⟨_,_,_,e⟩:=A.nf o s M;cases h1;rw[e] at h2;cases h2
     rw[kK bh] at h1;have agC:a.et=cL:=A4;rw[<-agC] at h1;have live:bX st.sites o:=JY A.bG ⟨O,h1,h2⟩;refine⟨.inr ⟨o,⟨O,h1,h2⟩,aa⟩,fun h=>?_,fun F bB h=>?_⟩
     ·obtain⟨F,aC,ao⟩:=nj.1 h;have:=S.df o F c live (q6 F aC) aa ao;subst this;exact bh aC
     ·simp only[Bool.not_true,Bool.false_or,List.isEmpty_iff] at js;rw[js] at bB;simp at bB
  have aq:Left L J X B {st with sites:=aW (aW st.sites cL) a.gone} av (dS++(du++[])):=by
   refine⟨by simpa using dn,fun b hb=>?_,agx⟩
   rw[List.append_nil] at hb;obtain⟨h1,h2⟩:=hm b hb;refine⟨fun hx=>h1 (TS b hx),?_⟩
   rcases h2 with h2|h2
   ·exact(C0 b h2).2
   ·exact .inr (Nat.le_trans S.frame.size h2)
  have uA:∀ks,iY st (aW (aW st.sites cL) a.gone) ks:=fun ks m _ O M=>by
   have h1:∀O,look (aW st.sites cL) m=some O->O.b2<aZ st m:=fun O M=>by
    rcases lq QT m with h|⟨s,t,xs,aH,bD⟩
    ·rw[h] at M;exact jv M
    ·rw[bD] at M;cases M;rcases aH with aH|aH|aH<;>(have q:=jv aH;exact q)
   by_cases ag:m∈keys a.gone
   ·obtain⟨s,eT⟩:=ox ag;rw[wG c1 eT] at M;obtain⟨bH,e1,_,bK⟩:=A5 m s eT;rw[bK] at M;cases M;exact h1 bH e1
   ·rw[kK ag] at M;exact h1 O M
  rw[gi,gi] at c3;obtain⟨d12,d2,d3⟩:=List.nodup_append.1 c3;obtain⟨d1,am9,d4⟩:=List.nodup_append.1 d12;rw[A.c9] at QQ;obtain⟨e1,e2,rfl,agw,Gt⟩:=QQ;simp only[List.append_assoc] at mh aq;obtain⟨h_,mg,wB⟩:=LD st a.boxes (st:={st with sites:=aW (aW st.sites cL) a.gone}) mh (m7.of fun o s M=>(A.dJ o s M).2) agw
   (fun o s M=>wG c1 (A.dJ o s M).1) aq (uA _) d1
  obtain⟨fM,ak5,kH⟩:∃fM,fx L J (fun b=>X b\/b∈e2++(du++[])) (fun b=>X b\/b∈du++[]) h_ fM {st with sites:=aW (aW (aW st.sites cL) a.gone) (eZ st a.boxes ((aF a.as).dJ y))} tm w' (eL a.rows ((aF a.as).ey y))/\
    Left L J X fM {st with sites:=aW (aW (aW (aW st.sites cL) a.gone) (eZ st a.boxes ((aF a.as).dJ y))) (eL a.rows ((aF a.as).ey y))} av (du++[]):=by
   rcases Gt with⟨q1,q2⟩|Gt
   ·have e:eL a.rows ((aF a.as).ey y)=[]:=by rw[q1];exact Kd
    subst q2;rw[e];exact⟨h_,.nil mg.ga fun b hb=>hb,wB⟩
   ·by_cases hne:eL a.rows ((aF a.as).ey y)=[]
    ·rw[hne];have T:fx L J (fun b=>X b\/b∈e2++(du++[])) (fun b=>X b\/b∈du++[]) h_ h_ {st with sites:=aW (aW (aW st.sites cL) a.gone) (eZ st a.boxes ((aF a.as).dJ y))} tm w' []:=.nil mg.ga fun b hb=>hb.imp id fun h=>List.mem_append.2 (.inr h)
     exact⟨h_,T,wB.rest fun c hc=>T.le c hc⟩
    have US:∀o s,some (o,s)∈a.rows->o∉keys (eZ st a.boxes ((aF a.as).dJ y)):=fun o s hm ag=>U7 o (wJ hm) ag
    exact _q a.rows mg.ga Gt (A.jT.congr fun o s hm=>by rw[mg.same o (US o s hm)]) (fun o s hm=>by
     rw[kK (US o s hm)];exact wG c1 (A.rg o s hm)) c6 wB am9
  have cH:=mg.trans ak5;obtain⟨fL,dA,h9,_⟩:=LF st ((aF a.as).eQ y) (2000000+d*10000) (st:={st with sites:=aW (aW (aW st.sites cL) a.gone) (eZ st a.boxes ((aF a.as).dJ y)++eL a.rows ((aF a.as).ey y))}) cH.ga agy (by rw[hZ];exact kH)
   (iY.step (uA _) (fun n h1 h2=>d3 n (by rw[gi] at h1;exact h1) n h2 rfl)) d2
  have Bz:ah L J X fL {st with sites:=aW st.sites (cL++a.gone++(eZ st a.boxes ((aF a.as).dJ y)++eL a.rows ((aF a.as).ey y))++(dG st (2000000+d*10000) ((aF a.as).eQ y)).2)} tm w':=by
   have:=dA.ga.shrink (X':=X) fun b hb=>.inl hb
   simpa only[hZ] using this
  refine bC fL _ w' (ah.cu Bz Y (v:=Oo (dG st (2000000+d*10000) ((aF a.as).eQ y)).1) ?_);have OR:nJ fL (aW st.sites (cL++a.gone++(eZ st a.boxes ((aF a.as).dJ y)++eL a.rows ((aF a.as).ey y))++(dG st (2000000+d*10000) ((aF a.as).eQ y)).2)) w'
    (an X fL (aW st.sites (cL++a.gone++(eZ st a.boxes ((aF a.as).dJ y)++eL a.rows ((aF a.as).ey y))++(dG st (2000000+d*10000) ((aF a.as).eQ y)).2))) (dG st (2000000+d*10000) ((aF a.as).eQ y)).1 rv:=by
   have e:(fun b=>X b\/b∈([]:List Nat))=X:=by funext b;simp
   rw[e] at h9;simpa only[hZ] using h9
  generalize(dG st (2000000+d*10000) ((aF a.as).eQ y)).1=ajk at OR;match ajk,rv,OR with
  |[],[],h=>exact⟨[],rfl,rfl,fun j h=>by simp at h⟩
  |[l],[v],h=>exact h.2 0 (by simp) (by simp)
  |l::gh::U,v::v2::cq,h=>exact⟨v::v2::cq,rfl,h.1,h.2⟩
 rcases E with⟨h1,h2⟩|⟨v,w',h1,h2⟩
 ·unfold Oper.wp;rw[cI,h1,Oper.upon_enter];refine h2.mono fun e w' he=>?_
  cases e with
  |returned v=>
   have:=lP v w' he;cases db:D.dst with
   |none=>rw[db] at this;simpa[Act.put,cl] using this
   |some t=>rw[db] at this;simpa[Act.put,cl] using this
  |panicked c=>exact he.elim
  |outgrown=>exact he.elim
 ·exact mr (cI.trans h1) (lP v w' h2)
end
def Fg(P:Program)(g:FuncId):Prop:=
 ∀(b:Nat) (p v:Value) (w:World),w.heap[b]? =some (.cells #[p,v] qy (0,0))->(p=.pointer none\/p=.pointer (some ⟨b,0,none⟩))->
  Enters P g #[.pointer (some ⟨b,0,none⟩)] w fun r w'=>r=.tuple #[]/\w'=w.setRow b #[.pointer (some ⟨b,0,none⟩),v]
def FG(P:Program)(g:FuncId):Prop:=
 ∀(b:Nat) (p v:Value) (T:TypeId) (xs:List Int) (w:World),w.heap[b]? =some (.cells #[p,v] T (0,0))->rowAt w true lh 1 v xs.length (xs.map (Value.int .u8))->
  Enters P g #[.pointer (some ⟨b,0,none⟩)] w fun r w'=>r=.string ⟨(strOf xs).toArray⟩/\w'.os=w.os/\w'.tape=w.tape/\w'.output=w.output/\w.heap.size<=w'.heap.size/\
   (∀c,c<w.heap.size->a7 v≠some c->w'.heap[c]? =w.heap[c]?)/\∀c cur e bG,a7 v=some c->w.heap[c]? =some (.cells cur e bG)->∃s5,w'.heap[c]? =some (.cells cur e s5)
section
variable {P:Program}{L:World}{J:List Nat}{X:Nat->Prop}{B:Nat->Value}{st:ad}{tm:Array Value}{w:World}{D:Oper}
theorem ah.aaj(S:ah L J X B st tm w){o s:Nat}{t:aG}{xs:List (den t)}(hl:look st.sites o=some (.row s t xs)){w':World}(h1:w'.os=w.os)(h2:w'.tape=w.tape)(aa:w'.output=w.output)(aH:w.heap.size<=w'.heap.size)
  (bD:∀c,c<w.heap.size->a7 (B o)≠some c->w'.heap[c]? =w.heap[c]?) (di:∀c cur e bG,a7 (B o)=some c->w.heap[c]? =some (.cells cur e bG)->∃s5,w'.heap[c]? =some (.cells cur e s5)):
  ah L J X B {st with sites:=b8 st.sites o (.cS s t xs)} tm w':=by
 have cr:bX st.sites o:=⟨_,hl,rfl⟩;have dB:∀F,bX (b8 st.sites o (.cS s t xs)) F->bX st.sites F/\F≠o:=by
  rintro F ⟨O,h1,h2⟩;rw[cn] at h1;by_cases e:o=F
  ·subst e;simp at h1;subst h1;cases h2
  ·simp only[e,if_false] at h1;exact⟨⟨O,h1,h2⟩,fun h=>e h.symm⟩
 have b1:∀a',an X B (b8 st.sites o (.cS s t xs)) a'->an X B st.sites a':=by
  rintro a' (h|⟨F,h1,h2⟩)
  ·exact .inl h
  ·exact .inr ⟨F,(dB F h1).1,h2⟩
 have aR:=S.frame;refine S.oS (fun F O bB=>?_) (fun a' h hb=>bD a' hb (fun ab=>h (.inr ⟨o,cr,fW ab⟩))) (fun a' h _ ab=>h (b1 a' ab)) (fun go F O bB=>?_) (fun F aO a' h1 h2=>S.df F aO a' (dB F h1).1 (dB aO h2).1)
  (fun F a' h=>S.b7 F a' (dB F h).1) (fun F a' h hb=>Nat.lt_of_lt_of_le (S.dX (dB F h).1 hb) aH)
  ⟨h1.trans aR.os,h2.trans aR.tape,aa.trans aR.output,Nat.le_trans aR.size aH,fun b hb hn=>by
   have M:=aR.size;rw[bD b (by omega) (fun ab=>by
    rcases(S.b7 o b cr (fW ab)).2 with ab|ab
    ·exact hn ab
    ·omega)]
   exact aR.block b hb hn⟩ aH
 ·rw[cn];by_cases e:o=F
  ·subst e;rw[hl] at bB;cases bB;exact⟨.cS s t xs,by simp,Nat.le_refl _,fun _=>rfl⟩
  ·exact⟨O,by simp[e,bB],Nat.le_refl _,fun _=>rfl⟩
 ·rw[cn] at bB;by_cases e:o=F
  ·subst e;simp only[if_true,Option.some.injEq] at bB;subst bB;refine .inr ?_
   show bj _ _ (.sl t xs) (bY (B o))/\va (bY (B o));obtain⟨b4,cs,aC,ao⟩:=S.sites o _ hl;rw[(iv aC).1];rcases aC.2 with⟨hn,h0⟩|⟨g,cap,cur,bG,hv,_,hg,hnc,_,_,jN⟩
   ·have:xs=[]:=List.eq_nil_of_length_eq_zero h0;subst this;rw[hn];exact⟨.nil t,.inl rfl⟩
   ·obtain⟨s5,kq⟩:=di g cur b4 bG (by rw[hv];rfl) hg
    rw[hv];refine⟨?_,.inr ⟨_,_,_,rfl⟩⟩;have hlen:cs.length=(flat t xs).length:=by rw[dR];exact aC.1
    refine .sl t xs _ cap cs xs.length rfl hnc (fun _=>?_) hlen (fun j u hu=>?_) (fun j g1 g2=>jB go (ao j g1 g2))
    ·rintro(hx|⟨F,g1,g2⟩)
     ·exact(S.b7 o g cr (fW (by rw[hv];rfl))).1 hx
     ·obtain⟨g3,eH⟩:=dB F g1;exact eH (S.df F o g g3 cr g2 (fW (by rw[hv];rfl)))
    ·rw[gl,Nat.zero_add,cell_of_row w' g j cur b4 s5 kq];rw[<-jN,List.getElem?_take] at hu;split at hu
     ·simpa using hu
     ·cases hu
  ·simp only[e,if_false] at bB;refine .inl ⟨bB,rfl,fun sB b hb=>bD b (S.dX ⟨_,bB,sB⟩ hb) fun h=>e (S.df o F b cr ⟨_,bB,sB⟩ (fW h) hb)⟩
theorem xg{g:FuncId}{vs:List Value}{post:Value->World->Prop}(cI:(execOp (Act.eval ⟨tm,[]⟩) D).run P w=(callFunc g vs.toArray).run P w)(gS:Enters P g vs.toArray w post){K:Act->World->Prop}{Q:Exit->Act->World->Prop}
  (lP:∀v w',post v w'->K ⟨cl tm D.dst v,[]⟩ w'):D.wp P ⟨tm,[]⟩ w K Q:=by
 rcases gS with⟨h1,h2⟩|⟨v,w',h1,h2⟩
 ·unfold Oper.wp;rw[cI,h1,Oper.upon_enter];refine h2.mono fun e w' he=>?_
  cases e with
  |returned v=>
   have:=lP v w' he;cases db:D.dst with
   |none=>rw[db] at this;simpa[Act.put,cl] using this
   |some t=>rw[db] at this;simpa[Act.put,cl] using this
  |panicked c=>exact he.elim
  |outgrown=>exact he.elim
 ·exact mr (cI.trans h1) (lP v w' h2)
theorem aaw(S:ah L J X B st tm w){g:FuncId}(gS:Fg P g){cA:List aL}{vs:List Value}(hl:cA.length=vs.length)
  (hv:∀i (h:i<cA.length) (ab:i<vs.length),b_ B st.sites w (an X B st.sites) (cA[i]) (vs[i])) (Y:b6 st D.dst=true) (cI:(execOp (Act.eval ⟨tm,[]⟩) D).run P w=(callFunc g vs.toArray).run P w):
  Holds (copyV st cA) (cz P L J X st tm w D):=by
 unfold copyV;split
 ·rename_i o s;split
  ·rename_i am l fj;have fj:look st.sites o=some (.box am [.ew,l]):=fj;cases jO:am.beq s with
   |false=>exact .fail
   |true=>
    have:=Nat.eq_of_beq_eq_true jO;subst this;refine Holds.e9 ?_
    intro K Q bC;match vs,hl,hv,cI with
    |[qH],_,hv,cI=>
    obtain⟨qO,akl,iK⟩:dk B st.sites w (an X B st.sites) (.ptr o am 0) qH:=hv 0 (by simp) (by simp)
    have iK:=Ref.at iK fj rfl;obtain⟨b,T,cur,e1,e2,bK,c_,fh,ng⟩:=S.sites o _ fj;rw[e1] at iK;have iK:b=qO:=by cases iK;rfl
    subst iK;subst akl;match cur,e2,bK,c_,fh,ng with
    |[p,v],e2,_,c_,fh,ng=>
     obtain⟨rfl,aj⟩:=fh rfl;have aj:p=.pointer none\/p=.pointer (some ⟨b,0,none⟩):=by simpa using aj
     refine xg cI (gS b p v w e2 aj) ?_
     rintro r w' ⟨rfl,rfl⟩;have bZ:ah L J X B {st with sites:=b8 st.sites o (.box am [.ew,l])} tm (w.setRow b #[.pointer (some ⟨b,0,none⟩),v]):=by
      refine S.write fj rfl rfl rfl (fW (by rw[e1];rfl)) e2 (fun M hw kq go=>⟨b,qy,[.pointer (some ⟨b,0,none⟩),v],e1,kq,rfl,fun u hu=>?_,fun _=>⟨rfl,.inr rfl⟩,fun j h ab=>?_⟩)
      ·rcases List.mem_cons.1 hu with rfl|hu
       ·rfl
       ·exact c_ u (List.mem_cons_of_mem _ hu)
      ·match j,h,ab with
       |0,_,_=>trivial
       |1,_,_=>exact go (a:=bP l) (ng 1 (by simp) (by simp))
     exact bC _ _ _ (ah.cu (us:=[(o,.box am [.ew,l])]) bZ Y (v:=.je []) ⟨[],rfl,rfl,fun j h=>by simp at h⟩)
  ·exact .fail
 ·exact .fail
theorem _p{av:Nat->Prop}{xs:List Int}{cs:List Value}(h0:cs.length=xs.length)(h:∀j (h:j<(flat .u8 (xs:List (den .u8))).length) (ab:j<cs.length),bj w av ((flat .u8 (xs:List (den .u8)))[j]) (cs[j])):cs=xs.map (Value.int .u8):=by
 refine List.ext_getElem (by rw[List.length_map];exact h0) fun j g1 g2=>?_
 have TM:j<xs.length:=by simpa using g2
 have:=h j (by rw[dR];simpa[ax] using TM) g1
 rw[List.getElem_map];generalize Y:(flat .u8 (xs:List (den .u8)))[j]'(by rw[dR];simpa[ax] using TM)=d at this
 have qu:d=.int .u8 xs[j]:=by
  rw[<-Y];simp only[rr,List.getElem_map]
 subst qu;generalize cs[j]=v at this;cases this;rfl
theorem Xx(S:ah L J X B st tm w){g:FuncId}(gS:FG P g){cA:List aL}{vs:List Value}(hl:cA.length=vs.length)
  (hv:∀i (h:i<cA.length) (ab:i<vs.length),b_ B st.sites w (an X B st.sites) (cA[i]) (vs[i])) (Y:b6 st D.dst=true) (cI:(execOp (Act.eval ⟨tm,[]⟩) D).run P w=(callFunc g vs.toArray).run P w):
  Holds (rf st cA) (cz P L J X st tm w D):=by
 unfold rf;split
 ·rename_i o s;match vs,hl,hv,cI with
  |[qH],_,hv,cI=>
  have la:dk B st.sites w (an X B st.sites) (.ptr o s 0) qH:=hv 0 (by simp) (by simp)
  split
  ·rename_i UV lN;have fj:=gy lN;obtain⟨b,T,cur,bW,rfl,hg,_,hc⟩:=S.box fj la;refine Holds.ok ?_
   intro K Q bC;obtain⟨p,r1,rfl,_,hc⟩:=hc.inv;obtain⟨v,r2,rfl,vA,hc⟩:=hc.inv;have:r2=[]:=List.eq_nil_of_length_eq_zero hc.1;subst this;have vA:v=.slice none 0 0:=vA;subst vA;refine xg cI (gS b p _ T [] w hg (tB w true lh 1)) ?_
   rintro r w' ⟨rfl,aC,ao,bv,ca,dT,gP⟩;have c7:=S.jump (w':=w') (fun c _ hc=>dT c hc (by simp[a7])) ca ⟨aC.trans S.frame.os,ao.trans S.frame.tape,bv.trans S.frame.output,Nat.le_trans S.frame.size ca,fun c hc hn=>by
    rw[dT c (Nat.lt_of_lt_of_le hc S.frame.size) (by simp[a7])]
    exact S.frame.block c hc hn⟩
   have fT:ah L J X B {st with sites:=aW st.sites []} tm w':=c7.shrink fun b hb=>.inl hb
   exact bC _ _ _ (ah.cu (us:=[]) fT Y (v:=one (.str [])) (bj.str _ _ rfl))
  ·rename_i UV F u lN;have fj:=gy lN;obtain⟨b,T,cur,bW,rfl,hg,_,hc⟩:=S.box fj la;split
   ·rename_i bF xs cJ;have cJ:look st.sites F=some (.row bF .u8 xs):=cJ;cases ajH:bF.beq u with
    |false=>exact .fail
    |true=>
     have:=Nat.eq_of_beq_eq_true ajH;subst this;refine Holds.e9 ?_
     intro K Q bC;obtain⟨p,r1,rfl,_,hc⟩:=hc.inv;obtain⟨v,r2,rfl,vA,hc⟩:=hc.inv;have:r2=[]:=List.eq_nil_of_length_eq_zero hc.1;subst this;obtain⟨e,cs,h1,h2⟩:=S.sites F _ cJ;have QD:v=B F:=(Ref.at vA.2 cJ rfl:v=bY (B F)).trans (iv h1).1;have hlen:cs.length=xs.length:=by have:=h1.1;simpa[ax] using this
     have hcs:cs=List.map (Value.int .u8) xs:=_p hlen h2;have iB:rowAt w true lh 1 v xs.length (List.map (Value.int .u8) xs):=by
      rw[<-hcs,QD];refine⟨h1.1,?_⟩;rcases h1.2 with h|⟨cv,cap,sG,bG,q1,q2,dC⟩
      ·exact .inl h
      ·have:=q2.1 rfl;subst this;exact .inr ⟨cv,cap,sG,bG,q1,q2,dC⟩
     refine xg cI (gS b p v T xs w hg iB) ?_
     rintro r w' ⟨rfl,aC,ao,bv,ca,dT,gP⟩;rw[QD] at dT gP;have fT:=S.aaj cJ aC ao bv ca dT gP;exact bC _ _ _ (ah.cu (us:=[(F,.cS bF .u8 xs)]) fT Y (v:=one (.str (strOf xs))) (bj.str _ _ (by simp)))
   ·exact .fail
  ·exact .fail
 ·exact .fail
end
def yJ(P:Program)(g cv:FuncId):Prop:=
 ∀(a b:ByteArray) (w:World),Enters P g #[.string a,.string b] w fun v w'=>∃cH dA,v=.func (.func cv) #[] #[.pointer (some ⟨w.heap.size+1,0,none⟩),.pointer (some ⟨w.heap.size,0,none⟩),.pointer (some ⟨w.heap.size+2,0,none⟩)]/\
  w'=((w.alloc (.cells #[.string a] cH)).alloc (.cells #[.string b] cH)).alloc (.cells #[.int .i64 0] dA)
def zA(P:Program)(g:FuncId):Prop:=
 ∀(xs:List Int) (v:Value) (w:World) (av:Nat->Prop),bj w av (.sl .u8 xs) v->Enters P g #[v] w fun v' w'=>∃u T,bj w av (.sl .u8 (xs.take 2000)) u/\v'=.pointer (some ⟨w.heap.size,0,none⟩)/\w'=w.alloc (.cells #[u,.int .i64 0] T)
structure a9(P:Program)(C:Ctx):Prop extends CtxOk P C where
 bM:∀g S,C.bM g=some S->a4 P g S
 Br:P.follows .mixedOrders=true
 kw:∀g cv,C.kw g=some cv->yJ P g cv
 op:∀g,C.op g=true->zA P g
 ha:∀g,C.ha g=true->Fg P g
 bs:∀g,C.bs g=true->FG P g
section
variable {P:Program}{L:World}{J:List Nat}{X:Nat->Prop}{B:Nat->Value}{st:ad}{tm:Array Value}{w:World}{D:Oper}
theorem Ll:∀{bE:List (Nat×Nat)} {cs:List (List aM)} {us:List (Nat×Site)} {bs:List Nat},kV st bE=some (cs,us,bs)->dq st.sites us/\∀o,o∈bs->bX st.sites o:=by
 intro bE;induction bE with
 |nil=>intro cs us bs h;simp only[kV] at h;cases h;exact⟨.nil,fun o h=>by simp at h⟩
 |cons c bE ih=>
  obtain⟨o,s⟩:=c;intro cs us bs h;simp only[kV] at h;split at h
  ·rename_i cells lN;split at h
   ·rename_i ds u1 rest u2 aJ ef mG;cases h;obtain⟨aC,ao⟩:=ih mG;refine⟨(Eo ef).append aC,fun F bB=>?_⟩
    rcases List.mem_cons.1 bB with rfl|bB
    ·exact⟨_,gy lN,rfl⟩
    ·exact ao F bB
   ·cases h
  ·cases h
theorem DP{l fo:aw}{us:List (Nat×Site)}{bs:List Nat}(h:mL st l=some (fo,us,bs)):dq st.sites us/\∀o,o∈bs->bX st.sites o:=by
 unfold mL at h;split at h
 ·cases h;exact⟨.nil,fun o h=>by simp at h⟩
 ·split at h
  ·rename_i hc;cases h;exact Ll hc
  ·cases h
 ·split at h
  ·rename_i Y;cases h;exact⟨NW Y,fun o h=>by simp at h⟩
  ·cases h
theorem aac:∀{U dm:List aw} {us:List (Nat×Site)} {bs:List Nat},lB st U=some (dm,us,bs)->dq st.sites us/\∀o,o∈bs->bX st.sites o:=by
 intro U;induction U with
 |nil=>intro dm us bs h;simp only[lB] at h;cases h;exact⟨.nil,fun o h=>by simp at h⟩
 |cons l U ih=>
  intro dm us bs h;simp only[lB] at h;split at h
  ·rename_i a u1 aT as u2 aJ h1 h2;cases h;obtain⟨aC,ao⟩:=DP h1;obtain⟨bv,ca⟩:=ih h2;refine⟨aC.append bv,fun o bh=>?_⟩
   rcases List.mem_append.1 bh with h|h
   ·exact ao o h
   ·exact ca o h
  ·cases h
theorem Zy:∀{cA:List aL} {a:jJ},iu st cA=some a->dq st.sites a.et/\∀o,o∈a.fu->bX st.sites o:=by
 intro cA;induction cA with
 |nil=>intro a h;simp only[iu] at h;cases h;exact⟨.nil,fun o h=>by simp at h⟩
 |cons qI cA ih=>
  intro a h;unfold iu at h;split at h
  ·cases ‹qI::cA=[]›
  ·rename_i bV;cases bV;split at h
   ·rename_i hr;split at h
    ·cases h;have q:=ih hr;exact q
    ·cases h
   ·cases h
  ·rename_i bV;cases bV;split at h
   ·rename_i h1 hr;cases h;obtain⟨aC,ao⟩:=DP h1;obtain⟨bv,ca⟩:=ih hr;refine⟨aC.append bv,fun o bh=>?_⟩
    rcases List.mem_append.1 bh with h|h
    ·exact ao o h
    ·exact ca o h
   ·cases h
  ·rename_i bV;cases bV;split at h
   ·rename_i h1 hr;cases h;obtain⟨aC,ao⟩:=aac h1;obtain⟨bv,ca⟩:=ih hr;refine⟨aC.append bv,fun o bh=>?_⟩
    rcases List.mem_append.1 bh with h|h
    ·exact ao o h
    ·exact ca o h
   ·cases h
  ·cases h
theorem Ld{l fo:aw}{gs us:List (Nat×Site)}{bs:List Nat}(h:lx st l=some (fo,gs,us,bs)):dq st.sites us/\∀o,o∈bs->bX st.sites o:=by
 unfold lx at h;split at h
 ·split at h
  ·cases h;exact⟨.nil,fun o h=>by simp at h⟩
  ·cases h
 ·cases h;exact⟨.nil,fun o h=>by simp at h⟩
 ·split at h
  ·rename_i hl;cases h;exact DP hl
  ·cases h
theorem X8:∀{U dm:List aw} {gs us:List (Nat×Site)} {bs:List Nat},lv st U=some (dm,gs,us,bs)->dq st.sites us/\∀o,o∈bs->bX st.sites o:=by
 intro U;induction U with
 |nil=>intro dm gs us bs h;simp only[lv] at h;cases h;exact⟨.nil,fun o h=>by simp at h⟩
 |cons l U ih=>
  intro dm gs us bs h;simp only[lv] at h;split at h
  ·rename_i h1 h2;cases h;obtain⟨aC,ao⟩:=Ld h1;obtain⟨bv,ca⟩:=ih h2;refine⟨aC.append bv,fun o bh=>?_⟩
   rcases List.mem_append.1 bh with h|h
   ·exact ao o h
   ·exact ca o h
  ·cases h
theorem XY:∀{cA:List aL} {a:jJ},jZ st cA=some a->dq st.sites a.et/\∀o,o∈a.fu->bX st.sites o:=by
 intro cA;induction cA with
 |nil=>intro a h;simp only[jZ] at h;cases h;exact⟨.nil,fun o h=>by simp at h⟩
 |cons qI cA ih=>
  intro a h;unfold jZ at h;split at h
  ·cases ‹qI::cA=[]›
  ·rename_i bV;cases bV;split at h
   ·rename_i h1 hr;cases h;obtain⟨aC,ao⟩:=Ld h1;obtain⟨bv,ca⟩:=ih hr;refine⟨aC.append bv,fun o bh=>?_⟩
    rcases List.mem_append.1 bh with h|h
    ·exact ao o h
    ·exact ca o h
   ·cases h
  ·rename_i bV;cases bV;split at h
   ·rename_i h1 hr;cases h;obtain⟨aC,ao⟩:=X8 h1;obtain⟨bv,ca⟩:=ih hr;refine⟨aC.append bv,fun o bh=>?_⟩
    rcases List.mem_append.1 bh with h|h
    ·exact ao o h
    ·exact ca o h
   ·cases h
  ·cases h
theorem XW{b:Bool}{cA:List aL}{a:jJ}(h:rk b st cA=some a):dq st.sites a.et/\∀o,o∈a.fu->bX st.sites o:=by
 cases b
 ·exact Zy h
 ·exact XY h
theorem ac8(S:ah L J X B st tm w)(C:Ctx):∀(xs:List Operand) (cK:List TypeId),(gf C st xs cK).length=(xs.map (Act.eval ⟨tm,[]⟩)).length/\
  ∀i (h:i<(gf C st xs cK).length) (ab:i<(xs.map (Act.eval ⟨tm,[]⟩)).length),b_ B st.sites w (an X B st.sites) ((gf C st xs cK)[i]) ((xs.map (Act.eval ⟨tm,[]⟩))[i]):=by
 intro xs;induction xs with
 |nil=>intro cK;cases cK<;>exact⟨rfl,fun i h=>by simp[gf] at h⟩
 |cons x xs ih=>
  intro cK;have key:∀(T:TypeId) (Ig:List TypeId),gf C st (x::xs) cK=aP C st T x::gf C st xs Ig->(gf C st (x::xs) cK).length=((x::xs).map (Act.eval ⟨tm,[]⟩)).length/\
    ∀i (h:i<(gf C st (x::xs) cK).length) (ab:i<((x::xs).map (Act.eval ⟨tm,[]⟩)).length),b_ B st.sites w (an X B st.sites) ((gf C st (x::xs) cK)[i]) (((x::xs).map (Act.eval ⟨tm,[]⟩))[i]):=by
   intro T Ig e;obtain⟨aC,ao⟩:=ih Ig;refine⟨by rw[e];simp[aC],fun i h ab=>?_⟩
   simp only[e];cases i with
   |zero=>exact cV S C T x
   |succ i=>
    simp only[List.getElem_cons_succ,List.map_cons];exact ao i (by simpa[e] using h) (by simpa using ab)
  cases cK with
  |nil=>exact key 0 [] rfl
  |cons T cK=>exact key T cK rfl
theorem Y3(S:ah L J X B st tm w){g cv:FuncId}(gS:yJ P g cv){n:Nat}{cA:List aL}{vs:List Value}(hl:cA.length=vs.length)
  (hv:∀i (h:i<cA.length) (ab:i<vs.length),b_ B st.sites w (an X B st.sites) (cA[i]) (vs[i])) (Y:b6 st D.dst=true) (cI:(execOp (Act.eval ⟨tm,[]⟩) D).run P w=(callFunc g vs.toArray).run P w):
  Holds (rE cv n st cA) (cz P L J X st tm w D):=by
 unfold rE;split
 ·rename_i s p;refine Holds.e9 ?_
  intro K Q bC;match vs,hl,hv,cI with
  |[qH,vb],_,hv,cI=>
  obtain⟨a,a3,lg⟩:=hp (hv 0 (by simp) (by simp))
  obtain⟨b,hb,b9⟩:=hp (hv 1 (by simp) (by simp))
  simp only[List.getElem_cons_zero,List.getElem_cons_succ] at a3 hb;subst a3 hb;have lP:∀v w',(∃cH dA,v=.func (.func cv) #[] #[.pointer (some ⟨w.heap.size+1,0,none⟩),.pointer (some ⟨w.heap.size,0,none⟩),.pointer (some ⟨w.heap.size+2,0,none⟩)]/\
    w'=((w.alloc (.cells #[.string a] cH)).alloc (.cells #[.string b] cH)).alloc (.cells #[.int .i64 0] dA))->K ⟨cl tm D.dst v,[]⟩ w':=by
   rintro v w' ⟨cH,dA,rfl,hw⟩;have hsz:w'.heap.size=w.heap.size+3:=by rw[hw];simp
   have hold:∀b,b<w.heap.size->w'.heap[b]? =w.heap[b]? :=fun b hb=>by
    rw[hw];rw[RowKit.Below.heap_alloc _ _ _ (by simp;omega),RowKit.Below.heap_alloc _ _ _ (by simp;omega),RowKit.Below.heap_alloc _ _ _ hb]
   have h0:w'.heap[w.heap.size]? =some (.cells #[.string a] cH):=by
    rw[hw,RowKit.Below.heap_alloc _ _ _ (by simp only[World.size_alloc];omega),RowKit.Below.heap_alloc _ _ _ (by simp only[World.size_alloc];omega)];exact World.alloc_heap_new w _
   have h1:w'.heap[w.heap.size+1]? =some (.cells #[.string b] cH):=by
    rw[hw,RowKit.Below.heap_alloc _ _ _ (by simp only[World.size_alloc];omega)]
    have:=World.alloc_heap_new (w.alloc (.cells #[.string a] cH)) (.cells #[.string b] cH);rwa[World.size_alloc] at this
   have h2:w'.heap[w.heap.size+2]? =some (.cells #[.int .i64 0] dA):=by
    rw[hw];have:=World.alloc_heap_new ((w.alloc (.cells #[.string a] cH)).alloc (.cells #[.string b] cH)) (.cells #[.int .i64 0] dA);rwa[World.size_alloc,World.size_alloc] at this
   have HW:Fr J L w':=⟨by rw[hw];exact S.frame.os,by rw[hw];exact S.frame.tape,by rw[hw];exact S.frame.output,by have:=S.frame.size;omega,fun b hb hn=>by
    have:=S.frame.size;rw[hold b (by omega)];exact S.frame.block b hb hn⟩
   have kY:=S.frame.size;have c7:=S.jump (w':=w') (fun b _ hb=>hold b hb) (by omega) HW
   have mk:∀{B:Nat->Value} {sites:List (Nat×Site)} {av:Nat->Prop} {m k:Nat} {T:TypeId} {x:Value} {d:aM},B m=.pointer (some ⟨k,0,none⟩)->w'.heap[k]? =some (.cells #[x] T)->bj w' av d x->
     iw B sites w' av m (.box (aZ st m) [.d d]):=by
    intro B sites av m k T x d e1 e2 bK;refine⟨k,T,[x],e1,e2,rfl,fun u hu=>?_,(fun h=>by cases h),fun j h ab=>?_⟩
    ·rw[List.mem_singleton.1 hu];exact bK.h4
    ·match j,h,ab with
     |0,_,_=>exact bK
   obtain⟨Jf,_,_⟩:=c7.uM (X':=fun b=>(X b\/(w.heap.size<=b/\b<w'.heap.size))/\b≠w.heap.size+1) (n:=n) (bH:=.box (aZ st n) [.d (.str p)]) (nv:=.pointer (some ⟨w.heap.size+1,0,none⟩)) (fun b h=>h.1)
    (.inl fun O h=>jv h) (fun b h=>by have h:=List.mem_singleton.1 h;simp only at h;subst h;exact⟨.inr ⟨by omega,by omega⟩,fun h=>h.2 rfl,.inr (by omega)⟩) (fun _ e _ _=>mk e h1 (.str _ _ b9))
   obtain⟨Je,_,_⟩:=Jf.uM (X':=fun b=>((X b\/(w.heap.size<=b/\b<w'.heap.size))/\b≠w.heap.size+1)/\b≠w.heap.size) (n:=n+1) (bH:=.box (aZ st (n+1)) [.d (.str s)]) (nv:=.pointer (some ⟨w.heap.size,0,none⟩)) (fun b h=>h.1)
    (.inl fun O h=>by
     have h:look (b8 st.sites n _) (n+1)=some O:=h;rw[cn,if_neg (by omega)] at h
     exact jv h) (fun b h=>by have h:=List.mem_singleton.1 h;simp only at h;subst h;exact⟨⟨.inr ⟨by omega,by omega⟩,by omega⟩,fun h=>h.2 rfl,.inr (by omega)⟩) (fun _ e _ _=>mk e h0 (.str _ _ lg))
   obtain⟨Jd,_,_⟩:=Je.uM (X':=X) (n:=n+2) (bH:=.box (aZ st (n+2)) [.d (.int .i64 0)]) (nv:=.pointer (some ⟨w.heap.size+2,0,none⟩)) (fun b h=>by have:=S.old b h;exact⟨⟨.inl h,by omega⟩,by omega⟩)
    (.inl fun O h=>by
     have h:look (b8 (b8 st.sites n _) (n+1) _) (n+2)=some O:=h;rw[cn,if_neg (by omega),cn,if_neg (by omega)] at h
     exact jv h) (fun b h=>by have h:=List.mem_singleton.1 h;simp only at h;subst h;exact⟨⟨⟨.inr ⟨by omega,by omega⟩,by omega⟩,by omega⟩,fun h=>by have:=S.old _ h;omega,.inr (by omega)⟩) (fun _ e _ _=>mk e h2 (.int _ _))
   refine bC _ _ w' (ah.cu (us:=[(n,.box (aZ st n) [.d (.str p)]),(n+1,.box (aZ st (n+1)) [.d (.str s)]),(n+2,.box (aZ st (n+2)) [.d (.int .i64 0)])]) Jd Y (v:=bP (.clo cv _)) ?_);refine⟨[.pointer (some ⟨w.heap.size+1,0,none⟩),.pointer (some ⟨w.heap.size,0,none⟩),.pointer (some ⟨w.heap.size+2,0,none⟩)],rfl,rfl,fun i hi hV=>?_⟩
   match i,hi,hV with
   |0,_,_=>exact⟨.box (aZ st n) [.d (.str p)],by simp[aW,cn],Nat.le_refl _,fun _=>by simp[bY]⟩
   |1,_,_=>exact⟨.box (aZ st (n+1)) [.d (.str s)],by simp[aW,cn],Nat.le_refl _,fun _=>by simp[bY]⟩
   |2,_,_=>exact⟨.box (aZ st (n+2)) [.d (.int .i64 0)],by simp[aW,cn],Nat.le_refl _,fun _=>by simp[bY]⟩
  rcases gS a b w with⟨h1,h2⟩|⟨v,w',h1,h2⟩
  ·unfold Oper.wp;rw[cI,h1,Oper.upon_enter];refine h2.mono fun e w' he=>?_
   cases e with
   |returned v=>
    have:=lP v w' he;cases db:D.dst with
    |none=>rw[db] at this;simpa[Act.put,cl] using this
    |some t=>rw[db] at this;simpa[Act.put,cl] using this
   |panicked c=>exact he.elim
   |outgrown=>exact he.elim
  ·exact mr (cI.trans h1) (lP v w' h2)
 ·exact .fail
theorem _0(S:ah L J X B st tm w){g:FuncId}(gS:zA P g){n:Nat}{cA:List aL}{vs:List Value}(hl:cA.length=vs.length)
  (hv:∀i (h:i<cA.length) (ab:i<vs.length),b_ B st.sites w (an X B st.sites) (cA[i]) (vs[i])) (Y:b6 st D.dst=true) (cI:(execOp (Act.eval ⟨tm,[]⟩) D).run P w=(callFunc g vs.toArray).run P w):
  Holds (rY n st cA) (cz P L J X st tm w D):=by
 unfold rY;split
 ·rename_i xs;refine Holds.e9 ?_
  intro K Q bC;match vs,hl,hv,cI with
  |[qH],_,hv,cI=>
  have dH:bj w (an X B st.sites) (.sl .u8 xs) qH:=hv 0 (by simp) (by simp)
  have lP:∀v w',(∃u T,bj w (an X B st.sites) (.sl .u8 (xs.take 2000)) u/\v=.pointer (some ⟨w.heap.size,0,none⟩)/\w'=w.alloc (.cells #[u,.int .i64 0] T))->K ⟨cl tm D.dst v,[]⟩ w':=by
   rintro v w' ⟨u,T,hu,rfl,hw⟩;have hsz:w'.heap.size=w.heap.size+1:=by rw[hw];simp
   have hold:∀b,b<w.heap.size->w'.heap[b]? =w.heap[b]? :=fun b hb=>by
    rw[hw,RowKit.Below.heap_alloc _ _ _ hb]
   have h0:w'.heap[w.heap.size]? =some (.cells #[u,.int .i64 0] T):=by rw[hw];exact World.alloc_heap_new w _
   have HW:Fr J L w':=⟨by rw[hw];exact S.frame.os,by rw[hw];exact S.frame.tape,by rw[hw];exact S.frame.output,by have:=S.frame.size;omega,fun b hb hn=>by
    have:=S.frame.size;rw[hold b (by omega)];exact S.frame.block b hb hn⟩
   have kY:=S.frame.size;have c7:=S.jump (w':=w') (fun b _ hb=>hold b hb) (by omega) HW
   have gR:∀b,X b->b<w.heap.size:=S.old;have agi:∀b,an (fun b=>X b\/(w.heap.size<=b/\b<w'.heap.size)) B st.sites b->b<w'.heap.size:=fun b hb=>c7.lt hb
   have sR:b_ B st.sites w' (an (fun b=>X b\/(w.heap.size<=b/\b<w'.heap.size)) B st.sites) (one (.sl .u8 (xs.take 2000))) u:=by
    have G:gG B B st.sites st.sites w w' (an X B st.sites) (an (fun b=>X b\/(w.heap.size<=b/\b<w'.heap.size)) B st.sites):=
     ⟨fun F s h=>⟨s,h,Nat.le_refl _,fun _=>rfl⟩,fun b _ b9=>hold b b9,fun b hb b9 ab=>by
      rcases ab with(ab|ab)|ab
      ·exact hb (.inl ab)
      ·omega
      ·exact hb (.inr ab)⟩
    exact b_.goes (a:=one (.sl .u8 (xs.take 2000))) G (by omega) agi hu
   obtain⟨Jf,Hr,aoL⟩:=c7.uM (X':=X) (n:=n) (bH:=.box (aZ st n) [.d (.sl .u8 (xs.take 2000)),.d (.int .i64 0)]) (nv:=.pointer (some ⟨w.heap.size,0,none⟩)) (fun b h=>.inl h)
    (.inl fun O h=>jv h) (fun b h=>by have h:=List.mem_singleton.1 h;simp only at h;subst h;exact⟨.inr ⟨by omega,by omega⟩,fun h=>by have:=gR _ h;omega,.inr (by omega)⟩) (fun M e go _=>by
     have vB:=go sR;refine⟨w.heap.size,T,[u,.int .i64 0],e,h0,rfl,fun x hx=>?_,(fun h=>by cases h),fun j h ab=>?_⟩
     ·rcases List.mem_cons.1 hx with rfl|hx
      ·exact bj.h4 hu
      ·rw[List.mem_singleton.1 hx];rfl
     ·match j,h,ab with
      |0,_,_=>exact vB
      |1,_,_=>exact bj.int .i64 0)
   refine bC _ _ w' (ah.cu (us:=[(n,.box (aZ st n) [.d (.sl .u8 (xs.take 2000)),.d (.int .i64 0)])]) Jf Y (v:=bP (.ptr n (aZ st n) 0)) ?_);exact⟨w.heap.size,rfl,.box (aZ st n) [.d (.sl .u8 (xs.take 2000)),.d (.int .i64 0)],by simp[aW,cn],Nat.le_refl _,fun _=>by simp[bY]⟩
  rcases gS xs qH w _ dH with⟨h1,h2⟩|⟨v,w',h1,h2⟩
  ·unfold Oper.wp;rw[cI,h1,Oper.upon_enter];refine h2.mono fun e w' he=>?_
   cases e with
   |returned v=>
    have:=lP v w' he;cases db:D.dst with
    |none=>rw[db] at this;simpa[Act.put,cl] using this
    |some t=>rw[db] at this;simpa[Act.put,cl] using this
   |panicked c=>exact he.elim
   |outgrown=>exact he.elim
  ·exact mr (cI.trans h1) (lP v w' h2)
 ·exact .fail
theorem J3(S:ah L J X B st tm w){C:Ctx}(az:a9 P C){c:Go.Call}{f:Operand}(au:D.op=.call c)(hf:c.callee=.value f)(Y:b6 st D.dst=true)(d:Nat)(T:TypeId):
  Holds (ls C d st (aP C st T f) (gf C st c.args.toList c.argTypes.toList)) (cz P L J X st tm w D):=by
 have bo:=cV S C T f;obtain⟨e1,e2⟩:=ac8 S C c.args.toList c.argTypes.toList;have run:∀{g:FuncId} {eU:List Value},Act.eval ⟨tm,[]⟩ f=.func (.func g) #[] eU.toArray->
   (execOp (Act.eval ⟨tm,[]⟩) D).run P w=(callFunc g (c.args.toList.map (Act.eval ⟨tm,[]⟩)++eU).toArray).run P w:=by
  intro g eU hv;have qN:(#[]++c.args.map (Act.eval ⟨tm,[]⟩))++eU.toArray=(c.args.toList.map (Act.eval ⟨tm,[]⟩)++eU).toArray:=by apply Array.ext';simp
  unfold execOp;simp only[au,resolve,hf,hv,Deferred.ofValue,Sem.run_bind,Sem.run_pure,Result.andThen_ok,invoke,qN]
 have go:∀{g:FuncId} {aF:aU} {a:jJ} {cs:List (List aM)} {us:List (Nat×Site)} {bs:List Nat} {eU:List Value} {gb:Bool},C.bM g=some aF->rk gb st (gf C st c.args.toList c.argTypes.toList)=some a->
   Act.eval ⟨tm,[]⟩ f=.func (.func g) #[] eU.toArray->(dq st.sites us/\∀o,o∈bs->bX st.sites o)->
   (∀{cL eh av},eR L J X B st tm w cL eh av->(∀p,p∈us->p∈cL)->(∀o,o∈bs->o∈eh)->j6 w av cs eU)->
   Holds (oQ d st aF {a with as:=a.as++kS cs,et:=a.et++us,fu:=a.fu++bs}) (cz P L J X st tm w D):=by
  intro g aF a cs us bs eU gb hg a3 hv hz hcap;obtain⟨fR,gN⟩:=XW a3;have hD:dq st.sites (a.et++us):=fR.append hz.1;have v6:eR L J X B st tm w (a.et++us) (a.fu++bs) (fun _=>False):=⟨⟨S,hD⟩,fun b h=>h.elim,fun _ _ _ _ h=>h⟩
  obtain⟨m1,m2,m3,m4,m5,UU⟩:=Kl v6 a3 e1 e2 (fun p aj=>List.mem_append.2 (.inl aj)) (fun p aj=>List.mem_append.2 (.inl aj))
  refine aaz (a:={a with as:=a.as++kS cs,et:=a.et++us,fu:=a.fu++bs}) S (az.bM g aF hg) (vs:=c.args.toList.map (Act.eval ⟨tm,[]⟩)++eU) ⟨hD,fun o bh=>?_,m2,fun av eb=>?_,?_,m4,?_,UU⟩ Y (run hv)
  ·rcases List.mem_append.1 bh with h|h
   ·exact gN o h
   ·exact hz.2 o h
  ·obtain⟨n1,_,_,_,_,_⟩:=Kl eb a3 e1 e2 (fun p aj=>List.mem_append.2 (.inl aj)) (fun p aj=>List.mem_append.2 (.inl aj))
   have n2:=Yk (hcap eb (fun p aj=>List.mem_append.2 (.inr aj)) (fun p aj=>List.mem_append.2 (.inr aj)))
   have:=n1.append n2;rwa[List.append_nil] at this
  ·show dj (a.as++kS cs) _=_;rw[JG m1.length,m3,Ym,List.append_nil]
  ·show hF B a.rows (e0 (a.as++kS cs) _);rw[Wd m1.length,XH,List.append_nil];exact m5
 unfold ls;split
 ·rename_i g bE HX;rw[HX] at bo;obtain⟨eU,h1,h2,aa⟩:=bo;split
  ·rename_i cv lY;split
   ·have hcv:eU=[]:=List.eq_nil_of_length_eq_zero (by simpa using h2)
    subst hcv;have r:=run h1;rw[List.append_nil] at r;exact Y3 S (az.kw g cv lY) e1 e2 Y r
   ·exact .fail
  ·cases vK:C.op g with
   |true=>
    simp only[cond_true];split
    ·have hcv:eU=[]:=List.eq_nil_of_length_eq_zero (by simpa using h2)
     subst hcv;have r:=run h1;rw[List.append_nil] at r;exact _0 S (az.op g vK) e1 e2 Y r
    ·exact .fail
   |false=>
    simp only[cond_false];have OA:bE=[]->(execOp (Act.eval ⟨tm,[]⟩) D).run P w=(callFunc g (c.args.toList.map (Act.eval ⟨tm,[]⟩)).toArray).run P w:=by
     rintro rfl;have hcv:eU=[]:=List.eq_nil_of_length_eq_zero (by simpa using h2)
     subst hcv;have r:=run h1;rwa[List.append_nil] at r
    cases vW:C.ha g with
    |true=>
     simp only[cond_true];split
     ·exact aaw S (az.ha g vW) e1 e2 Y (OA rfl)
     ·exact .fail
    |false=>
     simp only[cond_false];cases dh:C.bs g with
     |true=>
      simp only[cond_true];split
      ·exact Xx S (az.bs g dh) e1 e2 Y (OA rfl)
      ·exact .fail
     |false=>
      simp only[cond_false];split
      ·rename_i aF a cs us bs hg a3 hc;exact go hg a3 h1 (Ll hc) (fun eb hu hb=>Lk eb hc hu hb h2 aa)
      ·exact .fail
 ·rename_i g bE HX;rw[HX] at bo;obtain⟨eU,h1,_⟩:=j6.Ot bo;split
  ·rename_i aF a hg a3;have:=go (us:=[]) (bs:=[]) (cs:=bE) (gb:=false) hg a3 h1 ⟨.nil,fun o h=>by simp at h⟩ (fun {cL eh av} eb _ _=>by
    obtain⟨aoo,aC,ao⟩:=j6.Ot (eb.sN (bo:bj w (an X B st.sites) (.fn g bE) _));rw[h1] at aC;simp only[Value.func.injEq,Fn.func.injEq,true_and] at aC;have e:=congrArg Array.toList aC;simp only at e;rw[e];exact ao)
   simpa only[List.append_nil] using this
  ·exact .fail
 ·exact .fail
theorem aaS(S:ah L J X B st tm w){C:Ctx}(az:a9 P C)(Y:b6 st D.dst=true):Holds (step C st D) (cz P L J X st tm w D):=by
 unfold step;split
 ·rename_i x au;exact Holds.ok (ML S (.inl au) Y _)
 ·rename_i x au;exact Holds.ok (ML S (.inr au) Y _)
 ·rename_i c a b au;split
  ·rename_i hc;exact Holds.ok (MD S au Y hc)
  ·rename_i hc;exact Holds.ok (MD S au Y hc)
  ·exact .fail
 ·rename_i elem au;split
  ·rename_i o e t n db a0;exact Z1 S az.toCtxOk a0 au Y
  ·rename_i o db _;split
   ·rename_i z hz;exact Holds.e9 (aaE S az.toCtxOk au db hz Y)
   ·exact .fail
  ·exact .fail
 ·rename_i elem x au;split
  ·rename_i o e t n db a0;exact ab1 S az.toCtxOk a0 au Y
  ·rename_i o db _;split
   ·rename_i a a3;cases c':gj a.cells with
    |false=>exact .fail
    |true=>
     have bo:=cV S C elem x;rw[px a3] at bo;exact Holds.e9 (adf S au db bo c' Y)
   ·exact .fail
  ·exact .fail
 ·rename_i t parts au;split
  ·rename_i bM n z eq a0;exact aaA S az.toCtxOk a0 au Y
  ·rename_i e ty n a0;split
   ·rename_i z hz;exact ZY S az.toCtxOk a0 hz au Y
   ·exact .fail
  ·exact .fail
 ·rename_i t len parts au;split
  ·rename_i o e ty bytes db a0;cases hb:(parts.toList.length.beq len&&oE 0 parts.toList&&Nat.ble (len*ax ty) 1000) with
   |false=>exact .fail
   |true=>
    simp only[Bool.and_eq_true] at hb;obtain⟨⟨aT,aJ⟩,bR⟩:=hb;simp only[cond_true];split
    ·rename_i as has;split
     ·rename_i xs us d_;have d_:ms ty st as=some (xs,us):=by
       cases ay:(C.dQ&&ty.gW) with
       |false=>rw[ay] at d_;cases d_
       |true=>rw[ay] at d_;exact d_
      cases ay:(eJ (keys us)&&(look us o).isNone) with
      |false=>exact .fail
      |true=>
       simp only[Bool.and_eq_true] at ay;exact Holds.e9 (Vx S az.toCtxOk a0 au Y (Nat.eq_of_beq_eq_true aT) aJ (Nat.le_of_ble_eq_true bR) has d_ ((ou _).1 ay.1) (JU ay.2))
     ·split
      ·rename_i xs us d_;exact Holds.e9 (VU S az.toCtxOk a0 au db Y (Nat.eq_of_beq_eq_true aT) aJ (Nat.le_of_ble_eq_true bR) has d_)
      ·exact .fail
    ·exact .fail
  ·exact .fail
 ·rename_i t a au;split
  ·rename_i e ty n a0;exact aaa S az.toCtxOk a0 au Y
  ·cases ag:(C.tt t).known with
   |false=>exact .fail
   |true=>exact abI S az.toCtxOk au Y ag
 ·rename_i t a x au;split
  ·rename_i v hv;split
   ·rename_i e ty n a0;exact Y1 S az.toCtxOk a0 au Y hv
   ·cases ag:(C.tt t).known with
    |false=>exact .fail
    |true=>exact _u S az.toCtxOk au Y ag hv
  ·exact .fail
 ·rename_i x au;split
  ·rename_i hx;exact Holds.ok (BM S au Y hx fun vv h=>by obtain⟨b,h,_⟩:=h;exact⟨_,h⟩)
  ·rename_i hx;exact Holds.ok (BM S au Y hx fun vv h=>by obtain⟨b,D,h,_⟩:=h;exact⟨_,h⟩)
  ·rename_i hx;exact Holds.ok (BM S au Y hx fun vv h=>by obtain⟨b,h,_⟩:=h;exact⟨_,h⟩)
  ·exact .fail
 ·rename_i op t x y m8 au;cases hn:y9 y with
  |true=>exact ZR S az.toCtxOk au Y hn
  |false=>exact ab4 S az.toCtxOk au Y
 ·rename_i op t x au;split
  ·rename_i b hx;exact Holds.ok (WL S au Y hx)
  ·rename_i k n hx;exact Holds.ok (WM S au Y hx)
  ·rename_i k n hx;exact Holds.ok (WK (T:=D.type) S au Y hx)
  ·exact .fail
 ·rename_i src dst x au;split
  ·rename_i o db;exact aax S az.toCtxOk au db Y
  ·exact .fail
 ·rename_i fn first captured au
  split
  ·rename_i g;cases hf:first.toList.isEmpty with
   |false=>exact .fail
   |true=>
    simp only[cond_true];split
    ·rename_i bE hc;exact Holds.ok (W6 S au Y hf hc)
    ·exact .fail
  ·exact .fail
 ·rename_i t l c au;split
  ·rename_i o e ty bytes kn n km m db a0 hl hc;split
   ·rename_i z hz;unfold p0;split
    ·rename_i ds us ef;have ef:sinks st z=some (ds,us):=by
      cases ay:(C.dQ&&ty.gW) with
      |false=>rw[ay] at ef;cases ef
      |true=>rw[ay] at ef;exact ef
     split
     ·rename_i ea jL;cases ay:us.isEmpty with
      |false=>exact .fail
      |true=>exact Holds.e4 fun r hr=>VK S az.toCtxOk a0 au Y hl hc hz ef ay jL r hr
     ·exact .fail
    ·split
     ·rename_i ds us ef;split
      ·rename_i ea jL;exact Holds.e4 fun r hr=>Wi S az.toCtxOk a0 au db Y hl hc hz ef jL r hr
      ·exact .fail
     ·exact .fail
   ·exact .fail
  ·exact .fail
 ·rename_i t x cG hi Bq au;split
  ·split
   ·rename_i e ty n a0;exact Y5 S az.toCtxOk a0 au Y
   ·exact _A S az.toCtxOk au Y
  ·exact .fail
 ·rename_i s x f au;split
  ·rename_i bM n z eq a0;split
   ·rename_i off II hf;exact Wv S az.toCtxOk a0 au Y hf
   ·exact .fail
  ·exact .fail
 ·rename_i t x i au;split
  ·rename_i e ty bytes k n a0 hi;exact Wr S az.toCtxOk a0 hi au Y
  ·rename_i e ty m k n a0 hi;exact VP S az.toCtxOk a0 hi au Y
  ·exact .fail
 ·rename_i t x i au;split
  ·rename_i s k n a0 hx hi;exact aah S az.toCtxOk au Y a0 hx hi
  ·rename_i e ty m k n a0 hi;exact ZL S az.toCtxOk a0 hi au Y
  ·exact .fail
 ·rename_i t i au;split
  ·rename_i as hx;split
   ·rename_i a a3;exact Holds.ok (X_ S au Y hx a3)
   ·exact .fail
  ·exact .fail
 ·rename_i c au;split
  ·rename_i f hf;split
   ·exact J3 S az au hf Y _ _
   ·exact J3 S az au hf Y _ _
  ·rename_i b hb;obtain⟨callee,args,argTypes⟩:=c;simp only at hb au ⊢;subst hb;split
   ·rename_i x t jD Gd;have e1:args=#[x]:=Array.ext' jD;have e2:argTypes=#[t]:=Array.ext' Gd;subst e1 e2;exact acY S az.toCtxOk au Y
   ·rename_i o s x t u db jD Gd;have e1:args=#[s,x]:=Array.ext' jD;have e2:argTypes=#[t,u]:=Array.ext' Gd;subst e1 e2;split
    ·rename_i a0 ez;cases ay:un st (aP C st u x) with
     |true=>exact Yq S az.toCtxOk a0 ez au db Y
     |false=>exact Z0 S az.toCtxOk a0 ez au db Y
    ·rename_i a0 ez;exact Yp S az.toCtxOk a0 ez au db Y
    ·exact .fail
   ·rename_i x y jD;have e1:args=#[x,y]:=Array.ext' jD;subst e1;split
    ·rename_i hx ak;exact Holds.ok (K5 (sb:=true) S au Y hx ak)
    ·exact .fail
   ·rename_i x y z u v jD;have e1:args=#[x,y,z,u,v]:=Array.ext' jD;subst e1;split
    ·rename_i hx ak hz hu hv;exact Holds.ok (abG S au Y hx ak hz hu hv)
    ·exact .fail
   ·rename_i x y jD;have e1:args=#[x,y]:=Array.ext' jD;subst e1;split
    ·rename_i hx ak;exact Holds.ok (K5 (sb:=false) S au Y hx ak)
    ·exact .fail
   ·exact .fail
  ·exact .fail
 ·exact XZ S az.toCtxOk Y
end
section
variable {st af:ad}
theorem nm{o:Nat}(h:st.O o=af.O o)(s:Nat):rowOf st o s=rowOf af o s:=by unfold rowOf;rw[h]
theorem tq{o:Nat}(h:st.O o=af.O o)(s:Nat):ly st o s=ly af o s:=by unfold ly;rw[h]
theorem J7{o:Nat}(h:st.O o=af.O o)(s:Nat):oR st o s=oR af o s:=by unfold oR;rw[nm h,tq h]
theorem tu{o:Nat}(h:st.O o=af.O o)(s:Nat):fv st o s=fv af o s:=by unfold fv;rw[h]
theorem lp{o:Nat}(h:st.O o=af.O o):aZ st o=aZ af o:=by unfold aZ;rw[h]
abbrev cd(st af:ad)(N:List Nat):Prop:=∀o,o∈N->st.O o=af.O o
theorem cd.left{N jX:List Nat}(h:cd st af (N++jX)):cd st af N:=fun o bh=>h o (List.mem_append.2 (.inl bh))
theorem cd.right{N jX:List Nat}(h:cd st af (N++jX)):cd st af jX:=fun o bh=>h o (List.mem_append.2 (.inr bh))
theorem cd.head{n:Nat}{jX:List Nat}(h:cd st af (n::jX)):st.O n=af.O n:=h n List.mem_cons_self
theorem cd.tail{n:Nat}{jX:List Nat}(h:cd st af (n::jX)):cd st af jX:=fun o bh=>h o (List.mem_cons_of_mem _ bh)
theorem ow{N:List Nat}(h:cd st af (er st N)):cd st af N:=by
 induction N with
 |nil=>intro o bh;cases bh
 |cons n N ih=>
  intro o bh;rcases List.mem_cons.1 bh with rfl|bh
  ·exact h.head
  ·exact ih h.tail.right o bh
theorem Mc{N:List Nat}(h:cd st af (er st N)){o:Nat}(bh:o∈N):cd st af (wU st o):=by
 induction N with
 |nil=>cases bh
 |cons n N ih=>
  rcases List.mem_cons.1 bh with rfl|bh
  ·exact h.tail.left
  ·exact ih h.tail.right bh
theorem xh{N jX:List Nat}:er st (N++jX)=er st N++er st jX:=by
 induction N with
 |nil=>rfl
 |cons n N ih=>simp[er,ih]
theorem Li{l:aw}(h:cd st af l.names):jk st l=jk af l:=by
 cases l<;>try rfl
 case own o s=>simp only[jk,lO];rw[nm (h.head) s,tq h.head s,h.head]
 case clo g bE=>cases bE<;>rfl
theorem wO{U:List aw}(h:cd st af (cP U)):g5 st U=g5 af U:=by
 induction U with
 |nil=>rfl
 |cons l U ih=>
  simp only[cP] at h;simp only[g5,Li h.left,ih h.right]
theorem XC{l:aw}(h:cd st af l.names):sink st l=sink af l:=by
 cases l<;>try rfl
 case own o s=>simp only[sink];rw[h.head]
 case d v=>cases v<;>rfl
theorem BJ{U:List aw}(h:cd st af (cP U)):sinks st U=sinks af U:=by
 induction U with
 |nil=>rfl
 |cons l U ih=>
  simp only[cP] at h;simp only[sinks,XC h.left,ih h.right]
theorem BP{o s:Nat}{cells:List aw}(h:fv st o s=some cells):wU st o=cP cells:=by
 unfold fv at h;cases M:st.O o with
 |none=>rw[M] at h;cases h
 |some x=>
  rw[M] at h;cases x with
  |box am cs=>
   have h:(bif am.beq s then some cs else none)=some cells:=h
   unfold wU;rw[M];cases hb:am.beq s with
   |true=>simp only[hb,cond_true,Option.some.injEq] at h;subst h;rfl
   |false=>simp[hb] at h
  |row _ _ _=>cases h
  |cS _ _ _=>cases h
  |deep _ _ _=>cases h
  |map _ _ _=>cases h
  |dead _=>cases h
theorem W7{agg:Bool}{n:Nat}{a:aL}(h:cd st af a.names):r' agg n st a=r' agg n af a:=by
 unfold r';split
 ·rename_i o s off;rw[tu (show st.O o=af.O o from h o (by simp[aL.names,bA.cells,cP,aw.names]))]
 ·rfl
 ·rename_i o s u k off;rw[nm (show st.O o=af.O o from h o (by simp[aL.names,bA.cells,cP,aw.names]))]
 ·rfl
theorem V5{n:Nat}{a:aL}{v:bA}(h:cd st af a.names)(hv:cd st af (cP v.cells)):rC n st a v=rC n af a v:=by
 unfold rC;congr 1
 split
 ·rename_i o s off;rw[tu (show st.O o=af.O o from h o (by simp[aL.names,bA.cells,cP,aw.names]))]
 ·rename_i o s u k off;rw[show st.O o=af.O o from h o (by simp[aL.names,bA.cells,cP,aw.names]),wO hv,BJ hv]
 ·rfl
theorem Vq{u:aG}{x:aL}{i:Int}(h:cd st af x.names):qX u st x i=qX u af x i:=by
 unfold qX;split
 ·rfl
 ·rename_i o s;rw[J7 (show st.O o=af.O o from h o (by simp[aL.names,bA.cells,cP,aw.names]))]
 ·rfl
theorem V9{ti:cf}{x:aL}{cG hi:Option aL}(h:cd st af x.names):rF ti st x cG hi=rF ti af x cG hi:=by
 unfold rF;split
 ·rfl
 ·rfl
 ·rfl
 ·rename_i o s;simp only[lO];rw[nm (show st.O o=af.O o from h o (by simp[aL.names,bA.cells,cP,aw.names])),show st.O o=af.O o from h o (by simp[aL.names,bA.cells,cP,aw.names])]
 ·rfl
theorem JT{l:aw}(h:cd st af l.names):mapOf st l=mapOf af l:=by
 cases l<;>try rfl
 case own o s=>simp only[mapOf];rw[h.head]
 case d v=>cases v<;>rfl
theorem X1{ti:cf}{x:aL}(h:cd st af x.names):sy ti st x=sy ti af x:=by
 unfold sy;split<;>try rfl
 rotate_left
 ·rename_i l;rw[JT (l:=l) (fun o bh=>h o (by simp[aL.names,bA.cells,cP,bh]))]
 rename_i o s;rw[J7 (show st.O o=af.O o from h o (by simp[aL.names,bA.cells,cP,aw.names]))]
theorem WQ{x:aL}(h:cd st af x.names):rV st x=rV af x:=by
 unfold rV;split<;>try rfl
 rename_i o s;rw[nm (show st.O o=af.O o from h o (by simp[aL.names,bA.cells,cP,aw.names]))]
theorem Jg{o dst s:Nat}(Y:st.O dst=af.O dst):aZ (st.dp o (.dead s)) dst=aZ (af.dp o (.dead s)) dst:=by
 apply lp;rw[ad.mj,ad.mj,Y]
theorem Js{bytes:Nat}{t:aG}{dst:Nat}{s:aL}{ys:List (den t)}(h:cd st af s.names)(Y:st.O dst=af.O dst):pI bytes t dst st s ys=pI bytes t dst af s ys:=by
 unfold pI;split
 ·simp only[lp Y]
 ·rename_i o s;simp only[show st.O o=af.O o from h o (by simp[aL.names,bA.cells,cP,aw.names]),Jg Y]
 ·rfl
theorem VV{bytes:Nat}{t:aG}{dst:Nat}{s x:aL}(h:cd st af s.names)(hx:cd st af x.names)(Y:st.O dst=af.O dst):ry bytes t dst st s x=ry bytes t dst af s x:=by
 unfold ry;rw[WQ hx];split
 ·rfl
 ·split
  ·split
   ·exact Js h Y
   ·rfl
  ·rfl
theorem Wl{x:aL}(h:cd st af x.names):un st x=un af x:=by
 unfold un;split
 ·rename_i o s;rw[tq (show st.O o=af.O o from h o (by simp[aL.names,bA.cells,cP,aw.names]))]
 ·rfl
theorem VX{bytes:Nat}{t:aG}{dst:Nat}{s x:aL}(h:cd st af s.names)(hx:cd st af x.names)(Y:st.O dst=af.O dst):rA bytes t dst st s x=rA bytes t dst af s x:=by
 have e2:∀F u o v,aZ ((st.dp F (.dead u)).dp o (.dead v)) dst=aZ ((af.dp F (.dead u)).dp o (.dead v)) dst:=fun F u o v=>by
  apply lp;rw[ad.mj,ad.mj,ad.mj,ad.mj,Y]
 unfold rA;split
 ·rename_i F u;rw[tq (show st.O F=af.O F from hx F (by simp[aL.names,bA.cells,cP,aw.names]))]
  split
  ·split
   ·split
    ·simp only[Jg Y]
    ·rename_i _ o s;rw[tq (show st.O o=af.O o from h o (by simp[aL.names,bA.cells,cP,aw.names]))]
     simp only[e2]
    ·rfl
   ·rfl
  ·rfl
 ·rfl
theorem VW{bytes:Nat}{t:aG}{dst:Nat}{s x:aL}(h:cd st af s.names)(Y:st.O dst=af.O dst):rz bytes t dst st s x=rz bytes t dst af s x:=by
 unfold rz;split
 ·split
  ·exact Js h Y
  ·rfl
 ·rfl
theorem Kk{o:Nat}{t:aG}{n:Nat}{xs:List (den t)}(Y:st.O o=af.O o):pZ o st t n xs=pZ o af t n xs:=by
 unfold pZ;rw[lp Y]
theorem Wy{o:Nat}{t:aG}{n:Nat}(Y:st.O o=af.O o):rS o st t n=rS o af t n:=by
 unfold rS;split<;>first|exact Kk Y|rfl
theorem Yn{o:Nat}{t:aG}{n:Nat}{v:aL}(Y:st.O o=af.O o):sH o st t n v=sH o af t n v:=by
 unfold sH;split
 ·split<;>first|exact Kk Y|rfl
 ·rfl
theorem W8{t:aG}{n:Nat}{a:aL}(h:cd st af a.names):sa st t n a=sa af t n a:=by
 unfold sa;split
 ·rename_i o s u;rw[nm (show st.O o=af.O o from h o (by simp[aL.names,bA.cells,cP,aw.names]))]
 ·rfl
theorem V6{t:aG}{n:Nat}{a:aL}{v:bA}(h:cd st af a.names):rD st t n a v=rD af t n a v:=by
 unfold rD;split
 ·rename_i o s u U;rw[show st.O o=af.O o from h o (by simp[aL.names,bA.cells,cP,aw.names])]
 ·rfl
theorem Vr{C:Ctx}{t:aG}{n:Nat}{x:aL}{i:Int}(h:cd st af x.names):qY C st t n x i=qY C af t n x i:=by
 unfold qY;split
 ·rename_i o s u;rw[nm (show st.O o=af.O o from h o (by simp[aL.names,bA.cells,cP,aw.names]))]
 ·rfl
 ·rfl
theorem V_{t:aG}{n:Nat}{x:aL}{cG hi:Option aL}(h:cd st af x.names):rG st t n x cG hi=rG af t n x cG hi:=by
 unfold rG;split
 ·rename_i o s u;simp only[lO];rw[nm (show st.O o=af.O o from h o (by simp[aL.names,bA.cells,cP,aw.names])),show st.O o=af.O o from h o (by simp[aL.names,bA.cells,cP,aw.names])]
 ·rfl
theorem Yj{t:aG}{as:List bA}(h:cd st af (oy as)):k6 t st as=k6 t af as:=by
 induction as with
 |nil=>rfl
 |cons a as ih=>
  simp only[oy] at h;simp only[k6,wO h.left,ih h.right]
theorem V'{t:aG}{as:List bA}(h:cd st af (oy as)):ms t st as=ms t af as:=by
 induction as with
 |nil=>rfl
 |cons a as ih=>
  simp only[oy] at h;simp only[ms,BJ h.left,ih h.right]
theorem Xh{C:Ctx}{src dst:TypeId}{o:Nat}{x:aL}(h:cd st af x.names)(Y:st.O o=af.O o):si C src dst o st x=si C src dst o af x:=by
 unfold si;split<;>try rfl
 ·rename_i F s _ _;rw[nm (show st.O F=af.O F from h F (by simp[aL.names,bA.cells,cP,aw.names]))]
 ·rw[lp Y]
theorem JF{bE:List (Nat×Nat)}(h:cd st af (er st (keys bE))):kV st bE=kV af bE:=by
 induction bE with
 |nil=>rfl
 |cons p bE ih=>
  obtain⟨o,s⟩:=p;simp only[keys,er] at h;simp only[kV];rw[<-tu h.head,<-ih h.tail.right];cases hb:fv st o s with
  |none=>rfl
  |some cells=>
   have:=h.tail.left;rw[BP hb] at this;simp only[wO this]
theorem BT{l:aw}(h:cd st af (er st l.names)):mL st l=mL af l:=by
 have Y:=Li (ow h);unfold mL;split
 ·rfl
 ·rename_i g c cs;simp only[aw.names] at h;rw[JF h]
 ·rw[Y]
theorem W9{U:List aw}(h:cd st af (er st (cP U))):lB st U=lB af U:=by
 induction U with
 |nil=>rfl
 |cons l U ih=>
  simp only[cP,xh] at h;simp only[lB,BT h.left,ih h.right]
theorem JX{l:aw}(h:cd st af l.names):mH st l=mH af l:=by
 unfold mH;split<;>try rfl
 rename_i o s;rw[show st.O o=af.O o from h.head]
theorem X6{U:List aw}(h:cd st af (cP U)):jG st U=jG af U:=by
 induction U with
 |nil=>rfl
 |cons l U ih=>
  simp only[cP] at h;simp only[jG,JX h.left,ih h.right]
def gz:List aL->List Nat
 |[]=>[]
 |v::vs=>v.names++gz vs
theorem JB{vs:List aL}(h:cd st af (er st (gz vs))):iu st vs=iu af vs:=by
 induction vs with
 |nil=>rfl
 |cons v vs ih=>
  simp only[gz,xh] at h;have ih:=ih h.right;have h:=h.left;cases v with
  |je as=>rfl
  |av a=>
   cases a with
   |agg U=>
    simp only[iu];rw[W9 (by simpa[aL.names,bA.cells] using h),ih]
   |ai l=>
    have hl:cd st af (er st l.names):=by simpa[aL.names,bA.cells,cP] using h
    unfold iu;split
    ·rfl
    ·rename_i o s aiI bV;cases bV;have hl:cd st af (er st [o]):=by simpa[aL.names,bA.cells,cP,aw.names] using h
     simp only[er] at hl;rw[<-tu hl.head,<-ih];cases hb:fv st o s with
     |none=>rfl
     |some cells=>
      have:=hl.tail.left;rw[BP hb] at this;cases iu st vs with
      |none=>rfl
      |some r=>simp only[X6 this]
    ·rename_i fo aiI _ bV;cases bV;rw[BT hl,ih]
    ·rename_i bV;cases bV
    ·rfl
theorem JE{l:aw}(h:cd st af (er st l.names)):lx st l=lx af l:=by
 unfold lx;split
 ·rw[JX (ow h)]
 ·rfl
 ·rw[BT h]
theorem VS{U:List aw}(h:cd st af (er st (cP U))):lv st U=lv af U:=by
 induction U with
 |nil=>rfl
 |cons l U ih=>
  simp only[cP,xh] at h;simp only[lv,JE h.left,ih h.right]
theorem Xa{l:aw}(h:cd st af l.names):k0 st l=k0 af l:=by
 unfold k0;split<;>try rfl
 rename_i o s;rw[show st.O o=af.O o from h.head]
theorem JR{U dm:List aw}(h:cd st af (cP U)):nG st U dm=nG af U dm:=by
 unfold nG;have:U.map (k0 st)=U.map (k0 af):=by
  induction U with
  |nil=>rfl
  |cons l U ih=>
   simp only[cP] at h;simp only[List.map_cons,Xa h.left,ih h.right]
 rw[this]
theorem VJ{vs:List aL}(h:cd st af (er st (gz vs))):jZ st vs=jZ af vs:=by
 induction vs with
 |nil=>rfl
 |cons v vs ih=>
  simp only[gz,xh] at h;have ih:=ih h.right;have h:=h.left;cases v with
  |je as=>rfl
  |av a=>
   cases a with
   |agg U=>
    have hl:cd st af (er st (cP U)):=by simpa[aL.names,bA.cells] using h
    simp only[jZ,VS hl,ih,JR (ow hl)]
   |ai l=>
    have hl:cd st af (er st l.names):=by simpa[aL.names,bA.cells,cP] using h
    have l1:cd st af (cP [l]):=by simpa[cP] using ow hl
    simp only[jZ,JE hl,ih,JR l1]
theorem VI{b:Bool}{vs:List aL}(h:cd st af (er st (gz vs))):rk b st vs=rk b af vs:=by
 cases b
 ·exact JB h
 ·exact VJ h
theorem tr(hb:∀o,1000000<=o->st.O o=af.O o){o:Nat}(h:1000000<=o):aZ st o=aZ af o:=lp (hb o h)
theorem BR(hb:∀o,1000000<=o->st.O o=af.O o):∀{U:List aw} {n:Nat},1000000<=n->take st n U=take af n U:=by
 intro U;induction U with
 |nil=>intro n _;rfl
 |cons l U ih=>
  intro n hn;cases l<;>simp only[take,ih (show 1000000<=n+1 by omega),tr hb hn]
theorem WO(hb:∀o,1000000<=o->st.O o=af.O o):∀{as:List bA} {n:Nat},1000000<=n->dG st n as=dG af n as:=by
 intro as;induction as with
 |nil=>intro n _;rfl
 |cons a as ih=>
  intro n hn;cases a with
  |ai l=>simp only[dG];rw[BR hb hn,ih (show 1000000<=n+100 by omega)]
  |agg U=>simp only[dG];rw[BR hb hn,ih (show 1000000<=n+100 by omega)]
theorem WN(hb:∀o,1000000<=o->st.O o=af.O o):∀{bs:List (Nat×Nat)} {ct:List (List aw)},eZ st bs ct=eZ af bs ct:=by
 intro bs;induction bs with
 |nil=>intro ct;cases ct<;>rfl
 |cons p bs ih=>
  obtain⟨o,s⟩:=p;intro ct;cases ct with
  |nil=>rfl
  |cons cs ct=>simp only[eZ];rw[BR hb (by omega),ih]
theorem J2(hb:∀o,1000000<=o->st.O o=af.O o){dst:Nat}{S:aU}{a:jJ}:oQ dst st S a=oQ dst af S a:=by
 unfold oQ;simp only[WN hb,WO hb (show 1000000<=2000000+dst*10000 by omega)]
theorem V7{g:FuncId}{n:Nat}{vs:List aL}(hb:∀o,1000000<=o->st.O o=af.O o)(hn:1000000<=n):rE g n st vs=rE g n af vs:=by
 unfold rE;rw[tr hb hn,tr hb (show 1000000<=n+1 by omega),tr hb (show 1000000<=n+2 by omega)]
theorem W0{n:Nat}{vs:List aL}(hb:∀o,1000000<=o->st.O o=af.O o)(hn:1000000<=n):rY n st vs=rY n af vs:=by
 unfold rY;rw[tr hb hn]
theorem Xg{vs:List aL}(h:cd st af (er st (gz vs))):copyV st vs=copyV af vs:=by
 unfold copyV;split
 ·rename_i o s;rw[show st.O o=af.O o from ow h o (by simp[gz,aL.names,bA.cells,cP,aw.names])]
 ·rfl
theorem VD{vs:List aL}(h:cd st af (er st (gz vs))):rf st vs=rf af vs:=by
 unfold rf;split
 ·rename_i o s;have h0:o∈gz [aL.av (.ai (.ptr o s 0))]:=by simp[gz,aL.names,bA.cells,cP,aw.names]
  rw[<-tu (ow h o h0)];split
  ·rfl
  ·rename_i UV F u hb;have:=Mc h h0;rw[BP hb] at this;rw[show st.O F=af.O F from this F (by simp[cP,aw.names])]
  ·rfl
 ·rfl
theorem Jn{C:Ctx}(hb:∀o,1000000<=o->st.O o=af.O o){dst:Nat}{f:aL}{vs:List aL}(hf:cd st af (er st f.names))(h:cd st af (er st (gz vs))):ls C dst st f vs=ls C dst af f vs:=by
 unfold ls;split
 ·rename_i g bE;have:cd st af (er st (keys bE)):=by simpa[aL.names,bA.cells,cP,aw.names] using hf
  simp only[VI h,JF this,J2 hb,V7 hb (show 1000000<=3000000+dst*10 by omega),W0 hb (show 1000000<=4000000+dst by omega),Xg h,VD h]
 ·simp only[JB h,J2 hb]
 ·rfl
theorem aan{C:Ctx}{x:Operand}{T:TypeId}(h:∀t,x=.tmp t->st.get t=af.get t):aP C st T x=aP C af T x:=by
 cases x with
 |tmp t=>exact h t rfl
 |_=>rfl
theorem VT{ti:cf}{v:Value}:(uf ti v).names=[]:=by
 unfold uf;split<;>try rfl
 all_goals(split<;>rfl)
theorem xz{C:Ctx}{x:Operand}{T:TypeId}:∀{xs:List Operand},x∈xs->∀o,o∈(aP C st T x).names->o∈nz st xs:=by
 intro xs;induction xs with
 |nil=>intro h;cases h
 |cons y xs ih=>
  intro h o bh;rcases List.mem_cons.1 h with rfl|h
  ·cases x with
   |tmp t=>simp only[nz];exact List.mem_append.2 (.inl bh)
   |const v=>simp only[aP,VT] at bh;cases bh
   |global g=>simp[aP,aL.names,bA.cells,cP,aw.names,bP] at bh
   |func g=>simp[aP,aL.names,bA.cells,cP,aw.names,bP,keys] at bh
  ·have:=ih h o bh;cases y<;>simp only[nz]<;>first|exact List.mem_append.2 (.inr this)|exact this
theorem W2{t:Nat}:∀{xs:List Operand},.tmp t∈xs->t∈oB xs:=by
 intro xs;induction xs with
 |nil=>intro h;cases h
 |cons y xs ih=>
  intro h;rcases List.mem_cons.1 h with h|h
  ·subst h;simp only[oB];exact List.mem_cons_self
  ·have:=ih h;cases y<;>simp only[oB]<;>first|exact List.mem_cons_of_mem _ this|exact this
theorem Kw{v:aL}{a:bA}(h:lR v=some a):cP a.cells=v.names:=by
 cases v with
 |av b=>simp only[lR,Option.some.injEq] at h;subst h;rfl
 |je _=>cases h
theorem J5{vs:List aL}:∀{as:List bA},mI vs=some as->∀o,o∈oy as->o∈gz vs:=by
 induction vs with
 |nil=>intro as h;simp only[mI,Option.some.injEq] at h;subst h;intro o bh;cases bh
 |cons v vs ih=>
  intro as h o bh;simp only[mI] at h;split at h
  ·rename_i a jm h1 h2;simp only[Option.some.injEq] at h;subst h;simp only[oy,List.mem_append] at bh;simp only[gz,List.mem_append];rcases bh with bh|bh
   ·exact .inl (by rw[Kw h1] at bh;exact bh)
   ·exact .inr (ih h2 o bh)
  ·cases h
end
theorem Xz{C:Ctx}{st af:ad}{D:Oper}(M:∀t,t∈oB (kW D.op)->st.get t=af.get t)(hn:cd st af (FA C st D))(hb:y_ D.op=true->∀o,1000000<=o->st.O o=af.O o):
  step C st D=step C af D:=by
 have he:∀x,x∈kW D.op->∀T,aP C st T x=aP C af T x:=fun x hx T=>aan fun t aE=>M t (W2 (aE▸hx))
 have QO:looks D.op=true->cd st af (er st (nz st (kW D.op))):=fun h=>by have:=hn.left.left;rw[h] at this;exact this
 have QH:looks D.op=true->∀x,x∈kW D.op->∀T,cd st af (aP C st T x).names:=fun hl x hx T o bh=>ow (QO hl) o (xz hx o bh)
 have NP:looks D.op=true->∀N:List Nat,(∀o,o∈N->o∈nz st (kW D.op))->cd st af (er st N):=by
  intro hl N;have vV:=QO hl;induction N with
  |nil=>intro _ o bh;cases bh
  |cons n N ih=>
   intro h o bh;simp only[er,List.mem_cons,List.mem_append] at bh;rcases bh with rfl|bh|bh
   ·exact ow vV o (h o List.mem_cons_self)
   ·exact Mc vV (h n List.mem_cons_self) o bh
   ·exact ih (fun F bB=>h F (List.mem_cons_of_mem _ bB)) o bh
 have Y:∀d,D.dst=some d->st.O d=af.O d:=fun d h=>hn.left.right d (by simp[h])
 have hz:cd st af (Fh C D.op):=hn.right;obtain⟨dst,op,type,pos,after,guard⟩:=D;simp only at he QH NP Y hb hz;cases op<;>(try have fN:=QH rfl)<;>(try have kZ:=NP rfl)<;>(try simp only[kW,List.mem_cons,List.not_mem_nil,or_false,forall_eq_or_imp,forall_eq] at he)<;>
  (try simp only[kW,List.mem_cons,List.not_mem_nil,or_false,forall_eq_or_imp,forall_eq] at fN)<;>simp only[step]<;>try rfl
 case move x=>rw[he]
 case assign x=>rw[he]
 case makeMap t r=>
  simp only[kQ];cases dst with
  |none=>rfl
  |some o=>
   have e:=lp (Y o rfl);cases C.tt t<;>try rfl
   cases r with
   |none=>simp only[e]
   |some x=>simp only[he x (by simp[kW]),e]
 case lookup t m k c=>
  simp only[kQ];rw[he.1,he.2];have h1:=fN.1 t;rw[he.1] at h1;generalize aP C af t m=UO at h1 ⊢;split
  ·rename_i l n _ _;rw[JT (l:=l) (fun o bh=>h1 o (by simp[aL.names,bA.cells,cP,bh]))]
  ·rfl
 case mapUpdate t m k x=>
  simp only[kQ,kQ.rK];rw[he.1,he.2.1,he.2.2];have h1:=fN.1 t;rw[he.1] at h1;generalize aP C af t m=UO at h1 ⊢;split
  ·rename_i o s n d _ _ _;rw[show st.O o=af.O o from h1 o (by simp[aL.names,bA.cells,cP,aw.names])]
  ·rfl
 case insert t m k x=>
  simp only[kQ,kQ.rK];rw[he.1,he.2.1,he.2.2];have h1:=fN.1 t;rw[he.1] at h1;generalize aP C af t m=UO at h1 ⊢;split
  ·rename_i o s n d _ _ _;rw[show st.O o=af.O o from h1 o (by simp[aL.names,bA.cells,cP,aw.names])]
  ·rfl
 case pick c a b=>rw[he.1,he.2.1,he.2.2]
 case alloc elem=>
  cases dst with
  |none=>rfl
  |some o=>
   have e:=lp (Y o rfl);cases a0:C.tt elem with
   |arr _ t n=>exact Wy (Y o rfl)
   |_=>simp only[e]
 case box elem x=>
  rw[he];cases dst with
  |none=>rfl
  |some o=>
   have e:=lp (Y o rfl);cases a0:C.tt elem with
   |arr _ t n=>exact Yn (Y o rfl)
   |_=>simp only[e]
 case build t ps=>
  have go:∀(bM:List (Nat×Nat)) (r:List (Nat×Operand)) (z:List aw),(∀x,x∈r.map (·.2)->∀T,aP C st T x=aP C af T x)->step.mB C st bM z r=step.mB C af bM z r:=by
    intro bM r;induction r with
    |nil=>intro z _;rfl
    |cons p r ih=>
     obtain⟨i,x⟩:=p;intro z h;simp only[step.mB];rw[h x (by simp)]
     split
     ·rw[ih _ fun x hx=>h x (by simp only[List.map_cons,List.mem_cons];exact .inr hx)]
     ·rfl
  split
  ·exact go _ _ _ he
  ·split
   ·exact go _ _ _ he
   ·rfl
  ·rfl
 case buildSlice t len ps=>
  cases dst with
  |none=>rfl
  |some o=>
   cases h2:C.tt t<;>try rfl
   rename_i e ty bytes;simp only;have h1:some o=some o:=rfl;have em:(ps.toList.map fun p=>aP C st e p.2)=ps.toList.map fun p=>aP C af e p.2:=by
    apply List.map_congr_left;intro p aj;exact he _ (List.mem_map.2 ⟨p,aj,rfl⟩) e
   have hT:cd st af (gz (ps.toList.map fun p=>aP C st e p.2)):=by
    have:∀l:List (Nat×Operand),(∀p,p∈l->p∈ps.toList)->cd st af (gz (l.map fun p=>aP C st e p.2)):=by
     intro l;induction l with
     |nil=>intro _ o bh;cases bh
     |cons p l ih=>
      intro h o bh;simp only[List.map_cons,gz,List.mem_append] at bh;rcases bh with bh|bh
      ·exact fN _ (List.mem_map.2 ⟨p,h p List.mem_cons_self,rfl⟩) e o bh
      ·exact ih (fun q ay=>h q (List.mem_cons_of_mem _ ay)) o bh
    exact this _ fun _ h=>h
   rw[<-em,lp (Y o h1)];congr 1
   split
   ·rename_i as has;rw[Yj fun F bB=>hT F (J5 has F bB),V' fun F bB=>hT F (J5 has F bB)]
   ·rfl
 case load t a=>
  rw[<-he];split
  ·exact W8 (fN _)
  ·rw[W7 (fN _)]
 case store t a x=>
  rw[<-he.1,<-he.2];split
  ·rename_i v hv;split
   ·exact V6 (fN.1 _)
   ·rw[V5 (fN.1 _) (by rw[Kw hv];exact fN.2 _)]
  ·rfl
 case nilCheck x=>rw[he]
 case makeInterface t x=>simp only[kQ];rw[he]
 case binOp op t x y ty=>rw[he.1,he.2]
 case unOp op t x=>rw[he]
 case convert src apa x=>
  cases dst with
  |none=>rfl
  |some o=>simp only;rw[<-he,Xh (fN _) (Y o rfl)]
 case makeFunc fn first captured=>
  split
  ·rename_i g;have go:∀(r:List Operand),(∀x,x∈r->∀T,aP C st T x=aP C af T x)->step.nI C st r=step.nI C af r:=by
    intro r;induction r with
    |nil=>intro _;rfl
    |cons x r ih=>
     intro h;simp only[step.nI];rw[h x (by simp),ih fun x hx=>h x (List.mem_cons_of_mem _ hx)]
   rw[go _ he]
  ·rfl
 case makeSlice t l c=>
  rw[<-he.1,<-he.2];cases dst with
  |none=>rfl
  |some o=>
   cases h2:C.tt t<;>try rfl
   rename_i e ty bytes;simp only[Fh,h2] at hz;have e1:=lp (Y o rfl);have e2:∀z n m,(C.tt e).zero=some z->p0 C.dQ bytes o st ty n m z=p0 C.dQ bytes o af ty n m z:=fun z n m hzz=>by
    simp only[hzz] at hz;unfold p0;rw[wO hz,BJ hz,e1]
   generalize aP C st 0 l=qG;generalize aP C st 0 c=jS;have c_:∀n m:Int,(match(C.tt e).zero with
      |some z=>p0 C.dQ bytes o st ty n m z
      |none=>.fail)=(match(C.tt e).zero with
      |some z=>p0 C.dQ bytes o af ty n m z
      |none=>.fail):=by
    intro n m;cases hzz:(C.tt e).zero with
    |none=>rfl
    |some z=>exact e2 z n m hzz
   rcases qG with(cY|_)|_<;>try rfl
   cases cY<;>try rfl
   rename_i d1;cases d1<;>try rfl
   rcases jS with(gh|_)|_<;>try rfl
   cases gh<;>try rfl
   rename_i d2;cases d2<;>try rfl
   exact c_ _ _
 case slice t x cG hi Bq=>
  cases Bq with
  |some _=>rfl
  |none=>
   simp only;have e1:cG.map (aP C st 0)=cG.map (aP C af 0):=by
    cases cG with
    |none=>rfl
    |some y=>simp only[Option.map_some];rw[he.2 y (by simp)]
   have e2:hi.map (aP C st 0)=hi.map (aP C af 0):=by
    cases hi with
    |none=>rfl
    |some y=>simp only[Option.map_some];rw[he.2 y (by simp)]
   rw[<-he.1,e1,e2];split
   ·exact V_ (fN.1 _)
   ·exact V9 (fN.1 _)
 case fieldAddr s x f=>rw[he]
 case indexAddr t x i=>
  rw[<-he.1,<-he.2];split
  ·rw[Vq (fN.1 _)]
  ·rw[Vr (fN.1 _)]
  ·rfl
 case index t x i=>rw[he.1,he.2]
 case extract t i=>rw[he]
 case call c=>
  obtain⟨akX,args,Hj⟩:=c;simp only;cases akX with
  |invoke r m=>rfl
  |value f=>
   simp only[kW,List.mem_append,List.mem_cons,List.not_mem_nil,or_false] at kZ;simp only[y_,forall_const] at hb;simp only[List.mem_append,List.mem_cons,List.not_mem_nil,or_false] at he;have em:∀(xs:List Operand) (cK:List TypeId),(∀x,x∈xs->∀T,aP C st T x=aP C af T x)->gf C st xs cK=gf C af xs cK:=by
    intro xs;induction xs with
    |nil=>intro cK _;cases cK<;>rfl
    |cons x xs ih=>
     intro cK h;cases cK with
     |nil=>simp only[gf];rw[h x (by simp),ih [] fun y ak=>h y (List.mem_cons_of_mem _ ak)]
     |cons T cK=>simp only[gf];rw[h x (by simp),ih cK fun y ak=>h y (List.mem_cons_of_mem _ ak)]
   have IV:∀(xs ys:List Operand) (cK:List TypeId),(∀x,x∈xs->x∈ys)->∀o,o∈gz (gf C st xs cK)->o∈nz st ys:=by
    intro xs ys;induction xs with
    |nil=>intro cK _ o bh;cases cK<;>cases bh
    |cons x xs ih=>
     intro cK h o bh;cases cK with
     |nil=>
      simp only[gf,gz,List.mem_append] at bh;rcases bh with bh|bh
      ·exact xz (h x List.mem_cons_self) o bh
      ·exact ih [] (fun y ak=>h y (List.mem_cons_of_mem _ ak)) o bh
     |cons T cK=>
      simp only[gf,gz,List.mem_append] at bh;rcases bh with bh|bh
      ·exact xz (h x List.mem_cons_self) o bh
      ·exact ih cK (fun y ak=>h y (List.mem_cons_of_mem _ ak)) o bh
   have h1:cd st af (er st (aP C st 0 f).names):=kZ _ fun o bh=>xz (List.mem_append.2 (.inl (by simp))) o bh
   have h2:cd st af (er st (gz (gf C st args.toList Hj.toList))):=kZ _ fun o bh=>IV _ _ _ (fun x hx=>List.mem_append.2 (.inr hx)) o bh
   have aa:=he f (.inl rfl) 0;have aH:=em args.toList Hj.toList fun x hx=>he x (.inr hx)
   cases dst with
   |none=>show ls C 0 st _ _=ls C 0 af _ _;rw[<-aa,<-aH];exact Jn hb h1 h2
   |some d=>show ls C d st _ _=ls C d af _ _;rw[<-aa,<-aH];exact Jn hb h1 h2
  |builtin b=>
   simp only[List.nil_append] at he fN;generalize args.toList=xs at he fN;generalize Hj.toList=cX;cases b<;>try rfl
   case append=>
    rcases dst with _|o
    ·rfl
    rcases xs with _|⟨s,_|⟨x,_|_⟩⟩<;>try rfl
    rcases cX with _|⟨t,_|⟨u,_|_⟩⟩<;>try rfl
    have e1:=he s (by simp) t
    have e2:=he x (by simp) u
    dsimp only;cases C.tt t<;>try rfl
    cases C.tt u<;>try rfl
    all_goals dsimp only
    all_goals rw[<-e1,<-e2]
    all_goals first|(rw[Wl (fN x (by simp) _),VX (fN s (by simp) _) (fN x (by simp) _) (Y o rfl),VV (fN s (by simp) _) (fN x (by simp) _) (Y o rfl)];done)|exact VW (fN s (by simp) _) (Y o rfl)
   case len=>
    rcases xs with _|⟨s,_|⟨x,_|_⟩⟩<;>try rfl
    rcases cX with _|⟨t,_|⟨u,_|_⟩⟩<;>try rfl
    have e1:=he s (by simp) t
    dsimp only;rw[<-e1];exact X1 (fN s (by simp) _)
   case max=>
    rcases xs with _|⟨s,_|⟨x,_|⟨z,_|⟨u,_|⟨v,_|_⟩⟩⟩⟩⟩<;>try rfl
    ·have e1:=he s (by simp) type
     have e2:=he x (by simp) type
     dsimp only;rw[<-e1,<-e2]
    ·have e1:=he s (by simp) type
     have e2:=he x (by simp) type
     have bK:=he z (by simp) type
     have c_:=he u (by simp) type
     have fh:=he v (by simp) type
     dsimp only;rw[<-e1,<-e2,<-bK,<-c_,<-fh]
   case min=>
    rcases xs with _|⟨s,_|⟨x,_|_⟩⟩<;>try rfl
    have e1:=he s (by simp) type
    have e2:=he x (by simp) type
    dsimp only;rw[<-e1,<-e2]
section
variable {P:Program}{L:World}{J:List Nat}{X:Nat->Prop}{B:Nat->Value}{st:ad}{tm:Array Value}{w:World}{D:Oper}
structure pN(w:World)(av:Nat->Prop)(B:Nat->Value)(o:Nat)(t:aG)(xs:List (den t))(k off:Nat)(x:den t)(u:aG)(ys:List (den u))(e:TypeId)(v0 nv:Value)(n1 n2 c1 c2:List Value):Prop where
 th:B o=.tuple (v0::(n1++nv::n2)).toArray
 IK:(bI (B o)).Nodup
 row:rowAt w t.en e (ax t) v0 xs.length (c1++nv::c2)
 len:c1.length=k*ax t+off
 d1:Deep w av (flat t (xs.take k)++(enc t x).take off) c1 n1
 mid:∃b4 U,(∀d,d∈flat u ys->d.plain=true)/\rowAt w u.en b4 (ax u) nv ys.length U/\ch w av (flat u ys) U
 d2:Deep w av ((enc t x).drop (off+1)++flat t (xs.drop (k+1))) c2 n2
theorem ah.acX(S:ah L J X B st tm w){o s k off:Nat}{t u:aG}{xs:List (den t)}{x:den t}{ys:List (den u)}(hl:look st.sites o=some (.deep s t xs))(hx:xs[k]? =some x)(hu:(enc t x)[off]? =some (.sl u ys)):
  ∃e v0 nv n1 n2 c1 c2,pN w (an X B st.sites) B o t xs k off x u ys e v0 nv n1 n2 c1 c2:=by
 obtain⟨e,v0,aA,cs,h0,dn,cJ,kZ⟩:=S.sites o _ hl;have ag:k<xs.length:=(List.getElem?_eq_some_iff.1 hx).1;have au:off<(enc t x).length:=(List.getElem?_eq_some_iff.1 hu).1;rw[fc] at au;obtain⟨d0,AZ,nR⟩:=NU (x:=x) au;rw[hu] at AZ;cases AZ;have mX:flat t xs=(flat t (xs.take k)++(enc t x).take off)++(.sl u ys::((enc t x).drop (off+1)++flat t (xs.drop (k+1)))):=by
  rw[C_ t hx];conv=>lhs;rw[nR]
  simp only[List.append_assoc,List.cons_append]
 rw[mX] at kZ;obtain⟨c1,TQ,n1,g7,rfl,rfl,d1,d23⟩:=kZ.inv;have cY:c1.length=k*ax t+off:=by
  rw[d1.len,List.length_append,dR,List.length_take,List.length_take,fc,Nat.min_eq_left (Nat.le_of_lt ag),Nat.min_eq_left (Nat.le_of_lt au)]
 cases d23 with
 |row bF mP b4 U aj h hr k'=>exact⟨e,v0,_,n1,_,c1,_,h0,dn,cJ,cY,d1,⟨b4,U,aj,h,hr⟩,k'⟩
 |leaf aj h k'=>cases aj
theorem pN.agO{av:Nat->Prop}{o:Nat}{t:aG}{xs:List (den t)}{k off:Nat}{x:den t}{u:aG}{ys:List (den u)}{e:TypeId}{v0 nv:Value}{n1 n2 c1 c2:List Value}(N:pN w av B o t xs k off x u ys e v0 nv n1 n2 c1 c2):
  (∀b,a7 nv=some b->b∈bI (B o))/\(∀b,a7 v0=some b->a7 nv≠some b)/\(∀n,n∈n1->∀b,a7 n=some b->a7 nv≠some b)/\∀n,n∈n2->∀b,a7 n=some b->a7 nv≠some b:=by
 have dn:=N.IK;rw[N.th] at dn;simp only[bI,List.flatMap_cons,List.flatMap_append] at dn;obtain⟨a1,a2,fr⟩:=List.nodup_append.1 dn;obtain⟨aT,aJ,bR⟩:=List.nodup_append.1 a2;obtain⟨aoQ,aoP,c3⟩:=List.nodup_append.1 aJ;refine⟨fun b hb=>by rw[N.th];exact iq.2 (.inr ⟨nv,by simp,hb⟩),fun b hb hn=>?_,fun n hn b hb hv=>?_,fun n hn b hb hv=>?_⟩
 ·exact fr b (by rw[hb];simp) b (List.mem_append.2 (.inr (List.mem_append.2 (.inl (by rw[hn];simp))))) rfl
 ·exact bR b (List.mem_flatMap.2 ⟨n,hn,by rw[hb];simp⟩) b (List.mem_append.2 (.inl (by rw[hv];simp))) rfl
 ·exact c3 b (by rw[hv];simp) b (List.mem_flatMap.2 ⟨n,hn,by rw[hb];simp⟩) rfl
theorem Ko{C:Ctx}{D:Oper}{dQ:Nat}{v:aL}(h:um C st D=some (dQ,v)):∃x,D.op=.move x/\D.dst=some dQ/\D.guard=none/\Nat.blt dQ st.nt=true/\v=aP C st D.type x:=by
 unfold um at h;split at h
 ·rename_i x d au Y hg;cases hb:Nat.blt d st.nt with
  |false=>rw[hb] at h;cases h
  |true=>
   rw[hb] at h;cases h;exact⟨x,au,Y,hg,hb,rfl⟩
 ·cases h
theorem Ce{C:Ctx}{o1 fg o2:Oper}{q:pX}(h:r4 C st o1 fg o2=some q):∃T a e jp aT c g x,o1.op=.load T a/\o1.dst=some q.d1/\o1.guard=none/\o2.op=.call c/\o2.guard=none/\C.tt T=.slice e jp aT/\aP C st T a=.av (.ai (.ek q.o q.s q.t q.k q.off))/\
  st.O q.o=some (.deep q.s q.t q.xs)/\c.callee=.value (.func g)/\c.args.toList=[.tmp q.d1,x]/\C.bM g=some q.S/\aP C (st.nL q) 0 x=.av (.ai (.d (.int q.i q.n)))/\Nat.blt q.d1 st.nt=true/\
  um C (st.set q.d1 (bP .any)) fg=some (q.dQ,q.v)/\q.dQ≠q.d1:=by
 unfold r4 at h;split at h
 ·rename_i T a d1 c AP ji gu kk pc;split at h
  ·rename_i o s u k off a3;split at h
   ·rename_i am t xs g d2 x M hc jD;split at h
    ·rename_i dQ v hm;split at h
     ·rename_i e jp aT i n S a0 hx gS;cases hb:(d2.beq d1&&am.beq s&&decide (t=u)&&Nat.blt d1 st.nt&&!dQ.beq d1) with
      |false=>rw[hb] at h;cases h
      |true=>
       rw[hb] at h;simp only[cond_true,Option.some.injEq] at h;simp only[Bool.and_eq_true,decide_eq_true_eq,Bool.not_eq_true'] at hb;obtain⟨⟨⟨⟨q1,q2⟩,dC⟩,mb⟩,qJ⟩:=hb;have q1:=Nat.eq_of_beq_eq_true q1;have q2:=Nat.eq_of_beq_eq_true q2;subst q1 q2 dC h;exact⟨T,a,e,jp,aT,c,g,x,AP,ji,gu,kk,pc,a0,a3,M,hc,jD,gS,hx,mb,hm,fun e=>by
        have e:dQ=_:=e;subst e;rw[Nat.beq_refl] at qJ;cases qJ⟩
     ·cases h
    ·cases h
   ·cases h
  ·cases h
 ·cases h
theorem abF(S:ah L J X B st tm w){C:Ctx}{fg:Oper}{dQ:Nat}{v:aL}(h:um C st fg=some (dQ,v)){K:Act->World->Prop}{Q:Exit->Act->World->Prop}
  (bC:∀dl,ah L J X B (st.set dQ v) dl w->(∀t,t≠dQ->dl.getD t undef=tm.getD t undef)->K ⟨dl,[]⟩ w):fg.wp P ⟨tm,[]⟩ w K Q:=by
 obtain⟨x,au,Y,hg,aX,rfl⟩:=Ko h;refine mr (vv:=Act.eval ⟨tm,[]⟩ x) ?_ (bC _ ?_ fun t aE=>?_)
 ·unfold execOp;simp only[au,Sem.run_bind,Sem.run_pure]
 ·have l7:b6 st fg.dst=true:=by rw[Y];exact aX
  have:=ah.cu (us:=[]) S l7 (cV S C fg.type x);rw[Y] at this ⊢;exact this
 ·rw[Y];have:dQ≠t:=fun e=>aE e.symm
  simp[cl,Array.getD_eq_getD_getElem?,Array.getElem?_setIfInBounds_ne this]
theorem _2(S:ah L J X B st tm w){C:Ctx}(az:a9 P C){o1 fg o2:Oper}{q:pX}(ay:r4 C st o1 fg o2=some q){x:den q.t}(hx:q.xs[q.k]? =some x){u:aG}{ys:List (den u)}(hu:(enc q.t x)[q.off]? =some (.sl u ys))
  {K:Act->World->Prop} {Q:Exit->Act->World->Prop}
  (bC:∀dl,ah L J X B (st.set q.d1 (bP .any)) dl w->(∀t,t≠q.d1->dl.getD t undef=tm.getD t undef)->(∃e v0 n1 n2 c1 c2,pN w (an X B st.sites) B q.o q.t q.xs q.k q.off x u ys e v0 (dl.getD q.d1 undef) n1 n2 c1 c2)->K ⟨dl,[]⟩ w):o1.wp P ⟨tm,[]⟩ w K Q:=by
 obtain⟨T,a,mf,jp,aT,c,g,jS,AP,ji,gu,kk,pc,a0,a3,M,hc,jD,gS,HB,aX,qq,hne⟩:=Ce ay;have hl:look st.sites q.o=some (.deep q.s q.t q.xs):=M;obtain⟨e,v0,nv,n1,n2,c1,c2,N⟩:=S.acX hl hx hu;have bo:=cV S C T a;rw[a3] at bo;obtain⟨b,hv,hr⟩:=bo;obtain⟨n,ana,bW⟩:=Ref.at hr hl rfl;rw[N.th] at bW;replace bW:v0=.slice (some ⟨b,0,none⟩) n ana:=bW
 have iX:w.cell? ⟨b,q.k*ax q.t+q.off,none⟩=some nv:=by
  rcases N.row.2 with⟨h,_⟩|⟨cv,cap,cur,bG,h1,_,h2,_,_,_,aa⟩
  ·rw[h] at bW;cases bW
  ·rw[h1] at bW;cases bW;rw[cell_of_row w b _ cur e bG h2];have:(cur.toList.take (q.xs.length*ax q.t))[q.k*ax q.t+q.off]? =some nv:=by
    rw[aa,List.getElem?_append_right (by rw[N.len];exact Nat.le_refl _),N.len,Nat.sub_self]
    rfl
   rw[List.getElem?_take] at this;split at this
   ·simpa using this
   ·cases this
 have bL:=az.tt T;rw[a0] at bL;have cI:=qT (P:=P) (w:=w) bL (by rintro h;cases h) ⟨b,q.k*ax q.t+q.off,none⟩ [nv] rfl (fun j y ak=>by
  match j,ak with
  |0,ak=>
   simp only[List.getElem?_cons_zero,Option.some.injEq] at ak;subst ak;rw[gl,Nat.add_zero];exact iX)
 have af8:(cl tm o1.dst nv).getD q.d1 undef=nv:=by
  rw[ji];have:q.d1<tm.size:=by rw[S.nt];exact Nat.le_of_ble_eq_true aX
  simp[cl,Array.getD_eq_getD_getElem?,this]
 refine mr (vv:=nv) ?_ (bC _ ?_ (fun t aE=>?_) ?_)
 ·unfold execOp;simp only[AP,Instr.loadAt,Instr.sureAddr,hv,Sem.run_bind,Sem.run_pure,Result.andThen_ok,cI];rfl
 ·have Y:b6 st o1.dst=true:=by rw[ji];exact aX
  have:=ah.cu (us:=[]) (v:=bP .any) (vv:=nv) S Y trivial;rw[ji] at this ⊢;exact this
 ·rw[ji];have:q.d1≠t:=fun e=>aE e.symm
  simp[cl,Array.getD_eq_getD_getElem?,Array.getElem?_setIfInBounds_ne this]
 ·rw[af8];exact⟨e,v0,n1,n2,c1,c2,N⟩
theorem _1{dl:Array Value}{C:Ctx}(az:a9 P C){o1 fg o2:Oper}{q:pX}(ay:r4 C st o1 fg o2=some q)(S:ah L J X B (st.nL q) dl w){x:den q.t}(hx:q.xs[q.k]? =some x){u:aG}{ys:List (den u)}(hu:(enc q.t x)[q.off]? =some (.sl u ys))
  {e:TypeId} {v0:Value} {n1 n2 c1 c2:List Value} (N:pN w (an X B st.sites) B q.o q.t q.xs q.k q.off x u ys e v0 (dl.getD q.d1 undef) n1 n2 c1 c2) {y:(q.S [.av (.ai (.fresh u ys)),.av (.ai (.d (.int q.i q.n)))]).H}
  (ak:(q.S [.av (.ai (.fresh u ys)),.av (.ai (.d (.int q.i q.n)))]).comp=some y) {d:aM} {bF:aG} {mP:List (den bF)} (h1:(q.S [.av (.ai (.fresh u ys)),.av (.ai (.d (.int q.i q.n)))]).eQ y=[.ai (.d d)]) (h2:(q.S [.av (.ai (.fresh u ys)),.av (.ai (.d (.int q.i q.n)))]).dJ y=[])
  (aa:(q.S [.av (.ai (.fresh u ys)),.av (.ai (.d (.int q.i q.n)))]).ey y=[.fresh bF mP]) {cW:den q.t} (d_:dec q.t (a_ (enc q.t x) q.off [.sl bF mP])=some cW) (mX:d.hR=true) (gd:bF.gW=false) (Y:b6 st o2.dst=true)
  {K:Act->World->Prop} {Q:Exit->Act->World->Prop}
  (bC:∀aB bU w',ah L J X aB (((st.nL q).cu o2.dst (one d) [(q.o,.deep q.s q.t (q.xs.set q.k cW))])) bU w'->K ⟨bU,[]⟩ w'):o2.wp P ⟨dl,[]⟩ w K Q:=by
 obtain⟨T,a,mf,jp,aT,c,g,jS,AP,ji,gu,kk,pc,a0,a3,M,hc,jD,gS,HB,aX,qq,hne⟩:=Ce ay;have hl:look (st.nL q).sites q.o=some (.deep q.s q.t q.xs):=M;obtain⟨nv,vM⟩:∃nv,dl.getD q.d1 undef=nv:=⟨_,rfl⟩;rw[vM] at N;have N:pN w (an X B (st.nL q).sites) B q.o q.t q.xs q.k q.off x u ys e v0 nv n1 n2 c1 c2:=N;generalize z':st.nL q=dM at S hl HB N bC;have l7:b6 dM o2.dst=true:=by rw[<-z'];exact Y
 obtain⟨aC,ao,bv,ca⟩:=N.agO;have fF:bX dM.sites q.o:=⟨_,hl,rfl⟩;have ag:q.k<q.xs.length:=(List.getElem?_eq_some_iff.1 hx).1;have au:q.off<ax q.t:=by
  have:=(List.getElem?_eq_some_iff.1 hu).1;rwa[fc] at this
 have oY:=cV S C 0 jS;rw[HB] at oY;have agn:Act.eval ⟨dl,[]⟩ jS=.int q.i q.n:=by
  have oY:bj w _ (.int q.i q.n) (Act.eval ⟨dl,[]⟩ jS):=oY;generalize Act.eval ⟨dl,[]⟩ jS=v at oY;cases oY;rfl
 have hvs:c.args.toList.map (Act.eval ⟨dl,[]⟩)=[nv,.int q.i q.n]:=by
  rw[jD];simp only[List.map_cons,List.map_nil,agn];have:Act.eval ⟨dl,[]⟩ (.tmp q.d1)=nv:=vM;rw[this]
 have cI:(execOp (Act.eval ⟨dl,[]⟩) o2).run P w=(callFunc g #[nv,.int q.i q.n]).run P w:=by
  have hf:Act.eval ⟨dl,[]⟩ (.func g)=.func (.func g) #[] #[]:=rfl;have qN:(#[]++c.args.map (Act.eval ⟨dl,[]⟩))++#[]=#[nv,.int q.i q.n]:=by
   apply Array.ext';simpa using hvs
  unfold execOp;simp only[kk,resolve,hc,hf,Deferred.ofValue,Sem.run_bind,Sem.run_pure,Result.andThen_ok,invoke,qN]
 obtain⟨b4,U,kj,cJ,dH⟩:=N.mid;obtain⟨cE,pg⟩:∃cE,(a7 nv).toList=cE:=⟨_,rfl⟩;have Qu:∀b,b∈cE <-> a7 nv=some b:=fun b=>by rw[<-pg];simp
 obtain⟨X',mY⟩:∃X':Nat->Prop,∀b,X' b <-> (an X B dM.sites b/\b∉cE):=⟨_,fun b=>Iff.rfl⟩
 have Nj:∀{av bT:Nat->Prop} {w:World} {t:aG} {fQ:List (den t)} {vs:List Value},(∀d,d∈flat t fQ->d.plain=true)->ch w av (flat t fQ) vs->ch w bT (flat t fQ) vs:=fun aj hr=>⟨hr.1,fun j g1 g2=>by
  have n5:=aj _ (List.getElem_mem g1);refine tL ?_ (hr.2 j g1 g2);generalize(flat _ _)[j]=ww at n5 ⊢;cases ww<;>first|rfl|cases n5⟩
 have abP:h3 w (fun b=>X' b\/b∈cE) [.av (.ai (.fresh u ys)),.av (.ai (.d (.int q.i q.n)))] [nv,.int q.i q.n] cE:=
  ⟨cE,[],by simp,⟨pg.symm,b4,U,cJ,Nj kj dH⟩,[],[],rfl,⟨rfl,.int _ _⟩,rfl⟩
 have agB:∀b,X' b->b<w.heap.size:=fun b hb=>S.lt ((mY b).1 hb).1
 have hG:hO w cE X':=by
  obtain⟨g1,g2⟩:=S.jV;refine⟨g1,fun b hb h=>?_,fun b hb h=>(g2 b hb).1 ((mY b).1 h).1,fun b hb=>(g2 b hb).2⟩
  exact(g2 b hb).1 (.inr ⟨q.o,fF,aC b ((Qu b).1 h)⟩)
 have E:=az.bM g q.S gS _ y ak w X' [nv,.int q.i q.n] cE abP (by rw[<-pg];cases a7 nv<;>simp) (fun b hb hx=>((mY b).1 hx).2 hb) agB hG
 refine xg (vs:=[nv,.int q.i q.n]) cI E ?_
 rintro v w' ⟨dS,du,rv,aR,fS,hA,rfl,aok,hm⟩;obtain⟨fR,gN,rfl,hb1,hb2⟩:=fS;rw[h2] at hb1;rw[h1] at hA;rw[aa] at hb2;have mV:e0 [.av (.ai (.fresh u ys)),.av (.ai (.d (.int q.i q.n)))] [nv,.int q.i q.n]=[nv]:=by
  simp only[e0,bA.cells,fV,aw.ri,Bool.and_true,cond_false,cond_true,List.append_nil,Bool.true_and];exact Cy (BL cJ)
 rw[mV] at hb2;have hb2:fY w' (fun b=>X' b\/b∈fR++gN++du) [.fresh bF mP] [nv] gN:=hb2.resolve_left fun h=>by cases h.1
 obtain⟨ig,eY,hz,⟨vu,e2,ajj,aea,af5⟩,aoE⟩:=hb2;match rv,hA with
 |[v1],⟨a1,a2,aon,jg,H1⟩=>
 have jg:a1=[]/\bj w' _ d v1:=jg;have akg:aw.gW (.d d)=false:=by cases d<;>first|rfl|cases mX
 have qn:∀av,bj w' av d v1:=fun av=>tL akg jg.2
 have zL:enc q.t cW=(enc q.t x).take q.off++.sl bF mP::(enc q.t x).drop (q.off+1):=by rw[nD _ _ _ d_,Kh]
 have k4:flat q.t (q.xs.set q.k cW)=(flat q.t (q.xs.take q.k)++(enc q.t x).take q.off)++(.sl bF mP::((enc q.t x).drop (q.off+1)++flat q.t (q.xs.drop (q.k+1)))):=by
  rw[xf q.t ag,zL];simp only[List.append_assoc,List.cons_append]
 have zH:∀b,b<w.heap.size->a7 nv≠some b->w'.heap[b]? =w.heap[b]? :=fun b hb hn=>aR.block b hb fun h=>hn ((Qu b).1 h)
 have z5:∀b,b∈bI (B q.o)->b<w.heap.size:=fun b hb=>S.dX fF hb
 have vq:∀n,n∈n1\/n∈n2->∀b,a7 n=some b->b∈bI (B q.o):=fun n hn b hb=>by
  rw[N.th];exact iq.2 (.inr ⟨n,by simp only[List.mem_append,List.mem_cons];exact hn.imp id .inr,hb⟩)
 have G:=S.u5 (o:=q.o) (bH:=.deep q.s q.t (q.xs.set q.k cW)) (nv:=B q.o) (w':=w') (ks:=[]) (K:=[q.o]) .nil (fun F=>by simp[keys];intro e;subst e;exact fF)
  (fun b hb hne=>zH b hb fun h=>hne q.o (by simp) (aC b h)) aR.os aR.tape aR.output aR.size rfl (fun O M=>by rw[hl] at M;cases M;exact .inr ⟨rfl,rfl⟩)
  (fun b hb=>⟨Nat.lt_of_lt_of_le (z5 b hb) aR.size,.inl ⟨q.o,by simp,hb⟩⟩) (fun {bp aB} dK go=>?_)
 ·have Fu:(fun F=>if F=q.o then B q.o else B F)=B:=by funext F;by_cases e:F=q.o<;>simp[e]
  rw[Fu] at G;exact bC B _ w' (ah.cu (us:=[(q.o,.deep q.s q.t (q.xs.set q.k cW))]) G l7 (v:=one d) (qn _))
 ·have jj:∀{d v},bj w (an X B dM.sites) d v->bj _ (an X aB bp) d v:=jB go;refine⟨e,v0,n1++nv::n2,c1++nv::c2,dK.trans N.th,by rw[dK];exact N.IK,?_,?_⟩
  ·rw[List.length_set];refine pw N.row fun b hb=>zH b (z5 b ?_) (ao b hb)
   rw[N.th];exact iq.2 (.inl hb)
  ·rw[k4];refine(N.d1.map jj fun n hn b hb=>zH b (z5 b (vq n (.inl hn) b hb)) (bv n hn b hb)).cu (.row bF mP e2 ajj (BZ gd) aea (Nj (BZ gd) af5) (N.d2.map jj fun n hn b hb=>zH b (z5 b (vq n (.inr hn) b hb)) (ca n hn b hb)))
end
def ep(r:Option Nat):Fence:={Fence.wide with round:=r}
abbrev fU(r:Option Nat)(P:Program)(c:Code)(Q:Exit->Act->World->Prop)(a:Act)(w:World):Prop:=c.wpIn (ep r) 0 P Q a w
theorem zX(r:Option Nat)(f:FuncId):(ep r).fn f:=trivial
theorem M4(r:Option Nat)(n:Nat):(ep r).room n:=fun _ h=>by simp[ep,Fence.wide] at h
theorem fU.any{r:Option Nat}{P:Program}{c:Code}{Q:Exit->Act->World->Prop}{a:Act}{w:World}(h:fU r P c Q a w)(n:Nat):c.wpIn (ep r) n P Q a w:=
 fun b k cs HN hb _=>h b k cs HN hb (M4 r _)
theorem fU.of{r:Option Nat}{P:Program}{c:Code}{Q:Exit->Act->World->Prop}{a:Act}{w:World}{n:Nat}(h:c.wpIn (ep r) n P Q a w):fU r P c Q a w:=
 fun b k cs HN hb _=>h b k cs HN hb (M4 r _)
theorem fU.wp{P:Program}{c:Code}{Q:Exit->Act->World->Prop}{a:Act}{w:World}(h:fU none P c Q a w):c.wp P Q a w:=(wpIn_wide (n:=0)).1 h
theorem Yl{r:Option Nat}{n:Nat}{P:Program}{f:FuncId}{args:Array Value}{w:World}{R:Ending->World->Prop}(h:Calls P f args w R):CallsIn (ep r) n P f args w R:=by
 cases r with
 |none=>exact callsIn_wide.2 h
 |some l=>exact CallsIn.inRound l (callsIn_wide.2 h)
theorem Zb{r:Option Nat}{n:Nat}{P:Program}{row:String}{args:Array Value}{w:World}{R:Value->World->Prop}(h:Rows P row args w R):RowsIn (ep r) n P row args w R:=by
 intro c cs _;obtain⟨v,w',hr,M⟩:=h c cs;exact⟨v,w',hr,stepsIn_wide.2 M⟩
theorem tM(tm:Array Value)(ds:List Deferred)(dst:Option Nat)(v:Value):(⟨tm,ds⟩:Act).put dst v=⟨cl tm dst v,ds⟩:=by cases dst<;>rfl
theorem rZ{P:Program}{D:Oper}{tm:Array Value}{w:World}{K:Act->World->Prop}(bC:∀a w,K a w->a.defers=[])(h:D.wp P ⟨tm,[]⟩ w K (fun _ _ _=>False))(r:Option Nat)(ds:List Deferred){Q:Exit->Act->World->Prop}:
  D.wpIn (ep r) 0 P ⟨tm,ds⟩ w (fun fi w'=>∃v,fi=⟨cl tm D.dst v,ds⟩/\K ⟨cl tm D.dst v,[]⟩ w') Q:=by
 refine⟨fun f _=>zX r f,?_⟩
 have bo:(⟨tm,ds⟩:Act).eval=(⟨tm,[]⟩:Act).eval:=by funext x;cases x<;>rfl
 rw[bo];unfold Oper.wp at h;have Y:∀c,D.op≠.defer c:=by
  intro c au;have:(execOp (Act.eval ⟨tm,[]⟩) D)=(do let d <-resolve (Act.eval ⟨tm,[]⟩) c D.type;pure (.defer d)):=by
   unfold execOp;simp only[au]
  rw[this] at h;simp only[Sem.run_bind] at h;cases hr:(resolve (Act.eval ⟨tm,[]⟩) c D.type).run P w with
  |ok d w'=>
   rw[hr] at h;simp only[Result.andThen_ok,Sem.run_pure,Oper.upon] at h;have:=bC _ _ h;cases db:D.dst<;>rw[db] at this<;>simp[Act.put] at this
  |halt x w'=>
   rw[hr] at h;cases x<;>simp[Result.andThen,Oper.upon] at h
 rw[Oper.semAt_eq _ _ _ Y];generalize(execOp (Act.eval ⟨tm,[]⟩) D).run P w=eQ at h;have aj:∀v,(⟨tm,ds⟩:Act).put D.dst v=⟨cl tm D.dst v,ds⟩:=tM tm ds D.dst;have n4:∀v,(⟨tm,[]⟩:Act).put D.dst v=⟨cl tm D.dst v,[]⟩:=tM tm [] D.dst;cases eQ with
 |ok x w'=>
  cases x with
  |value v=>simp only[Oper.upon,Oper.uponIn,n4] at h ⊢;exact⟨v,aj v,h⟩
  |skip=>simp only[Oper.upon,Oper.uponIn,n4] at h ⊢;exact⟨undef,aj _,h⟩
  |defer d=>
   simp only[Oper.upon] at h;have:=bC _ _ h;cases db:D.dst<;>rw[db] at this<;>simp[Act.put] at this
  |enter f args=>
   simp only[Oper.upon,Oper.uponIn] at h ⊢;refine⟨fun h=>by simp[ep,Fence.wide] at h,(Yl h).mono fun e At he=>?_⟩
   cases e with
   |returned v=>simp only[n4] at he;exact⟨v,aj v,he⟩
   |panicked c=>exact he.elim
   |outgrown=>obtain⟨apf,L,ay⟩:=he;exact ay.elim
  |row row args=>
   simp only[Oper.upon,Oper.uponIn] at h ⊢;refine⟨fun h=>by simp[ep,Fence.wide] at h,(Zb h).mono fun v At he=>?_⟩
   simp only[n4] at he;exact⟨v,aj v,he⟩
  |_=>simp only[Oper.upon] at h
 |halt x w'=>
  cases x<;>simp only[Oper.upon] at h
def hS:List Oper->List Nat
 |[]=>[]
 |D::r=>D.dst.toList++hS r
def gT:Nat:=1000000000
def cm:Code->List Nat
 |.region _ ops _=>hS ops.toList
 |.seq a b|.cond _ a b=>cm a++cm b
 |.block _ a|.loop a=>cm a
 |.rangeFunc _ ps a b=>gT::(ps.toList++(cm a++cm b))
 |_=>[]
def gB:Code->Bool
 |.seq a b|.cond _ a b=>gB a&&gB b
 |.block _ a|.loop a=>gB a
 |.rangeFunc _ _ _ _=>false
 |_=>true
def mark(aM:Nat):Deferred:={target:=.collected aM,args:=#[]}
structure hy(L:World)(J:List Nat)(X:Nat->Prop)(b5:World)(dt:List Nat)(cQ:Nat->Prop):Prop where
 cw:∀w,Fr dt b5 w->Fr J L w
 b7:∀b,(b∈dt\/b5.heap.size<=b)->(b∈J\/L.heap.size<=b)
 x:∀b,X b->cQ b
structure Marks(L:World)(dw:List Nat)(b5:World)(dt:List Nat)(cQ:Nat->Prop):Prop where
 nodup:dw.Nodup
 new:∀aM,aM∈dw->L.heap.size<=aM
 gQ:∀aM,aM∈dw->b5.heap[aM]? =some (.deferred (some []))/\aM∉dt/\cQ aM
def ec(L:World)(J:List Nat)(X:Nat->Prop)(ds:List Deferred)(ev:Array Value)(W:List Nat)(st:ad)(a:Act)(w:World):Prop:=
 ∃b5 dt cQ B dw,hy L J X b5 dt cQ/\Marks L dw b5 dt cQ/\(a.defers=dw.map mark++ds/\(gT∉W->dw=[]))/\ah b5 dt cQ B st a.tmps w/\∀t,t∉W->a.tmps.getD t undef=ev.getD t undef
def e3(L:World)(J:List Nat)(X:Nat->Prop)(ds:List Deferred)(ev:Array Value)(W:List Nat):Out->Exit->Act->World->Prop
 |.norm st,.normal,a,w=>ec L J X ds ev W st a w
 |.exit id st,.exit ic,a,w=>id=ic/\ec L J X ds ev W st a w
 |.ret st,.ret,a,w=>ec L J X ds ev W st a w
 |_,_,_,_=>False
theorem hy.refl(L:World)(J:List Nat)(X:Nat->Prop):hy L J X L J X:=⟨fun _ h=>h,fun _ h=>h,fun _ h=>h⟩
theorem hy.trans{L b5 w2:World}{J dt eG:List Nat}{X cQ cx:Nat->Prop}(h:hy L J X b5 dt cQ)(k:hy b5 dt cQ w2 eG cx):hy L J X w2 eG cx:=
 ⟨fun w hw=>h.cw w (k.cw w hw),fun b hb=>h.b7 b (k.b7 b hb),fun b hb=>k.x b (h.x b hb)⟩
theorem Marks.nil(L b5:World)(J:List Nat)(X:Nat->Prop):Marks L [] b5 J X:=⟨List.nodup_nil,fun _ h=>by simp at h,fun _ h=>by simp at h⟩
theorem Marks.lt{L b5:World}{J:List Nat}{X:Nat->Prop}{dw:List Nat}(h:Marks L dw b5 J X){aM:Nat}(eA:aM∈dw):aM<b5.heap.size:=by
 have:=(h.gQ aM eA).1;exact(Array.getElem?_eq_some_iff.1 this).1
theorem Marks.trans{L b5 w2:World}{J dt eG:List Nat}{X cQ cx:Nat->Prop}{dw Bk:List Nat}(hb:hy L J X b5 dt cQ)(h:Marks L dw b5 dt cQ)(k:hy b5 dt cQ w2 eG cx)(m:Marks b5 Bk w2 eG cx):
  Marks L (Bk++dw) w2 eG cx:=by
 have hf:Fr dt b5 w2:=k.cw w2 (Fr.refl _ _);refine⟨List.nodup_append.2 ⟨m.nodup,h.nodup,fun a a3 b hb e=>?_⟩,fun aM eA=>?_,fun aM eA=>?_⟩
 ·subst e;have h1:=m.new a a3;have h2:=h.lt hb;omega
 ·rcases List.mem_append.1 eA with eA|eA
  ·have h1:=m.new aM eA;have h2:Fr J L b5:=hb.cw b5 (Fr.refl _ _);have:=h2.size;omega
  ·exact h.new aM eA
 ·rcases List.mem_append.1 eA with eA|eA
  ·exact m.gQ aM eA
  ·obtain⟨h1,h2,aa⟩:=h.gQ aM eA;have aX:=h.lt eA;refine⟨(hf.block aM aX h2).trans h1,fun aH=>?_,k.x aM aa⟩
   rcases k.b7 aM (.inl aH) with bD|bD
   ·exact h2 bD
   ·omega
section
variable {L:World}{J:List Nat}{X:Nat->Prop}{ds:List Deferred}{ev:Array Value}{W:List Nat}
theorem ec.of{B:Nat->Value}{st:ad}{tm:Array Value}{w:World}(S:ah L J X B st tm w)(aE:∀t,t∉W->tm.getD t undef=ev.getD t undef):ec L J X ds ev W st ⟨tm,ds⟩ w:=
 ⟨L,J,X,B,[],hy.refl _ _ _,Marks.nil _ _ _ _,⟨rfl,fun _=>rfl⟩,S,aE⟩
theorem ec.mono{cT:List Nat}(h:∀t,t∈W->t∈cT){st:ad}{a:Act}{w:World}(k:ec L J X ds ev W st a w):ec L J X ds ev cT st a w:=by
 obtain⟨b5,dt,cQ,B,dw,h1,h2,aa,aH,bD⟩:=k;exact⟨b5,dt,cQ,B,dw,h1,h2,⟨aa.1,fun hn=>aa.2 fun ab=>hn (h _ ab)⟩,aH,fun t aE=>bD t fun ab=>aE (h t ab)⟩
theorem e3.mono{cT:List Nat}(h:∀t,t∈W->t∈cT):∀{D:Out} {e:Exit} {a:Act} {w:World},e3 L J X ds ev W D e a w->e3 L J X ds ev cT D e a w:=by
 intro D e a w k;cases D<;>cases e<;>first|exact ec.mono h k|exact⟨k.1,ec.mono h k.2⟩|exact k.elim
theorem ec.trans{b5:World}{dt:List Nat}{cQ:Nat->Prop}{dw:List Nat}{W1 iO:List Nat}{dl:Array Value}(hb:hy L J X b5 dt cQ)(hm:Marks L dw b5 dt cQ)(hr:gT∉W1->dw=[])(aE:∀t,t∉W1->dl.getD t undef=ev.getD t undef)
  {st:ad} {a:Act} {w:World} (k:ec b5 dt cQ (dw.map mark++ds) dl iO st a w):ec L J X ds ev (W1++iO) st a w:=by
 obtain⟨w2,eG,cx,B,Bk,h1,h2,aa,aH,bD⟩:=k;refine⟨w2,eG,cx,B,Bk++dw,hb.trans h1,hm.trans hb h1 h2,⟨by rw[aa.1,List.map_append,List.append_assoc],fun hn=>by
  simp only[List.mem_append,not_or] at hn;rw[aa.2 hn.2,hr hn.1];rfl⟩,aH,fun t HH=>?_⟩
 simp only[List.mem_append,not_or] at HH;rw[bD t HH.2,aE t HH.1]
theorem e3.trans{b5:World}{dt:List Nat}{cQ:Nat->Prop}{dw:List Nat}{W1 iO:List Nat}{dl:Array Value}(hb:hy L J X b5 dt cQ)(hm:Marks L dw b5 dt cQ)(hr:gT∉W1->dw=[])(aE:∀t,t∉W1->dl.getD t undef=ev.getD t undef)
  {D:Out} {e:Exit} {a:Act} {w:World} (k:e3 b5 dt cQ (dw.map mark++ds) dl iO D e a w):e3 L J X ds ev (W1++iO) D e a w:=by
 cases D<;>cases e<;>first|exact ec.trans hb hm hr aE k|exact⟨k.1,ec.trans hb hm hr aE k.2⟩|exact k.elim
end
def bw(P:Program)(c:Code)(f:gM):Prop:=
 ∀r,r=none\/gB c=true->∀L J X st y,(f st).comp=some y->∀B tm w ds,ah L J X B st tm w->fU r P c (e3 L J X ds tm (cm c) ((f st).out y)) ⟨tm,ds⟩ w
def fZ(P:Program)(C:g6):Code->Nat->Prop
 |.seq a b,p=>(∀f,C.nW p=some f->bw P (.seq a b) f)/\fZ P C a (2*p)/\fZ P C b (2*p+1)
 |.cond c a b,p=>(∀f,C.nW p=some f->bw P (.cond c a b) f)/\fZ P C a (2*p)/\fZ P C b (2*p+1)
 |.block id a,p=>(∀f,C.nW p=some f->bw P (.block id a) f)/\fZ P C a (2*p)
 |c,p=>∀f,C.nW p=some f->bw P c f
def fH:Code->Nat->List (Nat×Code)
 |.seq a b,p=>(p,.seq a b)::(fH a (2*p)++fH b (2*p+1))
 |.cond c a b,p=>(p,.cond c a b)::(fH a (2*p)++fH b (2*p+1))
 |.block id a,p=>(p,.block id a)::fH a (2*p)
 |c,p=>[(p,c)]
theorem MH{P:Program}{C:g6}:∀(c:Code) (p:Nat),(∀q fq,(q,fq)∈fH c p->∀f,C.nW q=some f->bw P fq f)->fZ P C c p:=by
 intro c;induction c with
 |seq a b lV qe=>
  intro p h;simp only[fH] at h;exact⟨h p _ List.mem_cons_self,lV _ fun q fq hm=>h q fq (List.mem_cons_of_mem _ (List.mem_append.2 (.inl hm))),qe _ fun q fq hm=>h q fq (List.mem_cons_of_mem _ (List.mem_append.2 (.inr hm)))⟩
 |cond D a b lV qe=>
  intro p h;simp only[fH] at h;exact⟨h p _ List.mem_cons_self,lV _ fun q fq hm=>h q fq (List.mem_cons_of_mem _ (List.mem_append.2 (.inl hm))),qe _ fun q fq hm=>h q fq (List.mem_cons_of_mem _ (List.mem_append.2 (.inr hm)))⟩
 |block id a lV=>
  intro p h;simp only[fH] at h;exact⟨h p _ List.mem_cons_self,lV _ fun q fq hm=>h q fq (List.mem_cons_of_mem _ hm)⟩
 |_=>intro p h;exact h p _ (by simp[fH])
section
variable {P:Program}{L:World}{J:List Nat}{X:Nat->Prop}{B:Nat->Value}{st:ad}{tm:Array Value}{w:World}
theorem ah.lw(S:ah L J X B st tm w){t:Nat}{v:aL}(hv:b_ B st.sites w (an X B st.sites) v (tm.getD t undef)):ah L J X B (st.set t v) tm w:=by
 refine⟨S.nt,fun u=>?_,S.sites,S.df,S.b7,S.frame,S.old,S.eS⟩
 rw[ad.Eb];by_cases h:t=u
 ·subst h;simp only[if_true];exact hv
 ·simp only[h,if_false];exact S.cF u
variable {R:Type}{C:Ctx}{ops:Array Oper}
theorem K1(S:ah L J X B st tm w)(az:a9 P C){D:Oper}{K:ad->Option R}{r:R}(h:j2 C st D K=some r){N:Act->World->Prop}{Q:Exit->Act->World->Prop}
  (bC:∀af aB bU w',K af=some r->ah L J X aB af bU w'->N ⟨bU,[]⟩ w'):D.wp P ⟨tm,[]⟩ w N Q:=by
 unfold j2 at h;cases Y:b6 st D.dst with
 |false=>simp[Y] at h
 |true=>
  simp only[Y,cond_true] at h;have M:=aaS S az Y;cases hc:(step C st D).comp with
  |none=>simp[hc] at h
  |some y=>
   simp only[hc,Option.bind_some] at h;cases ag:(step C st D).qB y with
   |false=>simp[ag] at h
   |true=>
    simp only[ag,cond_true] at h;exact M y hc ag N Q fun aB bU w' bZ=>bC _ aB bU w' h bZ
theorem XF{T e:TypeId}(h:P.underlying T=some (.slice e))(a:Option Addr)(n c:Nat)(neg:Bool):
  (binOp (if neg then .neq else .eql) T (.slice a n c) (.slice none 0 0)).run P w=.ok (.bool (if neg then !a.isNone else a.isNone)) w:=by
 have e:(Op.equal T (.slice a n c) (.slice none 0 0)).run P w=.ok a.isNone w:=by
  have key:∀d:Nat,(Op.equalIn (d+1) T (.slice a n c) (.slice none 0 0)).run P w=.ok a.isNone w:=fun d=>by cases a<;>simp[Op.equalIn,run_underlying h]
  exact key 9999
 cases neg
 ·show((do pure (.bool (<-Op.equal T (.slice a n c) (.slice none 0 0)))):Sem Value).run P w=_
  simp only[Sem.run_bind,e,Result.andThen_ok,Sem.run_pure];rfl
 ·show((do pure (.bool (!(<-Op.equal T (.slice a n c) (.slice none 0 0))))):Sem Value).run P w=_
  simp only[Sem.run_bind,e,Result.andThen_ok,Sem.run_pure];rfl
theorem Vn{op:BinOp}{T:TypeId}{x y:Operand}{a b:Option Addr}{n c ll fq:Nat}:(eqGuard op T x y (.slice a n c) (.slice b ll fq)).run P w=.ok () w:=by
 unfold eqGuard;cases op<;>rfl
theorem XT{D:Oper}{t:aG}{xs:List (den t)}{neg:Bool}(h:EM C st D=some (⟨t,xs⟩,neg)):∃T x m8 e ty bytes,D.op=.binOp (if neg then .neq else .eql) T x (.const (.slice none 0 0)) m8/\C.tt T=.slice e ty bytes/\aP C st T x=.av (.ai (.d (.sl t xs))):=by
 unfold EM at h;split at h
 ·rename_i op T x m8 au;split at h
  ·rename_i e ty bytes a0;split at h
   ·split at h
    ·rename_i bk hB hx;cases h;exact⟨T,x,m8,e,ty,bytes,au,a0,hx⟩
    ·cases h
   ·split at h
    ·rename_i bk hB hx;cases h;exact⟨T,x,m8,e,ty,bytes,au,a0,hx⟩
    ·cases h
   ·cases h
  ·cases h
 ·cases h
theorem VB{t:aG}{xs:List (den t)}{a b:Option R}{r:R}(h:ns xs a b=some r):b=some r/\(xs=[]->a=some r):=by
 unfold ns at h;split at h
 ·rename_i TB;exact⟨h,fun he=>(TB he).trans h⟩
 ·cases h
theorem _G(S:ah L J X B st tm w)(az:a9 P C){D:Oper}{K:ad->Option R}{r:R}(h:uy C st D K=some r){N:Act->World->Prop}{Q:Exit->Act->World->Prop}
  (bC:∀af aB bU w',K af=some r->ah L J X aB af bU w'->N ⟨bU,[]⟩ w'):D.wp P ⟨tm,[]⟩ w N Q:=by
 unfold uy at h;split at h
 ·rename_i t xs neg hn;cases Y:b6 st D.dst with
  |false=>simp[Y] at h
  |true=>
   simp only[Y,cond_true] at h;obtain⟨h2,h1⟩:=VB h;obtain⟨T,x,m8,e,ty,bytes,au,a0,hx⟩:=XT hn;have M:=cV S C T x;rw[hx] at M;have bL:=az.tt T;rw[a0] at bL;have run:∀{a:Option Addr} {n c:Nat},Act.eval ⟨tm,[]⟩ x=.slice a n c->(execOp (Act.eval ⟨tm,[]⟩) D).run P w=.ok (.value (.bool (if neg then !a.isNone else a.isNone))) w:=by
    intro a n c hv;unfold execOp;have hc:Act.eval ⟨tm,[]⟩ (.const (.slice none 0 0))=.slice none 0 0:=rfl;simp only[au,hv,hc,Sem.run_bind,Vn,XF bL.1.1,Result.andThen_ok,Sem.run_pure]
   have fin:∀b:Bool,(execOp (Act.eval ⟨tm,[]⟩) D).run P w=.ok (.value (.bool b)) w->K (st.cu D.dst (one (.bool b)) [])=some r->D.wp P ⟨tm,[]⟩ w N Q:=by
    intro b hr ag;refine mr hr (bC _ _ _ _ ag (ah.cu (us:=[]) S Y ?_));exact bj.bool b
   have M:bj w (an X B st.sites) (.sl t xs) (Act.eval ⟨tm,[]⟩ x):=M;generalize h8:Act.eval ⟨tm,[]⟩ x=v at M;cases M with
   |nil=>
    have:=run h8;cases neg
    ·exact fin true this (h1 rfl)
    ·exact fin false this (h1 rfl)
   |sl t xs a cap cs n e' hcap hb hl hc hr=>
    have:=run h8;cases neg
    ·exact fin false this h2
    ·exact fin true this h2
 ·exact K1 S az h bC
theorem Y6(S:ah L J X B st tm w){D:Oper}{K:ad->Option R}{r:R}(h:rH st D K=some r){N:Act->World->Prop}
  (bC:∀af aB bU w',K af=some r->ah L J X aB af bU w'->N ⟨bU,[]⟩ w'):N ((⟨tm,[]⟩:Act).put D.dst undef) w:=by
 unfold rH at h;cases Y:b6 st D.dst with
 |false=>simp[Y] at h
 |true=>
  simp only[Y,cond_true] at h;have:(⟨tm,[]⟩:Act).put D.dst undef=⟨cl tm D.dst undef,[]⟩:=by cases D.dst<;>rfl
  rw[this];exact bC _ _ _ _ h (ah.cu (us:=[]) S Y rfl)
theorem hh{tm:Array Value}{dst:Option Nat}{v:Value}{t:Nat}(h:t∉dst.toList):(cl tm dst v).getD t undef=tm.getD t undef:=by
 cases dst with
 |none=>rfl
 |some d=>
  have:d≠t:=fun e=>h (by simp[e])
  simp[cl,Array.getD_eq_getD_getElem?,Array.getElem?_setIfInBounds_ne this]
variable {rn:Option Nat}{ds:List Deferred}
theorem CO(S:ah L J X B st tm w)(az:a9 P C){D:Oper}{K:ad->Option R}{r:R}(h:uy C st D K=some r){N:Act->World->Prop}{Q:Exit->Act->World->Prop}
  (bC:∀af aB bU w',K af=some r->ah L J X aB af bU w'->(∀t,t∉D.dst.toList->bU.getD t undef=tm.getD t undef)->N ⟨bU,ds⟩ w'):D.wpIn (ep rn) 0 P ⟨tm,ds⟩ w N Q:=by
 refine Oper.wpIn_mono ?_ (rZ (K:=fun a w=>a.defers=[]/\∃af aB,K af=some r/\ah L J X aB af a.tmps w) (fun _ _ h=>h.1) (_G S az h fun af aB bU w' ag bZ=>⟨rfl,af,aB,ag,bZ⟩) rn ds)
 rintro a w' ⟨v,rfl,_,af,aB,ag,bZ⟩;exact bC af aB _ w' ag bZ fun t aE=>hh aE
theorem np(S:ah L J X B st tm w)(az:a9 P C){D:Oper}{K:ad->Option R}{r:R}(h:j2 C st D K=some r){N:Act->World->Prop}{Q:Exit->Act->World->Prop}
  (bC:∀af aB bU w',K af=some r->ah L J X aB af bU w'->(∀t,t∉D.dst.toList->bU.getD t undef=tm.getD t undef)->N ⟨bU,ds⟩ w'):D.wpIn (ep rn) 0 P ⟨tm,ds⟩ w N Q:=by
 refine Oper.wpIn_mono ?_ (rZ (K:=fun a w=>a.defers=[]/\∃af aB,K af=some r/\ah L J X aB af a.tmps w) (fun _ _ h=>h.1) (K1 S az h fun af aB bU w' ag bZ=>⟨rfl,af,aB,ag,bZ⟩) rn ds)
 rintro a w' ⟨v,rfl,_,af,aB,ag,bZ⟩;exact bC af aB _ w' ag bZ fun t aE=>hh aE
theorem wT(S:ah L J X B st tm w){D:Oper}{K:ad->Option R}{r:R}(h:rH st D K=some r){N:Act->World->Prop}
  (bC:∀af aB bU w',K af=some r->ah L J X aB af bU w'->(∀t,t∉D.dst.toList->bU.getD t undef=tm.getD t undef)->N ⟨bU,ds⟩ w'):N ((⟨tm,ds⟩:Act).put D.dst undef) w:=by
 rw[tM];refine Y6 (N:=fun a w=>∀t0,a.tmps=t0->t0=cl tm D.dst undef->N ⟨t0,ds⟩ w) S h (fun af aB bU w' ag bZ t0 e1 e2=>?_) (cl tm D.dst undef) (by rw[tM]) rfl
 subst e1;exact bC af aB _ w' ag bZ fun t aE=>by have e2:bU=cl tm D.dst undef:=e2;rw[e2];exact hh aE
theorem WV{D:Oper}{r:List Oper}{K:ad->Option R}{y:R}(h:mv C ops (D::r) st K=some y):ub C ops st D (fun af=>mv C ops r af K)=some y\/
  ∃fg o2 r2 q,r=fg::o2::r2/\r4 C st D fg o2=some q/\MK st o2 q (fun af=>mv C ops r2 af K)=some y:=by
 match r,h with
 |[],h=>exact .inl h
 |[o2],h=>exact .inl h
 |fg::o2::r2,h=>
  simp only[mv] at h;split at h
  ·rename_i q ay;exact .inr ⟨fg,o2,r2,q,rfl,ay,h⟩
  ·exact .inl h
theorem Za(az:a9 P C){r:R}{W:List Nat}:∀(n k:Nat),ops.size=k+n->(∀D,D∈ops.toList.drop k->∀t,t∈D.dst.toList->t∈W)->∀(st:ad) (B:Nat->Value) (tm:Array Value) (w:World) (K:ad->Option R) (Q:Exit->Act->World->Prop),ah L J X B st tm w->
  mv C ops (ops.toList.drop k) st K=some r->(∀af aB bU w',K af=some r->ah L J X aB af bU w'->(∀t,t∉W->bU.getD t undef=tm.getD t undef)->Q .normal ⟨bU,ds⟩ w')->wpOpsIn (ep rn) 0 P ops Q (List.range' k n) ⟨tm,ds⟩ w:=by
 intro n;induction n using Nat.strongRecOn with
 |ind n ih=>
 intro k ag hW st B tm w K Q S h bC;match n,ih,ag with
 |0,ih,ag=>
  rw[List.drop_eq_nil_of_le (by simp;omega)] at h
  exact bC st B tm w h S fun _ _=>rfl
 |n+1,ih,ag=>
  have aX:k<ops.size:=by omega
  have au:ops[k]? =some ops[k]:=Array.getElem?_eq_getElem aX;have Fx:ops.toList.drop k=ops[k]::ops.toList.drop (k+1):=by
   rw[List.drop_eq_getElem_cons (by simpa using aX)];simp
  rw[Fx] at h hW;rw[show List.range' k (n+1)=k::List.range' (k+1) n from rfl]
  simp only[wpOpsIn,au];rcases WV h with h|⟨fg,o2,r2,q,vI,ay,h⟩
  rotate_left
  ·-- three at aoa
   have i':k+1<ops.size/\k+2<ops.size:=by
    have:=congrArg List.length vI;simp at this;omega
   have kk:ops[k+1]? =some (ops[k+1]'i'.1):=Array.getElem?_eq_getElem i'.1;have Tn:ops[k+2]? =some (ops[k+2]'i'.2):=Array.getElem?_eq_getElem i'.2;have ac4:ops.toList.drop (k+1)=(ops[k+1]'i'.1)::(ops[k+2]'i'.2)::ops.toList.drop (k+3):=by
    rw[List.drop_eq_getElem_cons (by simpa using i'.1),List.drop_eq_getElem_cons (by simpa using i'.2)];simp
   rw[ac4] at vI hW;obtain⟨e1,ajO⟩:=List.cons.inj vI;obtain⟨e2,bK⟩:=List.cons.inj ajO;subst e1 e2 bK;obtain⟨ll,rfl⟩:∃ll,n=ll+2:=⟨n-2,by omega⟩
   have A3:=hW _ List.mem_cons_self;have TC:=hW _ (List.mem_cons_of_mem _ List.mem_cons_self);have QS:=hW _ (List.mem_cons_of_mem _ (List.mem_cons_of_mem _ List.mem_cons_self));have v5:=fun D au=>hW D (List.mem_cons_of_mem _ (List.mem_cons_of_mem _ (List.mem_cons_of_mem _ au)))
   generalize(ops[k+1]'i'.1)=fg at ay TC kk;generalize(ops[k+2]'i'.2)=o2 at h ay QS Tn;generalize ops[k]=D at ay A3 ⊢;obtain⟨_,_,_,_,_,_,_,_,_,ji,gu,_,pc,_,_,_,_,_,_,_,_,qq,hne⟩:=Ce ay;obtain⟨_,_,aoH,akb,_,_⟩:=Ko qq;rw[if_pos (by simp[Region.wanted,gu])]
   obtain⟨x,hx,h⟩:=Option.bind_eq_some_iff.1 h;split at h
   ·rename_i u ys hu;obtain⟨y,ak,h⟩:=Option.bind_eq_some_iff.1 h;unfold OB at h;split at h
    ·rename_i d bF mP h1 h2 aa;split at h
     ·rename_i cW d_;cases hb:(d.hR&&!bF.gW&&b6 st o2.dst) with
      |false=>rw[hb] at h;cases h
      |true=>
       rw[hb] at h;simp only[cond_true] at h;simp only[Bool.and_eq_true,Bool.not_eq_true'] at hb;obtain⟨⟨aT,aJ⟩,bR⟩:=hb;refine Oper.wpIn_mono ?_ (rZ (K:=fun a b5=>a.defers=[]/\b5=w/\ah L J X B (st.set q.d1 (bP .any)) a.tmps w/\(∀t,t≠q.d1->a.tmps.getD t undef=tm.getD t undef)/\
        ∃e v0 n1 n2 c1 c2,pN w (an X B st.sites) B q.o q.t q.xs q.k q.off x u ys e v0 (a.tmps.getD q.d1 undef) n1 n2 c1 c2) (fun _ _ h=>h.1) (_2 S az ay hx hu fun dl q1 q2 dC=>⟨rfl,rfl,q1,q2,dC⟩) rn ds)
       rintro a b5 ⟨v,rfl,_,rfl,c7,kept,e,v0,n1,n2,c1,c2,N⟩;rw[show List.range' (k+1) (ll+2)=(k+1)::(k+2)::List.range' (k+3) ll from rfl]
       simp only[wpOpsIn,kk,Tn];rw[if_pos (by simp[Region.wanted,akb])]
       refine Oper.wpIn_mono ?_ (rZ (K:=fun a w2=>a.defers=[]/\w2=b5/\ah L J X B (st.nL q) a.tmps b5/\(∀t,t≠q.dQ->a.tmps.getD t undef=(cl tm D.dst v).getD t undef)) (fun _ _ h=>h.1) (abF c7 qq fun dl q1 q2=>⟨rfl,rfl,q1,q2⟩) rn ds)
       rintro a w2 ⟨v1,rfl,_,rfl,ale,ad5⟩;rw[if_pos (by simp[Region.wanted,pc])]
       rw[<-ad5 q.d1 (fun e=>hne e.symm)] at N
       refine Oper.wpIn_mono ?_ (rZ (K:=fun a b5=>a.defers=[]/\∃aB,ah L J X aB (((st.nL q).cu o2.dst (one d) [(q.o,.deep q.s q.t (q.xs.set q.k cW))])) a.tmps b5) (fun _ _ h=>h.1)
        (_1 az ay ale hx hu N ak h1 h2 aa d_ aT aJ bR fun aB bU w' bZ=>⟨rfl,aB,bZ⟩) rn ds)
       rintro a ij ⟨v2,rfl,_,aB,fT⟩;refine ih ll (by omega) (k+3) (by omega) v5 _ aB _ ij K Q fT h fun qc fL mQ amI hU im vE=>bC qc fL mQ amI hU im fun t qj=>?_
       rw[vE t qj,hh fun ab=>qj (QS t ab),hh fun ab=>qj (TC t ab)]
       exact hh fun ab=>qj (A3 t ab)
     ·cases h
    ·cases h
   ·cases h
  have A3:=hW _ List.mem_cons_self;have v5:=fun D au=>hW D (List.mem_cons_of_mem _ au)
  have next:∀af aB bU w',mv C ops (ops.toList.drop (k+1)) af K=some r->ah L J X aB af bU w'->(∀t,t∉(ops[k]).dst.toList->bU.getD t undef=tm.getD t undef)->wpOpsIn (ep rn) 0 P ops Q (List.range' (k+1) n) ⟨bU,ds⟩ w':=
   fun af aB bU w' ab bZ aE=>ih n (by omega) (k+1) (by omega) v5 af aB bU w' K Q bZ ab fun qc fL mQ w2 hU fT vE=>bC qc fL mQ w2 hU fT fun t qj=>(vE t qj).trans (aE t fun ab=>qj (A3 t ab))
  generalize ops[k]=D at h next ⊢
  have oi:∀f,D.about P w (Act.eval ⟨tm,ds⟩)=some f->(ep rn).fn f:=fun f _=>zX rn f
  unfold ub at h;cases hg:D.guard with
  |none=>
   simp only[hg] at h;rw[if_pos (by simp[Region.wanted,hg])]
   exact CO S az h next
  |some IP=>
   obtain⟨j,want⟩:=IP;simp only[hg] at h;have hw:Region.wanted D (yielded ops tm)=(yielded ops tm j==some want):=by simp[Region.wanted,hg]
   cases hj:(ops[j]?).bind (·.dst) with
   |none=>simp[hj] at h
   |some t=>
    simp only[hj] at h;have ix:=S.cF t;split at h
    ·rename_i b hb;rw[hb] at ix;have hv:=iT ix;have ak:yielded ops tm j=some b:=by
      have aE:t<tm.size:=by
       rcases Nat.lt_or_ge t tm.size with ab|ab
       ·exact ab
       ·simp[Array.getD,Nat.not_lt.2 ab,undef] at hv
      have:tm[t]? =some (.bool b):=by
       rw[Array.getElem?_eq_getElem aE];simpa[Array.getD,aE] using hv
      simp[yielded,hj,this]
     rw[ak] at hw;have go:∀a',b=a'->ah L J X B (st.set t (one (.bool a'))) tm w:=fun a' e=>S.lw (by rw[hv,e];exact .bool _)
     cases b<;>cases want<;>simp only[cond_true,cond_false,Bool.not_true,Bool.not_false] at h
     ·rw[if_pos (by rw[hw];rfl)];exact CO (go false rfl) az h next
     ·rw[if_neg (by rw[hw];decide)];exact⟨oi,wT (go false rfl) h next⟩
     ·rw[if_neg (by rw[hw];decide)];exact⟨oi,wT (go true rfl) h next⟩
     ·rw[if_pos (by rw[hw];rfl)];exact CO (go true rfl) az h next
    ·rename_i x hb;rw[hb] at ix;have hv:tm.getD t undef=.tuple x:=ix;have ak:yielded ops tm j=none:=by
      simp only[yielded,hj,Option.bind_some];cases aE:tm[t]? with
      |none=>rfl
      |some v=>
       have:tm.getD t undef=v:=by simp[Array.getD_eq_getD_getElem?,aE]
       rw[this] at hv;rw[hv]
     rw[ak] at hw;rw[if_neg (by rw[hw];simp)]
     exact⟨oi,wT S h next⟩
    ·cases h
end
abbrev oo:=Nat⊕Nat
def de(st:ad):oo->aL⊕Option Site
 |.inl t=>.inl (st.get t)
 |.inr o=>.inr (st.O o)
def nw{aD:Type}:List (Nat×aD)->Nat->Option aD
 |[],_=>none
 |(k,v)::r,n=>match nw r n with
  |some x=>some x
  |none=>bif k.beq n then some v else none
def Rec.wr(x:Rec):oo->Option (aL⊕Option Site)
 |.inl t=>match x.D.dst with
  |some d=>bif d.beq t then some (.inl x.v) else none
  |none=>none
 |.inr o=>(nw x.us o).map fun s=>.inr (some s)
theorem YT:∀(us:List (Nat×Site)) (st:ad) (o:Nat),(st.hs us).O o=match nw us o with|some s=>some s|none=>st.O o:=by
 intro us;induction us with
 |nil=>intro st o;rfl
 |cons p us ih=>
  obtain⟨k,s⟩:=p;intro st o;simp only[ad.hs,ih,nw];cases nw us o with
  |some x=>rfl
  |none=>
   simp only[ad.mj];by_cases h:k=o
   ·subst h;simp
   ·simp[h,jc h]
theorem LB:∀(us:List (Nat×Site)) (st:ad) (t:Nat),(st.hs us).get t=st.get t:=by
 intro us;induction us with
 |nil=>intro st t;rfl
 |cons p us ih=>intro st t;simp only[ad.hs,ih,ad.Xb]
theorem Mi:∀(us:List (Nat×Site)) (st:ad),(st.hs us).nt=st.nt:=by
 intro us;induction us with
 |nil=>intro st;rfl
 |cons p us ih=>intro st;simp only[ad.hs,ih,ad.XS]
theorem Ff(st:ad)(d:Option Nat)(v:aL)(us:List (Nat×Site)):(st.cu d v us).nt=st.nt:=by
 cases d<;>simp only[ad.cu,ad.acW,Mi]
theorem xi(st:ad)(x:Rec)(l:oo):de (st.cu x.D.dst x.v x.us) l=match x.wr l with|some u=>u|none=>de st l:=by
 cases l with
 |inl t=>
  simp only[de,Rec.wr];cases x.D.dst with
  |none=>simp only[ad.cu,LB]
  |some d=>
   simp only[ad.cu,ad.Eb,LB];by_cases h:d=t
   ·subst h;simp
   ·simp[h,jc h]
 |inr o=>
  simp only[de,Rec.wr];have:(st.cu x.D.dst x.v x.us).O o=(st.hs x.us).O o:=by cases x.D.dst<;>simp only[ad.cu,ad._B]
  rw[this,YT];cases nw x.us o<;>rfl
def dY(aq:Nat->Bool):Nat->List Rec->ad->ad
 |_,[],st=>st
 |k,x::r,st=>dY aq (k+1) r (bif aq k then st.cu x.D.dst x.v x.us else st)
theorem Dc{aq:Nat->Bool}:∀{xs:List Rec} {k:Nat} {st:ad},(dY aq k xs st).nt=st.nt:=by
 intro xs;induction xs with
 |nil=>intro k st;rfl
 |cons x xs ih=>intro k st;simp only[dY,ih];cases aq k<;>simp[Ff]
theorem B1{aq L':Nat->Bool}:∀{xs:List Rec} {k:Nat} {st af:ad} {l:oo},de st l=de af l->(∀j x,xs[j]? =some x->x.wr l≠none->aq (k+j)=L' (k+j))->de (dY aq k xs st) l=de (dY L' k xs af) l:=by
 intro xs;induction xs with
 |nil=>intro k st af l h _;exact h
 |cons x xs ih=>
  intro k st af l h eb;simp only[dY];refine ih ?_ fun j y ak hw=>?_
  ·cases hw:x.wr l with
   |none=>
    have e1:∀s:ad,de (s.cu x.D.dst x.v x.us) l=de s l:=fun s=>by rw[xi,hw]
    cases aq k<;>cases L' k<;>simp only[cond_true,cond_false,e1,h]
   |some u=>
    have:=eb 0 x rfl (by rw[hw];intro h;cases h)
    simp only[Nat.add_zero] at this;rw[this];cases L' k with
    |true=>simp only[cond_true,xi,hw]
    |false=>simp only[cond_false,h]
  ·have:=eb (j+1) y (by simpa using ak) hw
   rw[show k+(j+1)=k+1+j from by omega] at this
   exact this
theorem B2{xs:List Rec}:∀{k:Nat} {st:ad} {aq:Nat->Bool},(∀j,k<=j->aq j=false)->dY aq k xs st=st:=by
 induction xs with
 |nil=>intro k st aq _;rfl
 |cons x xs ih=>
  intro k st aq h;simp only[dY,h k (Nat.le_refl _),cond_false];exact ih fun j hj=>h j (by omega)
theorem J6{aq L':Nat->Bool}:∀{xs:List Rec} {k k':Nat} {st:ad},(∀j,j<xs.length->aq (k+j)=L' (k'+j))->dY aq k xs st=dY L' k' xs st:=by
 intro xs;induction xs with
 |nil=>intro k k' st _;rfl
 |cons x xs ih=>
  intro k k' st h;simp only[dY];have h0:=h 0 (by simp)
  simp only[Nat.add_zero] at h0;rw[h0];exact ih fun j hj=>by have:=h (j+1) (by simpa using hj);rw[show k+(j+1)=k+1+j from by omega,show k'+(j+1)=k'+1+j from by omega] at this;exact this
theorem Yo{aq:Nat->Bool}:∀{xs:List Rec} {k i:Nat} {st:ad} {l:oo} {x:Rec} {u:aL⊕Option Site},xs[i]? =some x->aq (k+i)=true->x.wr l=some u->
  (∀j y,i<j->xs[j]? =some y->y.wr l≠none->aq (k+j)=false)->de (dY aq k xs st) l=u:=by
 intro xs;induction xs with
 |nil=>intro k i st l x u h;cases h
 |cons y xs ih=>
  intro k i st l x u h eb hw hj;simp only[dY];cases i with
  |zero=>
   simp only[List.getElem?_cons_zero,Option.some.injEq] at h;subst h;simp only[Nat.add_zero] at eb;rw[eb];simp only[cond_true];have e:de (st.cu y.D.dst y.v y.us) l=u:=by rw[xi,hw]
   rw[<-e];have e2:st.cu y.D.dst y.v y.us=dY (fun _=>false) (k+1) xs (st.cu y.D.dst y.v y.us):=(B2 fun _ _=>rfl).symm
   conv=>rhs;rw[e2]
   refine B1 rfl fun j z hz HC=>?_
   have:=hj (j+1) z (by omega) (by simpa using hz) HC
   rw[show k+(j+1)=k+1+j from by omega] at this
   exact this
  |succ i=>
   refine ih (by simpa using h) (by rw[show k+1+i=k+(i+1) from by omega];exact eb) hw fun j z hij hz HC=>?_
   have:=hj (j+1) z (by omega) (by simpa using hz) HC
   rw[show k+(j+1)=k+1+j from by omega] at this
   exact this
section
variable {P:Program}{ops:Array Oper}
def Ao(ops:Array Oper)(aq:Nat->Bool)(i:Nat):Prop:=∀D,ops[i]? =some D->∀e,e∈D.after.toList->Region.binds .any e=true->aq e.on=true
def zB(ops:Array Oper)(aq:Nat->Bool):Prop:=∀j,aq j=true->Ao ops aq j
def s'(ops:Array Oper)(k i:Nat):Prop:=∀aq,zB ops aq->Ao ops aq i->aq k=true
theorem MP{aD:Type}{l:List (Nat×aD)}{n:Nat}{v:aD}(h:look l n=some v):(n,v)∈l:=by
 induction l with
 |nil=>cases h
 |cons p l ih=>
  obtain⟨m,u⟩:=p;simp only[look] at h;cases hb:m.beq n with
  |true=>
   simp only[hb,cond_true,Option.some.injEq] at h;rw[<-Nat.eq_of_beq_eq_true hb,h];exact List.mem_cons_self
  |false=>simp only[hb,cond_false] at h;exact List.mem_cons_of_mem _ (ih h)
theorem aaB{bd:List (Nat×Rec×List Nat)}(a3:∀k x b,(k,x,b)∈bd->∀m,m∈b->s' ops m k){i:Nat}:∀{es:List Edge} {m:Nat},m∈lD bd es->∀aq,zB ops aq->
  (∀e,e∈es->Region.binds .any e=true->aq e.on=true)->aq m=true:=by
 intro es;induction es with
 |nil=>intro m h;cases h
 |cons e es ih=>
  intro m h aq hc hf;simp only[lD] at h;cases hb:Region.binds .any e with
  |false=>
   simp only[hb,cond_false] at h;exact ih h aq hc fun b4 l6=>hf b4 (List.mem_cons_of_mem _ l6)
  |true=>
   simp only[hb,cond_true] at h;have h0:=hf e List.mem_cons_self hb;split at h
   ·rename_i x hx;rcases List.mem_cons.1 h with rfl|h
    ·exact h0
    ·rcases List.mem_append.1 h with h|h
     ·have hm:(e.on,x)∈bd:=MP hx;obtain⟨qG,jS⟩:=x;exact a3 _ _ _ hm m h aq hc (hc _ h0)
     ·exact ih h aq hc fun b4 l6=>hf b4 (List.mem_cons_of_mem _ l6)
   ·exact ih h aq hc fun b4 l6=>hf b4 (List.mem_cons_of_mem _ l6)
structure so(C:Ctx)(ops:Array Oper)(st:ad)(D:Oper)(x:Rec):Prop where
 gQ:x.D=D
 guard:∀j want,D.guard=some (j,want)->∃t,(ops[j]?).bind (·.dst)=some t/\t∈x.ky/\((∃b,st.get t=one (.bool b)/\(x.go=(b==want)))\/((∃u,st.get t=bP (.cB (.tuple u)))/\x.go=false))
 free:D.guard=none->x.go=true
 skip:x.go=false->x.v=yN/\x.us=[]
 run:x.go=true->∃y,(step C st D).comp=some y/\(step C st D).qB y=true/\x.v=(step C st D).val y/\x.us=(step C st D).us y/\(∀t,t∈oB (kW D.op)->t∈x.ky)/\(∀o,o∈FA C st D->o∈x.rn)/\(y_ D.op=true->x.A7=true)
inductive kF(C:Ctx)(ops:Array Oper):List Oper->Nat->List (Nat×Rec×List Nat)->ad->List Rec->ad->Prop where
 |nil {i bd st}:kF C ops [] i bd st [] st
 |cons {D r i bd st x xs af} (Y:b6 st D.dst=true) (he:ru i D.after.toList=true) (hx:so C ops st D x) (ag:rJ (lD bd D.after.toList) x bd=true)
   (h:kF C ops r (i+1) ((i,x,lD bd D.after.toList)::bd) (st.cu D.dst x.v x.us) xs af):kF C ops (D::r) i bd st (x::xs) af
theorem ZG{R:Type}{g:Bool}{v:aL}{K:aL->Option R}{r:R}(h:F8 g v K=some r):K v=some r:=by
 unfold F8 at h;cases g with
 |false=>exact h
 |true=>
  simp only[cond_true] at h;split at h
  ·rename_i b;cases b<;>exact h
  ·exact h
theorem Xf{R:Type}{C:Ctx}{g:Bool}{st:ad}{D:Oper}{K:Rec->Option R}{r:R}(h:Fc C ops g st D K=some r):∃x,so C ops st D x/\K x=some r:=by
 have run:∀gs,yH C g st D gs K=some r->(∀j want,D.guard=some (j,want)->∃t,(ops[j]?).bind (·.dst)=some t/\t∈gs/\∃b,st.get t=one (.bool b)/\(b==want)=true)->∃x,so C ops st D x/\K x=some r:=by
  intro gs h hg;unfold yH at h;obtain⟨y,ak,h⟩:=Option.bind_eq_some_iff.1 h;cases hc:(step C st D).qB y with
  |false=>simp[hc] at h
  |true=>
   simp only[hc,cond_true] at h;refine⟨_,⟨rfl,fun j want hj=>?_,fun _=>rfl,fun h=>(by cases h),fun _=>⟨y,ak,hc,rfl,rfl,fun t aE=>List.mem_append.2 (.inr aE),fun _ h=>h,fun h=>h⟩⟩,ZG h⟩
   obtain⟨t,h1,h2,b,aa,aH⟩:=hg j want hj;exact⟨t,h1,List.mem_append.2 (.inl h2),.inl ⟨b,aa,aH.symm⟩⟩
 have skip:∀gs,Da D gs K=some r->(∃j want,D.guard=some (j,want)/\∃t,(ops[j]?).bind (·.dst)=some t/\t∈gs/\((∃b,st.get t=one (.bool b)/\(b==want)=false)\/∃u,st.get t=bP (.cB (.tuple u))))->∃x,so C ops st D x/\K x=some r:=by
  intro gs h hg;obtain⟨j,want,hj,t,h1,h2,aa⟩:=hg;refine⟨_,⟨rfl,fun UX anS jh=>?_,fun h=>(by rw[hj] at h;cases h),fun _=>⟨rfl,rfl⟩,fun h=>(by cases h)⟩,h⟩
  rw[hj] at jh;cases jh;refine⟨t,h1,h2,?_⟩;rcases aa with⟨b,aa,aH⟩|aa
  ·exact .inl ⟨b,aa,aH.symm⟩
  ·exact .inr ⟨aa,rfl⟩
 unfold Fc at h;split at h
 ·rename_i hg;exact run [] h fun j want hj=>by rw[hg] at hj;cases hj
 ·rename_i j want hg;split at h
  ·rename_i t aE;split at h
   ·rename_i b hb;cases b<;>cases want<;>simp only[cond_true,cond_false,Bool.not_true,Bool.not_false] at h
    ·exact run [t] h fun UX w' jh=>by rw[hg] at jh;cases jh;exact⟨t,aE,List.mem_singleton.2 rfl,false,hb,rfl⟩
    ·exact skip [t] h ⟨j,true,hg,t,aE,List.mem_singleton.2 rfl,.inl ⟨false,hb,rfl⟩⟩
    ·exact skip [t] h ⟨j,false,hg,t,aE,List.mem_singleton.2 rfl,.inl ⟨true,hb,rfl⟩⟩
    ·exact run [t] h fun UX w' jh=>by rw[hg] at jh;cases jh;exact⟨t,aE,List.mem_singleton.2 rfl,true,hb,rfl⟩
   ·rename_i u hu;exact skip [t] h ⟨j,want,hg,t,aE,List.mem_singleton.2 rfl,.inr ⟨u,hu⟩⟩
   ·cases h
  ·cases h
theorem ZW{R:Type}{C:Ctx}{K:ad->Option R}{r:R}:∀{os:List Oper} {i:Nat} {bd:List (Nat×Rec×List Nat)} {st:ad},zy C ops os i bd st K=some r->∃xs af,kF C ops os i bd st xs af/\K af=some r:=by
 intro os;induction os with
 |nil=>intro i bd st h;exact⟨[],st,.nil,h⟩
 |cons D os ih=>
  intro i bd st h;simp only[zy] at h;cases Y:b6 st D.dst&&ru i D.after.toList with
  |false=>simp[Y] at h
  |true=>
   simp only[Y,cond_true] at h;obtain⟨x,hx,h⟩:=Xf h;cases ag:rJ (lD bd D.after.toList) x bd with
   |false=>simp[ag] at h
   |true=>
    simp only[ag,cond_true] at h;obtain⟨xs,af,h1,h2⟩:=ih h;simp only[Bool.and_eq_true] at Y;exact⟨x::xs,af,.cons Y.1 Y.2 hx ag h1,h2⟩
theorem kF.length{C:Ctx}{os:List Oper}{i:Nat}{bd:List (Nat×Rec×List Nat)}{st af:ad}{xs:List Rec}(h:kF C ops os i bd st xs af):xs.length=os.length:=by
 induction h with
 |nil=>rfl
 |cons _ _ _ _ _ ih=>simp[ih]
theorem kF.agG{C:Ctx}{os:List Oper}{i:Nat}{bd:List (Nat×Rec×List Nat)}{st af:ad}{xs:List Rec}(h:kF C ops os i bd st xs af):∀k,dY (fun _=>true) k xs st=af:=by
 induction h with
 |nil=>intro k;rfl
 |cons _ _ hx _ _ ih=>intro k;simp only[dY,cond_true,hx.gQ];exact ih _
theorem kF.at_{C:Ctx}{os:List Oper}{i:Nat}{bd:List (Nat×Rec×List Nat)}{st af:ad}{xs:List Rec}(h:kF C ops os i bd st xs af):∀j x,xs[j]? =some x->
  ∃D,os[j]? =some D/\b6 st D.dst=true/\ru (i+j) D.after.toList=true/\so C ops (dY (fun k=>decide (k<j)) 0 xs st) D x:=by
 induction h with
 |nil=>intro j x h;cases h
 |@cons D r i bd st x xs af Y he hx ag h ih=>
  intro j y ak;cases j with
  |zero=>
   simp only[List.getElem?_cons_zero,Option.some.injEq] at ak;subst ak;refine⟨D,rfl,Y,he,?_⟩;rw[B2 fun j _=>by simp[Nat.blt]]
   exact hx
  |succ j=>
   obtain⟨c5,h1,h2,aa,aH⟩:=ih j y (by simpa using ak)
   refine⟨c5,by simpa using h1,?_,by rw[show i+(j+1)=i+1+j from by omega];exact aa,?_⟩
   ·revert h2;cases c5.dst<;>simp[b6,Ff]
   ·simp only[dY];have mf:decide (0<j+1)=true:=by simp
    rw[mf,cond_true,hx.gQ];rw[J6 (L':=fun k=>decide (k<j)) (k':=0) fun m _=>by simp only[decide_eq_decide];omega]
    exact aH
theorem K4{n:Nat}{l:List Nat}:fI n l=true <-> n∈l:=by
 induction l with
 |nil=>simp[fI]
 |cons m l ih=>
  simp only[fI,Bool.or_eq_true,ih,List.mem_cons];constructor
  ·rintro(h|h)
   ·exact .inl (Nat.eq_of_beq_eq_true h)
   ·exact .inr h
  ·rintro(h|h)
   ·exact .inl (by rw[h];exact Nat.beq_refl m)
   ·exact .inr h
theorem XR{wa:List Nat}{x:Rec}:∀{bd:List (Nat×Rec×List Nat)},rJ wa x bd=true->∀k y b,(k,y,b)∈bd->k∈wa\/lK y x=false:=by
 intro bd;induction bd with
 |nil=>intro _ k y b h;cases h
 |cons p bd ih=>
  obtain⟨j,z,apc⟩:=p;intro h k y b hm;simp only[rJ,Bool.and_eq_true,Bool.or_eq_true] at h;rcases List.mem_cons.1 hm with hm|hm
  ·cases hm;rcases h.1 with h1|h1
   ·exact .inl (K4.1 h1)
   ·exact .inr (by simpa using h1)
  ·exact ih h.2 k y b hm
theorem kF.ai4{C:Ctx}{os:List Oper}{i:Nat}{bd:List (Nat×Rec×List Nat)}{st af:ad}{xs:List Rec}(h:kF C ops os i bd st xs af):∀(pre:List Rec),pre.length=i->(∀j,ops[i+j]? =os[j]?)->
  (∀k y,pre[k]? =some y->∃b,(k,y,b)∈bd)->(∀k x b,(k,x,b)∈bd->∀m,m∈b->s' ops m k)->∀j x,xs[j]? =some x->∀k y,k<i+j->(pre++xs)[k]? =some y->s' ops k (i+j)\/lK y x=false:=by
 induction h with
 |nil=>intro pre _ _ _ _ j x h;cases h
 |@cons D r i bd st x xs af Y he hx ag h ih=>
  intro pre hlen QG QF QR j y ak k z aj4 hz;have QP:∀m,m∈lD bd D.after.toList->s' ops m i:=fun m hm aq hc hf=>by
   refine aaB QR (i:=i) hm aq hc fun e he hb=>hf D ?_ e he hb
   have:=QG 0;simpa using this
  cases j with
  |zero=>
   simp only[List.getElem?_cons_zero,Option.some.injEq] at ak;subst ak;simp only[Nat.add_zero] at aj4 ⊢;rw[List.getElem?_append_left (by omega)] at hz
   obtain⟨b,hb⟩:=QF k z hz;rcases XR ag k z b hb with h1|h1
   ·exact .inl (QP k h1)
   ·exact .inr h1
  |succ j=>
   have:=ih (pre++[x]) (by simp[hlen]) (fun j=>by have:=QG (j+1);rw[show i+1+j=i+(j+1) from by omega];simpa using this)
    (fun k y ak=>?_) (fun k cW b hm m To=>?_) j y (by simpa using ak) k z (by omega) (by simpa using hz)
   ·rw[show i+(j+1)=i+1+j from by omega];exact this
   ·rcases Nat.lt_or_ge k pre.length with ab|ab
    ·rw[List.getElem?_append_left ab] at ak;obtain⟨b,hb⟩:=QF k y ak;exact⟨b,List.mem_cons_of_mem _ hb⟩
    ·rw[List.getElem?_append_right ab] at ak;have h0:k-pre.length=0:=by
      rcases Nat.eq_zero_or_pos (k-pre.length) with h0|h0
      ·exact h0
      ·rw[List.getElem?_eq_none (by simp;omega)] at ak;cases ak
     rw[h0] at ak;simp only[List.getElem?_cons_zero,Option.some.injEq] at ak;subst ak;have:k=i:=by omega
     subst this;exact⟨_,List.mem_cons_self⟩
   ·rcases List.mem_cons.1 hm with hm|hm
    ·cases hm;exact QP m To
    ·exact QR k cW b hm m To
end
section
variable {P:Program}{L:World}{J:List Nat}{X:Nat->Prop}{B:Nat->Value}{st af:ad}{tm:Array Value}{w:World}
theorem ah.same(S:ah L J X B st tm w)(hv:∀l,de st l=de af l)(hn:st.nt=af.nt):ah L J X B af tm w:=by
 have M:∀o,look st.sites o=look af.sites o:=fun o=>by have:=hv (.inr o);simpa[de,ad.O] using this
 have hg:∀t,st.get t=af.get t:=fun t=>by have:=hv (.inl t);simpa[de] using this
 have hl:∀o,bX st.sites o <-> bX af.sites o:=fun o=>by unfold bX;rw[M]
 have a3:an X B af.sites=an X B st.sites:=by
  funext b
  unfold an;simp only[hl]
 have G:gG B B st.sites af.sites w w (an X B st.sites) (an X B af.sites):=by
  rw[a3];exact⟨fun o O h=>⟨O,by rw[<-M];exact h,Nat.le_refl _,fun _=>rfl⟩,fun _ _ _=>rfl,fun _ h _=>h⟩
 have aX:∀b,an X B af.sites b->b<w.heap.size:=fun b hb=>S.lt (by rw[<-a3];exact hb)
 refine⟨S.nt.trans hn,fun t=>?_,fun o O h=>?_,fun o F b h1 h2=>S.df o F b ((hl o).2 h1) ((hl F).2 h2),fun o b h=>S.b7 o b ((hl o).2 h),S.frame,S.old,S.eS⟩
 ·rw[<-hg];exact(S.cF t).goes G (Nat.le_refl _) aX
 ·exact(S.sites o O (by rw[M];exact h)).goes G (Nat.le_refl _) aX rfl (fun _ _ _=>rfl)
theorem ah.drawn(S:ah L J X B st tm w)(n:Nat):ah L J X B st tm {w with drawn:=n}:=by
 have G:gG B B st.sites st.sites w {w with drawn:=n} (an X B st.sites) (an X B st.sites):=
  ⟨fun o O h=>⟨O,h,Nat.le_refl _,fun _=>rfl⟩,fun _ _ _=>rfl,fun _ h _=>h⟩
 refine⟨S.nt,fun t=>(S.cF t).goes G (Nat.le_refl _) fun b hb=>S.lt hb,fun o O h=>(S.sites o O h).goes G (Nat.le_refl _) (fun b hb=>S.lt hb) rfl (fun _ _ _=>rfl),S.df,S.b7,⟨S.frame.os,S.frame.tape,S.frame.output,S.frame.size,S.frame.block⟩,S.old,S.eS⟩
theorem VL{aD:Type}:∀{us:List (Nat×aD)} {o:Nat} {s:aD},nw us o=some s->o∈keys us:=by
 intro us;induction us with
 |nil=>intro o s h;cases h
 |cons p us ih=>
  obtain⟨k,v⟩:=p;intro o s h;simp only[nw] at h;split at h
  ·rename_i x hx;exact List.mem_cons_of_mem _ (ih hx)
  ·cases hb:k.beq o with
   |true=>rw[<-Nat.eq_of_beq_eq_true hb];exact List.mem_cons_self
   |false=>simp[hb] at h
theorem Cf{n:Nat}{l:List Nat}:fI n l=true <-> n∈l:=K4
theorem q8{l m:List Nat}{n:Nat}(h1:n∈l)(h2:n∈m):eO l m=false:=by
 induction l with
 |nil=>cases h1
 |cons k l ih=>
  simp only[eO];rcases List.mem_cons.1 h1 with rfl|h1
  ·rw[Cf.2 h2];rfl
  ·rw[ih h1,Bool.and_false]
theorem KA{l:List Nat}{n:Nat}(h1:n∈l)(h2:1000000<=n):ur l=true:=by
 induction l with
 |nil=>cases h1
 |cons k l ih=>
  simp only[ur,Bool.or_eq_true];rcases List.mem_cons.1 h1 with rfl|h1
  ·exact .inl (Nat.ble_eq_true_of_le h2)
  ·exact .inr (ih h1)
def Rec.at_(x:Rec):oo->Prop
 |.inl t=>t∈x.ky
 |.inr o=>o∈x.rn\/(x.A7=true/\1000000<=o)
theorem yL{x:Rec}{t:Nat}(h:x.wr (.inl t)≠none):x.D.dst=some t:=by
 simp only[Rec.wr] at h;split at h
 ·rename_i d Y;cases hb:d.beq t with
  |true=>rw[Y,Nat.eq_of_beq_eq_true hb]
  |false=>simp[hb] at h
 ·exact absurd rfl h
theorem yK{x:Rec}{o:Nat}(h:x.wr (.inr o)≠none):o∈keys x.us:=by
 simp only[Rec.wr] at h;cases hl:nw x.us o with
 |none=>simp[hl] at h
 |some s=>exact VL hl
theorem abN{a b:Rec}{l:oo}(h1:a.wr l≠none)(h2:b.at_ l):lK a b=true:=by
 unfold lK;cases l with
 |inl t=>
  have:=yL h1;have h2:t∈b.ky:=h2;simp[this,sw,Cf.2 h2]
 |inr o=>
  have:=yK h1;rcases h2 with h2|⟨h2,aa⟩
  ·have:eO (keys a.us) (b.rn++keys b.us)=false:=q8 this (List.mem_append.2 (.inl h2));simp[this]
  ·have:=KA this aa;simp[this,h2]
theorem abO{a b:Rec}{l:oo}(h1:a.at_ l)(h2:b.wr l≠none):lK a b=true:=by
 unfold lK;cases l with
 |inl t=>
  have:=yL h2;have h1:t∈a.ky:=h1;simp[this,sw,Cf.2 h1]
 |inr o=>
  have:=yK h2;rcases h1 with h2|⟨h2,aa⟩
  ·have:eO (keys b.us) a.rn=false:=q8 this h2;simp[this]
  ·have:=KA this aa;simp[this,h2]
theorem abM{a b:Rec}{l:oo}(h1:a.wr l≠none)(h2:b.wr l≠none):lK a b=true:=by
 unfold lK;cases l with
 |inl t=>
  have e1:=yL h1;have e2:=yL h2;simp[e1,e2,sw,fI]
 |inr o=>
  have e1:=yK h1;have e2:=yK h2;have:eO (keys a.us) (b.rn++keys b.us)=false:=q8 e1 (List.mem_append.2 (.inr e2));simp[this]
variable {C:Ctx}{ops:Array Oper}{rn:Option Nat}{ds:List Deferred}
def nS(aq:Nat->Bool)(i:Nat):Nat->Bool:=fun j=>aq j||decide (j=i)
theorem ZV(az:a9 P C){xs:List Rec}{bn:ad}{i:Nat}{D:Oper}{x:Rec}(hx:xs[i]? =some x)(Y:b6 bn D.dst=true)(hr:so C ops (dY (fun k=>decide (k<i)) 0 xs bn) D x)
  (lJ:∀j y,xs[j]? =some y->∀k z,k<j->xs[k]? =some z->s' ops k j\/lK z y=false) {aq:Nat->Bool} (hc:zB ops aq) (hi:aq i=false) (hf:Ao ops aq i) (ajU:ops[i]? =some D)
  (S:ah L J X B (dY aq 0 xs bn) tm w) {Q:Exit->Act->World->Prop} {K:Act->World->Prop} (bC:∀aB bU w',ah L J X aB (dY (nS aq i) 0 xs bn) bU w'->(∀t,t∉D.dst.toList->bU.getD t undef=tm.getD t undef)->K ⟨bU,ds⟩ w'):wpOpIn (ep rn) 0 P ops Q i K ⟨tm,ds⟩ w:=by
 have Hm:∀l,x.at_ l->de (dY (fun k=>decide (k<i)) 0 xs bn) l=de (dY aq 0 xs bn) l:=fun l hl=>by
  refine(B1 rfl fun j y ak hw=>?_).symm
  simp only[Nat.zero_add];rcases Nat.lt_trichotomy j i with h|h|h
  ·rcases lJ i x hx j y h ak with h1|h1
   ·rw[h1 aq hc hf];simp[h]
   ·rw[abN hw hl] at h1;cases h1
  ·subst h;rw[hi];simp
  ·have:aq j=false:=by
    cases qw:aq j with
    |false=>rfl
    |true=>
     rcases lJ j y ak i x h hx with h1|h1
     ·have:=h1 aq hc (hc j qw);rw[hi] at this;cases this
     ·rw[abO hl hw] at h1;cases h1
   rw[this];simp;omega
 have Pq:∀t,t∈x.ky->(dY (fun k=>decide (k<i)) 0 xs bn).get t=(dY aq 0 xs bn).get t:=fun t aE=>by
  have:=Hm (.inl t) aE;simpa[de] using this
 have zG:∀l,de ((dY aq 0 xs bn).cu x.D.dst x.v x.us) l=de (dY (nS aq i) 0 xs bn) l:=fun l=>by
  rw[xi];cases hw:x.wr l with
  |none=>
   simp only;refine B1 rfl fun j y ak HD=>?_
   simp only[Nat.zero_add,nS];by_cases h:j=i
   ·subst h;rw[hx] at ak;cases ak;exact absurd hw HD
   ·simp[h]
  |some u=>
   simp only;refine(Yo hx (by simp[nS]) hw fun j y hij ak HD=>?_).symm
   simp only[Nat.zero_add,nS];have:aq j=false:=by
    cases qw:aq j with
    |false=>rfl
    |true=>
     rcases lJ j y ak i x hij hx with h1|h1
     ·have:=h1 aq hc (hc j qw);rw[hi] at this;cases this
     ·rw[abM (by rw[hw];intro h;cases h) HD] at h1;cases h1
   rw[this];simp;omega
 have Tz:b6 (dY aq 0 xs bn) D.dst=true:=by revert Y;cases D.dst<;>simp[b6,Dc]
 have fin:∀aB bU w',ah L J X aB ((dY aq 0 xs bn).cu x.D.dst x.v x.us) bU w'->(∀t,t∉D.dst.toList->bU.getD t undef=tm.getD t undef)->K ⟨bU,ds⟩ w':=fun aB bU w' bZ=>bC aB bU w' (bZ.same zG (by rw[Ff,Dc,Dc]))
 unfold wpOpIn;rw[ajU];simp only;have zI:Region.wanted D (yielded ops tm)=x.go:=by
  cases hg:D.guard with
  |none=>rw[hr.free hg];simp[Region.wanted,hg]
  |some IP=>
   obtain⟨j,want⟩:=IP;obtain⟨t,h1,h2,aa⟩:=hr.guard j want hg;rw[show Region.wanted D (yielded ops tm)=(yielded ops tm j==some want) by simp[Region.wanted,hg]]
   have ix:=S.cF t;rw[<-Pq t h2] at ix;rcases aa with⟨b,aa,aH⟩|⟨⟨u,aa⟩,aH⟩
   ·rw[aa] at ix;have hv:=iT ix;have ak:yielded ops tm j=some b:=by
     have aE:t<tm.size:=by
      rcases Nat.lt_or_ge t tm.size with ab|ab
      ·exact ab
      ·simp[Array.getD,Nat.not_lt.2 ab,undef] at hv
     have:tm[t]? =some (.bool b):=by
      rw[Array.getElem?_eq_getElem aE];simpa[Array.getD,aE] using hv
     simp[yielded,h1,this]
    rw[ak,aH];cases b<;>cases want<;>rfl
   ·rw[aa] at ix;have hv:tm.getD t undef=.tuple u:=ix;have ak:yielded ops tm j=none:=by
     simp only[yielded,h1,Option.bind_some];cases aE:tm[t]? with
     |none=>rfl
     |some v=>
      have:tm.getD t undef=v:=by simp[Array.getD_eq_getD_getElem?,aE]
      rw[this] at hv;rw[hv]
    rw[ak,aH];rfl
 cases s0:x.go with
 |false=>
  rw[s0] at zI;rw[if_neg (by rw[zI];decide)]
  obtain⟨e1,e2⟩:=hr.skip s0;refine⟨fun f _=>zX rn f,wT (R:=ad) (r:=(dY aq 0 xs bn).cu D.dst yN []) S (K:=some) (by simp[rH,Tz]) fun dM fM dl b5 h1 c7=>?_⟩
  cases h1;refine fin fM dl b5 ?_
  rw[hr.gQ,e1,e2];exact c7
 |true=>
  rw[s0] at zI;rw[if_pos zI];obtain⟨y,g1,g2,g3,eH,oe,wu,wq⟩:=hr.run s0;have c':step C (dY (fun k=>decide (k<i)) 0 xs bn) D=step C (dY aq 0 xs bn) D:=by
   refine Xz (fun t aE=>Pq t (oe t aE)) (fun o bh=>?_) fun aei o bh=>?_
   ·have:=Hm (.inr o) (.inl (wu o bh));simpa[de] using this
   ·have:=Hm (.inr o) (.inr ⟨wq aei,bh⟩);simpa[de] using this
  revert y
  rw[c'];intro y g1 g2 g3 eH;refine np (R:=ad) (r:=(dY aq 0 xs bn).cu D.dst x.v x.us) S az (K:=some) ?_ fun dM fM dl b5 h1 c7=>?_
  ·unfold j2;rw[Tz,cond_true,g1];simp only[Option.bind_some,g2,cond_true,g3,eH]
  ·cases h1;refine fin fM dl b5 ?_
   rw[hr.gQ];exact c7
def vi(listed:Array Bool):Nat:=listed.toList.count false
def gm(listed:Array Bool):Nat->Bool:=fun j=>listed.getD j false
theorem aaN{listed:Array Bool}{i:Nat}(h:listed.getD i true=false):vi (listed.setIfInBounds i true)+1=vi listed:=by
 unfold vi;have aX:i<listed.size:=by
  rcases Nat.lt_or_ge i listed.size with ab|ab
  ·exact ab
  ·simp[Array.getD,Nat.not_lt.2 ab] at h
 have hv:listed.toList[i]'(by simpa using aX)=false:=by simpa[Array.getD,aX] using h
 rw[Array.toList_setIfInBounds,List.count_set (by simpa using aX)]
 rw[hv];have:0<listed.toList.count false:=List.count_pos_iff.2 (by rw[<-hv];exact List.getElem_mem _)
 have e1:(if(false==false)=true then 1 else 0)=1:=rfl
 have e2:(if(true==false)=true then 1 else 0)=0:=rfl
 rw[e1,e2];omega
theorem Lg{D:Oper}{t:Nat}:∀{l:List Oper},D∈l->t∈D.dst.toList->t∈hS l:=by
 intro l;induction l with
 |nil=>intro h;cases h
 |cons p l ih=>
  intro h aE;simp only[hS,List.mem_append];rcases List.mem_cons.1 h with rfl|h
  ·exact .inl aE
  ·exact .inr (ih h aE)
theorem aar(az:a9 P C){bn Ax:ad}{xs:List Rec}(a0:kF C ops ops.toList 0 [] bn xs Ax){Q:Exit->Act->World->Prop}{ev:Array Value}(Bs:∀B tm w,ah L J X B Ax tm w->(∀t,t∉hS ops.toList->tm.getD t undef=ev.getD t undef)->Q .normal ⟨tm,ds⟩ w):
  ∀(oZ:Nat) (listed:Array Bool) (B:Nat->Value) (tm:Array Value) (w:World),listed.size=ops.size->vi listed<=oZ->zB ops (gm listed)->ah L J X B (dY (gm listed) 0 xs bn) tm w->
   (∀t,t∉hS ops.toList->tm.getD t undef=ev.getD t undef)->wpAnyIn (ep rn) 0 P .any ops Q oZ listed ⟨tm,ds⟩ w:=by
 have hlen:xs.length=ops.size:=by rw[a0.length];simp
 have lJ:∀j y,xs[j]? =some y->∀k z,k<j->xs[k]? =some z->s' ops k j\/lK z y=false:=fun j y ak k z ag hz=>by
  have:=a0.ai4 [] rfl (fun j=>by simp) (fun k y h=>by simp at h) (fun k x b h=>by simp at h) j y ak k z (by omega) (by simpa using hz)
  simpa using this
 have all:∀listed:Array Bool,listed.size=ops.size->(∀j,j<ops.size->gm listed j=true)->∀B tm w,ah L J X B (dY (gm listed) 0 xs bn) tm w->(∀t,t∉hS ops.toList->tm.getD t undef=ev.getD t undef)->Q .normal ⟨tm,ds⟩ w:=fun listed M hl B tm w S aE=>by
  refine Bs B tm w ?_ aE;rw[<-a0.agG 0];rw[J6 (L':=gm listed) (k':=0) fun j hj=>by simp only[Nat.zero_add];rw[hl j (by omega)]]
  exact S
 have done:∀listed:Array Bool,listed.size=ops.size->Region.ready .any ops listed=[]->∀j,j<ops.size->gm listed j=true:=fun listed M hr j=>by
  induction j using Nat.strongRecOn with
  |_ j ih=>
   intro hj;cases qw:gm listed j with
   |true=>rfl
   |false=>
    exfalso
    have hx:xs[j]? =some (xs[j]'(by omega)):=List.getElem?_eq_getElem _
    obtain⟨D,h1,_,aa,_⟩:=a0.at_ j _ hx;have h1:ops[j]? =some D:=by simpa using h1
    have hm:j∈Region.ready .any ops listed:=by
     rw[mem_ready];refine⟨?_,D,h1,fun e he hb=>?_⟩
     ·have aX:j<listed.size:=by omega
      simpa[gm,Array.getD,aX] using qw
     ·have:e.on<j:=by
       have l6:e∈D.after.toList:=by simpa using he
       clear he hr;revert aa
       simp only[Nat.zero_add];generalize D.after.toList=es at l6;induction es with
       |nil=>cases l6
       |cons b4 es ajw=>
        intro aa;simp only[ru,Bool.and_eq_true] at aa;rcases List.mem_cons.1 l6 with rfl|l6
        ·rw[hb] at aa;simpa using aa.1
        ·exact ajw l6 aa.2
      have:=ih e.on this (by omega)
      simpa[gm] using this
    rw[hr] at hm;cases hm
 intro oZ;induction oZ with
 |zero=>
  intro listed B tm w M hu hc S aE;have mN:∀j,j<ops.size->gm listed j=true:=fun j hj=>by
   have h0:listed.toList.count false=0:=Nat.le_zero.1 hu;rw[List.count_eq_zero] at h0;cases qw:gm listed j with
   |true=>rfl
   |false=>
    exfalso
    have aX:j<listed.size:=by omega
    apply h0;have:listed.toList[j]'(by simpa using aX)=false:=by simpa[gm,Array.getD,aX] using qw
    rw[<-this];exact List.getElem_mem _
  refine⟨?_,all listed M mN B tm w S aE⟩;rw[List.eq_nil_iff_forall_not_mem];intro j hj;rw[mem_ready] at hj;obtain⟨h1,D,h2,_⟩:=hj;have hj:j<ops.size:=(Array.getElem?_eq_some_iff.1 h2).1;have:=mN j hj;have aX:j<listed.size:=by omega
  simp[gm,Array.getD,aX] at this h1;rw[h1] at this;cases this
 |succ oZ ih=>
  intro listed B tm w M hu hc S aE;refine⟨fun hr=>all listed M (done listed M hr) B tm w S aE,fun i hi=>?_⟩
  have hV:=mem_ready.1 hi;obtain⟨h1,D,h2,aa⟩:=hV;have kp:i<ops.size:=(Array.getElem?_eq_some_iff.1 h2).1;have hx:xs[i]? =some (xs[i]'(by omega)):=List.getElem?_eq_getElem _
  obtain⟨c5,g1,g2,g3,eH⟩:=a0.at_ i _ hx;have g1:ops[i]? =some c5:=by simpa using g1
  rw[h2] at g1;cases g1;have aX:i<listed.size:=by omega
  have aks:gm listed i=false:=by simpa[gm,Array.getD,aX] using h1
  have hf:Ao ops (gm listed) i:=fun o2 kk e he hb=>by
   rw[h2] at kk;cases kk;have:=aa e (by simpa using he) hb
   simpa[gm] using this
  have k4:gm (listed.setIfInBounds i true)=nS (gm listed) i:=by
   funext j
   simp only[gm,nS];by_cases h:j=i
   ·subst h;simp[aX]
   ·simp[h,Array.getElem?_setIfInBounds_ne (show i≠j from fun e=>h e.symm)]
  refine ZV az hx g2 eH lJ hc aks hf h2 S fun aB bU w' bZ vF=>ih _ aB bU w' (by simpa using M) (by have:=aaN h1;omega) ?_ (by rw[k4];exact bZ) fun t htn=>(vF t fun ab=>htn (Lg (l:=ops.toList) (by simpa using Array.mem_of_getElem? h2) ab)).trans (aE t htn)
  rw[k4];intro j hj o2 kk e he hb;simp only[nS,Bool.or_eq_true,decide_eq_true_eq] at hj;simp only[nS,Bool.or_eq_true,decide_eq_true_eq];rcases hj with hj|hj
  ·exact .inl (hc j hj o2 kk e he hb)
  ·subst hj;exact .inl (hf o2 kk e he hb)
theorem ZO:∀l:List Nat,dq st.sites (zp st l):=by
 intro l;induction l with
 |nil=>exact .nil
 |cons t l ih=>
  refine dq.append ?_ ih;unfold OX;split
  ·rename_i o s _;split
   ·rename_i am t xs M;cases hb:am.beq s with
    |false=>exact .nil
    |true=>
     intro F O hm;simp only[cond_true,List.mem_singleton,Prod.mk.injEq] at hm;obtain⟨rfl,rfl⟩:=hm;exact⟨am,t,xs,rfl,.inl M⟩
   ·exact .nil
  ·exact .nil
theorem Ye(az:a9 P C)(hm:P.follows .mixedOrders=true){R:Type}{r:R}{K:ad->Option R}{id:Nat}{Q:Exit->Act->World->Prop}(S:ah L J X B st tm w)(h:MX C ops st K=some r)
  (bC:∀af aB bU w',K af=some r->ah L J X aB af bU w'->(∀t,t∉hS ops.toList->bU.getD t undef=tm.getD t undef)->Q .normal ⟨bU,ds⟩ w'):fU rn P (Code.region id ops true) Q ⟨tm,ds⟩ w:=by
 obtain⟨xs,Ax,a0,ag⟩:=ZW h;have S:ah L J X B (st.hs (zp st (CM ops.toList ops.toList))) tm w:=by rw[ad.tR];exact S.yE (ZO _)
 refine wpIn_region_any hm (aar az a0 (fun B tm w S=>bC Ax B tm w ag S) _ _ B tm _ (by simp) ?_ ?_ ?_ (fun _ _=>rfl))
 ·unfold vi;simp
 ·intro j hj;simp only[gm] at hj;exfalso
  rw[Array.getD_eq_getD_getElem?,Array.getElem?_replicate] at hj;split at hj<;>cases hj
 ·rw[B2 fun j _=>by
   simp only[gm];rw[Array.getD_eq_getD_getElem?,Array.getElem?_replicate];split<;>rfl]
  exact S.drawn _
end
def ss(r:Option Nat)(c:Code):Prop:=r=none\/gB c=true
theorem ss.left{r:Option Nat}{a b:Bool}(h:r=none\/(a&&b)=true):r=none\/a=true:=by
 rcases h with h|h
 ·exact .inl h
 ·simp only[Bool.and_eq_true] at h;exact .inr h.1
theorem ss.right{r:Option Nat}{a b:Bool}(h:r=none\/(a&&b)=true):r=none\/b=true:=by
 rcases h with h|h
 ·exact .inl h
 ·simp only[Bool.and_eq_true] at h;exact .inr h.2
theorem iR{P:Program}{C:g6}(az:a9 P C.toCtx){R:Type}{r:R}{rn:Option Nat}:∀(c:Code) (p:Nat),(rn=none\/gB c=true)->fZ P C c p->∀(L:World) (J:List Nat) (X:Nat->Prop) (st:ad) (B:Nat->Value) (tm:Array Value) (w:World)
  (ds:List Deferred) (K:Out->Option R)
  (Q:Exit->Act->World->Prop),exec C c p st K=some r->ah L J X B st tm w->(∀D e a w',K D=some r->e3 L J X ds tm (cm c) D e a w'->Q e a w')->fU rn P c Q ⟨tm,ds⟩ w:=by
 have piece:∀(c:Code) (p:Nat),(rn=none\/gB c=true)->(∀f,C.nW p=some f->bw P c f)->∀(L:World) (J:List Nat) (X:Nat->Prop) (st:ad) (B:Nat->Value) (tm:Array Value) (w:World) (ds:List Deferred) (K:Out->Option R) (Q:Exit->Act->World->Prop) (x:Option R),
   wrap C p st K x=some r->ah L J X B st tm w->(∀D e a w',K D=some r->e3 L J X ds tm (cm c) D e a w'->Q e a w')->(x=some r->fU rn P c Q ⟨tm,ds⟩ w)->fU rn P c Q ⟨tm,ds⟩ w:=by
  intro c p hn hf L J X st B tm w ds K Q x h S bC hx;unfold wrap at h;cases au:C.nW p with
  |none=>simp only[au] at h;exact hx h
  |some f=>
   simp only[au] at h;cases hc:(f st).comp with
   |none=>simp[hc] at h
   |some y=>
    simp only[hc,Option.bind_some,(f st).run_eq] at h;exact wpIn_mono (hf f au rn hn L J X st y hc B tm w ds S) fun e a w' hl=>bC _ e a w' h hl
 intro c;induction c with
 |skip=>
  intro p _ _ L J X st B tm w ds K Q h S bC;exact wpIn_skip (bC (.norm st) .normal _ _ h (ec.of S fun _ _=>rfl))
 |region id ops draw=>
  intro p hn dU L J X st B tm w ds K Q h S bC;cases draw with
  |false=>
   simp only[exec] at h;refine piece _ p hn dU L J X st B tm w ds K Q _ h S bC fun ab=>?_
   refine wpIn_region ?_
   rw[List.range_eq_range'];refine Za az (W:=hS ops.toList) ops.size 0 (by omega) (fun D au t aE=>Lg (by simpa using au) aE) st B tm w _ Q S ab ?_
   intro af aB bU w' ag bZ aE;exact bC (.norm af) .normal _ _ ag (ec.of bZ aE)
  |true=>
   simp only[exec] at h;refine piece _ p hn dU L J X st B tm w ds K Q _ h S bC fun ab=>?_
   exact Ye az az.Br S ab fun af aB bU w' ag bZ aE=>bC (.norm af) .normal _ _ ag (ec.of bZ aE)
 |seq a b lV qe=>
  intro p hn dU L J X st B tm w ds K Q h S bC;simp only[exec] at h;refine piece _ p hn dU.1 L J X st B tm w ds K Q _ h S bC fun ab=>?_
  refine wpIn_seq (lV _ (ss.left hn) dU.2.1 L J X st B tm w ds _ _ ab S ?_);intro D e fi w' ag hl;have up:∀{D e fi w'},e3 L J X ds tm (cm a) D e fi w'->e3 L J X ds tm (cm (.seq a b)) D e fi w':=fun hl=>hl.mono fun t aE=>List.mem_append.2 (.inl aE)
  cases D with
  |norm af=>
   cases e<;>try exact hl.elim
   obtain⟨b5,dt,cQ,aB,dw,h1,h2,aa,bZ,bD⟩:=hl;obtain⟨bU,IZ⟩:=fi;obtain⟨aa,akD⟩:=aa;have aa:IZ=dw.map mark++ds:=aa;subst aa;exact qe _ (ss.right hn) dU.2.2 b5 dt cQ af aB bU w' _ K Q ag bZ fun D e a2 w2 hU l1=>bC D e a2 w2 hU (e3.trans h1 h2 akD bD l1)
  |exit id af=>
   cases e<;>try exact hl.elim
   exact bC _ _ _ _ ag (up hl)
  |ret af=>
   cases e<;>try exact hl.elim
   exact bC _ _ _ _ ag (up hl)
 |cond D a b lV qe=>
  intro p hn dU L J X st B tm w ds K Q h S bC;simp only[exec] at h;refine piece _ p hn dU.1 L J X st B tm w ds K Q _ h S bC fun ab=>?_
  split at ab
  ·rename_i t aE;have hv:=Em S aE;have hv:Act.eval ⟨tm,ds⟩ D=.bool t:=by cases D<;>exact hv
   cases t with
   |true=>exact wpIn_cond hv (lV _ (ss.left hn) dU.2.1 L J X st B tm w ds K Q ab S fun D e a2 w2 hU l1=>bC D e a2 w2 hU (l1.mono fun t aE=>List.mem_append.2 (.inl aE)))
   |false=>exact wpIn_cond hv (qe _ (ss.right hn) dU.2.2 L J X st B tm w ds K Q ab S fun D e a2 w2 hU l1=>bC D e a2 w2 hU (l1.mono fun t aE=>List.mem_append.2 (.inr aE)))
  ·cases ab
 |block id a lV=>
  intro p hn dU L J X st B tm w ds K Q h S bC;simp only[exec] at h;refine piece _ p hn dU.1 L J X st B tm w ds K Q _ h S bC fun ab=>?_
  refine wpIn_block (lV _ hn dU.2 L J X st B tm w ds _ _ ab S ?_);intro D e fi w' ag hl;cases D with
  |norm af=>
   cases e<;>try exact hl.elim
   exact bC _ _ _ _ ag hl
  |exit ic af=>
   cases e<;>try exact hl.elim
   rename_i aoD;obtain⟨rfl,hl⟩:=hl;simp only[Exit.inBlock];cases hb:ic.beq id with
   |true=>
    simp only[hb,cond_true] at ag;have:=Nat.eq_of_beq_eq_true hb;subst this;simp only[if_true];exact bC _ _ _ _ ag hl
   |false=>
    simp only[hb,cond_false] at ag;have:ic≠id:=by rintro rfl;rw[Nat.beq_refl] at hb;cases hb
    simp only[this,if_false];exact bC _ _ _ _ ag ⟨rfl,hl⟩
  |ret af=>
   cases e<;>try exact hl.elim
   exact bC _ _ _ _ ag hl
 |loop a _=>
  intro p hn dU L J X st B tm w ds K Q h S bC;simp only[exec] at h;exact piece _ p hn dU L J X st B tm w ds K Q _ h S bC fun ab=>by cases ab
 |rangeFunc=>
  intro p hn dU L J X st B tm w ds K Q h S bC;simp only[exec] at h;exact piece _ p hn dU L J X st B tm w ds K Q _ h S bC fun ab=>by cases ab
 |exit id=>
  intro p _ _ L J X st B tm w ds K Q h S bC;exact wpIn_exit (bC (.exit id st) (.exit id) _ _ h ⟨rfl,ec.of S fun _ _=>rfl⟩)
 |ret=>
  intro p _ _ L J X st B tm w ds K Q h S bC;exact wpIn_ret (bC (.ret st) .ret _ _ h (ec.of S fun _ _=>rfl))
 |_=>
  intro p _ _ L J X st B tm w ds K Q h S bC;simp only[exec] at h;cases h
inductive da:Type where
 |int (k:IntKind)
 |bool
 |str
 |sl (t:aG)
 |map (t:aG)
 |err (T:Nat)
@[reducible] def da.H:da->Type
 |.int _=>Int
 |.bool=>Bool
 |.str=>al
 |.sl t=>List (den t)
 |.map t=>List (al×den t)
 |.err _=>Option Int
def da.mk:(s:da)->s.H->aM
 |.int k,n=>.int k n
 |.bool,b=>.bool b
 |.str,s=>.str s
 |.sl t,xs=>.sl t xs
 |.map t,es=>.map t es
 |.err T,D=>.err T D
def da.ex:(s:da)->aM->Option s.H
 |.int k,.int k' n=>if k=k' then some n else none
 |.bool,.bool b=>some b
 |.str,.str s=>some s
 |.sl t,.sl bk xs=>if h:bk=t then some (h▸xs) else none
 |.map t,.map bk es=>if h:bk=t then some (h▸es) else none
 |.err T,.err fC D=>if fC=T then some D else none
 |_,_=>none
theorem da.OD{s:da}{d:aM}{y:s.H}(h:s.ex d=some y):s.mk y=d:=by
 unfold da.ex at h;split at h
 ·split at h
  ·rename_i e;cases h;subst e;rfl
  ·cases h
 ·cases h;rfl
 ·cases h;rfl
 ·split at h
  ·rename_i e;cases h;subst e;rfl
  ·cases h
 ·split at h
  ·rename_i e;cases h;subst e;rfl
  ·cases h
 ·split at h
  ·rename_i e;cases h;subst e;rfl
  ·cases h
 ·cases h
@[reducible] def ku:List da->Type
 |[]=>Unit
 |s::r=>s.H×ku r
def eE:(aS:List da)->ku aS->List aM
 |[],_=>[]
 |s::r,(y,z)=>s.mk y::eE r z
def u6:(aS:List da)->List aM->Option (ku aS)
 |[],[]=>some ()
 |s::r,d::ds=>match s.ex d,u6 r ds with
  |some y,some z=>some (y,z)
  |_,_=>none
 |_,_=>none
theorem MM:∀{aS:List da} {ds:List aM} {y:ku aS},u6 aS ds=some y->eE aS y=ds:=by
 intro aS;induction aS with
 |nil=>intro ds y h;cases ds with
  |nil=>rfl
  |cons=>cases h
 |cons s aS ih=>
  intro ds y h;cases ds with
  |nil=>cases h
  |cons d ds=>
   simp only[u6] at h;split at h
   ·rename_i a b h1 h2;cases h;simp only[eE,da.OD h1,ih h2]
   ·cases h
@[reducible] def u7:List (List da)->Type
 |[]=>Unit
 |s::r=>ku s×u7 r
def uB:(aS:List (List da))->u7 aS->List (List aM)
 |[],_=>[]
 |s::r,(y,z)=>eE s y::uB r z
def zP:(aS:List (List da))->List (List aM)->Option (u7 aS)
 |[],[]=>some ()
 |s::r,d::ds=>match u6 s d,zP r ds with
  |some y,some z=>some (y,z)
  |_,_=>none
 |_,_=>none
theorem _7:∀{aS:List (List da)} {ds:List (List aM)} {y:u7 aS},zP aS ds=some y->uB aS y=ds:=by
 intro aS;induction aS with
 |nil=>intro ds y h;cases ds with
  |nil=>rfl
  |cons=>cases h
 |cons s aS ih=>
  intro ds y h;cases ds with
  |nil=>cases h
  |cons d ds=>
   simp only[zP] at h;split at h
   ·rename_i a b h1 h2;cases h;simp only[uB,MM h1,ih h2]
   ·cases h
inductive dW:Type where
 |any
 |d (s:da)
 |fn (g:FuncId) (ct:List (List da))
 |ee (aS:List da) (off:Nat)
 |own (n:Nat)
 |ptr (n off:Nat)
 |clo (g:FuncId) (aA:List Nat)
 |ew
 |Qr -- mR nil interface
 |ek (n:Nat) (t:aG)
@[reducible] def dW.H:dW->Type
 |.d s=>s.H
 |.fn _ ct=>u7 ct
 |.ee aS _=>ku aS
 |_=>Unit
def dW.mk:(s:dW)->s.H->aw
 |.any,_=>.any
 |.d s,y=>.d (s.mk y)
 |.fn g ct,y=>.d (.fn g (uB ct y))
 |.ee aS off,y=>.ee (eE aS y) off
 |.own n,_=>.own n 0
 |.ptr n off,_=>.ptr n 0 off
 |.clo g aA,_=>.clo g (aA.map fun n=>(n,0))
 |.ew,_=>.ew
 |.Qr,_=>.cB .nilIface
 |.ek n t,_=>.ek n 0 t 0 0
abbrev Ren:=List (Nat×Option (Nat×Nat))
def mD(aO:Ren)(n o s:Nat):Bool:=match look aO n with
 |some (some (G6,am))=>G6.beq o&&am.beq s
 |_=>false
def tW(aO:Ren):List Nat->List (Nat×Nat)->Bool
 |[],[]=>true
 |n::aA,(o,s)::cs=>mD aO n o s&&tW aO aA cs
 |_,_=>false
def mq(aO:Ren):List Nat
 :=match aO with
 |[]=>[]
 |(_,some (o,_))::r=>o::mq r
 |(_,none)::r=>mq r
def dW.ex(st:ad)(aO:Ren):(s:dW)->aw->Option s.H
 |.any,_=>some ()
 |.d s,.d v=>s.ex v
 |.d (.sl t),.nil _=>some ([]:List (den t))
 |.d (.err _),.cB .nilIface=>some (none:Option Int)
 |.d (.sl t),.own o s=>match st.O o with
  |some (.cS am bk xs)=>bif am.beq s then(if h:bk=t then some (h▸xs:List (den t)) else none) else none
  |_=>none
 |.d (.map t),.own o s=>match st.O o with
  |some (.map am bk es)=>bif am.beq s&&!fI o (mq aO) then(if h:bk=t then some (h▸es:List (al×den t)) else none) else none
  |_=>none
 |.fn g ct,.d (.fn cv cs)=>bif Nat.beq g cv then zP ct cs else none
 |.fn g [],.clo cv []=>bif Nat.beq g cv then some () else none
 |.ee aS off,.ee ds oU=>bif Nat.beq off oU then u6 aS ds else none
 |.own n,.own o s=>bif mD aO n o s then some () else none
 |.own n,.nil _=>match look aO n with|some none=>some ()|_=>none
 |.ptr n off,.ptr o s oU=>bif mD aO n o s&&Nat.beq off oU then some () else none
 |.clo g aA,.clo cv cs=>bif Nat.beq g cv&&tW aO aA cs then some () else none
 |.ew,.ew=>some ()
 |.Qr,.cB .nilIface=>some ()
 |.ek n t,.ek o s bk 0 0=>bif mD aO n o s then(if bk=t then some () else none) else none
 |_,_=>none
@[reducible] def qa:List dW->Type
 |[]=>Unit
 |s::r=>s.H×qa r
def r6:(aS:List dW)->qa aS->List aw
 |[],_=>[]
 |s::r,(y,z)=>s.mk y::r6 r z
def pW(st:ad)(aO:Ren):(aS:List dW)->List aw->Option (qa aS)
 |[],[]=>some ()
 |s::r,l::U=>match s.ex st aO l,pW st aO r U with
  |some y,some z=>some (y,z)
  |_,_=>none
 |_,_=>none
inductive fb:Type where
 |ai (s:dW)
 |agg (aS:List dW)
@[reducible] def fb.H:fb->Type
 |.ai s=>s.H
 |.agg aS=>qa aS
def fb.mk:(s:fb)->s.H->aL
 |.ai s,y=>bP (s.mk y)
 |.agg aS,y=>.av (.agg (r6 aS y))
def fb.ex(st:ad)(aO:Ren):(s:fb)->aL->Option s.H
 |.ai s,.av (.ai l)=>s.ex st aO l
 |.agg aS,.av (.agg U)=>pW st aO aS U
 |_,_=>none
@[reducible] def ut:List (Nat×fb)->Type
 |[]=>Unit
 |s::r=>s.2.H×ut r
def t_:(aS:List (Nat×fb))->ut aS->List (Nat×aL)
 |[],_=>[]
 |s::r,(y,z)=>(s.1,s.2.mk y)::t_ r z
def yF(st:ad)(aO:Ren):(aS:List (Nat×fb))->Option (ut aS)
 |[]=>some ()
 |s::r=>match s.2.ex st aO (st.get s.1),yF st aO r with
  |some y,some z=>some (y,z)
  |_,_=>none
inductive dP:Type where
 |row (t:aG)
 |sq (t:aG) (n:Nat) -- ape anI row,anR length gQ told
 |deep (t:aG)
 |box (aS:List dW)
 |map (t:aG)
@[reducible] def dP.H:dP->Type
 |.row t=>List (den t)
 |.sq t _=>List (den t)
 |.deep t=>List (den t)
 |.box aS=>qa aS
 |.map t=>List (al×den t)
def z2{aD:Type}(z:aD):Nat->List aD->List aD
 |0,_=>[]
 |n+1,xs=>xs.headD z::z2 z n xs.tail
theorem MF{aD:Type}(z:aD):∀(xs:List aD),z2 z xs.length xs=xs
 |[]=>rfl
 |x::xs=>by simp only[List.length_cons,z2,List.headD_cons,List.tail_cons,MF z xs]
def pad{t:aG}(n:Nat)(xs:List (den t)):List (den t):=match wh t with
 |some z=>z2 z n xs
 |none=>xs
theorem acT{t:aG}{n:Nat}{xs:List (den t)}(h:xs.length=n):pad n xs=xs:=by
 subst h;unfold pad;split
 ·exact MF _ _
 ·rfl
def dP.mk:(s:dP)->s.H->Site
 |.row t,xs=>.row 0 t xs
 |.sq t n,xs=>.row 0 t (pad n xs)
 |.deep t,xs=>.deep 0 t xs
 |.box aS,y=>.box 0 (r6 aS y)
 |.map t,es=>.map 0 t es
def dP.ex(st:ad)(aO:Ren):(s:dP)->Option (Nat×Nat)->Option s.H
 |.row t,none=>some ([]:List (den t))
 |.row t,some (o,s)=>match st.O o with
  |some (.row am bk xs)=>bif am.beq s then(if h:bk=t then some (h▸xs:List (den t)) else none) else none
  |_=>none
 |.deep t,none=>some ([]:List (den t))
 |.deep t,some (o,s)=>match st.O o with
  |some (.deep am bk xs)=>bif am.beq s then(if h:bk=t then some (h▸xs:List (den t)) else none) else none
  |_=>none
 |.sq _ _,none=>none
 |.sq t n,some (o,s)=>match st.O o with
  |some (.row am bk xs)=>bif am.beq s then(if h:bk=t then(if xs.length=n then some (h▸xs:List (den t)) else none) else none) else none
  |_=>none
 |.box aS,some (o,s)=>match fv st o s with
  |some cells=>pW st aO aS cells
  |none=>none
 |.box _,none=>none
 |.map t,some (o,s)=>match st.O o with
  |some (.map am bk es)=>bif am.beq s then(if h:bk=t then some (h▸es:List (al×den t)) else none) else none
  |_=>none
 |.map _,none=>none
inductive Loc:Type where
 |same
 |slot (t j:Nat)
 |cell (o j:Nat)
def adZ(st:ad):Loc->Option aw
 |.same=>none
 |.slot t j=>match st.get t with
  |.av (.ai l)=>bif Nat.beq j 0 then some l else none
  |.av (.agg U)=>U[j]?
  |_=>none
 |.cell o j=>match st.O o with
  |some (.box _ cells)=>cells[j]?
  |_=>none
def Fs(st:ad)(n:Nat)(l:Loc):Option (Option (Nat×Nat)):=
 match l with
 |.same=>match st.O n with|some s=>some (some (n,s.b2))|none=>none
 |l=>match adZ st l with
  |some (.own o s)=>some (some (o,s))
  |some (.ptr o s _)=>some (some (o,s))
  |some (.ek o s _ _ _)=>some (some (o,s))
  |some (.nil _)=>some none
  |_=>none
@[reducible] def rT:List (Nat×dP×Loc)->Type
 |[]=>Unit
 |s::r=>s.2.1.H×rT r
def fE:(aS:List (Nat×dP×Loc))->rT aS->List (Nat×Site)
 |[],_=>[]
 |s::r,(y,z)=>(s.1,s.2.1.mk y)::fE r z
def yG(st:ad)(aO:Ren):(aS:List (Nat×dP×Loc))->Option (rT aS)
 |[]=>some ()
 |s::r=>match(look aO s.1).bind fun D=>s.2.1.ex st aO D,yG st aO r with
  |some y,some z=>some (y,z)
  |_,_=>none
def pQ(st:ad):List (Nat×dP×Loc)->Option Ren
 |[]=>some []
 |s::r=>match Fs st s.1 s.2.2,pQ st r with
  |some D,some aO=>some ((s.1,D)::aO)
  |_,_=>none
structure Shape where
 cF:List (Nat×fb)
 sites:List (Nat×dP×Loc)
 nt:Nat
@[reducible] def Shape.H(aN:Shape):Type:=ut aN.cF×rT aN.sites
def Shape.st(aN:Shape)(y:aN.H):ad:=⟨t_ aN.cF y.1,fE aN.sites y.2,aN.nt⟩
def Ac(st:ad):dW->aw->List (Nat×Site)
 |.d (.sl _),.own o s=>match st.O o with
  |some (.row am t xs)=>bif am.beq s then [(o,.cS s t xs)] else []
  |some (.deep am t xs)=>bif am.beq s then [(o,.cS s t xs)] else []
  |_=>[]
 |_,_=>[]
def Ab(st:ad):List dW->List aw->List (Nat×Site)
 |s::aS,l::U=>Ac st s l++Ab st aS U
 |_,_=>[]
def QV(st:ad):fb->aL->List (Nat×Site)
 |.ai s,.av (.ai l)=>Ac st s l
 |.agg aS,.av (.agg U)=>Ab st aS U
 |_,_=>[]
def pz(st:ad):List (Nat×fb)->List (Nat×Site)
 |[]=>[]
 |s::r=>QV st s.2 (st.get s.1)++pz st r
def QU(st:ad):dP->Option (Option (Nat×Nat))->List (Nat×Site)
 |.box aS,some (some (o,s))=>match fv st o s with
  |some cells=>Ab st aS cells
  |none=>[]
 |_,_=>[]
def pC(st:ad):List (Nat×dP×Loc)->List (Nat×Site)
 |[]=>[]
 |s::r=>QU st s.2.1 (Fs st s.1 s.2.2)++pC st r
def Shape.ex(aN:Shape)(bn:ad):Option aN.H:=
 let st:=bn.hs (pz bn aN.cF++pC bn aN.sites)
 bif st.nt.beq aN.nt then
  match pQ st aN.sites with
  |some aO=>bif eJ (keys aO)&&eJ (mq aO) then
    match yF st aO aN.cF,yG st aO aN.sites with
    |some y,some z=>some (y,z)
    |_,_=>none
   else none
  |none=>none
 else none
theorem MT{st:ad}{s:dW}{l:aw}:dq st.sites (Ac st s l):=by
 unfold Ac;split
 ·rename_i o s;split
  ·rename_i am t xs hl;cases hb:am.beq s with
   |false=>exact .nil
   |true=>
    have:=Nat.eq_of_beq_eq_true hb;subst this;intro F O hm;simp only[cond_true,List.mem_singleton,Prod.mk.injEq] at hm;obtain⟨rfl,rfl⟩:=hm;exact⟨_,_,_,rfl,.inl hl⟩
  ·rename_i am t xs hl;cases hb:am.beq s with
   |false=>exact .nil
   |true=>
    have:=Nat.eq_of_beq_eq_true hb;subst this;intro F O hm;simp only[cond_true,List.mem_singleton,Prod.mk.injEq] at hm;obtain⟨rfl,rfl⟩:=hm;exact⟨_,_,_,rfl,.inr (.inr hl)⟩
  ·exact .nil
 ·exact .nil
theorem MS{st:ad}:∀{aS:List dW} {U:List aw},dq st.sites (Ab st aS U):=by
 intro aS;induction aS with
 |nil=>intro U;cases U<;>exact .nil
 |cons s aS ih=>
  intro U;cases U with
  |nil=>exact .nil
  |cons l U=>exact MT.append ih
theorem Xc{st:ad}:∀{aS:List (Nat×fb)},dq st.sites (pz st aS):=by
 intro aS;induction aS with
 |nil=>exact .nil
 |cons s aS ih=>
  refine dq.append ?_ ih;unfold QV;split
  ·exact MT
  ·exact MS
  ·exact .nil
theorem Xd{st:ad}:∀{aS:List (Nat×dP×Loc)},dq st.sites (pC st aS):=by
 intro aS;induction aS with
 |nil=>exact .nil
 |cons s aS ih=>
  refine dq.append ?_ ih;unfold QU;split
  ·split
   ·exact MS
   ·exact .nil
  ·exact .nil
def sn(st:ad)(aO:Ren)(bp:List (Nat×Site)):Prop:=
 ∀n D,look aO n=some D->(∃am,look bp n=some am/\am.b2=0)/\∀o s,D=some (o,s)->∃O,look st.sites o=some O/\O.b2=s/\O.live=true
def eN(B:Nat->Value)(aO:Ren)(bp:List (Nat×Site))(n:Nat):Value:=
 match look aO n with
 |some (some (o,_))=>B o
 |some none=>match look bp n with
  |some (.deep _ _ _)=>.tuple #[.slice none 0 0]
  |_=>.slice none 0 0
 |none=>undef
theorem K3{B:Nat->Value}{aO:Ren}{bp:List (Nat×Site)}{n:Nat}(h:look aO n=some none):bY (eN B aO bp n)=.slice none 0 0/\bI (eN B aO bp n)=[]:=by
 unfold eN;rw[h];simp only;split<;>exact⟨rfl,rfl⟩
theorem XK{aO:Ren}{n o s:Nat}(h:mD aO n o s=true):look aO n=some (some (o,s)):=by
 unfold mD at h;split at h
 ·rename_i G6 am hl;simp only[Bool.and_eq_true] at h;rw[hl,Nat.eq_of_beq_eq_true h.1,Nat.eq_of_beq_eq_true h.2]
 ·cases h
section
variable {L:World}{J:List Nat}{X:Nat->Prop}{B:Nat->Value}{st:ad}{tm:Array Value}{w:World}{aO:Ren}{bp:List (Nat×Site)}{bT:Nat->Prop}
theorem x7(S:ah L J X B st tm w)(dz:sn st aO bp){n o s:Nat}(h:mD aO n o s=true){p qK:Prop}(hr:Ref st.sites o s p)(aj:eN B aO bp n=B o->p->qK):Ref bp n 0 qK:=by
 have hl:=XK h;obtain⟨⟨am,h1,h2⟩,aa⟩:=dz n _ hl;obtain⟨O,aH,bD,_⟩:=aa o s rfl;exact Ref.mk h1 h2 (aj (by simp[eN,hl]) (Ref.at hr aH bD))
theorem XL(S:ah L J X B st tm w)(dz:sn st aO bp):∀{aA:List Nat} {cs:List (Nat×Nat)} {vs:List Value},tW aO aA cs=true->vs.length=cs.length->
  (∀i (h:i<cs.length) (ab:i<vs.length),Ref st.sites (cs[i]).1 (cs[i]).2 (vs[i]=bY (B (cs[i]).1)))->
  vs.length=(aA.map fun n=>(n,0)).length/\∀i (h:i<(aA.map fun n=>((n,0):Nat×Nat)).length) (ab:i<vs.length),Ref bp ((aA.map fun n=>((n,0):Nat×Nat))[i]).1 ((aA.map fun n=>((n,0):Nat×Nat))[i]).2 (vs[i]=bY (eN B aO bp ((aA.map fun n=>((n,0):Nat×Nat))[i]).1)):=by
 intro aA;induction aA with
 |nil=>
  intro cs vs h hl _;match cs,h with
  |[],_=>exact⟨by simpa using hl,fun i h=>by simp at h⟩
 |cons n aA ih=>
  intro cs vs h hl hr;match cs,h with
  |(o,s)::cs,h=>
   simp only[tW,Bool.and_eq_true] at h;match vs,hl with
   |v::vs,hl=>
    obtain⟨aC,ao⟩:=ih (vs:=vs) h.2 (by simpa using hl) (fun i g1 g2=>hr (i+1) (by simpa using g1) (by simpa using g2))
    refine⟨by simpa using aC,fun i g1 g2=>?_⟩
    cases i with
    |zero=>exact x7 S dz h.1 (hr 0 (by simp) (by simp)) (fun e p=>p.trans (congrArg bY e.symm))
    |succ i=>exact ao i (by simpa using g1) (by simpa using g2)
def zY(B:Nat->Value)(st:ad)(aO:Ren)(bT:Nat->Prop):Prop:=∀o,bX st.sites o->fI o (mq aO)=false->∀b,b∈bI (B o)->¬bT b
theorem dW.fX(S:ah L J X B st tm w)(dz:sn st aO bp)(b1:∀b,bT b->an X B st.sites b)(dU:zY B st aO bT){s:dW}{l:aw}{y:s.H}{v:Value}(h:s.ex st aO l=some y)(hv:dk B st.sites w (an X B st.sites) l v):
  dk (eN B aO bp) bp w bT (s.mk y) v:=by
 have fw:∀{d:aM} {v:Value},bj w (an X B st.sites) d v->bj w bT d v:=fun h=>b_.fw (B:=B) (sites:=[]) (a:=one _) b1 (fun b hb=>S.lt (b1 b hb)) h
 unfold dW.ex at h;split at h
 ·trivial
 ·rename_i s v';have:s.mk y=v':=da.OD h;show bj w bT (s.mk y) v;rw[this];exact fw hv
 ·rename_i t u;cases h;have hv:v=.slice none 0 0:=hv;rw[hv];exact bj.nil t
 ·rename_i T;cases h;have hv:v=.nilIface:=hv;rw[hv];exact bj.p' T
 ·rename_i t o s;split at h
  ·rename_i am bk xs hl;cases hb:am.beq s with
   |false=>simp[hb] at h
   |true=>
    simp only[hb,cond_true] at h;split at h
    ·rename_i e;subst e;cases h;have M:=Nat.eq_of_beq_eq_true hb;subst M;have hl:look st.sites o=some (.cS am bk xs):=hl;have iI:v=bY (B o):=Ref.at hv.2 hl rfl;rw[iI];exact fw (S.sites o _ hl).1
    ·cases h
  ·cases h
 ·rename_i t o s;split at h
  ·rename_i am bk es hl;cases hb:(am.beq s&&!fI o (mq aO)) with
   |false=>simp[hb] at h
   |true=>
    simp only[hb,cond_true] at h;simp only[Bool.and_eq_true,Bool.not_eq_true'] at hb;split at h
    ·rename_i e;subst e;cases h;have M:=Nat.eq_of_beq_eq_true hb.1;subst M;have hl:look st.sites o=some (.map am bk es):=hl;have iI:v=bY (B o):=Ref.at hv.2 hl rfl;obtain⟨b,h1,h2⟩:=S.sites o _ hl;rw[iI,h1];exact bj.map bk es b (dU o ⟨_,hl,rfl⟩ hb.2 b (fW (by rw[h1];rfl))) h2
    ·cases h
  ·cases h
 ·rename_i g ct cv cs;cases hb:Nat.beq g cv with
  |false=>simp[hb] at h
  |true=>
   simp only[hb,cond_true] at h;have:=Nat.eq_of_beq_eq_true hb;subst this;show bj w bT (.fn g (uB ct y)) v;rw[_7 h];exact fw hv
 ·rename_i g cv;cases hb:Nat.beq g cv with
  |false=>simp[hb] at h
  |true=>
   have:=Nat.eq_of_beq_eq_true hb;subst this;obtain⟨vs,h1,h2,_⟩:=hv;rw[List.eq_nil_of_length_eq_zero h2] at h1;rw[h1];exact j6.fn (bE:=[]) (vs:=[]) trivial
 ·rename_i aS off ds oU;cases hb:Nat.beq off oU with
  |false=>simp[hb] at h
  |true=>
   simp only[hb,cond_true] at h;have:=Nat.eq_of_beq_eq_true hb;subst this;have e:=MM h;obtain⟨b,D,h1,h2,aa,cs,aH,bD,di⟩:=hv;show dk (eN B aO bp) bp w bT (.ee (eE aS y) off) v;rw[e];exact⟨b,D,h1,fun hx=>h2 (b1 b hx),aa,cs,aH,bD,fun j g1 g2=>fw (di j g1 g2)⟩
 ·rename_i n o s;cases hb:mD aO n o s with
  |false=>simp[hb] at h
  |true=>exact⟨hv.1,x7 S dz hb hv.2 (fun e p=>p.trans (by rw[e]))⟩
 ·rename_i n t;split at h
  ·rename_i hl;have hv:v=.slice none 0 0:=hv;obtain⟨⟨am,h1,h2⟩,_⟩:=dz n _ hl;exact⟨by rw[hv];rfl,Ref.mk h1 h2 (by rw[(K3 hl).1,hv])⟩
  ·cases h
 ·rename_i n off o s oU;cases hb:(mD aO n o s&&Nat.beq off oU) with
  |false=>simp[hb] at h
  |true=>
   simp only[Bool.and_eq_true] at hb;have:=Nat.eq_of_beq_eq_true hb.2;subst this;obtain⟨b,h1,h2⟩:=hv;exact⟨b,h1,x7 S dz hb.1 h2 (fun e p=>by rw[e];exact p)⟩
 ·rename_i g aA cv cs;cases hb:(Nat.beq g cv&&tW aO aA cs) with
  |false=>simp[hb] at h
  |true=>
   simp only[Bool.and_eq_true] at hb;have:=Nat.eq_of_beq_eq_true hb.1;subst this;obtain⟨vs,h1,h2,aa⟩:=hv;obtain⟨aC,ao⟩:=XL S dz hb.2 h2 aa;exact⟨vs,h1,aC,ao⟩
 ·trivial
 ·exact hv
 ·rename_i n t o s bk;cases hb:mD aO n o s with
  |false=>simp[hb] at h
  |true=>
   simp only[hb,cond_true] at h;split at h
   ·rename_i e;subst e;obtain⟨b,h1,h2⟩:=hv;exact⟨b,h1,x7 S dz hb h2 (fun e p=>by rw[e];exact p)⟩
   ·cases h
 ·cases h
theorem Yc{aS:List dW}{U:List aw}{y:qa aS}(h:pW st aO aS U=some y)(bQ:(r6 aS y).head?=some .ew):U.head?=some .ew:=by
 cases aS with
 |nil=>cases bQ
 |cons s aS=>
  cases U with
  |nil=>cases h
  |cons l U=>
   simp only[pW] at h;split at h
   ·rename_i a b h1 h2;cases h;simp only[r6,List.head?_cons,Option.some.injEq] at bQ ⊢;cases s with
    |ew=>cases l<;>first|rfl|cases h1
    |_=>cases bQ
   ·cases h
theorem Ma(S:ah L J X B st tm w)(dz:sn st aO bp)(b1:∀b,bT b->an X B st.sites b)(dU:zY B st aO bT):∀{aS:List dW} {U:List aw} {y:qa aS} {vs:List Value},pW st aO aS U=some y->
  ck B st.sites w (an X B st.sites) U vs->ck (eN B aO bp) bp w bT (r6 aS y) vs:=by
 intro aS;induction aS with
 |nil=>
  intro U y vs h hv;match U,h with
  |[],_=>rw[hv.kR];exact .nil
 |cons s aS ih=>
  intro U y vs h hv;match U,h with
  |l::U,h=>
   simp only[pW] at h;split at h
   ·rename_i a b h1 h2;cases h;obtain⟨v,cq,rfl,aC,ao⟩:=hv.inv;exact .cons (dW.fX S dz b1 dU h1 aC) (ih h2 ao)
   ·cases h
theorem fb.fX(S:ah L J X B st tm w)(dz:sn st aO bp)(b1:∀b,bT b->an X B st.sites b)(dU:zY B st aO bT){s:fb}{a:aL}{y:s.H}{v:Value}(h:s.ex st aO a=some y)(hv:b_ B st.sites w (an X B st.sites) a v):
  b_ (eN B aO bp) bp w bT (s.mk y) v:=by
 unfold fb.ex at h;split at h
 ·exact dW.fX S dz b1 dU h hv
 ·obtain⟨vs,h1,h2,aa⟩:=hv;have:=Ma S dz b1 dU h ⟨h2,aa⟩;exact⟨vs,h1,this.1,this.2⟩
 ·cases h
theorem Ya:∀{aS:List (Nat×fb)} {y:ut aS},yF st aO aS=some y->∀t v,look (t_ aS y) t=some v->∃s:fb,∃y':s.H,s.ex st aO (st.get t)=some y'/\v=s.mk y':=by
 intro aS;induction aS with
 |nil=>intro y h t v hl;cases hl
 |cons s aS ih=>
  intro y h t v hl;simp only[yF] at h;split at h
  ·rename_i a b h1 h2;cases h;simp only[t_,look] at hl;cases hb:s.1.beq t with
   |true=>
    simp only[hb,cond_true,Option.some.injEq] at hl;have:=Nat.eq_of_beq_eq_true hb;subst this;exact⟨s.2,a,h1,hl.symm⟩
   |false=>
    simp only[hb,cond_false] at hl;exact ih h2 t v hl
  ·cases h
theorem Yb:∀{aS:List (Nat×dP×Loc)} {y:rT aS},yG st aO aS=some y->∀n bH,look (fE aS y) n=some bH->∃z:dP,∃y':z.H,∃D,look aO n=some D/\z.ex st aO D=some y'/\bH=z.mk y':=by
 intro aS;induction aS with
 |nil=>intro y h n bH hl;cases hl
 |cons s aS ih=>
  intro y h n bH hl;simp only[yG] at h;split at h
  ·rename_i a b h1 h2;cases h;simp only[fE,look] at hl;cases hb:s.1.beq n with
   |true=>
    simp only[hb,cond_true,Option.some.injEq] at hl;have:=Nat.eq_of_beq_eq_true hb;subst this;obtain⟨D,aC,ao⟩:=Option.bind_eq_some_iff.1 h1;exact⟨s.2.1,a,D,aC,ao,hl.symm⟩
   |false=>
    simp only[hb,cond_false] at hl;exact ih h2 n bH hl
  ·cases h
theorem dP.b2(z:dP)(y:z.H):(z.mk y).b2=0:=by cases z<;>rfl
theorem XV{dM:ad}:∀{aS:List (Nat×dP×Loc)} {aO:Ren} {y:rT aS},pQ dM aS=some aO->∀n D,look aO n=some D->(∃am,look (fE aS y) n=some am/\am.b2=0):=by
 intro aS;induction aS with
 |nil=>intro aO y h n D hl;simp only[pQ] at h;cases h;cases hl
 |cons s aS ih=>
  intro aO y h n D hl;simp only[pQ] at h;split at h
  ·rename_i a b h1 h2;cases h;obtain⟨ig,eY⟩:=y;simp only[fE,look] at hl ⊢;cases hb:s.1.beq n with
   |true=>simp only[cond_true];exact⟨_,rfl,dP.b2 _ _⟩
   |false=>
    simp only[hb,cond_false] at hl ⊢;exact ih h2 n D hl
  ·cases h
theorem XU{dM:ad}:∀{aS:List (Nat×dP×Loc)} {aO:Ren},pQ dM aS=some aO->(keys aO).Nodup->∀n z,(n,z,Loc.same)∈aS->∃s,look aO n=some (some (n,s)):=by
 intro aS;induction aS with
 |nil=>intro aO h _ n z hm;simp at hm
 |cons s aS ih=>
  intro aO h hn n z hm;simp only[pQ] at h;split at h
  ·rename_i a b h1 h2;cases h;simp only[keys,List.nodup_cons] at hn;rcases List.mem_cons.1 hm with hm|hm
   ·subst hm;simp only[Fs] at h1;split at h1
    ·cases h1;exact⟨_,by simp[look];rfl⟩
    ·cases h1
   ·obtain⟨am,eT⟩:=ih h2 hn.2 n z hm;refine⟨am,?_⟩;simp only[look];have:¬s.1=n:=by
     rintro rfl;have key:∀{aO:Ren} {n:Nat} {D},look aO n=some D->n∈keys aO:=by
      intro aO;induction aO with
      |nil=>intro n D h;cases h
      |cons p aO ajx=>
       obtain⟨m,q⟩:=p;intro n D h;simp only[look] at h;cases hb:m.beq n with
       |true=>have:=Nat.eq_of_beq_eq_true hb;subst this;exact List.mem_cons_self
       |false=>simp only[hb,cond_false] at h;exact List.mem_cons_of_mem _ (ajx h)
     exact hn.1 (key eT)
    rw[jc this];exact eT
  ·cases h
theorem BK:∀{aO:Ren} {n o s:Nat},look aO n=some (some (o,s))->o∈mq aO:=by
 intro aO;induction aO with
 |nil=>intro n o s h;cases h
 |cons p aO ih=>
  obtain⟨m,D⟩:=p;intro n o s h;simp only[look] at h;cases hb:m.beq n with
  |true=>
   simp only[hb,cond_true,Option.some.injEq] at h;subst h;exact List.mem_cons_self
  |false=>
   simp only[hb,cond_false] at h;have:=ih h;cases D with
   |none=>exact this
   |some q=>exact List.mem_cons_of_mem _ this
theorem WX:∀{aO:Ren} {n m o s am:Nat},(mq aO).Nodup->look aO n=some (some (o,s))->look aO m=some (some (o,am))->n=m:=by
 intro aO;induction aO with
 |nil=>intro n m o s am _ h;cases h
 |cons p aO ih=>
  obtain⟨k,D⟩:=p;intro n m o s am Y h ab;simp only[look] at h ab;have l7:(mq aO).Nodup:=by
   cases D with
   |none=>exact Y
   |some q=>exact(List.nodup_cons.1 Y).2
  cases hb:k.beq n with
  |true=>
   simp only[hb,cond_true,Option.some.injEq] at h;subst h;cases b9:k.beq m with
   |true=>rw[<-Nat.eq_of_beq_eq_true hb,<-Nat.eq_of_beq_eq_true b9]
   |false=>
    simp only[b9,cond_false] at ab;exact absurd (BK ab) (List.nodup_cons.1 Y).1
  |false=>
   simp only[hb,cond_false] at h;cases b9:k.beq m with
   |true=>
    simp only[b9,cond_true,Option.some.injEq] at ab;subst ab;exact absurd (BK h) (List.nodup_cons.1 Y).1
   |false=>
    simp only[b9,cond_false] at ab;exact ih l7 h ab
theorem Shape.fX(S:ah L J X B st tm w){aN:Shape}{y:aN.H}(h:aN.ex st=some y):∃aB,ah L J X aB (aN.st y) tm w/\∀n z,(n,z,Loc.same)∈aN.sites->aB n=B n:=by
 unfold Shape.ex at h;have fA:dq st.sites (pz st aN.cF++pC st aN.sites):=Xc.append Xd;have c7:=S.yE fA;rw[<-ad.tR] at c7;generalize st.hs (pz st aN.cF++pC st aN.sites)=dM at h c7;cases qp:dM.nt.beq aN.nt with
 |false=>simp[qp] at h
 |true=>
  simp only[qp,cond_true] at h;split at h
  ·rename_i aO vr;cases hc:(eJ (keys aO)&&eJ (mq aO)) with
   |false=>simp[hc] at h
   |true=>
    simp only[hc,cond_true] at h;simp only[Bool.and_eq_true,ou] at hc;split at h
    ·rename_i ig eY h1 h2;cases h;have facts:=Yb h2;have Oh:∀{z:dP} {y':z.H} {o s:Nat},z.ex dM aO (some (o,s))=some y'->∃O,look dM.sites o=some O/\O.b2=s/\O.live=true:=by
      intro z y' o s hz;cases z with
      |row t=>
       simp only[dP.ex] at hz;split at hz
       ·rename_i am bk xs hl;cases hb:am.beq s with
        |false=>simp[hb] at hz
        |true=>exact⟨_,hl,Nat.eq_of_beq_eq_true hb,rfl⟩
       ·cases hz
      |sq t n=>
       simp only[dP.ex] at hz;split at hz
       ·rename_i am bk xs hl;cases hb:am.beq s with
        |false=>simp[hb] at hz
        |true=>exact⟨_,hl,Nat.eq_of_beq_eq_true hb,rfl⟩
       ·cases hz
      |deep t=>
       simp only[dP.ex] at hz;split at hz
       ·rename_i am bk xs hl;cases hb:am.beq s with
        |false=>simp[hb] at hz
        |true=>exact⟨_,hl,Nat.eq_of_beq_eq_true hb,rfl⟩
       ·cases hz
      |box aS=>
       simp only[dP.ex] at hz;split at hz
       ·rename_i hl;exact⟨_,gy hl,rfl,rfl⟩
       ·cases hz
      |map t=>
       simp only[dP.ex] at hz;split at hz
       ·rename_i am bk xs hl;cases hb:am.beq s with
        |false=>simp[hb] at hz
        |true=>exact⟨_,hl,Nat.eq_of_beq_eq_true hb,rfl⟩
       ·cases hz
     have dz:sn dM aO (fE aN.sites eY):=by
      intro n D hn;obtain⟨am,vH,qk⟩:=XV (y:=eY) vr n D hn;refine⟨⟨am,vH,qk⟩,fun o s e=>?_⟩
      obtain⟨z,y',c5,aC,ao,_⟩:=facts n am vH;rw[hn] at aC;cases aC;subst e;exact Oh ao
     have live:∀n,bX (fE aN.sites eY) n->∀b,b∈bI (eN B aO (fE aN.sites eY) n)->∃o s,look aO n=some (some (o,s))/\bX dM.sites o/\eN B aO (fE aN.sites eY) n=B o:=by
      rintro n ⟨bH,hn,_⟩ b hb;obtain⟨z,y',D,aC,ao,_⟩:=facts n bH hn;cases D with
      |none=>rw[(K3 aC).2] at hb;cases hb
      |some q=>
       obtain⟨o,s⟩:=q;obtain⟨O,q1,_,dC⟩:=Oh ao;exact⟨o,s,aC,⟨O,q1,dC⟩,by simp[eN,aC]⟩
     have b1:∀b,an X (eN B aO (fE aN.sites eY)) (fE aN.sites eY) b->an X B dM.sites b:=by
      rintro b (hb|⟨n,hn,hb⟩)
      ·exact .inl hb
      ·obtain⟨o,s,_,q2,dC⟩:=live n hn b hb;exact .inr ⟨o,q2,by rw[<-dC];exact hb⟩
     have fw:∀{d:aM} {v:Value},bj w (an X B dM.sites) d v->bj w (an X (eN B aO (fE aN.sites eY)) (fE aN.sites eY)) d v:=
      fun h=>b_.fw (B:=B) (sites:=[]) (a:=one _) b1 (fun b hb=>c7.lt (b1 b hb)) h
     have dU:zY B dM aO (an X (eN B aO (fE aN.sites eY)) (fE aN.sites eY)):=by
      rintro o cr hm b hb (hx|⟨n,hn,vN⟩)
      ·exact(c7.b7 o b cr hb).1 hx
      ·obtain⟨F,s,q1,q2,dC⟩:=live n hn b vN;rw[dC] at vN;have e:=c7.df o F b cr q2 hb vN;subst e;have hin:=BK q1;rw[<-tN] at hin;rw[hm] at hin;cases hin
     refine⟨eN B aO (fE aN.sites eY),⟨?_,fun t=>?_,fun n bH hn=>?_,fun n m b cY gh g1 g2=>?_,fun n b cY g1=>?_,c7.frame,c7.old,c7.eS⟩,fun n z hm=>?_⟩
     ·rw[c7.nt];exact Nat.eq_of_beq_eq_true qp
     ·show b_ _ _ _ _ (ad.get _ t) _;unfold ad.get;cases hl:look (t_ aN.cF ig) t with
      |none=>simp only[Shape.st,hl];trivial
      |some v=>
       simp only[Shape.st,hl];obtain⟨s,y',aC,ao⟩:=Ya h1 t v hl;rw[ao];exact fb.fX c7 dz b1 dU aC (c7.cF t)
     ·have hn:look (fE aN.sites eY) n=some bH:=hn;obtain⟨z,y',D,aC,ao,bv⟩:=facts n bH hn;rw[bv];cases z with
      |row t=>
       cases D with
       |none=>
        simp only[dP.ex] at ao;cases ao;exact⟨0,[],⟨by simp,.inl ⟨by rw[bv] at hn;unfold eN;rw[aC,hn];rfl,rfl⟩⟩,fun j h=>by simp[flat] at h⟩
       |some q=>
        obtain⟨o,s⟩:=q;simp only[dP.ex] at ao;split at ao
        ·rename_i am bk xs hl;cases hb:am.beq s with
         |false=>simp[hb] at ao
         |true=>
          simp only[hb,cond_true] at ao;split at ao
          ·rename_i e;subst e;cases ao;obtain⟨e,cs,q1,q2⟩:=c7.sites o _ hl;refine⟨e,cs,?_,fun j g1 g2=>fw (q2 j g1 g2)⟩
           have:eN B aO (fE aN.sites eY) n=B o:=by simp[eN,aC]
           rw[this];exact q1
          ·cases ao
        ·cases ao
      |sq t m=>
       cases D with
       |none=>cases ao
       |some q=>
        obtain⟨o,s⟩:=q;simp only[dP.ex] at ao;split at ao
        ·rename_i am bk xs hl;cases hb:am.beq s with
         |false=>simp[hb] at ao
         |true=>
          simp only[hb,cond_true] at ao;split at ao
          ·rename_i e;subst e;split at ao
           ·rename_i hlen;cases ao;obtain⟨e,cs,q1,q2⟩:=c7.sites o _ hl;simp only[dP.mk,acT hlen];refine⟨e,cs,?_,fun j g1 g2=>fw (q2 j g1 g2)⟩
            have:eN B aO (fE aN.sites eY) n=B o:=by simp[eN,aC]
            rw[this];exact q1
           ·cases ao
          ·cases ao
        ·cases ao
      |deep t=>
       cases D with
       |none=>
        simp only[dP.ex] at ao;cases ao;have e:eN B aO (fE aN.sites eY) n=.tuple #[.slice none 0 0]:=by rw[bv] at hn;unfold eN;rw[aC,hn];rfl
        exact⟨0,.slice none 0 0,[],[],e,by rw[e];exact List.nodup_nil,⟨by simp,.inl ⟨rfl,rfl⟩⟩,.nil⟩
       |some q=>
        obtain⟨o,s⟩:=q;simp only[dP.ex] at ao;split at ao
        ·rename_i am bk xs hl;cases hb:am.beq s with
         |false=>simp[hb] at ao
         |true=>
          simp only[hb,cond_true] at ao;split at ao
          ·rename_i e;subst e;cases ao;obtain⟨e,v,aA,cs,q1,q2,dC,mb⟩:=c7.sites o _ hl;have:eN B aO (fE aN.sites eY) n=B o:=by simp[eN,aC]
           exact⟨e,v,aA,cs,this.trans q1,by rw[this];exact q2,dC,mb.map fw fun _ _ _ _=>rfl⟩
          ·cases ao
        ·cases ao
      |box aS=>
       cases D with
       |none=>cases ao
       |some q=>
        obtain⟨o,s⟩:=q;simp only[dP.ex] at ao;split at ao
        ·rename_i cells hl;obtain⟨b,T,cur,q1,q2,dC,mb,ai1,qJ⟩:=c7.sites o _ (gy hl);have:=Ma c7 dz b1 dU ao ⟨dC,qJ⟩;exact⟨b,T,cur,by simp[eN,aC,q1],q2,this.1,mb,fun bQ=>ai1 (Yc ao bQ),this.2⟩
        ·cases ao
      |map t=>
       cases D with
       |none=>cases ao
       |some q=>
        obtain⟨o,s⟩:=q;simp only[dP.ex] at ao;split at ao
        ·rename_i am bk es hl;cases hb:am.beq s with
         |false=>simp[hb] at ao
         |true=>
          simp only[hb,cond_true] at ao;split at ao
          ·rename_i e;subst e;cases ao;obtain⟨b,q1,q2⟩:=c7.sites o _ hl;have:eN B aO (fE aN.sites eY) n=B o:=by simp[eN,aC]
           exact⟨b,this.trans q1,q2⟩
          ·cases ao
        ·cases ao
     ·obtain⟨o,s,a1,a2,fr⟩:=live n cY b g1;obtain⟨F,am,aT,aJ,bR⟩:=live m gh b g2;rw[fr] at g1;rw[bR] at g2;have:=c7.df o F b a2 aJ g1 g2;subst this;exact WX hc.2 a1 aT
     ·obtain⟨o,s,a1,a2,fr⟩:=live n cY b g1;rw[fr] at g1;exact c7.b7 o b a2 g1
     ·obtain⟨s,M⟩:=XU vr hc.1 n z hm;simp[eN,M]
    ·cases h
  ·cases h
end
inductive Kind:Type where
 |norm
 |exit (id:Nat)
 |ret
abbrev bg:=Kind×Shape
@[reducible] def aQ:List bg->Type
 |[]=>Empty
 |[D]=>D.2.H
 |D::c5::r=>Sum D.2.H (aQ (c5::r))
def Kind.mk:Kind->ad->Out
 |.norm,st=>.norm st
 |.exit id,st=>.exit id st
 |.ret,st=>.ret st
def k9:(os:List bg)->aQ os->Out
 |[D],y=>D.1.mk (D.2.st y)
 |D::c5::r,y=>match y with
  |.inl y=>D.1.mk (D.2.st y)
  |.inr y=>k9 (c5::r) y
def Kind.gQ:Kind->Out->Option ad
 |.norm,.norm st=>some st
 |.exit id,.exit ic st=>bif Nat.beq id ic then some st else none
 |.ret,.ret st=>some st
 |_,_=>none
def gL:(os:List bg)->Out->Option (aQ os)
 |[],_=>none
 |[D],x=>match D.1.gQ x with
  |some st=>D.2.ex st
  |none=>none
 |D::c5::r,x=>match D.1.gQ x with
  |some st=>(D.2.ex st).map Sum.inl
  |none=>(gL (c5::r) x).map Sum.inr
section
variable {L:World}{J:List Nat}{X:Nat->Prop}{ds:List Deferred}{ev:Array Value}{W:List Nat}
theorem ec.ex{st:ad}{aN:Shape}{y:aN.H}{a:Act}{w:World}(ak:aN.ex st=some y)(h:ec L J X ds ev W st a w):ec L J X ds ev W (aN.st y) a w:=by
 obtain⟨b5,dt,cQ,B,dw,h1,h2,aa,S,bD⟩:=h;obtain⟨aB,bZ,_⟩:=Shape.fX S ak;exact⟨b5,dt,cQ,aB,dw,h1,h2,aa,bZ,bD⟩
theorem Kind.CX{k:Kind}{x:Out}{st:ad}{aN:Shape}{y:aN.H}{e:Exit}{a:Act}{w:World}(h:k.gQ x=some st)(ak:aN.ex st=some y)(hl:e3 L J X ds ev W x e a w):e3 L J X ds ev W (k.mk (aN.st y)) e a w:=by
 cases k<;>cases x<;>simp only[Kind.gQ] at h<;>try(cases h;done)
 ·cases h;cases e<;>try exact hl.elim
  exact ec.ex ak hl
 ·rename_i id ic af;cases hb:Nat.beq id ic with
  |false=>simp[hb] at h
  |true=>
   simp only[hb,cond_true,Option.some.injEq] at h;subst h;cases e<;>try exact hl.elim
   exact⟨(Nat.eq_of_beq_eq_true hb).trans hl.1,ec.ex ak hl.2⟩
 ·cases h;cases e<;>try exact hl.elim
  exact ec.ex ak hl
theorem tF:∀{os:List bg} {x:Out} {y:aQ os} {e:Exit} {a:Act} {w:World},gL os x=some y->e3 L J X ds ev W x e a w->e3 L J X ds ev W (k9 os y) e a w:=by
 intro os;induction os with
 |nil=>intro x y;exact y.elim
 |cons D os ih=>
  intro x y e a w h hl;cases os with
  |nil=>
   simp only[gL] at h;split at h
   ·rename_i st ag;exact Kind.CX ag h hl
   ·cases h
  |cons c5 r=>
   simp only[gL] at h;split at h
   ·rename_i st ag;obtain⟨ig,aC,ao⟩:=Option.map_eq_some_iff.1 h;subst ao;exact Kind.CX ag aC hl
   ·obtain⟨ig,aC,ao⟩:=Option.map_eq_some_iff.1 h;subst ao;exact ih aC hl
end
section
variable {H br:Type}
def iter(f:H->Option (Sum H br)):Nat->H->Option br
 |0,_=>none
 |n+1,y=>match f y with
  |none=>none
  |some (.inl y')=>iter f n y'
  |some (.inr b)=>some b
theorem K9{f:H->Option (Sum H br)}:∀{n m:Nat} {y:H} {b:br},n<=m->iter f n y=some b->iter f m y=some b:=by
 intro n;induction n with
 |zero=>intro m y b _ h;cases h
 |succ n ih=>
  intro m y b c4 h;obtain⟨m,rfl⟩:∃k,m=k+1:=⟨m-1,by omega⟩
  simp only[iter] at h ⊢;split at h
  ·cases h
  ·exact ih (by omega) h
  ·exact h
open Classical in
noncomputable def bO(f:H->Option (Sum H br))(y:H):Option br:=
 if h:∃n b,iter f n y=some b then some (Classical.choose (Classical.choose_spec h)) else none
theorem Ch{f:H->Option (Sum H br)}{y:H}{b:br}:bO f y=some b <-> ∃n,iter f n y=some b:=by
 unfold bO;constructor
 ·intro h;split at h
  ·rename_i ab;cases h;exact⟨_,Classical.choose_spec (Classical.choose_spec ab)⟩
  ·cases h
 ·rintro⟨n,hn⟩;have h:∃n b,iter f n y=some b:=⟨n,b,hn⟩;rw[dif_pos h];have h1:=Classical.choose_spec (Classical.choose_spec h);have h2:=K9 (Nat.le_max_left (Classical.choose h) n) h1;have aa:=K9 (Nat.le_max_right (Classical.choose h) n) hn;rw[h2] at aa;exact aa
theorem xr(f:H->Option (Sum H br))(y:H):bO f y=match f y with
  |none=>none
  |some (.inl y')=>bO f y'
  |some (.inr b)=>some b:=by
 apply Option.ext;intro b;rw[Ch];cases hf:f y with
 |none=>
  simp only;constructor
  ·rintro⟨n,hn⟩;cases n with
   |zero=>cases hn
   |succ n=>simp only[iter,hf] at hn;cases hn
  ·intro h;cases h
 |some s=>
  cases s with
  |inl y'=>
   simp only;rw[Ch];constructor
   ·rintro⟨n,hn⟩;cases n with
    |zero=>cases hn
    |succ n=>simp only[iter,hf] at hn;exact⟨n,hn⟩
   ·rintro⟨n,hn⟩;exact⟨n+1,by simp only[iter,hf];exact hn⟩
  |inr a'=>
   simp only;constructor
   ·rintro⟨n,hn⟩;cases n with
    |zero=>cases hn
    |succ n=>simp only[iter,hf] at hn;exact hn
   ·intro h;exact⟨1,by simp only[iter,hf];exact h⟩
theorem least{p:Nat->Prop}(h:∃n,p n):∃n,p n/\∀m,p m->n<=m:=by
 obtain⟨n,hn⟩:=h;induction n using Nat.strongRecOn with
 |_ n ih=>
  by_cases ab:∃m,m<n/\p m
  ·obtain⟨m,h1,h2⟩:=ab;exact ih m h1 h2
  ·exact⟨n,hn,fun m hm=>Nat.le_of_not_lt fun aX=>ab ⟨m,aX,hm⟩⟩
end
noncomputable def rI(C:g6)(c:Code)(p:Nat)(aN:Shape)(os:List bg)(y:aN.H):Option (Sum aN.H (aQ os)):=
 exec C c (2*p) (aN.st y) fun
  |.norm st=>(aN.ex st).map .inl
  |x=>(gL os x).map .inr
def zS:(os:List bg)->(R:Type)->aQ os->(Out->Option R)->Option R
 |[D],R,y,K=>K (D.1.mk (D.2.st y))
 |D::c5::r,R,y,K=>match y with
  |.inl y=>K (D.1.mk (D.2.st y))
  |.inr y=>zS (c5::r) R y K
theorem Md:∀(os:List bg) (R:Type) (y:aQ os) (K:Out->Option R),zS os R y K=K (k9 os y):=by
 intro os;induction os with
 |nil=>intro R y;exact y.elim
 |cons D os ih=>
  intro R y K;cases os with
  |nil=>rfl
  |cons c5 r=>
   cases y with
   |inl y=>rfl
   |inr y=>exact ih R y K
def bJ(aN:Shape)(os:List bg)(g:aN.H->Option (aQ os)):gM:=fun st=>⟨aQ os,(aN.ex st).bind g,k9 os,zS os,Md os⟩
section
variable {P:Program}{C:g6}
theorem ZE(az:a9 P C.toCtx){c:Code}{p:Nat}{aN:Shape}{os:List bg}(dU:fZ P C c (2*p)){g:aN.H->Option (aQ os)}(hg:∀y,g y=bO (rI C c p aN os) y):
  bw P (.loop c) (bJ aN os g):=by
 intro rn hn L J X st y ak B tm w ds S;simp only[bJ] at ak y ⊢;obtain⟨hH,h1,h2⟩:=Option.bind_eq_some_iff.1 ak;obtain⟨h_,om,_⟩:=Shape.fX S h1;rw[hg] at h2;obtain⟨n0,HS⟩:=Ch.1 h2;have am6:∃fs:Nat->Act->World->Prop,∀n a w,fs n a w <-> ∃z,iter (rI C c p aN os) n z=some y/\ec L J X ds tm (cm c) (aN.st z) a w:=⟨_,fun _ _ _=>Iff.rfl⟩
 obtain⟨fs,mc⟩:=am6;classical
 refine wpIn_loop (I:=fun a w=>∃n,fs n a w) (μ:=fun a w=>if h:∃n,fs n a w then Classical.choose (least h) else 0) ⟨n0,(mc _ _ _).2 ⟨hH,HS,ec.of om fun _ _=>rfl⟩⟩ ?_
 intro a w' cZ;have agc:=(Classical.choose_spec (least cZ)).1;obtain⟨z,hz,b5,dt,cQ,fM,dw,aT,aJ,bR,c7,wy⟩:=(mc _ _ _).1 agc;obtain⟨dl,IZ⟩:=a;obtain⟨bR,akY⟩:=bR;have bR:IZ=dw.map mark++ds:=bR;subst bR;have join:∀{D:Out} {e:Exit} {a2:Act} {w2:World},e3 b5 dt cQ (dw.map mark++ds) dl (cm c) D e a2 w2->e3 L J X ds tm (cm c) D e a2 w2:=fun hl=>
  (e3.trans aT aJ akY wy hl).mono fun t aE=>(List.mem_append.1 aE).elim id id
 cases e':Classical.choose (least cZ) with
 |zero=>rw[e'] at hz;cases hz
 |succ n=>
  rw[e'] at hz;simp only[iter] at hz;have go:∀s,rI C c p aN os z=some s->fU rn P c (fun e a w=>match s with
    |.inl ea=>e3 L J X ds tm (cm c) (.norm (aN.st ea)) e a w
    |.inr b=>e3 L J X ds tm (cm c) (k9 os b) e a w/\e≠.normal) ⟨dl,dw.map mark++ds⟩ w':=by
   intro s M;refine iR az c (2*p) hn dU b5 dt cQ (aN.st z) fM dl w' _ _ _ M c7 ?_
   intro D e a w2 ag hl;have hl:=join hl;cases D with
   |norm qc=>
    obtain⟨ea,q1,q2⟩:=Option.map_eq_some_iff.1 ag;subst q2;exact Kind.CX (k:=.norm) rfl q1 hl
   |exit id qc=>
    obtain⟨ea,q1,q2⟩:=Option.map_eq_some_iff.1 ag;subst q2;exact⟨tF q1 hl,by rintro rfl;exact hl⟩
   |ret qc=>
    obtain⟨ea,q1,q2⟩:=Option.map_eq_some_iff.1 ag;subst q2;exact⟨tF q1 hl,by rintro rfl;exact hl⟩
  cases hr:rI C c p aN os z with
  |none=>rw[hr] at hz;cases hz
  |some s=>
   cases s with
   |inl ea=>
    rw[hr] at hz;refine wpIn_mono (go _ hr) fun e a2 w2 hl=>?_
    cases e<;>try exact hl.elim
    have H5:fs n a2 w2:=(mc _ _ _).2 ⟨ea,hz,hl⟩;refine⟨⟨n,H5⟩,?_⟩;have hex:∃n,fs n a2 w2:=⟨n,H5⟩;simp only[dif_pos hex,dif_pos cZ,e'];have:Classical.choose (least hex)<=n:=(Classical.choose_spec (least hex)).2 n H5;omega
   |inr b=>
    rw[hr] at hz;simp only[Option.some.injEq] at hz;subst hz;refine wpIn_mono (go _ hr) fun e a2 w2 hl=>?_
    cases e<;>first|exact absurd rfl hl.2|exact hl.1
noncomputable def Nk(C:g6)(c:Code)(p:Nat)(aN:Shape)(os:List bg)(y:aN.H):Option (aQ os):=exec C c p (aN.st y) (gL os)
theorem XQ(az:a9 P C.toCtx){c:Code}{p:Nat}{aN:Shape}{os:List bg}(dU:fZ P C c p){g:aN.H->Option (aQ os)}(hg:∀y,g y=Nk C c p aN os y):bw P c (bJ aN os g):=by
 intro rn hn L J X st y ak B tm w ds S;simp only[bJ] at ak y ⊢;obtain⟨hH,h1,h2⟩:=Option.bind_eq_some_iff.1 ak;obtain⟨h_,om,_⟩:=Shape.fX S h1;rw[hg] at h2;exact iR az c p hn dU L J X (aN.st hH) h_ tm w _ _ _ h2 om fun D e a w' ag hl=>tF ag hl
end
end Go.Jk
