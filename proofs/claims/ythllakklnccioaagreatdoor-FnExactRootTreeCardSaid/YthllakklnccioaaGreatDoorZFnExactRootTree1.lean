/- FnExactRootTree: the program's RootTree returns what the reference's returns, for all arguments. (part 2 of 6: JnOps17, JnOps18, JnCall1, JnCall2, JnCall3, JnCall4, JnCall5, JnBld, JnCall6, JnDraw1, JnNest, JnLogic, JnWalk0, JnDraw2, JnDraw3, JnWalk1, JnShape, JnShape2, JnWalk2) Conditions: none beyond the statement. -/
import Derived.Test.YthllakklnccioaaGreatDoorZFnExactRootTree0
import Derived.RangeFuncRecord
import Derived.Below
import Derived.RangeFuncSeq
import Derived.Orders
import Derived.OrdersIn
import Derived.ControlIn
import Derived.LoopIn
import Derived.RangeFuncCalls
set_option linter.unusedVariables false
set_option linter.unusedSimpArgs false
namespace Go.Jk
section
variable {P:Program}{L:World}{J:List Nat}{X:Nat->Prop}{B:Nat->Value}{st:ab}{tm:Array Value}{w:World}{D:Oper}
theorem H9(S:ae L J X B st tm w){T:TypeId}{gW kf:TypeId}{t:aE}{r:Option Operand}{o:Nat}(ar:D.op=.makeMap T r)(cZ:D.dst=some o)(Y:b0 st D.dst=true)(aU:P.underlying T=some (.map gW kf))
  (hr:∀x,r=some x->∃k n,Act.eval ⟨tm,[]⟩ x=.int k n):cq P L J X st tm w D (bD (.own o (aT st o))) [(o,.map (aT st o) t [])]:=by
 have bS:=S.makeMap (o:=o) (t:=t);refine h9 (us:=[(o,.map (aT st o) t [])]) bS Y (vv:=.map (some w.heap.size)) ?_ ?_
 ·unfold execOp;cases r with
  |none=>simp[ar,Instr.makeMap]
  |some x=>
   obtain⟨k,n,hx⟩:=hr x rfl;simp[ar,Instr.makeMap,hx,run_underlying aU,asInt,asIntOf,Result.andThen]
 ·refine⟨rfl,Ref.mk (O:=.map (aT st o) t []) ?_ rfl (by simp[bO])⟩
  simp only[aR,ce];simp
theorem IP(S:ae L J X B st tm w){C:Ctx}(ax:CtxOk P C){T:TypeId}{m k x:Operand}(ar:D.op=.mapUpdate T m k x\/D.op=.insert T m k x)(Y:b0 st D.dst=true):
  Holds (kw.qU C st T m k x) (cq P L J X st tm w D):=by
 have bv:=ax.tt T;unfold kw.qU;split
 ·rename_i gW kf t o s n d aU hm ag hx;rw[aU] at bv;split
  ·rename_i aj u es hl;cases hb:(aj.beq s&&decide (u=t)) with
   |false=>exact .fail
   |true=>
    simp only[cond_true];simp only[Bool.and_eq_true,decide_eq_true_eq] at hb;have M:=Nat.eq_of_beq_eq_true hb.1;subst M;split
    ·rename_i v hv;refine Holds.eX ?_
     have em:=cO S C T m;rw[hm] at em;have pY:=cO S C 0 k;rw[ag] at pY;have ex:=cO S C 0 x;rw[hx] at ex;have hl:look st.sites o=some (.map aj u es):=hl;obtain⟨b,h1,arr,clock,h2,Z⟩:=S.sites o _ hl;have pz:Act.eval ⟨tm,[]⟩ m=B o:=(Ref.at em.2 hl rfl:_=bO (B o)).trans (by rw[h1];rfl)
     obtain⟨bs,om,pD⟩:=g4 (s:=n) pY;have zI:Act.eval ⟨tm,[]⟩ k=gw n:=by rw[om];exact J5 pD
     have zy:Act.eval ⟨tm,[]⟩ x=mB u v:=_E hv (av:=am X B st.sites) ex;obtain⟨oe,nV,r1,r2⟩:=T6 (T:=T) bv.1.1 bv.2.1 h2 Z n v;have bS:=S.ZD hl h1 h2 (nV:=nV) r2;refine qe (us:=[(o,.map aj u (nS es n v))]) bS Y ?_
     unfold execOp;rcases ar with ar|ar
     ·simp only[ar,pz,h1,zI,zy,Sem.run_bind,r1,Result.andThen_ok,Sem.run_pure]
     ·simp only[ar,pz,h1,zI,zy,Sem.run_bind,r1,Result.andThen_ok,Sem.run_pure]
    ·exact .fail
  ·exact .fail
 ·exact .fail
theorem VT(S:ae L J X B st tm w){C:Ctx}(ax:CtxOk P C){T gW kf:TypeId}{t:aE}{m k:Operand}{c:Bool}{l:aq}{n:al}{es:List (al×den t)}{d:aK}(ar:D.op=.lookup T m k c)(Y:b0 st D.dst=true)
  (aU:C.tt T=.map gW kf t) (hm:aO C st T m=.av (.ah l)) (ag:aO C st 0 k=.av (.ah (.d (.str n)))) (FS:mapOf st l=some ⟨t,es⟩) (FT:tO t (jO es n)=some d):
  cq P L J X st tm w D (bif c then .iP [.ah (.d d),.ah (.d (.bool (jO es n).isSome))] else one d) []:=by
 have bv:=ax.tt T;rw[aU] at bv;have em:=cO S C T m;rw[hm] at em;have pY:=cO S C 0 k;rw[ag] at pY;obtain⟨bs,om,pD⟩:=g4 (s:=n) pY;have zI:Act.eval ⟨tm,[]⟩ k=gw n:=by rw[om];exact J5 pD
 have hz:∀cS:Option (den t),tO t cS=some d->(∀x,cS=some x->∀av,a8 w av d (mB t x))/\(cS=none->∃z,(zeroValue kf).run P w=.ok z w/\∀av,a8 w av d z):=by
  intro cS h;have he:=bv.2.2;have key:∀{RQ:TypeDesc} {z:Value},im P kf RQ z->(zeroValue kf).run P w=.ok z w:=by
   intro RQ z h;obtain⟨_,_,_,h⟩:=h;cases hi:P.info? kf with
   |none=>simp[hi] at h
   |some i=>
    simp only[hi,Option.map_some,Option.some.injEq,Prod.mk.injEq] at h;simp[zeroValue,kp hi,h.2]
  cases t<;>first|(exact he.elim)|skip
  ·simp only[tO,Option.some.injEq] at h;subst h;refine⟨fun x hx av=>by subst hx;exact .int _ _,fun hn=>?_⟩
   subst hn;exact⟨_,key he,fun av=>.int _ _⟩
  ·simp only[tO,Option.some.injEq] at h;subst h;refine⟨fun x hx av=>by subst hx;exact .bool _,fun hn=>?_⟩
   subst hn;exact⟨_,key he,fun av=>.bool _⟩
 obtain⟨hz1,hz2⟩:=hz _ FT;have main:∃v,(Instr.lookup T (Act.eval ⟨tm,[]⟩ m) (Act.eval ⟨tm,[]⟩ k) c).run P w=.ok (if c then .tuple #[v,.bool (jO es n).isSome] else v) w/\∀av,a8 w av d v:=by
  rw[zI];rcases Kl S em FS with⟨h1,rfl⟩|⟨b,h1,arr,clock,h2,Z⟩
  ·obtain⟨z,hH,h3⟩:=hz2 rfl;refine⟨z,?_,h3⟩;have hf:=wu (w:=w) (t:=t) bv.2.1 (es:=[]) (arr:=#[]) rfl n;have FR:(Instr.findKey gW (gw n) []).run P w=.ok none w:=hf;simp[Instr.lookup,run_underlying bv.1.1,h1,sM bv.2.1,FR,hH,jO,Result.andThen]
  ·have hf:=wu (w:=w) bv.2.1 Z n;have hg:=VP n es 0;cases a9:kE es n 0 with
   |none=>
    rw[a9] at hf hg;have hg:jO es n=none:=hg.symm;obtain⟨z,hH,h3⟩:=hz2 hg;refine⟨z,?_,h3⟩;simp[Instr.lookup,run_underlying bv.1.1,h1,MapKept.run_getObj_map h2,sM bv.2.1,hf,hH,hg,Result.andThen]
   |some p=>
    rw[a9] at hf hg;have hg:jO es n=some p.2:=hg.symm;refine⟨mB t p.2,?_,hz1 p.2 hg⟩;simp[Instr.lookup,run_underlying bv.1.1,h1,MapKept.run_getObj_map h2,sM bv.2.1,hf,hg,Result.andThen]
 obtain⟨v,r1,r2⟩:=main;refine dl S Y (vv:=if c then .tuple #[v,.bool (jO es n).isSome] else v) ?_ ?_
 ·unfold execOp;simp only[ar,Sem.run_bind,r1,Result.andThen_ok,Sem.run_pure]
 ·cases c with
  |true=>
   refine⟨[v,.bool (jO es n).isSome],rfl,rfl,fun j g1 g2=>?_⟩
   match j,g1 with
   |0,_=>exact r2 _
   |1,_=>exact a8.bool _
  |false=>exact r2 _
theorem Un(S:ae L J X B st tm w){C:Ctx}(ax:CtxOk P C)(Y:b0 st D.dst=true):Holds (kw C st D) (cq P L J X st tm w D):=by
 unfold kw;split
 ·rename_i t r ar;split
  ·rename_i o gW kf ty cZ aU;have bv:=ax.tt t;rw[aU] at bv;split
   ·exact Holds.eX (H9 S ar cZ Y bv.1.1 (fun x h=>by cases h))
   ·rename_i x;split
    ·rename_i k n hx;refine Holds.eX (H9 S ar cZ Y bv.1.1 (fun y h=>?_))
     cases h;have ex:=cO S C 0 x;rw[hx] at ex;exact⟨k,n,ic ex⟩
    ·exact .fail
  ·exact .fail
 ·rename_i t m k x ar;exact IP S ax (.inl ar) Y
 ·rename_i t m k x ar;exact IP S ax (.inr ar) Y
 ·rename_i t m k c ar;split
  ·rename_i gW kf ty l n aU hm ag;split
   ·rename_i u es FS;cases hu:decide (u=ty) with
    |false=>exact .fail
    |true=>
     have hu:=of_decide_eq_true hu;subst hu;simp only[cond_true];split
     ·rename_i d FT;exact Holds.ok (VT S ax ar Y aU hm ag FS FT)
     ·exact .fail
   ·exact .fail
  ·exact .fail
 ·rename_i t x ar;split
  ·rename_i bx q z e n aU hx;exact Holds.ok (R' S ax ar Y aU hx)
  ·exact .fail
 ·exact .fail
end
theorem mF{P:Program}{e:TypeId}{t:aE}(h:CR P e t):au t=1/\(∃d z,im P e d z)/\∃l dU,rS t=some l/\vk t=some dU/\cv (enc t dU)=[l]:=by
 cases t<;>first|exact h.elim|exact⟨rfl,⟨_,_,h⟩,_,_,rfl,rfl,rfl⟩
theorem Ii{P:Program}{e:TypeId}{t:aE}{T:TypeId}(h:CR P e t):t.e7=true->T=kX:=by intro aa;cases t<;>first|exact h.elim|cases aa
theorem A9(t:aE)(x:den t)(xs:List (den t)):flat t (x::xs)=enc t x++flat t xs:=by simp[flat]
theorem CQ(a b:List aK):cv (a++b)=cv a++cv b:=by simp[cv]
theorem Kx{t:aE}{z:den t}(hz:vk t=some z)(xs:List (den t)):y8 t xs xs.length=cv (flat t xs):=by
 unfold y8;rw[hz];suffices h:∀(ys fG:List (den t)),xs=fG++ys->((List.range' fG.length ys.length).flatMap fun j=>cv (enc t (xs.getD j z)))=cv (flat t ys) by
  have:=h xs [] rfl;rw[List.length_nil,<-List.range_eq_range'] at this;exact this
 intro ys;induction ys with
 |nil=>intro fG _;rfl
 |cons y ys ih=>
  intro fG hx;rw[List.length_cons,List.range'_succ,List.flatMap_cons,A9,CQ];have e1:xs.getD fG.length z=y:=by rw[hx];simp[List.getD]
  have e2:=ih (fG++[y]) (by rw[hx];simp)
  rw[List.length_append,List.length_singleton] at e2;rw[e1,e2]
theorem CO{t:aE}:∀{U:List aq} {xs:List (den t)},rO t U=some xs->U=cv (flat t xs):=by
 intro U;induction U with
 |nil=>intro xs h;cases h;rfl
 |cons l U ih=>
  intro xs h;cases l<;>try(cases h;done)
  rename_i d;simp only[rO] at h;split at h
  ·rename_i x ys h1 h2;cases h;rw[A9,CQ,<-ih h2,mS _ _ _ h1];rfl
  ·cases h
theorem sO{az:Type}{n:Nat}{xs ys:List az}(h:long n xs=some ys):ys=xs/\xs.length=n:=by
 unfold long at h;split at h
 ·cases h;exact⟨rfl,by assumption⟩
 ·cases h
section
variable {P:Program}{L:World}{J:List Nat}{X:Nat->Prop}{B:Nat->Value}{st:ab}{tm:Array Value}{w:World}{D:Oper}
theorem ae.jD(S:ae L J X B st tm w):oz w/\∀b,b∈np->¬am X B st.sites b/\b<w.heap.size:=by
 have G:=S.eM;refine⟨_3 (fun b hb=>S.frame.block b (G.lt b hb) (G.J b hb)) G.ok,fun b hb=>⟨?_,Nat.lt_of_lt_of_le (G.lt b hb) S.frame.size⟩⟩
 rintro(h|⟨o,h1,h2⟩)
 ·exact G.X b hb h
 ·rcases(S.b1 o b h1 h2).2 with h|h
  ·exact G.J b hb h
  ·have:=G.lt b hb;omega
theorem ZH{ds:List aK}{vs:List Value}{av:Nat->Prop}(h:b' w av ds vs):∀u∈vs,u.oneCell'=true:=by
 intro u hu;obtain⟨j,hj,rfl⟩:=List.getElem_of_mem hu;exact(h.2 j (by rw[<-h.1];exact hj) hj).hN
theorem Kh(S:ae L J X B st tm w){T:TypeId}{o n:Nat}{t:aE}{xs:List (den t)}{vs:List Value}(he:au t=1)(ej:t.e7=true->T=kX)(hv:b' w (am X B st.sites) (flat t xs) vs)(Y:b0 st D.dst=true)
  (cC:(execOp (Act.eval ⟨tm,[]⟩) D).run P w=.ok (.value (.pointer (some ⟨w.heap.size,0,none⟩))) (w.alloc (.cells vs.toArray T (0,0)))):Holds (pd o st t n xs) (cq P L J X st tm w D):=by
 unfold pd;cases hc:(xs.length.beq n&&Nat.ble n 1000) with
 |false=>exact .fail
 |true=>
  simp only[Bool.and_eq_true] at hc;have h1:=Nat.eq_of_beq_eq_true hc.1;have h2:=Nat.le_of_ble_eq_true hc.2;simp only[cond_true];have hl:vs.length=xs.length:=by rw[hv.1,dO,he,Nat.mul_one]
  have bS:=S.Cf (o:=o) (T:=T) (rest:=[]) (cap:=n) hv (by rw[he,hl,h1];simp) (by unfold maxLen;omega) ej
  rw[List.append_nil] at bS;refine Holds.eX (h9 (us:=[(o,.row (aT st o) t xs)]) bS Y cC ?_);refine⟨w.heap.size,by simp,Ref.mk (O:=.row (aT st o) t xs) ?_ rfl ⟨xs.length,n,by simp[bO]⟩⟩
  simp only[aR,ce];simp
theorem We(S:ae L J X B st tm w){C:Ctx}(ax:CtxOk P C){elem e:TypeId}{t:aE}{n o:Nat}(aU:C.tt elem=.arr e t n)(ar:D.op=.alloc elem)(Y:b0 st D.dst=true):Holds (q4 o st t n) (cq P L J X st tm w D):=by
 have bv:=ax.tt elem;rw[aU] at bv;obtain⟨_,_,lH⟩:=id bv;obtain⟨he,_,l,dU,zw,kR,hzz⟩:=mF lH;unfold q4;rw[kR];obtain⟨v,hv,ly⟩:=b8.wq (w:=w) bv (z:=List.replicate n l) (by simp only[b8.zero,zw,Option.map_some])
 obtain⟨h1,h2,Z⟩:=qc ly;have hr:b' w (am X B st.sites) (flat t (List.replicate n dU)) v.cells.toList:=by
  have:=Z B st.sites w (am X B st.sites);have e1:∀n,cv (flat t (List.replicate n dU))=List.replicate n l:=by
   intro n;induction n with
   |zero=>rfl
   |succ n ih=>rw[List.replicate_succ,A9,CQ,hzz,List.replicate_succ,ih];rfl
  refine h' (B:=B) (sites:=st.sites) ?_
  rw[e1];exact⟨h1,this⟩
 refine Kh (T:=elem) S he (Ii lH) hr Y ?_
 unfold execOp;simp[ar,Instr.alloc,hv,newVar,newRow]
theorem YU(S:ae L J X B st tm w){C:Ctx}(ax:CtxOk P C){elem e:TypeId}{t:aE}{n o:Nat}{x:Operand}(aU:C.tt elem=.arr e t n)(ar:D.op=.box elem x)(Y:b0 st D.dst=true):Holds (rR o st t n (aO C st elem x)) (cq P L J X st tm w D):=by
 have bv:=ax.tt elem;rw[aU] at bv;have he:=(mF bv.2.2).1;have a':=cO S C elem x;unfold rR;split
 ·rename_i U hx;rw[hx] at a';split
  ·rename_i xs rX;obtain⟨vs,hv,hl,hr⟩:∃vs:List Value,Act.eval ⟨tm,[]⟩ x=.agg vs.toArray/\vs.length=U.length/\∀j (h:j<U.length) (aa:j<vs.length),c_ B st.sites w (am X B st.sites) (U[j]) (vs[j]):=a';have oh:ca B st.sites w (am X B st.sites) U vs:=⟨hl,hr⟩;rw[CO rX] at oh;refine Kh (T:=elem) S he (Ii bv.2.2) (h' oh) Y ?_
   unfold execOp;simp[ar,Instr.box,newVar,newRow,hv,Value.cells]
  ·exact .fail
 ·exact .fail
theorem ae.arr(S:ae L J X B st tm w){o s:Nat}{t:aE}{xs:List (den t)}{v:Value}(hr:rowOf st o s=some ⟨t,xs⟩)(hv:c_ B st.sites w (am X B st.sites) (.ec o s t 0 0) v):
  ∃b c,∃cs:List Value,v=.pointer (some ⟨b,0,none⟩)/\bO (B o)=.slice (some ⟨b,0,none⟩) xs.length c/\gZ w b 0 cs/\b' w (am X B st.sites) (flat t xs) cs:=by
 obtain⟨cs,hl,iI⟩:=S.row hr;obtain⟨O,fS,ju⟩:∃O,look st.sites o=some O/\O.bX=s:=by
  rcases jb hr with h|h<;>exact⟨_,h,rfl⟩
 obtain⟨b,hv,ue⟩:=hv;obtain⟨n,c,bI⟩:=Ref.at ue fS ju;rcases iI with⟨n_,_⟩|⟨a3,fk,dy,hcs,_⟩
 ·rw[n_] at bI;cases bI
 ·have NG:=bI;rw[dy] at NG;cases NG;exact⟨b,c,cs,by simpa using hv,dy,hcs,h' hl⟩
theorem Xl(S:ae L J X B st tm w){C:Ctx}(ax:CtxOk P C){T e:TypeId}{t:aE}{n:Nat}{x:Operand}(aU:C.tt T=.arr e t n)(ar:D.op=.load T x)(Y:b0 st D.dst=true):Holds (rh st t n (aO C st T x)) (cq P L J X st tm w D):=by
 have bv:=ax.tt T;rw[aU] at bv;obtain⟨he,_,_,dU,_,kR,_⟩:=mF bv.2.2;have a':=cO S C T x;unfold rh;split
 ·rename_i o s u hx;rw[hx] at a';split
  ·rename_i a7 xs cY;split
   ·rename_i gU;obtain⟨rfl,rfl⟩:=gU;refine Holds.dT fun y ai=>?_
    obtain⟨rfl,hlen⟩:=sO (ai:long n xs=some y);obtain⟨b,c,cs,hv,_,hc,hr⟩:=S.arr cY a';have hcl:cs.length=n:=by rw[hr.1,dO,he,hlen,Nat.mul_one]
    refine dl S Y (vv:=.agg cs.toArray) ?_ ?_
    ·have cC:=qa (P:=P) (w:=w) bv (by rintro h;cases h) ⟨b,0,none⟩ cs hcl (fun j u hu=>by rw[f_];exact hc j u hu)
     unfold execOp;simp only[ar,Instr.loadAt,Instr.sureAddr,hv,Sem.run_bind,Sem.run_pure,Result.andThen_ok,cC];rfl
    ·subst hlen;have:=gN (B:=B) (sites:=st.sites) hr.1 hr.2;rw[<-Kx kR] at this;exact⟨cs,rfl,this.1,this.2⟩
   ·exact .fail
  ·exact .fail
 ·exact .fail
theorem Vg(S:ae L J X B st tm w){C:Ctx}(ax:CtxOk P C){T e:TypeId}{t:aE}{n:Nat}{a x:Operand}{v:bg}(aU:C.tt T=.arr e t n)(ar:D.op=.store T a x)(Y:b0 st D.dst=true)(hv:lu (aO C st T x)=some v):
  Holds (qN st t n (aO C st T a) v) (cq P L J X st tm w D):=by
 have bv:=ax.tt T;rw[aU] at bv;have he:=(mF bv.2.2).1;have nn:=cO S C T a;have hex:=cO S C T x;rw[oL hv] at hex;unfold qN;split
 ·rename_i o s u U hx;rw[hx] at nn;split
  ·rename_i aj a7 xs fb;have fb:look st.sites o=some (.row aj a7 xs):=fb;split
   ·rename_i gU;obtain⟨rfl,rfl,rfl⟩:=gU;split
    ·rename_i ys ae8;cases hc:ys.length.beq n with
     |false=>exact .fail
     |true=>
      have zx:=Nat.eq_of_beq_eq_true hc;refine Holds.eV fun r hr=>?_
      obtain⟨_,hlen⟩:=sO (hr:long n xs=some r);obtain⟨vs,ng,hl,du⟩:∃vs:List Value,Act.eval ⟨tm,[]⟩ x=.agg vs.toArray/\vs.length=U.length/\∀j (h:j<U.length) (aa:j<vs.length),c_ B st.sites w (am X B st.sites) (U[j]) (vs[j]):=hex;have oh:ca B st.sites w (am X B st.sites) U vs:=⟨hl,du⟩;rw[CO ae8] at oh;have mu:=h' oh;have j3:vs.length=n:=by rw[mu.1,dO,he,zx,Nat.mul_one]
      obtain⟨b,zD,ue⟩:=nn;obtain⟨m,c,bI⟩:=Ref.at ue fb rfl;obtain⟨bY,cs,jl,hcs⟩:=S.sites o _ fb;rcases jl.2 with⟨hn,_⟩|⟨g,cap,cur,bn,gk,hz,hg,hnc,h0,g6,jt⟩
      ·rw[hn] at bI;cases bI
      ·have ot:=bI;rw[gk] at ot;cases ot;have afL:cur.size=c:=by rw[g6,he,Nat.mul_one]
       have kK:0+vs.length<=cur.toList.length:=by
        have:cur.toList.length=cur.size:=Array.length_toList;omega
       have bS:ae L J X B {st with sites:=b2 st.sites o (.row aj a7 ys)} tm (w.setRow b (bf cur.toList 0 vs).toArray):=by
        refine S.write fb rfl rfl rfl (fL (by rw[gk];rfl)) hg (fun M hw j8 go=>?_)
        refine⟨bY,vs,⟨by rw[he,zx,Nat.mul_one];exact j3,.inr ⟨b,c,_,bn,by rw[gk,hlen,zx],?_,j8,by omega,h0,?_,?_⟩⟩,fun j g1 g2=>jf go (mu.2 j g1 g2)⟩
        ·refine⟨hz.1,hz.2.imp id fun h=>⟨h.1,?_⟩⟩
         rw[List.size_toArray,lU _ _ _ kK];simpa using h.2
        ·rw[List.size_toArray,lU _ _ _ kK,Array.length_toList,afL,he,Nat.mul_one]
        ·rw[he,Nat.mul_one,zx,<-j3];simp[bf]
       refine qe (us:=[(o,.row aj a7 ys)]) bS Y ?_
       have cC:=He (P:=P) (w:=w) bv (by rintro h;cases h) (vv:=.agg vs.toArray) (cur:=cur.toList) (off:=0) (by simpa using hg) (by simpa using hz) (by simpa[Value.cells,b8.size] using j3) (by simpa[Value.cells] using kK) (by simpa[Value.cells] using ZH mu)
       unfold execOp;simp only[ar,zD,ng,Instr.storeAt,Instr.sureAddr,Sem.run_bind,Sem.run_pure,Result.andThen_ok,Nat.zero_mul,Nat.zero_add,cC];simp[Value.cells]
    ·exact .fail
   ·exact .fail
  ·exact .fail
 ·exact .fail
theorem Sv(S:ae L J X B st tm w){C:Ctx}(ax:CtxOk P C){T e:TypeId}{t:aE}{m:Nat}{x i:Operand}{k:IntKind}{n:Int}(aU:C.tt T=.arr e t m)(hi:aO C st 0 i=.av (.ah (.d (.int k n))))(ar:D.op=.indexAddr T x i)(Y:b0 st D.dst=true):
  Holds (qh C st t m (aO C st T x) n) (cq P L J X st tm w D):=by
 have bv:=ax.tt T;rw[aU] at bv;obtain⟨dR,_,lH⟩:=bv;obtain⟨he,⟨d,z3,ms⟩,_⟩:=mF lH;have ud:=je S hi;have a':=cO S C T x;obtain⟨inf,jX,gy⟩:∃inf,P.info? e=some inf/\inf.size=1:=by
  have:=ms.2.2.2;cases aL:P.info? e with
  |none=>simp[aL] at this
  |some i=>simp only[aL,Option.map_some,Option.some.injEq,Prod.mk.injEq] at this;exact⟨i,rfl,this.1⟩
 have run:∀{b:Nat},Act.eval ⟨tm,[]⟩ x=.pointer (some ⟨b,0,none⟩)->0<=n->n<m->(execOp (Act.eval ⟨tm,[]⟩) D).run P w=.ok (.value (.pointer (some ⟨b,n.toNat,none⟩))) w:=by
  intro b hx aQ h1;unfold execOp;simp[ar,hx,ud,Instr.indexAt,Instr.sureAddr,asIntOf,run_underlying dR,aQ,h1,sizeOf,kp jX,gy,f_]
 unfold qh;split
 ·rename_i o s u hx;rw[hx] at a';split
  ·rename_i a7 xs cY;split
   ·rename_i gU;obtain⟨rfl,rfl⟩:=gU;refine Holds.dT fun y ai=>?_
    obtain⟨fG,hz1,hz2⟩:=Option.bind_eq_some_iff.1 (ai:(long m xs).bind (fun xs=>e8 xs.length n)=some y)
    obtain⟨rfl,hlen⟩:=sO hz1;unfold e8 at hz2;split at hz2
    ·rename_i hb;cases hz2;obtain⟨b,c,cs,hv,bI,_⟩:=S.arr cY a';refine dl S Y (run hv hb.1 (by rw[<-hlen];exact hb.2)) ⟨b,?_,?_⟩
     ·rw[he,Nat.mul_one,Nat.add_zero]
     ·rcases jb cY with h|h<;>exact Ref.mk h rfl ⟨_,_,bI⟩
    ·cases hz2
   ·exact .fail
  ·exact .fail
 ·rename_i g hx;rw[hx] at a';split
  ·rename_i a7 xs pF;cases hc:(decide (a7=t)&&xs.length.beq m) with
   |false=>exact .fail
   |true=>
    simp only[Bool.and_eq_true,decide_eq_true_eq] at hc;obtain⟨rfl,hlen⟩:=hc;have hlen:=Nat.eq_of_beq_eq_true hlen;refine Holds.dT fun y ai=>?_
    have dC:bl xs n=some y:=ai;unfold bl at dC;split at dC
    ·rename_i aQ;have aY:n.toNat<xs.length:=by
      rcases Nat.lt_or_ge n.toNat xs.length with h|h
      ·exact h
      ·rw[List.getElem?_eq_none h] at dC;cases dC
     obtain⟨Qh,sf⟩:=ax.gt g _ _ pF;obtain⟨e9,bU⟩:=S.jD;obtain⟨fv,sj,cs,hg,du⟩:=sf w (am X B st.sites) e9;have hv:Act.eval ⟨tm,[]⟩ x=.pointer (some ⟨g,0,none⟩):=a';refine dl S Y (run hv aQ (by omega)) ⟨g,n.toNat,rfl,(bU g Qh).1,(bU g Qh).2,(cs.drop n.toNat).take 1,?_,fun j u hu=>?_,?_⟩
     ·have:cs.length=xs.length:=by rw[du.1,dO,he,Nat.mul_one]
      rw[e3,he];simp;omega
     ·exact(((gZ.row hg).drop n.toNat).take 1) j u hu|>fun h=>by simpa using h
     ·have M:=sL a7 xs n.toNat y dC;rw[he,Nat.mul_one] at M;have mj:b' w (am X B st.sites) (flat a7 xs) cs:=du;have _0:=gN (B:=B) (sites:=st.sites) mj.1 mj.2;have h2:=h' (ds:=((flat a7 xs).drop n.toNat).take 1) (by
       have:=(_0.drop n.toNat).take 1;simpa[cv,List.map_drop,List.map_take] using this)
      rw[M] at h2;exact h2.2
    ·cases dC
  ·exact .fail
 ·exact .fail
theorem VZ(S:ae L J X B st tm w){C:Ctx}(ax:CtxOk P C){T e:TypeId}{t:aE}{m:Nat}{x i:Operand}{k:IntKind}{n:Int}(aU:C.tt T=.arr e t m)(hi:aO C st 0 i=.av (.ah (.d (.int k n))))(ar:D.op=.index T x i)(Y:b0 st D.dst=true):
  Holds (Dn t m (aO C st T x) n) (cq P L J X st tm w D):=by
 have bv:=ax.tt T;rw[aU] at bv;obtain⟨dR,_,lH⟩:=bv;obtain⟨he,⟨d,z3,ms⟩,_⟩:=mF lH;have ud:=je S hi;have a':=cO S C T x;obtain⟨inf,jX,gy⟩:∃inf,P.info? e=some inf/\inf.size=1:=by
  have:=ms.2.2.2;cases aL:P.info? e with
  |none=>simp[aL] at this
  |some i=>simp only[aL,Option.map_some,Option.some.injEq,Prod.mk.injEq] at this;exact⟨i,rfl,this.1⟩
 unfold Dn;split
 ·rename_i U hx;rw[hx] at a';split
  ·rename_i xs rX;cases hc:xs.length.beq m with
   |false=>exact .fail
   |true=>
    have hlen:=Nat.eq_of_beq_eq_true hc;refine Holds.dT fun y ai=>?_
    have dC:bl xs n=some y:=ai;unfold bl at dC;split at dC
    ·rename_i aQ;have aY:n.toNat<xs.length:=by
      rcases Nat.lt_or_ge n.toNat xs.length with h|h
      ·exact h
      ·rw[List.getElem?_eq_none h] at dC;cases dC
     obtain⟨vs,hv,hl,hr⟩:∃vs:List Value,Act.eval ⟨tm,[]⟩ x=.agg vs.toArray/\vs.length=U.length/\∀j (h:j<U.length) (aa:j<vs.length),c_ B st.sites w (am X B st.sites) (U[j]) (vs[j]):=a';have oh:ca B st.sites w (am X B st.sites) U vs:=⟨hl,hr⟩;rw[CO rX] at oh;have mu:=h' oh;have j3:vs.length=xs.length:=by rw[mu.1,dO,he,Nat.mul_one]
     obtain⟨d1,iS⟩:∃d1,enc t y=[d1]:=by
      have:=e3 t y;rw[he] at this;match h:enc t y,this with
      |[d1],_=>exact⟨d1,rfl⟩
     simp only[iS];have ci:n.toNat<vs.length:=by omega
     refine dl S Y (vv:=vs[n.toNat]) ?_ ?_
     ·have ED:(isAgg e).run P w=.ok false w:=by
       have h1:=ms.1;simp only[isAgg,Sem.run_bind,run_underlying h1,Result.andThen_ok];have g1:=ms.2.1;have g2:=ms.2.2.1;cases d<;>first|rfl|exact absurd rfl (g1 _)|exact absurd rfl (g2 _ _)
      have h1:n<(m:Int):=by omega
      unfold execOp;simp[ar,hv,ud,Instr.index,asIntOf,run_underlying dR,aQ,h1,sizeOf,kp jX,gy,part,ED,ci]
     ·have M:=sL t xs n.toNat y dC;rw[he,Nat.mul_one,iS] at M;have mv:n.toNat<(flat t xs).length:=by rw[dO,he,Nat.mul_one];exact aY
      have e1:(flat t xs)[n.toNat]=d1:=by
       have:=congrArg (fun l=>l[0]?) M
       simp only[List.getElem?_take,List.getElem?_drop] at this;rw[if_pos (by decide),Nat.add_zero,List.getElem?_eq_getElem mv] at this
       simpa using this
      have:=mu.2 n.toNat mv ci;rw[e1] at this;exact this
    ·cases dC
  ·exact .fail
 ·exact .fail
theorem Vk(S:ae L J X B st tm w){C:Ctx}(ax:CtxOk P C){T e:TypeId}{t:aE}{m:Nat}{x:Operand}{cA hi:Option Operand}(aU:C.tt T=.arr e t m)(ar:D.op=.slice T x cA hi none)(Y:b0 st D.dst=true):
  Holds (qQ st t m (aO C st T x) (cA.map (aO C st 0)) (hi.map (aO C st 0))) (cq P L J X st tm w D):=by
 have bv:=ax.tt T;rw[aU] at bv;obtain⟨dR,_,lH⟩:=bv;obtain⟨he,⟨d,z3,ms⟩,_⟩:=mF lH;have a':=cO S C T x;obtain⟨inf,jX,gy⟩:∃inf,P.info? e=some inf/\inf.size=1:=by
  have:=ms.2.2.2;cases aL:P.info? e with
  |none=>simp[aL] at this
  |some i=>simp only[aL,Option.map_some,Option.some.injEq,Prod.mk.injEq] at this;exact⟨i,rfl,this.1⟩
 have ph:∀{cA:Option Operand} {kL l:Int},hQ kL (cA.map (aO C st 0))=some l->(cA.map (Act.eval ⟨tm,[]⟩)=none/\l=kL)\/∃k,cA.map (Act.eval ⟨tm,[]⟩)=some (.int k l):=by
  intro cA kL l h;rcases JQ S h with⟨rfl,aa⟩|⟨x,k,rfl,aa⟩
  ·exact .inl ⟨rfl,aa⟩
  ·exact .inr ⟨k,by simp[aa]⟩
 unfold qQ;split
 ·rename_i o s u hx;rw[hx] at a';split
  ·rename_i a7 xs l h cY fF it;split
   ·rename_i gU;obtain⟨rfl,rfl⟩:=gU;refine Holds.eV fun r hr=>?_
    obtain⟨fG,hz1,hz2⟩:=Option.bind_eq_some_iff.1 (hr:(long m xs).bind (fun xs=>dr xs l h)=some r)
    obtain⟨rfl,hlen⟩:=sO hz1;unfold dr at hz2;split at hz2
    ·rename_i hb;obtain⟨aQ,h1,h2⟩:=hb;cases hz2;obtain⟨b,c,cs,hv,bI,_⟩:=S.arr cY a';refine IB (us:=[(o,.cM s a7 fG)]) (JK cY).symm ?_
     have g_:de st.sites [(o,.cM s a7 fG)]:=by
      intro F O hm;simp only[List.mem_singleton,Prod.mk.injEq] at hm;obtain⟨rfl,rfl⟩:=hm;exact⟨s,a7,fG,rfl,(jb cY).elim .inl fun h=>.inr (.inl h)⟩
     have aV:ko L J X B st tm w [(o,.cM s a7 fG)]:=⟨S,g_⟩;have oi:=vF g_ (List.mem_singleton.2 rfl);obtain⟨du,Md⟩:=aV.new.sites o _ oi;rw[bI] at du;generalize P5:Value.slice (some ⟨b,0,none⟩) fG.length c=v at du;cases du with
     |nil=>cases P5
     |sl _ _ a cap iV k ag hcap b3 hl hc hr=>
      cases P5;have afP:=Aw (P:=P) (w:=w) false m m (cA.map (Act.eval ⟨tm,[]⟩)) (hi.map (Act.eval ⟨tm,[]⟩)) l h (ph fF) (ph it) aQ h1 (by omega) (Nat.le_refl _)
      refine h9 (us:=[(o,.cM s a7 fG)]) aV.new Y (vv:=.slice (if m=l.toNat then some ⟨b,0,none⟩ else(some (⟨b,0,none⟩:Addr)).map (·.add (l.toNat*au a7))) (h.toNat-l.toNat) (m-l.toNat)) ?_ ?_
      ·unfold execOp;simp only[ar,Option.map_none,Sem.run_bind,Instr.sliceAt,run_underlying dR,Result.andThen_ok,hv,Instr.sureAddr,Sem.run_pure,afP,sizeOf,kp jX,gy,he];split<;>simp
      ·exact Ce b3 ⟨hl,hr⟩ hc l.toNat h.toNat m (by omega) (by omega) (by omega)
    ·cases hz2
   ·exact .fail
  ·exact .fail
 ·exact .fail
theorem V3{f g:Nat->Option (Nat×Nat)}(h:∀i p,f i=some p->g i=some p):∀(l:List (Nat×Value)) (cs iV:Array Value),Instr.fill f cs l=some iV->Instr.fill g cs l=some iV:=by
 intro l;induction l with
 |nil=>intro cs iV k;exact k
 |cons p l ih=>
  obtain⟨i,v⟩:=p;intro cs iV k;simp only[Instr.fill] at k ⊢;cases hf:f i with
  |none=>simp[hf] at k
  |some q=>
   obtain⟨off,size⟩:=q;rw[h i _ hf];rw[hf] at k;simp only at k ⊢;split at k
   ·cases k
   ·rename_i hn;rw[if_neg hn];exact ih _ _ k
theorem Wb(S:ae L J X B st tm w){C:Ctx}(ax:CtxOk P C){T e:TypeId}{t:aE}{n:Nat}{z:aq}{parts:Array (Nat×Operand)}(aU:C.tt T=.arr e t n)(hz:rS t=some z)(ar:D.op=.build T parts)(Y:b0 st D.dst=true):
  Holds (step.l9 C st ((List.range n).map fun j=>(j,1)) (List.replicate n z) parts.toList) (cq P L J X st tm w D):=by
 have bv:=ax.tt T;rw[aU] at bv;obtain⟨dR,⟨fh,hH,jX,hz1,hzz⟩,lH⟩:=bv;rw[hz] at hz1;cases hz1;obtain⟨he,⟨d,z3,ms⟩,_⟩:=mF lH;obtain⟨akf,afC,ab3⟩:∃inf,P.info? e=some inf/\inf.size=1:=by
  have:=ms.2.2.2;cases aL:P.info? e with
  |none=>simp[aL] at this
  |some i=>simp only[aL,Option.map_some,Option.some.injEq,Prod.mk.injEq] at this;exact⟨i,rfl,this.1⟩
 obtain⟨ay,ao,be⟩:=qc hzz;intro y ai hc;obtain⟨g1,iE,g2,g3⟩:=I5 S parts.toList (List.replicate n z) fh ⟨ay,fun j h aa=>be _ _ _ _ j h aa⟩ y ai hc
 rw[g1];refine dl S Y (vv:=.agg iE) ?_ g3;cases hi:P.info? T with
 |none=>simp[hi] at jX
 |some RH=>
  simp only[hi,Option.map_some,Option.some.injEq,Prod.mk.injEq] at jX;have hb:P.built T (parts.toList.map fun p=>(p.1,Act.eval ⟨tm,[]⟩ p.2))=some iE:=by
   unfold Program.built;simp only[hi,dR,jX.2,afC,ab3];refine V3 (fun i p an=>?_) _ _ _ g2
   simp only[List.getElem?_toArray,List.getElem?_map,Option.map_eq_some_iff] at an;obtain⟨a,a9,rfl⟩:=an;have:=List.getElem?_eq_some_iff.1 a9;obtain⟨h1,h2⟩:=this;simp at h2;subst h2;simp
  have b3:P.built T (parts.map fun p=>(p.1,Act.eval ⟨tm,[]⟩ p.2)).toList=some iE:=by simpa using hb
  unfold execOp;simp only[ar,Sem.run_bind,run_build w T _ iE b3,Result.andThen_ok,Sem.run_pure]
theorem Tc(S:ae L J X B st tm w){C:Ctx}{x:Operand}{k:IntKind}{n:Int}{T dY:TypeId}(ar:D.op=.unOp .xor dY x)(Y:b0 st D.dst=true)(hc:aO C st T x=.av (.ah (.d (.int k n)))):
  cq P L J X st tm w D (one (.int k (ry k (if k.signed then-1 else k.max) n))) []:=by
 refine dl S Y (vv:=.int k (ry k (if k.signed then-1 else k.max) n)) ?_ (.int _ _)
 unfold execOp;simp[ar,je S hc,Op.unary,Op.intBits,ry]
end
def lk:Nat->Value:=fun _=>undef
def lj(w:World)(av:Nat->Prop)(l:aq)(v:Value)(bs:List Nat):Prop:=
 match l with
 |.fresh t xs=>bs=(bc v).toList/\∃e,∃cs:List Value,rowAt w t.e7 e (au t) v xs.length cs/\b' w av (flat t xs) cs
 |.hs t xs=>∃e,∃cs aC:List Value,bs=bu (.tuple (v::aC).toArray)/\rowAt w t.e7 e (au t) v xs.length cs/\Deep w av (flat t xs) cs aC
 |l=>bs=[]/\c_ lk [] w av l v
def fN(w:World)(av:Nat->Prop):List aq->List Value->List Nat->Prop
 |[],[],bs=>bs=[]
 |l::U,v::vs,bs=>∃aS aG,bs=aS++aG/\lj w av l v aS/\fN w av U vs aG
 |_,_,_=>False
def yO(w:World)(av:Nat->Prop):bg->Value->List Nat->Prop
 |.ah l,v,bs=>lj w av l v bs
 |.agg U,v,bs=>∃vs:List Value,v=.agg vs.toArray/\fN w av U vs bs
def jQ(w:World)(av:Nat->Prop):List bg->List Value->List Nat->Prop
 |[],[],bs=>bs=[]
 |l::U,v::vs,bs=>∃aS aG,bs=aS++aG/\yO w av l v aS/\jQ w av U vs aG
 |_,_,_=>False
def CS(w:World)(av:Nat->Prop)(b:Nat)(cells:List aq)(bs:List Nat):Prop:=
 ∃T,∃cur:List Value,∃nr,bs=b::nr/\w.heap[b]? =some (.cells cur.toArray T (0,0))/\(∀u∈cur,u.oneCell'=true)/\me cells T cur b/\fN w av cells cur nr
def Ky(w:World)(av:Nat->Prop):Arg->Value->List Nat->Prop
 |.av a,v,bs=>yO w av a v bs
 |.dx cells,v,bs=>∃b,v=.pointer (some ⟨b,0,none⟩)/\CS w av b cells bs
def hM(w:World)(av:Nat->Prop):List Arg->List Value->List Nat->Prop
 |[],[],bs=>bs=[]
 |l::U,v::vs,bs=>∃aS aG,bs=aS++aG/\Ky w av l v aS/\hM w av U vs aG
 |_,_,_=>False
def dp:List Arg->List Value->List Nat
 |.dx _::as,.pointer (some a)::vs=>a.block::dp as vs
 |_::as,_::vs=>dp as vs
 |_,_=>[]
def lc(w:World)(av:Nat->Prop):List Nat->List (List aq)->List Nat->Prop
 |[],[],bs=>bs=[]
 |b::cV,cs::ck,bs=>∃aS aG,bs=aS++aG/\CS w av b cs aS/\lc w av cV ck aG
 |_,_,_=>False
def hA:Value->List Value
 |.agg vs=>vs.toList
 |v=>[v]
def eT:List Arg->List Value->List Value
 |.av a::as,v::vs=>(bif fJ a.cells then [] else hA v)++eT as vs
 |.dx _::as,_::vs=>eT as vs
 |_,_=>[]
def nX(w:World)(av:Nat->Prop)(cV:List Nat)(ck:List (List aq))(rv:List Value)(ei:List aq)(bs:List Nat):Prop:=
 ∃c1 c2,bs=c1++c2/\lc w av cV ck c1/\(ei=[]/\c2=[]\/fN w av ei rv c2)
theorem nX.of{w:World}{av:Nat->Prop}{cV:List Nat}{ck:List (List aq)}{rv:List Value}{bs:List Nat}(h:lc w av cV ck bs):nX w av cV ck rv [] bs:=⟨bs,[],by simp,h,.inl ⟨rfl,rfl⟩⟩
def mT:List Value->Value
 |[v]=>v
 |vs=>.tuple vs.toArray
def Enters(P:Program)(g:FuncId)(vs:Array Value)(w:World)(R:Value->World->Prop):Prop:=
 ((callFunc g vs).run P w=.ok (.enter g vs) w/\Calls P g vs w fun|.returned v,w'=>R v w'|_,_=>False)\/(∃v w',(callFunc g vs).run P w=.ok (.value v) w'/\R v w')
def a6(P:Program)(g:FuncId)(S:a4):Prop:=
 ∀as y,(S as).comp=some y->∀(w:World) (X:Nat->Prop) (vs:List Value) (cR:List Nat),hM w (fun b=>X b\/b∈cR) as vs cR->cR.Nodup->(∀b,b∈cR->¬X b)->(∀b,X b->b<w.heap.size)->ht w cR X->
  Enters P g vs.toArray w fun v w'=>∃dI di rv,Fr cR w w'/\nX w' (fun b=>X b\/b∈dI++di) (dp as vs) ((S as).dx y) (eT as vs) ((S as).ei y) dI/\jQ w' (fun b=>X b\/b∈dI++di) ((S as).eJ y) rv di/\
   v=mT rv/\(dI++di).Nodup/\∀b,b∈dI++di->¬X b/\(b∈cR\/w.heap.size<=b)
section
variable {L:World}{J:List Nat}{X:Nat->Prop}{B:Nat->Value}{st:ab}{tm:Array Value}{w:World}
theorem b4.fp{sites:List (Nat×Site)}{av bR:Nat->Prop}(h:∀b,bR b->av b)(aY:∀b,bR b->b<w.heap.size){a:aI}{v:Value}(k:b4 B sites w av a v):b4 B sites w bR a v:=by
 have G:gz B B sites sites w w av bR:=⟨fun o O M=>⟨O,M,Nat.le_refl _,fun _=>rfl⟩,fun _ _ _=>rfl,fun b hb _ aa=>hb (h b aa)⟩
 exact k.goes G (Nat.le_refl _) aY
theorem ig.fp{sites:List (Nat×Site)}{av bR:Nat->Prop}(h:∀b,bR b->av b)(aY:∀b,bR b->b<w.heap.size){o:Nat}{O:Site}(k:ig B sites w av o O):ig B sites w bR o O:=by
 have G:gz B B sites sites w w av bR:=⟨fun o O M=>⟨O,M,Nat.le_refl _,fun _=>rfl⟩,fun _ _ _=>rfl,fun b hb _ aa=>hb (h b aa)⟩
 exact k.goes G (Nat.le_refl _) aY rfl (fun _ _ _=>rfl)
theorem ae.lt(S:ae L J X B st tm w){b:Nat}(h:am X B st.sites b):b<w.heap.size:=by
 rcases h with h|⟨o,h1,h2⟩
 ·exact S.old b h
 ·exact S.dP h1 h2
theorem ae.shrink(S:ae L J X B st tm w){X':Nat->Prop}(h:∀b,X' b->X b):ae L J X' B st tm w:=by
 have bU:∀b,am X' B st.sites b->am X B st.sites b:=by
  rintro b (hb|hb)
  ·exact .inl (h b hb)
  ·exact .inr hb
 have aY:=fun b hb=>S.lt (bU b hb)
 exact⟨S.nt,fun t=>(S.cz t).fp bU aY,fun o O M=>(S.sites o O M).fp bU aY,S.c8,fun o b h1 h2=>⟨fun hx=>(S.b1 o b h1 h2).1 (h b hx),(S.b1 o b h1 h2).2⟩,S.frame,fun b hb=>S.old b (h b hb),S.eM.less fun b _=>h b⟩
theorem ae.kill(S:ae L J X B st tm w){o:Nat}{O:Site}(hl:look st.sites o=some O)(fx:O.live=true):
  ae L J (fun b=>X b\/b∈bu (B o)) B {st with sites:=b2 st.sites o (.dead O.bX)} tm w:=by
 have ci:∀F,bM (b2 st.sites o (.dead O.bX)) F->F≠o/\bM st.sites F:=by
  rintro F ⟨s,h1,h2⟩;rw[ce] at h1;by_cases e:o=F
  ·subst e;simp at h1;subst h1;cases h2
  ·simp only[e,if_false] at h1;exact⟨fun h=>e h.symm,s,h1,h2⟩
 have bU:∀b,am (fun b=>X b\/b∈bu (B o)) B (b2 st.sites o (.dead O.bX)) b->am X B st.sites b:=by
  rintro b ((h|h)|⟨F,h1,h2⟩)
  ·exact .inl h
  ·exact .inr ⟨o,⟨O,hl,fx⟩,h⟩
  ·exact .inr ⟨F,(ci F h1).2,h2⟩
 have aY:=fun b hb=>S.lt (bU b hb)
 have bS:ae L J X B {st with sites:=b2 st.sites o (.dead O.bX)} tm w:=by
  have uf:∀b,am X B (b2 st.sites o (.dead O.bX)) b->am X B st.sites b:=by
   rintro b (h|⟨F,h1,h2⟩)
   ·exact .inl h
   ·exact .inr ⟨F,(ci F h1).2,h2⟩
  refine S.n7 (fun F s M=>?_) (fun _ _ _=>rfl) (fun b hb _ aa=>hb (uf b aa)) (fun go F s M=>?_) (fun F aN b h1 h2 g1 g2=>S.c8 F aN b (ci F h1).2 (ci aN h2).2 g1 g2) (fun F b h1 h2=>S.b1 F b (ci F h1).2 h2)
   (fun F b h1 h2=>S.dP (ci F h1).2 h2) S.frame (Nat.le_refl _)
  ·rw[ce];by_cases e:o=F
   ·subst e;rw[hl] at M;cases M;exact⟨.dead O.bX,by simp,Nat.le_refl _,fun _=>rfl⟩
   ·exact⟨s,by simp[e,M],Nat.le_refl _,fun _=>rfl⟩
  ·rw[ce] at M;by_cases e:o=F
   ·simp only[e,if_true,Option.some.injEq] at M;subst M;exact .inr trivial
   ·simp only[e,if_false] at M;exact .inl ⟨M,rfl,fun _ _ _=>rfl⟩
 refine⟨bS.nt,fun t=>?_,fun F s M=>?_,bS.c8,fun F b h1 h2=>⟨?_,(bS.b1 F b h1 h2).2⟩,bS.frame,?_,S.eM.less fun b hb hx=>hx.elim id fun e=>absurd (.inr ⟨o,⟨O,hl,fx⟩,e⟩) (S.jD.2 b hb).1⟩
 ·have G:gz B B st.sites (b2 st.sites o (.dead O.bX)) w w (am X B st.sites) (am (fun b=>X b\/b∈bu (B o)) B (b2 st.sites o (.dead O.bX))):=
   ⟨fun F s M=>by
    rw[ce];by_cases e:o=F
    ·subst e;rw[hl] at M;cases M;exact⟨.dead O.bX,by simp,Nat.le_refl _,fun _=>rfl⟩
    ·exact⟨s,by simp[e,M],Nat.le_refl _,fun _=>rfl⟩,fun _ _ _=>rfl,fun b hb _ aa=>hb (bU b aa)⟩
  exact(S.cz t).goes G (Nat.le_refl _) aY
 ·have eN:look (b2 st.sites o (.dead O.bX)) F=some s:=M;rw[ce] at eN;by_cases e:o=F
  ·simp only[e,if_true,Option.some.injEq] at eN;subst eN;trivial
  ·simp only[e,if_false] at eN;have G:gz B B st.sites (b2 st.sites o (.dead O.bX)) w w (am X B st.sites) (am (fun b=>X b\/b∈bu (B o)) B (b2 st.sites o (.dead O.bX))):=
    ⟨fun F s M=>by
     rw[ce];by_cases e:o=F
     ·subst e;rw[hl] at M;cases M;exact⟨.dead O.bX,by simp,Nat.le_refl _,fun _=>rfl⟩
     ·exact⟨s,by simp[e,M],Nat.le_refl _,fun _=>rfl⟩,fun _ _ _=>rfl,fun b hb _ aa=>hb (bU b aa)⟩
   exact(S.sites F s eN).goes G (Nat.le_refl _) aY rfl (fun _ _ _=>rfl)
 ·rintro(hx|hx)
  ·exact(bS.b1 F b h1 h2).1 hx
  ·exact(ci F h1).1 (S.c8 F o b (ci F h1).2 ⟨O,hl,fx⟩ h2 hx)
 ·rintro b (hb|hb)
  ·exact S.old b hb
  ·exact S.dP ⟨O,hl,fx⟩ hb
theorem ae.jump(S:ae L J X B st tm w){w':World}(h:∀b,¬X b->b<w.heap.size->w'.heap[b]? =w.heap[b]?)(M:w.heap.size<=w'.heap.size)(hf:Fr J L w'):
  ae L J (fun b=>X b\/(w.heap.size<=b/\b<w'.heap.size)) B st tm w':=by
 have aY:∀b,am (fun b=>X b\/(w.heap.size<=b/\b<w'.heap.size)) B st.sites b->b<w'.heap.size:=by
  rintro b ((hb|hb)|⟨F,h1,h2⟩)
  ·exact Nat.lt_of_lt_of_le (S.old b hb) M
  ·exact hb.2
  ·exact Nat.lt_of_lt_of_le (S.dP h1 h2) M
 have G:gz B B st.sites st.sites w w' (am X B st.sites) (am (fun b=>X b\/(w.heap.size<=b/\b<w'.heap.size)) B st.sites):=
  ⟨fun F s h=>⟨s,h,Nat.le_refl _,fun _=>rfl⟩,fun b hb b3=>h b (fun hx=>hb (.inl hx)) b3,fun b hb b3 aa=>by
   rcases aa with(aa|aa)|aa
   ·exact hb (.inl aa)
   ·omega
   ·exact hb (.inr aa)⟩
 refine⟨S.nt,fun t=>(S.cz t).goes G M aY,fun o s h1=>(S.sites o s h1).goes G M aY rfl (fun hl b hb=>?_),S.c8,fun o b h1 h2=>⟨?_,(S.b1 o b h1 h2).2⟩,hf,?_,S.eM.less fun b hb hx=>hx.elim id fun e=>absurd (S.jD.2 b hb).2 (by omega)⟩
 ·exact h b (S.b1 o b ⟨s,h1,hl⟩ hb).1 (S.dP ⟨s,h1,hl⟩ hb)
 ·rintro(hx|hx)
  ·exact(S.b1 o b h1 h2).1 hx
  ·have:=S.dP h1 h2;omega
 ·rintro b (hb|hb)
  ·exact Nat.lt_of_lt_of_le (S.old b hb) M
  ·exact hb.2
theorem ae.tQ(S:ae L J X B st tm w){X':Nat->Prop}{n:Nat}{bo:Site}{nv:Value}(hh:∀b,X' b->X b)
  (df:(∀O,look st.sites n=some O->O.bX<bo.bX)\/(bO (B n)=bO nv/\∀O,look st.sites n=some O->O.bX=bo.bX/\O.live=false))
  (hb:∀b,b∈bu nv->X b/\¬X' b/\(b∈J\/L.heap.size<=b))
  (e9:∀{ba:List (Nat×Site)} {aw:Nat->Value},ba=b2 st.sites n bo->aw n=nv->(∀{a v},b4 B st.sites w (am X B st.sites) a v->b4 aw ba w (am X' aw ba) a v)->
   (∀b,am X' aw ba b->am X B st.sites b)->ig aw ba w (am X' aw ba) n bo):
  ae L J X' (fun F=>if F=n then nv else B F) {st with sites:=b2 st.sites n bo} tm w/\
   (∀b,am X' (fun F=>if F=n then nv else B F) (b2 st.sites n bo) b->am X B st.sites b)/\
   (∀{a v},b4 B st.sites w (am X B st.sites) a v->b4 (fun F=>if F=n then nv else B F) (b2 st.sites n bo) w (am X' (fun F=>if F=n then nv else B F) (b2 st.sites n bo)) a v):=by
 have ci:∀F,bM (b2 st.sites n bo) F->F=n\/(F≠n/\bM st.sites F):=by
  rintro F ⟨s,h1,h2⟩;rw[ce] at h1;by_cases e:n=F
  ·exact .inl e.symm
  ·simp only[e,if_false] at h1;exact .inr ⟨fun h=>e h.symm,s,h1,h2⟩
 have bU:∀b,am X' (fun F=>if F=n then nv else B F) (b2 st.sites n bo) b->am X B st.sites b:=by
  rintro b (h|⟨F,h1,h2⟩)
  ·exact .inl (hh b h)
  ·rcases ci F h1 with rfl|⟨Z,aH⟩
   ·simp at h2;exact .inl (hb b h2).1
   ·simp only[Z,if_false] at h2;exact .inr ⟨F,aH,h2⟩
 have pg:∀o O,look st.sites o=some O->∃aj,look (b2 st.sites n bo) o=some aj/\O.bX<=aj.bX/\(aj.bX=O.bX->bO ((fun F=>if F=n then nv else B F) o)=bO (B o)):=by
  intro F s M;rw[ce];by_cases e:n=F
  ·subst e;refine⟨bo,by simp,?_,fun h=>?_⟩
   ·rcases df with h|⟨_,h⟩
    ·exact Nat.le_of_lt (h s M)
    ·exact Nat.le_of_eq (h s M).1
   ·rcases df with aa|⟨aa,_⟩
    ·have:=aa s M;omega
    ·simp[aa]
  ·have bY:¬F=n:=fun h=>e h.symm
   exact⟨s,by simp[e,M],Nat.le_refl _,fun _=>by simp[bY]⟩
 have G:gz B (fun F=>if F=n then nv else B F) st.sites (b2 st.sites n bo) w w (am X B st.sites) (am X' (fun F=>if F=n then nv else B F) (b2 st.sites n bo)):=
  ⟨pg,fun _ _ _=>rfl,fun b hb _ aa=>hb (bU b aa)⟩
 have aY:=fun b hb=>S.lt (bU b hb)
 refine⟨⟨S.nt,fun t=>(S.cz t).goes G (Nat.le_refl _) aY,fun F s M=>?_,fun F aN b h1 h2 g1 g2=>?_,fun F b h1 h2=>?_,S.frame,fun b h=>S.old b (hh b h),S.eM.less fun b _=>hh b⟩,bU,fun h=>h.goes G (Nat.le_refl _) aY⟩
 ·have eN:look (b2 st.sites n bo) F=some s:=M;rw[ce] at eN;by_cases e:n=F
  ·subst e;simp only[if_true,Option.some.injEq] at eN;subst eN;exact e9 rfl (by simp) (fun h=>h.goes G (Nat.le_refl _) aY) bU
  ·have bY:¬F=n:=fun h=>e h.symm
   simp only[e,if_false] at eN;exact(S.sites F s eN).goes G (Nat.le_refl _) aY (by simp[bY]) (fun _ _ _=>rfl)
 ·rcases ci F h1 with rfl|⟨n1,cW⟩<;>rcases ci aN h2 with rfl|⟨n2,fV⟩
  ·rfl
  ·simp only[if_true] at g1;simp only[n2,if_false] at g2;exact absurd (hb b g1).1 (S.b1 aN b fV g2).1
  ·simp only[if_true] at g2;simp only[n1,if_false] at g1;exact absurd (hb b g2).1 (S.b1 F b cW g1).1
  ·simp only[n1,if_false] at g1;simp only[n2,if_false] at g2;exact S.c8 F aN b cW fV g1 g2
 ·rcases ci F h1 with rfl|⟨n1,cW⟩
  ·simp only[if_true] at h2;exact⟨(hb b h2).2.1,(hb b h2).2.2⟩
  ·simp only[n1,if_false] at h2;exact⟨fun hx=>(S.b1 F b cW h2).1 (hh b hx),(S.b1 F b cW h2).2⟩
end
def jR(w:World)(av:Nat->Prop):List (List aK)->List Value->Prop
 |[],[]=>True
 |ds::r,v::vs=>(∃b,∃cs:List Value,v=.pointer (some ⟨b,0,none⟩)/\¬av b/\b<w.heap.size/\gZ w b 0 cs/\b' w av ds cs)/\jR w av r vs
 |_,_=>False
theorem jR.fn{w:World}{av:Nat->Prop}{g:FuncId}:∀{bj:List (List aK)} {vs:List Value},jR w av bj vs->a8 w av (.fn g bj) (.func (.func g) #[] vs.toArray):=by
 intro bj vs h;have key:∀{bj:List (List aK)} {vs:List Value},jR w av bj vs->∃mD:List Nat,∃eO:List (List Value),vs=mD.map (fun b=>Value.pointer (some ⟨b,0,none⟩))/\mD.length=bj.length/\eO.length=bj.length/\
   (∀b,b∈mD->¬av b/\b<w.heap.size)/\(∀i (h:i<mD.length) (aa:i<eO.length),gZ w mD[i] 0 eO[i])/\(∀i (h:i<bj.length) (aa:i<eO.length),b' w av bj[i] eO[i]):=by
  intro bj;induction bj with
  |nil=>
   intro vs h;match vs,h with
   |[],_=>exact⟨[],[],rfl,rfl,rfl,fun b h=>by simp at h,fun i h=>by simp at h,fun i h=>by simp at h⟩
  |cons ds bj ih=>
   intro vs h;match vs,h with
   |v::vs,⟨⟨b,cs,h1,h2,Z,aH,bp⟩,dm⟩=>
    obtain⟨mD,eO,ay,ao,be,b9,dK,gG⟩:=ih dm;refine⟨b::mD,cs::eO,by simp[h1,ay],by simp[ao],by simp[be],fun c hc=>?_,fun i g1 g2=>?_,fun i g1 g2=>?_⟩
    ·rcases List.mem_cons.1 hc with rfl|hc
     ·exact⟨h2,Z⟩
     ·exact b9 c hc
    ·cases i with
     |zero=>exact aH
     |succ i=>exact dK i (by simpa using g1) (by simpa using g2)
    ·cases i with
     |zero=>exact bp
     |succ i=>exact gG i (by simpa using g1) (by simpa using g2)
 obtain⟨mD,eO,ay,ao,be,b9,dK,gG⟩:=key h;refine .fn g bj mD (fun i=>eO.getD i []) _ (by rw[ay]) ao (fun b hb=>(b9 b hb).1) (fun b hb=>(b9 b hb).2) (fun i hi=>?_) (fun i hi j u hu=>?_) (fun i hi j h1 h2=>?_)
 ·have aa:i<eO.length:=by omega
  have:=(gG i hi aa).1;simpa[List.getD,aa] using this
 ·have aa:i<eO.length:=by omega
  have:=dK i hi aa j u (by simpa[List.getD,aa] using hu)
  simpa using this
 ·have aa:i<eO.length:=by omega
  have h2':j<eO[i].length:=by simpa[List.getD,aa] using h2
  have:=(gG i hi aa).2 j h1 h2';simpa[List.getD,aa] using this
theorem jR.LQ{w:World}{av:Nat->Prop}{g:FuncId}{bj:List (List aK)}{v:Value}(h:a8 w av (.fn g bj) v):∃vs:List Value,v=.func (.func g) #[] vs.toArray/\jR w av bj vs:=by
 cases h with
 |fn _ _ bs h8 lb zG ow hb aY hl hc hr=>
  refine⟨bs.map fun b=>Value.pointer (some ⟨b,0,none⟩),by rw[zG],?_⟩
  have key:∀(bj:List (List aK)) (bs:List Nat) (h8:Nat->List Value),bs.length=bj.length->(∀b,b∈bs->¬av b/\b<w.heap.size)->(∀i (h:i<bj.length),(h8 i).length=(bj[i]).length)->
    (∀i (h:i<bs.length) j u,(h8 i)[j]? =some u->w.cell? ⟨bs[i],j,none⟩=some u)->(∀i (h:i<bj.length) j (h1:j<(bj[i]).length) (h2:j<(h8 i).length),a8 w av ((bj[i])[j]) ((h8 i)[j]))->
    jR w av bj (bs.map fun b=>Value.pointer (some ⟨b,0,none⟩)):=by
   intro bj;induction bj with
   |nil=>intro bs h8 h _ _ _ _;rw[List.eq_nil_of_length_eq_zero h];trivial
   |cons ds bj ih=>
    intro bs h8 h h1 h2 Z aH;match bs,h with
    |b::bs,h=>
     refine⟨⟨b,h8 0,rfl,(h1 b List.mem_cons_self).1,(h1 b List.mem_cons_self).2,fun j u hu=>?_,h2 0 (by simp),fun j g1 g2=>aH 0 (by simp) j g1 g2⟩,?_⟩
     ·have:=Z 0 (by simp) j u hu
      simpa using this
     ·exact ih bs (fun i=>h8 (i+1)) (by simpa using h) (fun c hc=>h1 c (List.mem_cons_of_mem _ hc)) (fun i hi=>h2 (i+1) (by simpa using hi)) (fun i hi j u hu=>Z (i+1) (by simpa using hi) j u hu)
       (fun i hi j g1 g2=>aH (i+1) (by simpa using hi) j g1 g2)
  exact key bj bs h8 ow (fun b h=>⟨hb b h,aY b h⟩) hl hc hr
section
variable {L:World}{J:List Nat}{X:Nat->Prop}{B:Nat->Value}{st:ab}{tm:Array Value}{w:World}
structure eL(L:World)(J:List Nat)(X:Nat->Prop)(B:Nat->Value)(st:ab)(tm:Array Value)(w:World)(cE:List (Nat×Site))(eb:List Nat)(av:Nat->Prop):Prop where
 bn:ko L J X B st tm w cE
 le:∀b,av b->am X B (aR st.sites cE) b
 ah2:∀o,o∈eb->∀b,bc (B o)=some b->¬av b
variable {cE:List (Nat×Site)}{eb:List Nat}{av:Nat->Prop}
theorem eL.lt(ap:eL L J X B st tm w cE eb av){b:Nat}(h:av b):b<w.heap.size:=ap.bn.new.lt (ap.le b h)
theorem eL.sub(ap:eL L J X B st tm w cE eb av){b:Nat}(h:av b):am X B st.sites b:=by
 rcases ap.le b h with h|⟨o,⟨O,h1,h2⟩,Z⟩
 ·exact .inl h
 ·refine .inr ⟨o,?_,Z⟩;rcases k5 ap.bn.bn o with h|⟨s,t,xs,aH,bp⟩
  ·exact⟨O,h▸h1,h2⟩
  ·rw[bp] at h1;cases h1;cases h2
theorem eL.rd(ap:eL L J X B st tm w cE eb av){d:aK}{v:Value}(h:a8 w (am X B (aR st.sites cE)) d v):a8 w av d v:=
 b4.fp (B:=B) (sites:=[]) (a:=one d) (v:=v) ap.le (fun b hb=>ap.lt hb) h
theorem eL.rW(ap:eL L J X B st tm w cE eb av){d:aK}{v:Value}(h:a8 w (am X B st.sites) d v):a8 w av d v:=
 b4.fp (B:=B) (sites:=[]) (a:=one d) (v:=v) (fun b hb=>ap.sub hb) (fun b hb=>ap.lt hb) h
theorem I3(ap:eL L J X B st tm w cE eb av):∀{bj:List (Nat×Nat)} {cs:List (List aK)} {us:List (Nat×Site)} {bs:List Nat} {vs:List Value},kB st bj=some (cs,us,bs)->
  (∀p,p∈us->p∈cE)->(∀o,o∈bs->o∈eb)->vs.length=bj.length->(∀i (h:i<bj.length) (aa:i<vs.length),Ref st.sites (bj[i]).1 (bj[i]).2 (vs[i]=bO (B (bj[i]).1)))->jR w av cs vs:=by
 intro bj;induction bj with
 |nil=>
  intro cs us bs vs h _ _ hl _;simp only[kB] at h;cases h;rw[List.eq_nil_of_length_eq_zero hl];trivial
 |cons c bj ih=>
  obtain⟨o,s⟩:=c;intro cs us bs vs h dD c9 hl hr;simp only[kB] at h;split at h
  ·rename_i cells lp;split at h
   ·rename_i ds u1 rest u2 aG d' ma;cases h;match vs,hl with
    |v::vs,hl=>
     have iH:=gq lp;obtain⟨b,T,cur,h1,h2,Z,aH,_,bp⟩:=ap.bn.old.sites o _ iH;have hv:v=B o:=(Ref.at (hr 0 (by simp) (by simp)) iH rfl:v=bO (B o)).trans (by rw[h1];rfl)
     have du:=xJ d' ⟨Z,bp⟩ ap.bn (fun p an=>dD p (List.mem_append.2 (.inl an)))
     refine⟨⟨b,cur,by rw[hv,h1],ap.ah2 o (c9 o List.mem_cons_self) b (by rw[h1];rfl),ap.bn.old.dP ⟨_,iH,rfl⟩ (fL (by rw[h1];rfl)),.row h2,du.1,fun j g1 g2=>ap.rd (du.2 j g1 g2)⟩,?_⟩
     exact ih ma (fun p an=>dD p (List.mem_append.2 (.inr an))) (fun F bh=>c9 F (List.mem_cons_of_mem _ bh)) (by simpa using hl) (fun i g1 g2=>hr (i+1) (by simpa using g1) (by simpa using g2))
   ·cases h
  ·cases h
theorem Cg(ap:eL L J X B st tm w cE eb av){l fi:aq}{us:List (Nat×Site)}{bs:List Nat}{v:Value}(h:mg st l=some (fi,us,bs))(dD:∀p,p∈us->p∈cE)(c9:∀o,o∈bs->o∈eb)
  (hv:c_ B st.sites w (am X B st.sites) l v):lj w av fi v []:=by
 unfold mg at h;split at h
 ·rename_i cells;cases h;obtain⟨b,D,h1,h2,Z,cs,aH,bp,dm⟩:=hv;exact⟨rfl,b,D,h1,fun hx=>h2 (ap.sub hx),Z,cs,aH,bp,fun j g1 g2=>ap.rW (dm j g1 g2)⟩
 ·rename_i g c cs;split at h
  ·rename_i ds u b hc;cases h;obtain⟨vs,h1,h2,Z⟩:=hv;rw[h1];exact⟨rfl,(I3 ap hc dD c9 h2 Z).fn⟩
  ·cases h
 ·split at h
  ·rename_i d u Y;cases h;exact⟨rfl,ap.rd (Lm Y hv ap.bn dD)⟩
  ·cases h
theorem Xm(ap:eL L J X B st tm w cE eb av):∀{U da:List aq} {us:List (Nat×Site)} {bs:List Nat} {vs:List Value},ld st U=some (da,us,bs)->(∀p,p∈us->p∈cE)->(∀o,o∈bs->o∈eb)->
  ca B st.sites w (am X B st.sites) U vs->fN w av da vs []:=by
 intro U;induction U with
 |nil=>intro da us bs vs h _ _ hv;simp only[ld] at h;cases h;rw[hv.kx];rfl
 |cons l U ih=>
  intro da us bs vs h dD c9 hv;simp only[ld] at h;split at h
  ·rename_i a u1 aS as u2 aG h1 h2;cases h;obtain⟨v,cg,rfl,iQ,js⟩:=hv.inv;exact⟨[],[],rfl,Cg ap h1 (fun p an=>dD p (List.mem_append.2 (.inl an))) (fun p an=>c9 p (List.mem_append.2 (.inl an))) iQ,
    ih h2 (fun p an=>dD p (List.mem_append.2 (.inr an))) (fun p an=>c9 p (List.mem_append.2 (.inr an))) js⟩
  ·cases h
theorem Yy(ap:eL L J X B st tm w cE eb av){o s:Nat}{t:aE}{xs:List (den t)}(hl:look st.sites o=some (.row s t xs)):
  ∃e,∃cs:List Value,rowAt w t.e7 e (au t) (B o) xs.length cs/\b' w av (flat t xs) cs:=by
 obtain⟨e,cs,h1,h2⟩:=ap.bn.old.sites o _ hl;refine⟨e,cs,h1,by rw[dO];exact h1.1,fun j g1 g2=>ap.rW (h2 j g1 g2)⟩
theorem wA(ap:eL L J X B st tm w cE eb av){l fi:aq}{us:List (Nat×Site)}{v:Value}(h:mb st l=some (fi,us))(hv:c_ B st.sites w (am X B st.sites) l v):
  lj w av fi v (cf B (keys us))/\eH st.sites us:=by
 unfold mb at h;split at h
 ·cases h;exact⟨⟨rfl,ap.rW hv⟩,.nil⟩
 ·rename_i t;cases h;have hv:v=.slice none 0 0:=hv;subst hv;exact⟨⟨rfl,0,[],⟨by simp,.inl ⟨rfl,rfl⟩⟩,rfl,fun j g=>by simp[flat] at g⟩,.nil⟩
 ·rename_i o s;split at h
  ·rename_i aj t xs hl;cases hb:aj.beq s with
   |false=>simp[hb] at h
   |true=>
    simp only[hb,cond_true,Option.some.injEq,Prod.mk.injEq] at h;obtain⟨rfl,rfl⟩:=h;have M:=Nat.eq_of_beq_eq_true hb;subst M;have hl:look st.sites o=some (.row aj t xs):=hl;obtain⟨e,cs,h1,h2⟩:=Yy ap hl;have ir:v=B o:=(Ref.at hv.2 hl rfl:v=bO (B o)).trans (ie h1).1;refine⟨⟨?_,e,cs,by rw[ir];exact h1,h2⟩,fun F aex hm=>?_⟩
    ·simp only[keys,cf,List.flatMap_cons,List.flatMap_nil,ir,(ie h1).2,List.append_nil]
    ·simp only[List.mem_singleton,Prod.mk.injEq] at hm;obtain⟨rfl,rfl⟩:=hm;exact⟨_,hl,rfl,rfl⟩
  ·rename_i aj t xs hl;cases hb:aj.beq s with
   |false=>simp[hb] at h
   |true=>
    simp only[hb,cond_true,Option.some.injEq,Prod.mk.injEq] at h;obtain⟨rfl,rfl⟩:=h;have M:=Nat.eq_of_beq_eq_true hb;subst M;have hl:look st.sites o=some (.cM aj t xs):=hl;have ir:v=bO (B o):=Ref.at hv.2 hl rfl;refine⟨⟨rfl,?_⟩,.nil⟩;rw[ir];exact ap.rW (ap.bn.old.sites o _ hl).1
  ·rename_i aj t xs hl;cases hb:aj.beq s with
   |false=>simp[hb] at h
   |true=>
    simp only[hb,cond_true,Option.some.injEq,Prod.mk.injEq] at h;obtain⟨rfl,rfl⟩:=h;have M:=Nat.eq_of_beq_eq_true hb;subst M;have hl:look st.sites o=some (.deep aj t xs):=hl;obtain⟨e,v',aC,cs,h1,_,h2,Z⟩:=ap.bn.old.sites o _ hl;have ir:v=v':=(Ref.at hv.2 hl rfl:v=bO (B o)).trans (by rw[h1];rfl)
    subst ir;refine⟨⟨e,cs,aC,?_,h2,Z.map (fun h=>ap.rW h) fun _ _ _ _=>rfl⟩,fun F aex hm=>?_⟩
    ·simp only[keys,cf,List.flatMap_cons,List.flatMap_nil,List.append_nil,h1]
    ·simp only[List.mem_singleton,Prod.mk.injEq] at hm;obtain⟨rfl,rfl⟩:=hm;exact⟨_,hl,rfl,rfl⟩
  ·cases h
 ·cases h;exact⟨⟨rfl,trivial⟩,.nil⟩
 ·cases h;exact⟨⟨rfl,hv⟩,.nil⟩
 ·cases h
theorem IW{U da:List aq}{us:List (Nat×Site)}(h:jm st U=some (da,us))(bW:da.head?=some .eh):U.head?=some .eh:=by
 cases U with
 |nil=>simp only[jm] at h;cases h;cases bW
 |cons l U=>
  simp only[jm] at h;split at h
  ·rename_i a u1 as u2 h1 h2;cases h;simp only[List.head?_cons,Option.some.injEq] at bW ⊢;subst bW;unfold mb at h1;split at h1<;>try(cases h1;done)
   ·split at h1;all_goals first|cases h1;done|skip
    all_goals
     rename_i aj t xs _;revert h1
     generalize aj.beq _=q;intro h1;cases q<;>cases h1
   ·rfl
  ·cases h
theorem xg(ap:eL L J X B st tm w cE eb av):∀{U da:List aq} {us:List (Nat×Site)} {vs:List Value},jm st U=some (da,us)->ca B st.sites w (am X B st.sites) U vs->
  fN w av da vs (cf B (keys us))/\eH st.sites us:=by
 intro U;induction U with
 |nil=>intro da us vs h hv;simp only[jm] at h;cases h;rw[hv.kx];exact⟨rfl,.nil⟩
 |cons l U ih=>
  intro da us vs h hv;simp only[jm] at h;split at h
  ·rename_i a u1 as u2 h1 h2;cases h;obtain⟨v,cg,rfl,iQ,js⟩:=hv.inv;obtain⟨ay,ao⟩:=wA ap h1 iQ;obtain⟨be,b9⟩:=ih h2 js;exact⟨⟨_,_,by rw[fX,jH],ay,be⟩,ao.append b9⟩
  ·cases h
theorem hM.append{as iW:List Arg}{vs cg:List Value}{bs nr:List Nat}(h:hM w av as vs bs)(aa:hM w av iW cg nr):hM w av (as++iW) (vs++cg) (bs++nr):=by
 induction as generalizing vs bs with
 |nil=>
  match vs,h with
  |[],h=>have h:bs=[]:=h;subst h;exact aa
 |cons a as ih=>
  match vs,h with
  |v::vs,⟨aS,aG,h1,h2,Z⟩=>exact⟨aS,aG++nr,by rw[h1,List.append_assoc],h2,ih Z⟩
theorem UF{cs:List (List aK)}{vs:List Value}(h:jR w av cs vs):hM w av (ky cs) vs []:=by
 induction cs generalizing vs with
 |nil=>
  match vs,h with
  |[],_=>rfl
 |cons ds cs ih=>
  match vs,h with
  |v::vs,⟨⟨b,cur,h1,h2,Z,aH,bp⟩,dm⟩=>
   refine⟨[],[],rfl,⟨rfl,b,0,by rw[h1],h2,Z,cur,by rw[bp.1],fun j u hu=>aH j u hu,bp.2⟩,ih dm⟩
theorem Hx{as iW:List Arg}{vs cg:List Value}(hl:as.length=vs.length):dp (as++iW) (vs++cg)=dp as vs++dp iW cg:=by
 induction as generalizing vs with
 |nil=>rw[List.eq_nil_of_length_eq_zero hl.symm];rfl
 |cons a as ih=>
  match vs,hl with
  |v::vs,hl=>
   have:=ih (vs:=vs) (by simpa using hl)
   cases a with
   |av a=>cases v<;>simp[dp,this]
   |dx c=>
    cases v<;>try(simp[dp,this];done)
    rename_i p;cases p<;>simp[dp,this]
theorem UH(cs:List (List aK))(vs:List Value):dp (ky cs) vs=[]:=by
 induction cs generalizing vs with
 |nil=>cases vs<;>rfl
 |cons c cs ih=>cases vs<;>simp[ky,dp,ih]
theorem SR{as iW:List Arg}{vs cg:List Value}(hl:as.length=vs.length):eT (as++iW) (vs++cg)=eT as vs++eT iW cg:=by
 induction as generalizing vs with
 |nil=>rw[List.eq_nil_of_length_eq_zero hl.symm];rfl
 |cons a as ih=>
  match vs,hl with
  |v::vs,hl=>
   have:=ih (vs:=vs) (by simpa using hl)
   cases a<;>simp[eT,this]
theorem T9(cs:List (List aK))(vs:List Value):eT (ky cs) vs=[]:=by
 induction cs generalizing vs with
 |nil=>cases vs<;>rfl
 |cons c cs ih=>cases vs<;>simp[ky,eT,ih,bg.cells,fJ,aq.qz]
def g'(B:Nat->Value):List (Option (Nat×Nat))->List Value->Prop
 |[],_=>True
 |none::r,_::vs=>g' B r vs
 |some p::r,v::vs=>v=bO (B p.1)/\g' B r vs
 |_::_,[]=>False
theorem g'.append{B:Nat->Value}{r jB:List (Option (Nat×Nat))}{vs cg:List Value}(hl:r.length=vs.length)(h:g' B r vs)(aa:g' B jB cg):g' B (r++jB) (vs++cg):=by
 induction r generalizing vs with
 |nil=>rw[List.eq_nil_of_length_eq_zero hl.symm];exact aa
 |cons D r ih=>
  match vs,hl with
  |v::vs,hl=>
   cases D with
   |none=>exact ih (by simpa using hl) h
   |some p=>exact⟨h.1,ih (by simpa using hl) h.2⟩
theorem hM.length{as:List Arg}{vs:List Value}{bs:List Nat}(h:hM w av as vs bs):as.length=vs.length:=by
 induction as generalizing vs bs with
 |nil=>
  match vs,h with
  |[],_=>rfl
 |cons a as ih=>
  match vs,h with
  |v::vs,⟨_,_,_,_,h⟩=>simp[ih h]
theorem VL(ap:eL L J X B st tm w cE eb av):∀{ct:List aI} {a:jp} {vs:List Value},ib st ct=some a->ct.length=vs.length->
  (∀i (h:i<ct.length) (aa:i<vs.length),b4 B st.sites w (am X B st.sites) (ct[i]) (vs[i]))->(∀p,p∈a.ef->p∈cE)->(∀o,o∈a.fm->o∈eb)->
  hM w av a.as vs (cf B (keys a.gone))/\eH st.sites a.gone/\dp a.as vs=cf B (keys a.boxes)/\(∀o s,(o,s)∈a.boxes->(o,.dead s)∈a.gone/\∃b,B o=.pointer (some ⟨b,0,none⟩))/\a.rows=[]:=by
 intro ct;induction ct with
 |nil=>
  intro a vs h hl _ _ _;simp only[ib] at h;cases h;rw[List.eq_nil_of_length_eq_zero hl.symm];exact⟨rfl,.nil,rfl,fun o s hm=>by simp at hm,rfl⟩
 |cons pS ct ih=>
  intro a vs h hl hv dD c9;match vs,hl with
  |v::vs,hl=>
   have kT:=hv 0 (by simp) (by simp)
   have hvs:∀i (h:i<ct.length) (aa:i<vs.length),b4 B st.sites w (am X B st.sites) (ct[i]) (vs[i]):=fun i g1 g2=>hv (i+1) (by simpa using g1) (by simpa using g2)
   have fr:ct.length=vs.length:=by simpa using hl
   simp only[List.getElem_cons_zero] at kT;unfold ib at h;split at h
   ·cases ‹pS::ct=[]›
   ·rename_i o s cg bN;cases bN;split at h
    ·rename_i cells r lp hr;split at h
     ·rename_i cs gone hg;cases h;obtain⟨ay,ao,be,b9,dK⟩:=ih hr fr hvs dD c9;have iH:=gq lp;obtain⟨b,T,cur,e1,e2,bK,dW,fW⟩:=ap.bn.old.box iH kT;have En:me cells T cur b:=by
       obtain⟨aG,dn,N1,q1,q2,_,_,dJ,_⟩:=ap.bn.old.sites o _ iH;rw[e1] at q1;cases q1;rw[bK] at q2;cases q2;exact dJ
      obtain⟨g1,g2⟩:=xg ap hg fW;subst e2;refine⟨⟨b::cf B (keys gone),_,?_,⟨b,rfl,T,cur,_,rfl,bK,dW,fun bW=>En (IW hg bW),g1⟩,ay⟩,?_,?_,?_,dK⟩
      ·show cf B (keys (((o,Site.dead s)::gone)++r.gone))=_;rw[fX,jH];congr 1
       simp[keys,cf,e1,bc,bu]
      ·refine eH.append ?_ ao;intro F aj hm;rcases List.mem_cons.1 hm with hm|hm
       ·cases hm;exact⟨_,iH,rfl,rfl⟩
       ·exact g2 F aj hm
      ·simp[dp,be,keys,cf,e1,bc,bu]
      ·intro F aj hm;rcases List.mem_cons.1 hm with hm|hm
       ·cases hm;exact⟨by simp,b,e1⟩
       ·obtain⟨q1,q2⟩:=b9 F aj hm;exact⟨List.mem_append.2 (.inr q1),q2⟩
     ·cases h
    ·cases h
   ·rename_i l cg _ bN;cases bN;split at h
    ·rename_i fi us bs r h1 hr;cases h;obtain⟨ay,ao,be,b9,_⟩:=ih hr fr hvs (fun p an=>dD p (List.mem_append.2 (.inr an))) (fun p an=>c9 p (List.mem_append.2 (.inr an)))
     have:=Cg ap h1 (fun p an=>dD p (List.mem_append.2 (.inl an))) (fun p an=>c9 p (List.mem_append.2 (.inl an))) kT
     refine⟨⟨[],_,rfl,this,ay⟩,ao,?_,b9,rfl⟩;cases v<;>simp[dp,be]
    ·cases h
   ·rename_i U cg bN;cases bN;split at h
    ·rename_i da us bs r h1 hr;cases h;obtain⟨ay,ao,be,b9,_⟩:=ih hr fr hvs (fun p an=>dD p (List.mem_append.2 (.inr an))) (fun p an=>c9 p (List.mem_append.2 (.inr an)))
     obtain⟨iO,e1,e2,bK⟩:=kT;have:=Xm ap h1 (fun p an=>dD p (List.mem_append.2 (.inl an))) (fun p an=>c9 p (List.mem_append.2 (.inl an))) ⟨e2,bK⟩
     refine⟨⟨[],_,rfl,⟨iO,e1,this⟩,ay⟩,ao,?_,b9,rfl⟩;cases v<;>simp[dp,be]
    ·cases h
   ·cases h
theorem IX(ap:eL L J X B st tm w cE eb av){l fi:aq}{gs us:List (Nat×Site)}{bs:List Nat}{v:Value}(h:k9 st l=some (fi,gs,us,bs))(dD:∀p,p∈us->p∈cE)(c9:∀o,o∈bs->o∈eb)
  (hv:c_ B st.sites w (am X B st.sites) l v):lj w av fi v (cf B (keys gs))/\eH st.sites gs:=by
 unfold k9 at h;split at h
 ·split at h
  ·rename_i hg;cases h;exact wA ap hg hv
  ·cases h
 ·cases h;exact wA (l:=.nil _) (us:=[]) ap rfl hv
 ·split at h
  ·rename_i hl;cases h;exact⟨Cg ap hl dD c9 hv,.nil⟩
  ·cases h
theorem Ic(ap:eL L J X B st tm w cE eb av){l fi:aq}{gs us:List (Nat×Site)}{bs:List Nat}{v:Value}(h:k9 st l=some (fi,gs,us,bs))(hv:c_ B st.sites w (am X B st.sites) l v):
  ∀o s,kH st l=some (o,s)->v=bO (B o)/\(o,.dead s)∈gs:=by
 intro o s hg;unfold kH at hg;split at hg
 ·rename_i E6 aj;unfold k9 at h;simp only[mb] at h;split at hg
  ·rename_i u t xs hl;cases hg;rw[hl] at h;simp only at h;cases hb:u.beq s with
   |false=>simp[hb] at h
   |true=>
    have M:=Nat.eq_of_beq_eq_true hb;subst M;simp only[hb,cond_true] at h;cases h;exact⟨Ref.at hv.2 hl rfl,List.mem_singleton.2 rfl⟩
  ·rename_i u t xs hl;cases hg;rw[hl] at h;simp only at h;cases hb:u.beq s with
   |false=>simp[hb] at h
   |true=>
    have M:=Nat.eq_of_beq_eq_true hb;subst M;simp only[hb,cond_true] at h;cases h;exact⟨Ref.at hv.2 hl rfl,List.mem_singleton.2 rfl⟩
  ·cases hg
 ·cases hg
theorem Uu(ap:eL L J X B st tm w cE eb av):∀{U da:List aq} {gs us:List (Nat×Site)} {bs:List Nat} {vs:List Value},k7 st U=some (da,gs,us,bs)->(∀p,p∈us->p∈cE)->(∀o,o∈bs->o∈eb)->
  ca B st.sites w (am X B st.sites) U vs->fN w av da vs (cf B (keys gs))/\eH st.sites gs/\g' B (U.map (kH st)) vs/\∀o s,some (o,s)∈U.map (kH st)->(o,.dead s)∈gs:=by
 intro U;induction U with
 |nil=>intro da gs us bs vs h _ _ hv;simp only[k7] at h;cases h;rw[hv.kx];exact⟨rfl,.nil,trivial,fun o s h=>by simp at h⟩
 |cons l U ih=>
  intro da gs us bs vs h dD c9 hv;simp only[k7] at h;split at h
  ·rename_i a u1 f1 aS as u2 f2 aG h1 h2;cases h;obtain⟨v,cg,rfl,iQ,js⟩:=hv.inv;obtain⟨ay,ao⟩:=IX ap h1 (fun p an=>dD p (List.mem_append.2 (.inl an))) (fun p an=>c9 p (List.mem_append.2 (.inl an))) iQ
   obtain⟨be,b9,dK,gG⟩:=ih h2 (fun p an=>dD p (List.mem_append.2 (.inr an))) (fun p an=>c9 p (List.mem_append.2 (.inr an))) js
   have hr:=Ic ap h1 iQ;refine⟨⟨_,_,by rw[fX,jH],ay,be⟩,ao.append b9,?_,fun o s hm=>?_⟩
   ·simp only[List.map_cons];cases aL:kH st l with
    |none=>exact dK
    |some p=>exact⟨(hr p.1 p.2 aL).1,dK⟩
   ·simp only[List.map_cons,List.mem_cons] at hm;rcases hm with hm|hm
    ·exact List.mem_append.2 (.inl (hr o s hm.symm).2)
    ·exact List.mem_append.2 (.inr (gG o s hm))
  ·cases h
theorem A_{v:Value}(h:v.oneCell'=true):hA v=[v]:=by
 cases v<;>first|rfl|cases h
theorem V0{l:aq}{v:Value}{bs:List Nat}(hn:l.qz=false)(h:lj w av l v bs):v.oneCell'=true:=by
 cases l with
 |fresh t xs=>
  obtain⟨_,e,cs,k,_⟩:=h;rcases k.2 with⟨h,_⟩|⟨g,cap,cur,bn,h,_⟩<;>rw[h]<;>rfl
 |hs t xs=>
  obtain⟨e,cs,aC,_,k,_⟩:=h;rcases k.2 with⟨h,_⟩|⟨g,cap,cur,bn,h,_⟩<;>rw[h]<;>rfl
 |_=>cases hn
theorem fN.length{U:List aq}{vs:List Value}{bs:List Nat}(h:fN w av U vs bs):vs.length=U.length:=by
 induction U generalizing vs bs with
 |nil=>
  match vs,h with
  |[],_=>rfl
 |cons l U ih=>
  match vs,h with
  |v::vs,⟨_,_,_,_,h⟩=>simp[ih h]
theorem Ul(ap:eL L J X B st tm w cE eb av):∀{ct:List aI} {a:jp} {vs:List Value},jJ st ct=some a->ct.length=vs.length->
  (∀i (h:i<ct.length) (aa:i<vs.length),b4 B st.sites w (am X B st.sites) (ct[i]) (vs[i]))->(∀p,p∈a.ef->p∈cE)->(∀o,o∈a.fm->o∈eb)->
  hM w av a.as vs (cf B (keys a.gone))/\eH st.sites a.gone/\dp a.as vs=cf B (keys a.boxes)/\(∀o s,(o,s)∈a.boxes->(o,.dead s)∈a.gone/\∃b,B o=.pointer (some ⟨b,0,none⟩))/\
   g' B a.rows (eT a.as vs)/\∀o s,some (o,s)∈a.rows->(o,.dead s)∈a.gone:=by
 intro ct;induction ct with
 |nil=>
  intro a vs h hl _ _ _;simp only[jJ] at h;cases h;rw[List.eq_nil_of_length_eq_zero hl.symm];exact⟨rfl,.nil,rfl,fun o s hm=>by simp at hm,trivial,fun o s hm=>by simp at hm⟩
 |cons pS ct ih=>
  intro a vs h hl hv dD c9;match vs,hl with
  |v::vs,hl=>
   have kT:=hv 0 (by simp) (by simp)
   have hvs:∀i (h:i<ct.length) (aa:i<vs.length),b4 B st.sites w (am X B st.sites) (ct[i]) (vs[i]):=fun i g1 g2=>hv (i+1) (by simpa using g1) (by simpa using g2)
   have fr:ct.length=vs.length:=by simpa using hl
   simp only[List.getElem_cons_zero] at kT;unfold jJ at h;split at h
   ·cases ‹pS::ct=[]›
   ·rename_i l cg bN;cases bN;split at h
    ·rename_i fi gs us bs r h1 hr;cases h;obtain⟨ay,ao,be,b9,dK,gG⟩:=ih hr fr hvs (fun p an=>dD p (List.mem_append.2 (.inr an))) (fun p an=>c9 p (List.mem_append.2 (.inr an)))
     obtain⟨g1,g2⟩:=IX ap h1 (fun p an=>dD p (List.mem_append.2 (.inl an))) (fun p an=>c9 p (List.mem_append.2 (.inl an))) kT
     have cY:=Ic ap h1 kT;refine⟨⟨_,_,by rw[fX,jH],g1,ay⟩,g2.append ao,?_,fun F aj hm=>?_,?_,fun F aj hm=>?_⟩
     ·cases v<;>simp[dp,be]
     ·obtain⟨q1,q2⟩:=b9 F aj hm;exact⟨List.mem_append.2 (.inr q1),q2⟩
     ·simp only[eT,bg.cells,mV];cases hn:fJ [fi] with
      |true=>exact dK
      |false=>
       have eY:fi.qz=false:=by simpa[fJ] using hn
       simp only[cond_false,A_ (V0 eY g1)];refine g'.append (by simp) ?_ dK
       simp only[List.map_cons,List.map_nil];cases aL:kH st l with
       |none=>trivial
       |some p=>exact⟨(cY p.1 p.2 aL).1,trivial⟩
     ·simp only[mV] at hm;rcases List.mem_append.1 hm with hm|hm
      ·cases hn:fJ [fi] with
       |true=>rw[hn] at hm;simp at hm
       |false=>
        rw[hn] at hm;simp only[cond_false,List.map_cons,List.map_nil,List.mem_singleton] at hm;exact List.mem_append.2 (.inl (cY F aj hm.symm).2)
      ·exact List.mem_append.2 (.inr (gG F aj hm))
    ·cases h
   ·rename_i U cg bN;cases bN;split at h
    ·rename_i da gs us bs r h1 hr;cases h;obtain⟨ay,ao,be,b9,dK,gG⟩:=ih hr fr hvs (fun p an=>dD p (List.mem_append.2 (.inr an))) (fun p an=>c9 p (List.mem_append.2 (.inr an)))
     obtain⟨iO,e1,e2,bK⟩:=kT;obtain⟨g1,g2,g3,eA⟩:=Uu ap h1 (fun p an=>dD p (List.mem_append.2 (.inl an))) (fun p an=>c9 p (List.mem_append.2 (.inl an))) ⟨e2,bK⟩
     subst e1;refine⟨⟨_,_,by rw[fX,jH],⟨iO,rfl,g1⟩,ay⟩,g2.append ao,?_,fun F aj hm=>?_,?_,fun F aj hm=>?_⟩
     ·simp[dp,be]
     ·obtain⟨q1,q2⟩:=b9 F aj hm;exact⟨List.mem_append.2 (.inr q1),q2⟩
     ·simp only[eT,bg.cells,mV];cases hn:fJ da with
      |true=>exact dK
      |false=>
       simp only[cond_false,hA];exact g'.append (by simp[e2]) g3 dK
     ·simp only[mV] at hm;rcases List.mem_append.1 hm with hm|hm
      ·cases hn:fJ da with
       |true=>rw[hn] at hm;simp at hm
       |false=>
        rw[hn] at hm;exact List.mem_append.2 (.inl (eA F aj hm))
      ·exact List.mem_append.2 (.inr (gG F aj hm))
    ·cases h
   ·cases h
theorem H8{b:Bool}(ap:eL L J X B st tm w cE eb av){ct:List aI}{a:jp}{vs:List Value}(h:qB b st ct=some a)(hl:ct.length=vs.length)
  (hv:∀i (h:i<ct.length) (aa:i<vs.length),b4 B st.sites w (am X B st.sites) (ct[i]) (vs[i])) (h1:∀p,p∈a.ef->p∈cE) (h2:∀o,o∈a.fm->o∈eb):
  hM w av a.as vs (cf B (keys a.gone))/\eH st.sites a.gone/\dp a.as vs=cf B (keys a.boxes)/\(∀o s,(o,s)∈a.boxes->(o,.dead s)∈a.gone/\∃b,B o=.pointer (some ⟨b,0,none⟩))/\
   g' B a.rows (eT a.as vs)/\∀o s,some (o,s)∈a.rows->(o,.dead s)∈a.gone:=by
 cases b
 ·obtain⟨ay,ao,be,b9,dK⟩:=VL ap h hl hv h1 h2;exact⟨ay,ao,be,b9,by rw[dK];trivial,by rw[dK];intro o s h;simp at h⟩
 ·exact Ul ap h hl hv h1 h2
end
theorem I1(l m:List Nat):eG l m=true <-> ∀n,n∈l->n∉m:=by
 induction l with
 |nil=>simp[eG]
 |cons n l ih=>
  simp only[eG,Bool.and_eq_true,ih,Bool.not_eq_true',List.mem_cons];constructor
  ·rintro⟨h1,h2⟩ k (rfl|ag)
   ·intro h;rw[(sZ k m).2 h] at h1;cases h1
   ·exact h2 k ag
  ·intro h;refine⟨?_,fun k ag=>h k (.inr ag)⟩
   cases aa:fz n m with
   |false=>rfl
   |true=>exact absurd ((sZ n m).1 aa) (h n (.inl rfl))
section
variable {L:World}{J:List Nat}{X:Nat->Prop}{B:Nat->Value}{st:ab}{tm:Array Value}{w:World}
theorem ae._I:∀{us:List (Nat×Site)} {st:ab} {X:Nat->Prop},ae L J X B st tm w->eH st.sites us->(keys us).Nodup->
  ae L J (fun b=>X b\/b∈cf B (keys us)) B {st with sites:=aR st.sites us} tm w:=by
 intro us;induction us with
 |nil=>intro st X S _ _;exact S.shrink fun b h=>by rcases h with h|h;exact h;simp[keys,cf] at h
 |cons p us ih=>
  obtain⟨o,aj⟩:=p;intro st X S hg hn;obtain⟨O,h1,h2,rfl⟩:=hg o aj List.mem_cons_self;simp only[keys,List.nodup_cons] at hn;have cT:=S.kill h1 h2;have fH:=ih cT (fun F s hm=>by
   obtain⟨t,ay,ao,be⟩:=hg F s (List.mem_cons_of_mem _ hm);have:¬o=F:=fun e=>hn.1 (by rw[e];exact Bn hm)
   exact⟨t,by simp[ce,this,ay],ao,be⟩) hn.2
  refine fH.shrink fun b h=>?_
  rcases h with h|h
  ·exact .inl (.inl h)
  ·simp only[keys,cf,List.flatMap_cons,List.mem_append] at h;rcases h with h|h
   ·exact .inl (.inr h)
   ·exact .inr h
structure fq(L:World)(J:List Nat)(X X':Nat->Prop)(B aw:Nat->Value)(st:ab)(tm:Array Value)(w:World)(us:List (Nat×Site)):Prop where
 fR:ae L J X' aw {st with sites:=aR st.sites us} tm w
 le:∀c,am X' aw (aR st.sites us) c->am X B st.sites c
 go:∀{a v},b4 B st.sites w (am X B st.sites) a v->b4 aw (aR st.sites us) w (am X' aw (aR st.sites us)) a v
 same:∀o,o∉keys us->aw o=B o
theorem fq.nil{X':Nat->Prop}(S:ae L J X B st tm w)(h:∀b,X' b->X b):fq L J X X' B B st tm w []:=
 ⟨S.shrink h,fun c hc=>by
  rcases hc with hc|hc
  ·exact .inl (h c hc)
  ·exact .inr hc,fun k=>k.fp (fun c hc=>by
   rcases hc with hc|hc
   ·exact .inl (h c hc)
   ·exact .inr hc) (fun c hc=>(S.shrink h).lt hc),fun _ _=>rfl⟩
theorem fq.trans{cL cp:Nat->Prop}{fD fC:Nat->Value}{us vs:List (Nat×Site)}(A:fq L J X cL B fD st tm w us)(bq:fq L J cL cp fD fC {st with sites:=aR st.sites us} tm w vs):
  fq L J X cp B fC st tm w (us++vs):=by
 refine⟨?_,?_,?_,fun o h=>?_⟩
 ·rw[hL];exact bq.fR
 ·rw[hL];exact fun c hc=>A.le c (bq.le c hc)
 ·rw[hL];exact fun h=>bq.go (A.go h)
 ·rw[fX,List.mem_append,not_or] at h;rw[bq.same o h.2,A.same o h.1]
theorem fq.one{X':Nat->Prop}{n:Nat}{bo:Site}{nv:Value}(S:ae L J X B st tm w)(hh:∀b,X' b->X b)
  (df:(∀O,look st.sites n=some O->O.bX<bo.bX)\/(bO (B n)=bO nv/\∀O,look st.sites n=some O->O.bX=bo.bX/\O.live=false))
  (hb:∀b,b∈bu nv->X b/\¬X' b/\(b∈J\/L.heap.size<=b))
  (e9:∀{ba:List (Nat×Site)} {aw:Nat->Value},ba=b2 st.sites n bo->aw n=nv->(∀{a v},b4 B st.sites w (am X B st.sites) a v->b4 aw ba w (am X' aw ba) a v)->
   (∀b,am X' aw ba b->am X B st.sites b)->ig aw ba w (am X' aw ba) n bo):
  fq L J X X' B (fun F=>if F=n then nv else B F) st tm w [(n,bo)]:=by
 obtain⟨h1,h2,Z⟩:=S.tQ hh df hb e9;exact⟨h1,h2,Z,fun o h=>by
  simp only[keys,List.mem_singleton] at h;simp[h]⟩
theorem Az{av bR:Nat->Prop}{l:aq}{v:Value}{sites:List (Nat×Site)}(hf:∀t xs,l≠.fresh t xs)(zN:∀t xs,l≠.hs t xs)(h:c_ lk [] w av l v)(cX:∀b,bR b->av b)(aY:∀b,bR b->b<w.heap.size):c_ B sites w bR l v:=by
 have fp:∀{d:aK} {v:Value},a8 w av d v->a8 w bR d v:=fun h=>b4.fp (B:=B) (sites:=[]) (a:=one _) cX aY h
 cases l with
 |d x=>exact fp h
 |nil t=>exact h
 |own o s=>obtain⟨_,_,h,_⟩:=h;cases h
 |ptr o s off=>obtain⟨_,_,_,h,_⟩:=h;cases h
 |dZ cells off=>
  obtain⟨b,D,h1,h2,Z,cs,aH,bp,dm⟩:=h;exact⟨b,D,h1,fun hx=>h2 (cX b hx),Z,cs,aH,bp,fun j g1 g2=>fp (dm j g1 g2)⟩
 |ec o s t k off=>obtain⟨_,_,_,h,_⟩:=h;cases h
 |clo g bj=>
  obtain⟨vs,h1,h2,Z⟩:=h;match bj,vs,h2 with
  |[],[],_=>exact⟨[],h1,rfl,fun i h=>by simp at h⟩
  |c::bj,v::vs,_=>obtain⟨_,h,_⟩:=Z 0 (by simp) (by simp);cases h
 |cu u=>exact h
 |fresh t xs=>exact absurd rfl (hf t xs)
 |hs t xs=>exact absurd rfl (zN t xs)
 |eh=>trivial
 |any=>trivial
theorem ca.go{aw:Nat->Value}{sites ba:List (Nat×Site)}{w':World}{av bR:Nat->Prop}(go:∀{a:aI} {v:Value},b4 B sites w av a v->b4 aw ba w' bR a v){U:List aq}{vs:List Value}
  (h:ca B sites w av U vs):ca aw ba w' bR U vs:=x3 go h
structure Left(L:World)(J:List Nat)(X:Nat->Prop)(B:Nat->Value)(st:ab)(av:Nat->Prop)(bs:List Nat):Prop where
 nodup:bs.Nodup
 b1:∀b,b∈bs->¬X b/\(b∈J\/L.heap.size<=b)
 le:∀c,am (fun b=>X b\/b∈bs) B st.sites c->av c
def iJ(a_:ab)(sites:List (Nat×Site))(ks:List Nat):Prop:=∀m,m∈ks->∀O,look sites m=some O->O.bX<aT a_ m
theorem iJ.step{a_:ab}{sites us:List (Nat×Site)}{ks:List Nat}(h:iJ a_ sites ks)(Y:∀n,n∈keys us->n∉ks):iJ a_ (aR sites us) ks:=by
 intro m hm O M;rw[kq (fun aa=>Y m aa hm)] at M
 exact h m hm O M
theorem Ap{u:Bool}{e:TypeId}{s:Nat}{v:Value}{n:Nat}{cs:List Value}(h:rowAt w u e s v n cs):v.oneCell'=true:=by
 rcases h.2 with⟨h,_⟩|⟨g,cap,cur,bn,h,_⟩<;>rw[h]<;>rfl
theorem JW{av:Nat->Prop}(a_:ab):∀(U:List aq) (n:Nat) {B:Nat->Value} {st:ab} {vs:List Value} {bs rest:List Nat},ae L J (fun b=>X b\/b∈bs++rest) B st tm w->fN w av U vs bs->
  Left L J X B st av (bs++rest)->iJ a_ st.sites (keys (take a_ n U).2)->(keys (take a_ n U).2).Nodup->
  ∃aw,fq L J (fun b=>X b\/b∈bs++rest) (fun b=>X b\/b∈rest) B aw st tm w (take a_ n U).2/\ca aw (aR st.sites (take a_ n U).2) w (am (fun b=>X b\/b∈rest) aw (aR st.sites (take a_ n U).2)) (take a_ n U).1 vs/\
   Left L J X aw {st with sites:=aR st.sites (take a_ n U).2} av rest:=by
 intro U;induction U with
 |nil=>
  intro n B st vs bs rest S h ap fj Y;match vs,h with
  |[],h=>
   have h:bs=[]:=h;subst h;exact⟨B,.nil S (fun b hb=>hb),.nil,ap⟩
 |cons l U ih=>
  intro n B st vs bs rest S h ap fj Y;match vs,h with
  |v::vs,⟨aS,aG,c9,h1,h2⟩=>
   subst c9;by_cases hf:∃t xs,l=.fresh t xs
   ·obtain⟨t,xs,rfl⟩:=hf;obtain⟨hb1,e,cs,ar,hr⟩:=h1;simp only[take,keys,List.nodup_cons] at Y fj;have d_:=ap.nodup;rw[List.append_assoc,hb1] at d_;have cB:fq L J (fun b=>X b\/b∈aS++aG++rest) (fun b=>X b\/b∈aG++rest) B (fun F=>if F=n then v else B F) st tm w [(n,.row (aT a_ n) t xs)]:=by
     refine .one S (fun b hb=>?_) (.inl fun O M=>fj n List.mem_cons_self O M) (fun b hb=>?_) (fun eN dy go le=>?_)
     ·rcases hb with hb|hb
      ·exact .inl hb
      ·exact .inr (by rw[List.append_assoc];exact List.mem_append.2 (.inr hb))
     ·have hb:bc v=some b:=s8 ar hb;have hm:b∈aS:=by rw[hb1,hb];simp
      have gC:b∈aS++aG++rest:=by rw[List.append_assoc];exact List.mem_append.2 (.inl hm)
      refine⟨.inr gC,?_,(ap.b1 b gC).2⟩;rintro(hx|hx)
      ·exact(ap.b1 b gC).1 hx
      ·rw[hb] at d_;simp only[Option.toList_some,List.singleton_append,List.nodup_cons] at d_;exact d_.1 hx
     ·refine⟨e,cs,by rw[dy];exact ar,fun j g1 g2=>?_⟩
      have k:=hr.2 j g1 g2;have cX:∀b,am (fun b=>X b\/b∈aG++rest) _ _ b->av b:=fun b hb=>ap.le b (le b hb)
      exact b4.fp (B:=B) (sites:=[]) (a:=one _) cX (fun b hb=>S.lt (le b hb)) k
    have kl:Left L J X (fun F=>if F=n then v else B F) {st with sites:=aR st.sites [(n,.row (aT a_ n) t xs)]} av (aG++rest):=by
     refine⟨(List.nodup_append.1 (by rw[List.append_assoc] at ap;exact ap.nodup)).2.1,fun b hb=>ap.b1 b (by rw[List.append_assoc];exact List.mem_append.2 (.inr hb)),fun c hc=>ap.le c (cB.le c hc)⟩
    obtain⟨aw,dn,Z,aH⟩:=ih (n+1) (st:={st with sites:=aR st.sites [(n,.row (aT a_ n) t xs)]}) cB.fR h2 kl
     (iJ.step (us:=[(n,.row (aT a_ n) t xs)]) (fun m hm=>fj m (List.mem_cons_of_mem _ hm)) (fun m hm=>by simp only[keys,List.mem_singleton] at hm;subst hm;exact Y.1)) Y.2
    refine⟨aw,cB.trans dn,?_,aH⟩;refine ca.cons ?_ Z;have:c_ (fun F=>if F=n then v else B F) (aR st.sites [(n,.row (aT a_ n) t xs)]) w (am (fun b=>X b\/b∈aG++rest) (fun F=>if F=n then v else B F) (aR st.sites [(n,.row (aT a_ n) t xs)])) (.own n (aT a_ n)) v:=
     ⟨Ap ar,Ref.mk (O:=.row (aT a_ n) t xs) (by simp[aR,ce]) rfl (by simp[(ie ar).1])⟩
    exact dn.go (a:=bD (.own n (aT a_ n))) (v:=v) this
   ·by_cases zN:∃t xs,l=.hs t xs
    ·obtain⟨t,xs,rfl⟩:=zN;obtain⟨e,cs,aC,hb1,ar,hr⟩:=h1;simp only[take,keys,List.nodup_cons] at Y fj;have d_:=ap.nodup;rw[List.append_assoc,hb1] at d_;have cB:fq L J (fun b=>X b\/b∈aS++aG++rest) (fun b=>X b\/b∈aG++rest) B (fun F=>if F=n then .tuple (v::aC).toArray else B F) st tm w [(n,.deep (aT a_ n) t xs)]:=by
      refine .one S (fun b hb=>?_) (.inl fun O M=>fj n List.mem_cons_self O M) (fun b hb=>?_) (fun eN dy go le=>?_)
      ·rcases hb with hb|hb
       ·exact .inl hb
       ·exact .inr (by rw[List.append_assoc];exact List.mem_append.2 (.inr hb))
      ·have hm:b∈aS:=by rw[hb1];exact hb
       have gC:b∈aS++aG++rest:=by rw[List.append_assoc];exact List.mem_append.2 (.inl hm)
       refine⟨.inr gC,?_,(ap.b1 b gC).2⟩;rintro(hx|hx)
       ·exact(ap.b1 b gC).1 hx
       ·exact(List.nodup_append.1 d_).2.2 b hb b hx rfl
      ·have cX:∀b,am (fun b=>X b\/b∈aG++rest) _ _ b->av b:=fun b hb=>ap.le b (le b hb)
       exact⟨e,v,aC,cs,dy,by rw[dy];exact(List.nodup_append.1 d_).1,ar,hr.map (fun k=>b4.fp (B:=B) (sites:=[]) (a:=one _) cX (fun b hb=>S.lt (le b hb)) k) fun _ _ _ _=>rfl⟩
     have kl:Left L J X (fun F=>if F=n then .tuple (v::aC).toArray else B F) {st with sites:=aR st.sites [(n,.deep (aT a_ n) t xs)]} av (aG++rest):=by
      refine⟨(List.nodup_append.1 (by rw[List.append_assoc] at ap;exact ap.nodup)).2.1,fun b hb=>ap.b1 b (by rw[List.append_assoc];exact List.mem_append.2 (.inr hb)),fun c hc=>ap.le c (cB.le c hc)⟩
     obtain⟨aw,dn,Z,aH⟩:=ih (n+1) (st:={st with sites:=aR st.sites [(n,.deep (aT a_ n) t xs)]}) cB.fR h2 kl
      (iJ.step (us:=[(n,.deep (aT a_ n) t xs)]) (fun m hm=>fj m (List.mem_cons_of_mem _ hm)) (fun m hm=>by simp only[keys,List.mem_singleton] at hm;subst hm;exact Y.1)) Y.2
     refine⟨aw,cB.trans dn,?_,aH⟩;refine ca.cons ?_ Z;have:c_ (fun F=>if F=n then .tuple (v::aC).toArray else B F) (aR st.sites [(n,.deep (aT a_ n) t xs)]) w (am (fun b=>X b\/b∈aG++rest) (fun F=>if F=n then .tuple (v::aC).toArray else B F) (aR st.sites [(n,.deep (aT a_ n) t xs)])) (.own n (aT a_ n)) v:=
      ⟨Ap ar,Ref.mk (O:=.deep (aT a_ n) t xs) (by simp[aR,ce]) rfl (by simp[bO])⟩
     exact dn.go (a:=bD (.own n (aT a_ n))) (v:=v) this
    ·have FJ:∀t xs,l≠.fresh t xs:=fun t xs h=>hf ⟨t,xs,h⟩
     have Eu:∀t xs,l≠.hs t xs:=fun t xs h=>zN ⟨t,xs,h⟩
     have _5:take a_ n (l::U)=(l::(take a_ (n+1) U).1,(take a_ (n+1) U).2):=by
      cases l<;>first|rfl|exact absurd rfl (FJ _ _)|exact absurd rfl (Eu _ _)
     have h1':aS=[]/\c_ lk [] w av l v:=by
      cases l<;>first|exact h1|exact absurd rfl (FJ _ _)|exact absurd rfl (Eu _ _)
     obtain⟨rfl,h1'⟩:=h1';rw[_5] at Y fj ⊢;simp only[List.nil_append] at S ap ⊢;obtain⟨aw,dn,Z,aH⟩:=ih (n+1) S h2 ap fj Y;refine⟨aw,dn,?_,aH⟩;refine ca.cons ?_ Z;exact Az FJ Eu h1' (fun b hb=>ap.le b (dn.le b hb)) (fun b hb=>dn.fR.lt hb)
end
section
variable {L:World}{J:List Nat}{X:Nat->Prop}{B:Nat->Value}{st:ab}{tm:Array Value}{w:World}
def mY(B:Nat->Value)(sites:List (Nat×Site))(w:World)(av:Nat->Prop)(as:List bg)(vs:List Value):Prop:=
 vs.length=as.length/\∀j (h:j<as.length) (aa:j<vs.length),fP B sites w av (as[j]) (vs[j])
theorem mY.cons{sites:List (Nat×Site)}{av:Nat->Prop}{a:bg}{as:List bg}{v:Value}{vs:List Value}(h:fP B sites w av a v)(M:mY B sites w av as vs):mY B sites w av (a::as) (v::vs):=
 ⟨by simp[M.1],fun j h1 h2=>by
  cases j with
  |zero=>exact h
  |succ j=>exact M.2 j (by simpa using h1) (by simpa using h2)⟩
theorem Left.rest{av:Nat->Prop}{a b:List Nat}(ap:Left L J X B st av (a++b)){aw:Nat->Value}{ad:ab}(h:∀c,am (fun c=>X c\/c∈b) aw ad.sites c->am (fun c=>X c\/c∈a++b) B st.sites c):Left L J X aw ad av b:=
 ⟨(List.nodup_append.1 ap.nodup).2.1,fun c hc=>ap.b1 c (List.mem_append.2 (.inr hc)),fun c hc=>ap.le c (h c hc)⟩
theorem Vd{a_:ab}{n:Nat}{U:List aq}(h:(take a_ n U).1.head?=some .eh):U.head?=some .eh:=by
 cases U with
 |nil=>cases h
 |cons l U=>cases l<;>first|exact h|cases h
theorem take_one(a_:ab)(n:Nat)(l:aq):∃fi,(take a_ n [l]).1=[fi]:=by cases l<;>exact⟨_,rfl⟩
theorem Jc{av:Nat->Prop}(a_:ab):∀(as:List bg) (n:Nat) {B:Nat->Value} {st:ab} {vs:List Value} {bs rest:List Nat},ae L J (fun b=>X b\/b∈bs++rest) B st tm w->jQ w av as vs bs->
  Left L J X B st av (bs++rest)->iJ a_ st.sites (keys (dt a_ n as).2)->(keys (dt a_ n as).2).Nodup->
  ∃aw,fq L J (fun b=>X b\/b∈bs++rest) (fun b=>X b\/b∈rest) B aw st tm w (dt a_ n as).2/\mY aw (aR st.sites (dt a_ n as).2) w (am (fun b=>X b\/b∈rest) aw (aR st.sites (dt a_ n as).2)) (dt a_ n as).1 vs/\
   Left L J X aw {st with sites:=aR st.sites (dt a_ n as).2} av rest:=by
 intro as;induction as with
 |nil=>
  intro n B st vs bs rest S h ap fj Y;match vs,h with
  |[],h=>
   have h:bs=[]:=h;subst h;exact⟨B,.nil S (fun b hb=>hb),⟨rfl,fun j h=>by simp[dt] at h⟩,ap⟩
 |cons a as ih=>
  intro n B st vs bs rest S h ap fj Y;match vs,h with
  |v::vs,⟨aS,aG,c9,h1,h2⟩=>
   subst c9;have go:∀(U:List aq) (us:List Value),fN w av U us aS->(dt a_ n (a::as)).2=(take a_ n U).2++(dt a_ (n+100) as).2->
     ∃aw,fq L J (fun b=>X b\/b∈aS++aG++rest) (fun b=>X b\/b∈rest) B aw st tm w (dt a_ n (a::as)).2/\ca aw (aR st.sites (dt a_ n (a::as)).2) w (am (fun b=>X b\/b∈rest) aw (aR st.sites (dt a_ n (a::as)).2)) (take a_ n U).1 us/\
      mY aw (aR st.sites (dt a_ n (a::as)).2) w (am (fun b=>X b\/b∈rest) aw (aR st.sites (dt a_ n (a::as)).2)) (dt a_ (n+100) as).1 vs/\Left L J X aw {st with sites:=aR st.sites (dt a_ n (a::as)).2} av rest:=by
    intro U us bW e;rw[e] at fj Y ⊢;rw[fX] at fj Y;obtain⟨d1,d2,d3⟩:=List.nodup_append.1 Y;rw[List.append_assoc] at S ap ⊢;obtain⟨fD,cB,ay,kl⟩:=JW a_ U n S bW ap (fun m hm=>fj m (List.mem_append.2 (.inl hm))) d1
    obtain⟨fC,dn,ao,oI⟩:=ih (n+100) (st:={st with sites:=aR st.sites (take a_ n U).2}) cB.fR h2 kl
     (iJ.step (fun m hm=>fj m (List.mem_append.2 (.inr hm))) (fun m hm gC=>d3 m hm m gC rfl)) d2
    refine⟨fC,cB.trans dn,?_,?_,?_⟩
    ·rw[hL];exact ay.go dn.go
    ·rw[hL];exact ao
    ·rw[hL];exact oI
   cases a with
   |ah l=>
    have h1:lj w av l v aS:=h1;obtain⟨aw,T,ay,ao,be⟩:=go [l] [v] ⟨aS,[],by simp,h1,rfl⟩ rfl
    refine⟨aw,T,?_,be⟩;obtain⟨fi,fr⟩:=take_one a_ n l;have:(dt a_ n (bg.ah l::as)).1=bg.ah fi::(dt a_ (n+100) as).1:=by simp only[dt,fr]
    rw[this];refine mY.cons ?_ ao;rw[fr] at ay;exact ay.2 0 (by simp) (by simp)
   |agg U=>
    obtain⟨us,e,h1⟩:=h1;obtain⟨aw,T,ay,ao,be⟩:=go U us h1 rfl;refine⟨aw,T,?_,be⟩;have:(dt a_ n (bg.agg U::as)).1=bg.agg (take a_ n U).1::(dt a_ (n+100) as).1:=rfl;rw[this];exact mY.cons ⟨us,e,ay.1,ay.2⟩ ao
def my(B:Nat->Value):List (Nat×Nat)->List Nat->Prop
 |[],[]=>True
 |p::r,b::cV=>B p.1=.pointer (some ⟨b,0,none⟩)/\my B r cV
 |_,_=>False
theorem my.of:∀{boxes:List (Nat×Nat)},(∀o s,(o,s)∈boxes->∃b,B o=.pointer (some ⟨b,0,none⟩))->my B boxes (cf B (keys boxes)):=by
 intro boxes;induction boxes with
 |nil=>intro _;trivial
 |cons q boxes ih=>
  obtain⟨aN,r⟩:=q;intro h;obtain⟨c,hc⟩:=h aN r List.mem_cons_self;have:=ih fun o s hm=>h o s (List.mem_cons_of_mem _ hm)
  have e:cf B (keys ((aN,r)::boxes))=c::cf B (keys boxes):=by simp[cf,keys,hc,bc,bu]
  rw[e];exact⟨hc,this⟩
theorem my.congr{aw:Nat->Value}:∀{boxes:List (Nat×Nat)} {cV:List Nat},my B boxes cV->(∀F,F∈keys boxes->aw F=B F)->my aw boxes cV:=by
 intro boxes;induction boxes with
 |nil=>
  intro cV h _;match cV,h with
  |[],_=>trivial
 |cons q boxes ih=>
  intro cV h aa;match cV,h with
  |b::cV,⟨h1,h2⟩=>exact⟨by rw[aa q.1 List.mem_cons_self];exact h1,ih h2 fun F bh=>aa F (List.mem_cons_of_mem _ bh)⟩
theorem H1{av:Nat->Prop}{a_:ab}{F:Nat}:∀{boxes:List (Nat×Nat)} {ck:List (List aq)} {cV bs:List Nat},my B boxes cV->lc w av cV ck bs->F∈keys boxes->F∈keys (eS a_ boxes ck):=by
 intro boxes;induction boxes with
 |nil=>intro ck cV bs _ _ h;simp[keys] at h
 |cons q boxes ih=>
  obtain⟨aN,r⟩:=q;intro ck cV bs hl bW hm;match cV,ck,hl,bW with
  |c::cV,cs::ck,⟨_,hl⟩,⟨_,_,_,_,bW⟩=>
   simp only[eS,fX,keys,List.mem_append,List.mem_cons];rcases List.mem_cons.1 hm with rfl|hm
   ·exact .inr (.inl rfl)
   ·exact .inr (.inr (ih hl bW hm))
theorem Jb{av:Nat->Prop}(a_:ab):∀(boxes:List (Nat×Nat)) {ck:List (List aq)} {B:Nat->Value} {st:ab} {cV bs rest:List Nat},ae L J (fun b=>X b\/b∈bs++rest) B st tm w->my B boxes cV->lc w av cV ck bs->
  (∀o s,(o,s)∈boxes->look st.sites o=some (.dead s))->
  Left L J X B st av (bs++rest)->iJ a_ st.sites (keys (eS a_ boxes ck))->(keys (eS a_ boxes ck)).Nodup->
  ∃aw,fq L J (fun b=>X b\/b∈bs++rest) (fun b=>X b\/b∈rest) B aw st tm w (eS a_ boxes ck)/\Left L J X aw {st with sites:=aR st.sites (eS a_ boxes ck)} av rest:=by
 intro boxes;induction boxes with
 |nil=>
  intro ck B st cV bs rest S ew h gl ap fj Y;match cV,ck,ew,h with
  |[],[],_,h=>
   have h:bs=[]:=h;subst h;exact⟨B,.nil S (fun b hb=>hb),ap⟩
 |cons p boxes ih=>
  obtain⟨o,s⟩:=p;intro ck B st cV bs rest S ew h gl ap fj Y;have a5:=gl o s List.mem_cons_self;match cV,ck,ew,h with
  |b::cV,cs::ck,⟨hb,ew⟩,⟨aS,aG,c9,⟨T,cur,oD,e1,e2,bK,dW⟩,h2⟩=>
   subst c9 e1;have hb:B o=.pointer (some ⟨b,0,none⟩):=hb;have pY:eS a_ ((o,s)::boxes) (cs::ck)=(take a_ (1000000+o*100) cs).2++([(o,Site.box s (take a_ (1000000+o*100) cs).1)]++eS a_ boxes ck):=rfl;rw[pY] at fj Y ⊢;rw[fX,fX] at fj Y;obtain⟨d1,d2,d3⟩:=List.nodup_append.1 Y;obtain⟨d4,d5,d6⟩:=List.nodup_append.1 d2;have yB:∀c,c∈b::oD++aG++rest <-> c∈oD++(b::(aG++rest)):=by intro c;simp[or_assoc,or_left_comm]
   have agK:=ap.nodup;have cT:ae L J (fun c=>X c\/c∈oD++(b::(aG++rest))) B st tm w:=S.shrink fun c hc=>hc.imp id (yB c).2
   have kl:Left L J X B st av (oD++(b::(aG++rest))):=by
    refine⟨?_,fun c hc=>ap.b1 c ((yB c).2 hc),fun c hc=>ap.le c ?_⟩
    ·have:List.Perm (b::oD++aG++rest) (oD++(b::(aG++rest))):=by
      simp only[List.cons_append,List.append_assoc];exact List.perm_middle.symm
     exact this.nodup_iff.1 agK
    ·rcases hc with hc|hc
     ·exact .inl (hc.imp id (yB c).2)
     ·exact .inr hc
   obtain⟨fD,cB,ay,oI⟩:=JW a_ cs (1000000+o*100) cT dW.2 kl (fun m hm=>fj m (List.mem_append.2 (.inl hm))) d1
   have NF:o∉keys (take a_ (1000000+o*100) cs).2:=fun h=>d3 o h o (by simp[keys]) rfl
   have Ek:fD o=B o:=cB.same o NF;have hZ:look (aR st.sites (take a_ (1000000+o*100) cs).2) o=some (.dead s):=by rw[kq NF,a5]
   have Qr:=oI.nodup;simp only[List.nodup_cons] at Qr;have dn:fq L J (fun c=>X c\/c∈b::(aG++rest)) (fun c=>X c\/c∈aG++rest) fD (fun F=>if F=o then B o else fD F) {st with sites:=aR st.sites (take a_ (1000000+o*100) cs).2} tm w [(o,Site.box s (take a_ (1000000+o*100) cs).1)]:=by
    refine .one cB.fR (fun c hc=>hc.imp id (List.mem_cons_of_mem _)) (.inr ⟨by rw[Ek],fun O M=>?_⟩) (fun c hc=>?_) (fun eN dy go le=>?_)
    ·have M:look (aR st.sites (take a_ (1000000+o*100) cs).2) o=some O:=M;rw[hZ] at M;cases M;exact⟨rfl,rfl⟩
    ·rw[hb] at hc;have hc:c=b:=List.mem_singleton.1 hc;rw[hc];refine⟨.inr List.mem_cons_self,?_,(oI.b1 b List.mem_cons_self).2⟩;rintro(hx|hx)
     ·exact(oI.b1 b List.mem_cons_self).1 hx
     ·exact Qr.1 hx
    ·have:=x3 go ay;exact⟨b,T,cur,by rw[dy,hb],e2,this.1,bK,fun bW=>dW.1 (Vd bW),this.2⟩
   have G3:Left L J X (fun F=>if F=o then B o else fD F) {st with sites:=aR (aR st.sites (take a_ (1000000+o*100) cs).2) [(o,Site.box s (take a_ (1000000+o*100) cs).1)]} av (aG++rest):=
    Left.rest (a:=[b]) (st:={st with sites:=aR st.sites (take a_ (1000000+o*100) cs).2}) oI dn.le
   have u3:∀F,F∈keys boxes->(fun F=>if F=o then B o else fD F) F=B F:=by
    intro F bh;have ag:=H1 (a_:=a_) ew h2 bh;by_cases e:F=o
    ·subst e;simp
    ·simp only[e,if_false];exact cB.same F fun hm=>d3 F hm F (List.mem_append.2 (.inr ag)) rfl
   obtain⟨aw,fu,ais⟩:=ih (st:={st with sites:=aR (aR st.sites (take a_ (1000000+o*100) cs).2) [(o,Site.box s (take a_ (1000000+o*100) cs).1)]}) dn.fR (ew.congr u3) h2
    (fun F r hm=>by
     have ag:=H1 (a_:=a_) ew h2 (Bn hm);show look (aR (aR st.sites _) _) F=_;rw[kq (fun h=>d6 F h F ag rfl),kq (fun h=>d3 F h F (List.mem_append.2 (.inr ag)) rfl)]
     exact gl F r (List.mem_cons_of_mem _ hm))
    G3
    (iJ.step (iJ.step (fun m hm=>fj m (List.mem_append.2 (.inr (List.mem_append.2 (.inr hm))))) (fun m hm gC=>d3 m hm m (List.mem_append.2 (.inr gC)) rfl)) (fun m hm gC=>d6 m hm m gC rfl)) d5
   refine⟨aw,?_,?_⟩
   ·have agy:=cB.trans dn;have lS:fq L J (fun c=>X c\/c∈b::oD++aG++rest) (fun c=>X c\/c∈oD++(b::(aG++rest))) B B st tm w []:=.nil S fun c hc=>hc.imp id (yB c).2
    have acu:=lS.trans (vs:=(take a_ (1000000+o*100) cs).2++[(o,Site.box s (take a_ (1000000+o*100) cs).1)]) agy;have:=acu.trans (vs:=eS a_ boxes ck) (by simpa only[List.nil_append,hL] using fu)
    simpa only[List.nil_append,List.append_assoc] using this
   ·simpa only[hL] using ais
theorem g'.congr{aw:Nat->Value}:∀{rows:List (Option (Nat×Nat))} {vs:List Value},g' B rows vs->(∀o s,some (o,s)∈rows->bO (aw o)=bO (B o))->g' aw rows vs:=by
 intro rows;induction rows with
 |nil=>intro vs h _;trivial
 |cons D r ih=>
  intro vs h hc;match D,vs,h with
  |none,v::vs,h=>exact ih h fun o s hm=>hc o s (List.mem_cons_of_mem _ hm)
  |some p,v::vs,h=>exact⟨h.1.trans (hc p.1 p.2 List.mem_cons_self).symm,ih h.2 fun o s hm=>hc o s (List.mem_cons_of_mem _ hm)⟩
  |none,[],h=>exact h.elim
  |some p,[],h=>exact h.elim
theorem Ve{U:List aq}:eD [] U=[]:=by cases U<;>rfl
theorem H0{rows:List (Option (Nat×Nat))}:eD rows []=[]:=by
 cases rows with
 |nil=>rfl
 |cons D r=>cases D<;>rfl
theorem TZ{r:List (Option (Nat×Nat))}{l:aq}{U:List aq}:eD (none::r) (l::U)=eD r U:=by cases l<;>rfl
theorem vI{o s:Nat}:∀{rows:List (Option (Nat×Nat))},some (o,s)∈rows->o∈nL rows
 |[],h=>by cases h
 |none::r,h=>by
  rcases List.mem_cons.1 h with h|h
  ·cases h
  ·exact vI (rows:=r) h
 |some p::r,h=>by
  rcases List.mem_cons.1 h with h|h
  ·cases h;exact List.mem_cons_self
  ·exact List.mem_cons_of_mem _ (vI h)
theorem SS{D:Option (Nat×Nat)}{rows:List (Option (Nat×Nat))}(h:(nL (D::rows)).Nodup):(nL rows).Nodup:=by
 cases D with
 |none=>exact h
 |some p=>exact(List.nodup_cons.1 h).2
theorem WG{av:Nat->Prop}:∀(rows:List (Option (Nat×Nat))) {U:List aq} {B:Nat->Value} {st:ab} {vs:List Value} {bs rest:List Nat},ae L J (fun b=>X b\/b∈bs++rest) B st tm w->fN w av U vs bs->g' B rows vs->
  (∀o s,some (o,s)∈rows->look st.sites o=some (.dead s))->(nL rows).Nodup->Left L J X B st av (bs++rest)->(keys (eD rows U)).Nodup->
  ∃aw,fq L J (fun b=>X b\/b∈bs++rest) (fun b=>X b\/b∈rest) B aw st tm w (eD rows U)/\Left L J X aw {st with sites:=aR st.sites (eD rows U)} av rest:=by
 intro rows;have skip:∀{B:Nat->Value} {st:ab} {bs rest:List Nat},ae L J (fun b=>X b\/b∈bs++rest) B st tm w->Left L J X B st av (bs++rest)->
   fq L J (fun b=>X b\/b∈bs++rest) (fun b=>X b\/b∈rest) B B st tm w []/\Left L J X B st av rest:=by
  intro B st bs rest S ap;have T:fq L J (fun b=>X b\/b∈bs++rest) (fun b=>X b\/b∈rest) B B st tm w []:=.nil S fun b hb=>hb.imp id fun h=>List.mem_append.2 (.inr h)
  exact⟨T,ap.rest (fun c hc=>T.le c hc)⟩
 induction rows with
 |nil=>
  intro U B st vs bs rest S h hr ek fj ap Y;obtain⟨T,L'⟩:=skip S ap;rw[Ve];exact⟨B,T,L'⟩
 |cons D r ih=>
  intro U B st vs bs rest S h hr ek fj ap Y;match U,vs,h with
  |[],[],h=>
   obtain⟨T,L'⟩:=skip S ap;rw[H0];exact⟨B,T,L'⟩
  |l::U,v::vs,⟨aS,aG,c9,h1,h2⟩=>
   subst c9;have pass:g' B r vs->eD (D::r) (l::U)=eD r U->∃aw,fq L J (fun b=>X b\/b∈aS++aG++rest) (fun b=>X b\/b∈rest) B aw st tm w (eD (D::r) (l::U))/\Left L J X aw {st with sites:=aR st.sites (eD (D::r) (l::U))} av rest:=by
    intro cG e;rw[e] at Y ⊢;have lS:fq L J (fun b=>X b\/b∈aS++aG++rest) (fun b=>X b\/b∈aG++rest) B B st tm w []:=.nil S fun b hb=>hb.imp id fun h=>by rw[List.append_assoc];exact List.mem_append.2 (.inr h)
    have vC:Left L J X B st av (aG++rest):=Left.rest (a:=aS) (by rw[<-List.append_assoc];exact ap) fun c hc=>(lS.le c hc).imp (fun h=>h.imp id fun h=>by rwa[<-List.append_assoc]) id
    obtain⟨aw,T,L'⟩:=ih lS.fR h2 cG (fun o s hm=>ek o s (List.mem_cons_of_mem _ hm)) (SS fj) vC Y
    exact⟨aw,lS.trans (vs:=eD r U) T,L'⟩
   have back:∀(o s:Nat) (bo:Site) (nv:Value),D=some (o,s)->bo.bX=s->eD (D::r) (l::U)=(o,bo)::eD r U->bO nv=v->(∀b,b∈bu nv->b∈aS)->
     (∀{ba:List (Nat×Site)} {aw:Nat->Value},aw o=nv->(∀b,am (fun b=>X b\/b∈aG++rest) aw ba b->av b)->(∀b,am (fun b=>X b\/b∈aG++rest) aw ba b->b<w.heap.size)->ig aw ba w (am (fun b=>X b\/b∈aG++rest) aw ba) o bo)->
     ∃aw,fq L J (fun b=>X b\/b∈aS++aG++rest) (fun b=>X b\/b∈rest) B aw st tm w (eD (D::r) (l::U))/\Left L J X aw {st with sites:=aR st.sites (eD (D::r) (l::U))} av rest:=by
    intro o s bo nv ar df e uR ow e9;subst ar;rw[e] at Y ⊢;simp only[keys,List.nodup_cons] at Y;have a5:=ek o s List.mem_cons_self;have d_:=ap.nodup;rw[List.append_assoc] at d_;have cB:fq L J (fun b=>X b\/b∈aS++aG++rest) (fun b=>X b\/b∈aG++rest) B (fun F=>if F=o then nv else B F) st tm w [(o,bo)]:=by
     refine .one S (fun b hb=>hb.imp id fun h=>by rw[List.append_assoc];exact List.mem_append.2 (.inr h)) (.inr ⟨?_,fun O M=>?_⟩) (fun b hb=>?_) (fun eN dy go le=>?_)
     ·rw[uR];exact hr.1.symm
     ·rw[a5] at M;cases M;exact⟨df.symm,rfl⟩
     ·have hm:=ow b hb;have gC:b∈aS++aG++rest:=by rw[List.append_assoc];exact List.mem_append.2 (.inl hm)
      refine⟨.inr gC,?_,(ap.b1 b gC).2⟩;rintro(hx|hx)
      ·exact(ap.b1 b gC).1 hx
      ·exact(List.nodup_append.1 d_).2.2 b hm b hx rfl
     ·exact e9 dy (fun b hb=>ap.le b (le b hb)) (fun b hb=>S.lt (le b hb))
    have kl:Left L J X (fun F=>if F=o then nv else B F) {st with sites:=aR st.sites [(o,bo)]} av (aG++rest):=
     ⟨(List.nodup_append.1 d_).2.1,fun b hb=>ap.b1 b (by rw[List.append_assoc];exact List.mem_append.2 (.inr hb)),fun c hc=>ap.le c (cB.le c hc)⟩
    have uO:g' (fun F=>if F=o then nv else B F) r vs:=hr.2.congr fun F t hm=>by
     by_cases e:F=o
     ·subst e;have:=hr.1;simp only[if_true,uR];exact this
     ·simp[e]
    obtain⟨aw,dn,oI⟩:=ih (st:={st with sites:=aR st.sites [(o,bo)]}) cB.fR h2 uO (fun F t hm=>by
     have bY:¬o=F:=fun e=>(List.nodup_cons.1 fj).1 (by subst e;exact vI hm)
     simp only[aR,ce,bY,if_false];exact ek F t (List.mem_cons_of_mem _ hm)) (List.nodup_cons.1 fj).2 kl Y.2
    exact⟨aw,cB.trans dn,oI⟩
   match D,hr with
   |none,hr=>exact pass hr TZ
   |some (o,s),hr=>
    cases l with
    |fresh t xs=>
     obtain⟨hb1,e,cs,ar,du⟩:=h1;refine back o s (.row s t xs) v rfl rfl rfl (ie ar).1 (fun b hb=>by rw[hb1,s8 ar hb];simp) fun dy cX aY=>⟨e,cs,by rw[dy];exact ar,fun j g1 g2=>?_⟩
     exact b4.fp (B:=B) (sites:=[]) (a:=one _) cX aY (du.2 j g1 g2)
    |hs t xs=>
     obtain⟨e,cs,aC,hb1,ar,du⟩:=h1;refine back o s (.deep s t xs) (.tuple (v::aC).toArray) rfl rfl rfl rfl (fun b hb=>by rw[hb1];exact hb) fun dy cX aY=>⟨e,v,aC,cs,dy,?_,ar,du.map (fun k=>b4.fp (B:=B) (sites:=[]) (a:=one _) cX aY k) fun _ _ _ _=>rfl⟩
     rw[dy,<-hb1];have:=ap.nodup;rw[List.append_assoc] at this;exact(List.nodup_append.1 this).1
    |_=>exact pass hr.2 rfl
end
theorem vG{us:List (Nat×Site)}:∀{sites:List (Nat×Site)} {o:Nat} {s:Site},(keys us).Nodup->(o,s)∈us->look (aR sites us) o=some s:=by
 induction us with
 |nil=>intro sites o s _ h;simp at h
 |cons p us ih=>
  obtain⟨n,aj⟩:=p;intro sites o s hn hm;simp only[keys,List.nodup_cons] at hn;simp only[aR];rcases List.mem_cons.1 hm with hm|hm
  ·cases hm;rw[kq hn.1,ce];simp
  ·exact ih hn.2 hm
section plain
variable {w:World}{av bR:Nat->Prop}
theorem sX{d:aK}{v:Value}(h:aq.gM (.d d)=false)(r:a8 w av d v):a8 w bR d v:=by
 cases r with
 |int k n=>exact .int k n
 |bool b=>exact .bool b
 |str l s M=>exact .str l s M
 |nil t=>cases h
 |sl=>cases h
 |fn=>cases h
 |tW=>cases h
 |map=>cases h
 |ui T=>exact .ui T
 |err T n=>exact .err T n
theorem V7{t:aE}(h:t.gM=false)(x:den t):∀d,d∈enc t x->aq.gM (.d d)=false:=by
 cases t<;>first|(cases h;done)|(intro d Y;simp only[enc,List.mem_cons,List.not_mem_nil,or_false] at Y;(rcases Y with rfl|rfl|rfl|rfl|rfl);all_goals rfl)|skip
 all_goals(intro d Y;simp only[enc,List.mem_cons,List.not_mem_nil,or_false] at Y)
 all_goals first|(subst Y;rfl)|(rcases Y with rfl|rfl<;>rfl)|(rcases Y with rfl|rfl|rfl<;>rfl)|(rcases Y with rfl|rfl|rfl|rfl<;>rfl)
theorem Vs{t:aE}{xs:List (den t)}{cs:List Value}(h:t.gM=false)(r:b' w av (flat t xs) cs):b' w bR (flat t xs) cs:=by
 refine⟨r.1,fun j g1 g2=>sX ?_ (r.2 j g1 g2)⟩
 have hm:(flat t xs)[j]∈flat t xs:=List.getElem_mem g1;simp only[flat,List.mem_flatMap] at hm;obtain⟨x,_,hx⟩:=hm;exact V7 h x _ hx
theorem UD{ds:List aK}{cs aC:List Value}(k:Deep w av ds cs aC):Deep w bR ds cs aC:=by
 have pl:∀{d:aK} {v:Value},d.plain=true->a8 w av d v->a8 w bR d v:=fun {d v} an r=>sX (by cases d<;>first|rfl|cases an) r
 induction k with
 |nil=>exact .nil
 |row u ys e U an h hr _ ih=>exact .row u ys e U an h ⟨hr.1,fun j g1 g2=>pl (an _ (List.getElem_mem g1)) (hr.2 j g1 g2)⟩ ih
 |leaf an h _ ih=>exact .leaf an (pl an h) ih
theorem HL{l:aq}{v:Value}{bs:List Nat}(h:l.gM=false)(k:lj w av l v bs):lj w bR l v bs:=by
 cases l with
 |d x=>exact⟨k.1,sX h k.2⟩
 |fresh t xs=>
  obtain⟨h1,e,cs,h2,Z⟩:=k;exact⟨h1,e,cs,h2,Vs h Z⟩
 |hs t xs=>
  obtain⟨e,cs,aC,h1,h2,Z⟩:=k;exact⟨e,cs,aC,h1,h2,UD Z⟩
 |cu v=>exact k
 |eh=>exact k
 |_=>cases h
theorem Ar:∀{U:List aq} {vs:List Value} {bs:List Nat},mK U=false->fN w av U vs bs->fN w bR U vs bs:=by
 intro U;induction U with
 |nil=>
  intro vs bs _ k;match vs,k with
  |[],k=>exact k
 |cons l U ih=>
  intro vs bs h k;simp only[mK,Bool.or_eq_false_iff] at h;match vs,k with
  |v::vs,⟨aS,aG,ay,ao,be⟩=>exact⟨aS,aG,ay,HL h.1 ao,ih h.2 be⟩
theorem S3:∀{as:List bg} {vs:List Value} {bs:List Nat},qj as=false->jQ w av as vs bs->jQ w bR as vs bs:=by
 intro as;induction as with
 |nil=>
  intro vs bs _ k;match vs,k with
  |[],k=>exact k
 |cons a as ih=>
  intro vs bs h k;simp only[qj,Bool.or_eq_false_iff] at h;match vs,k with
  |v::vs,⟨aS,aG,ay,ao,be⟩=>
   refine⟨aS,aG,ay,?_,ih h.2 be⟩;cases a with
   |ah l=>
    have h1:=h.1;simp only[bg.cells,mK,Bool.or_false] at h1;exact HL h1 ao
   |agg U=>
    obtain⟨us,e,ao⟩:=ao;exact⟨us,e,Ar h.1 ao⟩
theorem S2:∀{ck:List (List aq)} {cV bs:List Nat},qi ck=false->lc w av cV ck bs->lc w bR cV ck bs:=by
 intro ck;induction ck with
 |nil=>
  intro cV bs _ k;match cV,k with
  |[],k=>exact k
 |cons a as ih=>
  intro cV bs h k;simp only[qi,Bool.or_eq_false_iff] at h;match cV,k with
  |b::cV,⟨aS,aG,ay,⟨T,cur,nr,e1,e2,bK,dW,fW⟩,be⟩=>
   exact⟨aS,aG,ay,⟨T,cur,nr,e1,e2,bK,dW,Ar h.1 fW⟩,ih h.2 be⟩
theorem JH{l:aq}{v:Value}{bs:List Nat}(k:lj w av l v bs):∀b,b∈bs->b<w.heap.size:=by
 cases l with
 |fresh t xs=>
  obtain⟨h1,e,cs,h2,Z⟩:=k;intro b hb;rw[h1] at hb;exact sW h2 (Option.mem_toList.1 hb)
 |hs t xs=>
  obtain⟨e,cs,aC,h1,h2,Z⟩:=k;intro b hb;rw[h1] at hb;rcases iA.1 hb with hb|⟨n,hn,hb⟩
  ·exact sW h2 hb
  ·exact Z.lt n hn b hb
 |_=>intro b hb;rw[k.1] at hb;simp at hb
theorem Bw:∀{U:List aq} {vs:List Value} {bs:List Nat},fN w av U vs bs->∀b,b∈bs->b<w.heap.size:=by
 intro U;induction U with
 |nil=>
  intro vs bs k;match vs,k with
  |[],k=>have k:bs=[]:=k;intro b hb;rw[k] at hb;simp at hb
 |cons l U ih=>
  intro vs bs k;match vs,k with
  |v::vs,⟨aS,aG,ay,ao,be⟩=>
   intro b hb;rw[ay] at hb;rcases List.mem_append.1 hb with hb|hb
   ·exact JH ao b hb
   ·exact ih be b hb
theorem IV:∀{as:List bg} {vs:List Value} {bs:List Nat},jQ w av as vs bs->∀b,b∈bs->b<w.heap.size:=by
 intro as;induction as with
 |nil=>
  intro vs bs k;match vs,k with
  |[],k=>have k:bs=[]:=k;intro b hb;rw[k] at hb;simp at hb
 |cons a as ih=>
  intro vs bs k;match vs,k with
  |v::vs,⟨aS,aG,ay,ao,be⟩=>
   intro b hb;rw[ay] at hb;rcases List.mem_append.1 hb with hb|hb
   ·cases a with
    |ah l=>exact JH (show lj w av l v aS from ao) b hb
    |agg U=>obtain⟨us,e,ao⟩:=ao;exact Bw ao b hb
   ·exact ih be b hb
theorem IU:∀{ck:List (List aq)} {cV bs:List Nat},lc w av cV ck bs->∀b,b∈bs->b<w.heap.size:=by
 intro ck;induction ck with
 |nil=>
  intro cV bs k;match cV,k with
  |[],k=>have k:bs=[]:=k;intro b hb;rw[k] at hb;simp at hb
 |cons a as ih=>
  intro cV bs k;match cV,k with
  |c::cV,⟨aS,aG,ay,⟨T,cur,nr,e1,e2,bK,_,dW⟩,be⟩=>
   intro b hb;rw[ay] at hb;rcases List.mem_append.1 hb with hb|hb
   ·rw[e1] at hb;rcases List.mem_cons.1 hb with rfl|hb
    ·exact(Array.getElem?_eq_some_iff.1 e2).1
    ·exact Bw dW b hb
   ·exact ih be b hb
end plain
section
variable {P:Program}{L:World}{J:List Nat}{X:Nat->Prop}{B:Nat->Value}{st:ab}{tm:Array Value}{w:World}{D:Oper}
theorem mE{ks:List Nat}{b:Nat}:b∈cf B ks <-> ∃o,o∈ks/\b∈bu (B o):=by simp[cf]
theorem Hy(S:ae L J X B st tm w):∀{ks:List Nat},ks.Nodup->(∀o,o∈ks->bM st.sites o)->(cf B ks).Nodup:=by
 intro ks;induction ks with
 |nil=>intro _ _;exact List.nodup_nil
 |cons o ks ih=>
  intro hn hl;rw[List.nodup_cons] at hn;have:=ih hn.2 fun F bh=>hl F (List.mem_cons_of_mem _ bh)
  simp only[cf,List.flatMap_cons] at this ⊢;refine List.nodup_append.2 ⟨S.K2 (hl o List.mem_cons_self),this,fun b hb c hc e=>?_⟩
  subst e;obtain⟨F,h1,h2⟩:=mE.1 hc;have:=S.c8 o F b (hl o List.mem_cons_self) (hl F (List.mem_cons_of_mem _ h1)) hb h2;subst this;exact hn.1 h1
structure acv(L:World)(J:List Nat)(X:Nat->Prop)(B:Nat->Value)(st:ab)(tm:Array Value)(w:World)(a:jp)(vs:List Value):Prop where
 bn:de st.sites a.ef
 lb:∀o,o∈a.fm->bM st.sites o
 mC:eH st.sites a.gone
 arg:∀av,eL L J X B st tm w a.ef a.fm av->hM w av a.as vs (cf B (keys a.gone))
 cV:dp a.as vs=cf B (keys a.boxes)
 dx:∀o s,(o,s)∈a.boxes->(o,.dead s)∈a.gone/\∃b,B o=.pointer (some ⟨b,0,none⟩)
 jA:g' B a.rows (eT a.as vs)
 rg:∀o s,some (o,s)∈a.rows->(o,.dead s)∈a.gone
theorem HN{us:List (Nat×Site)}{sites:List (Nat×Site)}(aV:de sites us){o:Nat}(h:bM (aR sites us) o):bM sites o:=by
 obtain⟨O,h1,h2⟩:=h;rcases k5 aV o with h|⟨s,t,xs,aH,bp⟩
 ·exact⟨O,h▸h1,h2⟩
 ·rw[bp] at h1;cases h1;cases h2
theorem XG(S:ae L J X B st tm w){g:FuncId}{aJ:a4}(gI:a6 P g aJ){a:jp}{vs:List Value}(A:acv L J X B st tm w a vs){d:Nat}(Y:b0 st D.dst=true)
  (cC:(execOp (Act.eval ⟨tm,[]⟩) D).run P w=(callFunc g vs.toArray).run P w):Holds (n4 d st aJ a) (cq P L J X st tm w D):=by
 intro y ai hc;simp only[n4] at y ai hc ⊢;simp only[Bool.and_eq_true] at hc;obtain⟨⟨⟨⟨⟨c1,c2⟩,c3⟩,dM⟩,iZ⟩,c6,RS⟩:=hc;rw[nF] at c1 c3 c6;rw[I1] at c2 dM RS;have ql:∀o,o∈keys a.gone->bM st.sites o:=fun o a5=>by
  obtain⟨s,M⟩:=nI a5;obtain⟨O,h1,h2,_⟩:=A.mC o s M;exact⟨O,h1,h2⟩
 have IR:∀o,o∈keys a.gone->o∉keys a.ef:=fun o h1 h2=>c2 o (List.mem_append.2 (.inl h2)) h1
 have aie:∃X':Nat->Prop,∀b,X' b <-> (am X B (aR st.sites a.ef) b/\b∉cf B (keys a.gone)/\∀o,o∈a.fm->b∉bu (B o)):=⟨_,fun b=>Iff.rfl⟩
 obtain⟨X',mw⟩:=aie;have dV:eL L J X B st tm w a.ef a.fm (fun b=>X' b\/b∈cf B (keys a.gone)):=by
  refine⟨⟨S,A.bn⟩,fun b hb=>?_,fun o a5 b hb hx=>?_⟩
  ·rcases hb with hb|hb
   ·exact((mw b).1 hb).1
   ·obtain⟨o,h1,h2⟩:=mE.1 hb;obtain⟨O,Z,aH⟩:=ql o h1;exact .inr ⟨o,⟨O,by rw[kq (IR o h1)];exact Z,aH⟩,h2⟩
  ·rcases hx with hx|hx
   ·exact((mw b).1 hx).2.2 o a5 (fL hb)
   ·obtain⟨F,h1,h2⟩:=mE.1 hx;have:=S.c8 o F b (A.lb o a5) (ql F h1) (fL hb) h2;subst this;exact c2 o (List.mem_append.2 (.inr a5)) h1
 have oy:(cf B (keys a.gone)).Nodup:=Hy S c1 ql;have Bx:∀b,b∈cf B (keys a.gone)->¬X b/\(b∈J\/L.heap.size<=b):=fun b hb=>by
  obtain⟨o,h1,h2⟩:=mE.1 hb;exact S.b1 o b (ql o h1) h2
 have QF:∀b,X b->X' b:=fun b hb=>(mw b).2 ⟨.inl hb,fun h=>(Bx b h).1 hb,fun o a5 h=>(S.b1 o b (A.lb o a5) h).1 hb⟩
 have hG:ht w (cf B (keys a.gone)) X':=by
  obtain⟨g1,g2⟩:=S.jD;refine⟨g1,fun b hb h=>?_,fun b hb h=>?_,fun b hb=>(g2 b hb).2⟩
  ·obtain⟨o,h1,h2⟩:=mE.1 h;exact(g2 b hb).1 (.inr ⟨o,ql o h1,h2⟩)
  ·rcases((mw b).1 h).1 with h|⟨o,h1,h2⟩
   ·exact(g2 b hb).1 (.inl h)
   ·exact(g2 b hb).1 (.inr ⟨o,HN A.bn h1,h2⟩)
 have E:=gI a.as y ai w X' vs (cf B (keys a.gone)) (A.arg _ dV) oy (fun b hb hx=>((mw b).1 hx).2.1 hb) (fun b hb=>dV.lt (.inl hb)) hG
 intro K Q bm;have lr:∀v w',(∃dI di rv,Fr (cf B (keys a.gone)) w w'/\nX w' (fun b=>X' b\/b∈dI++di) (dp a.as vs) ((aJ a.as).dx y) (eT a.as vs) ((aJ a.as).ei y) dI/\jQ w' (fun b=>X' b\/b∈dI++di) ((aJ a.as).eJ y) rv di/\
   v=mT rv/\(dI++di).Nodup/\∀b,b∈dI++di->¬X' b/\(b∈cf B (keys a.gone)\/w.heap.size<=b))->K ⟨cc tm D.dst v,[]⟩ w':=by
  rintro v w' ⟨dI,di,rv,aV,gl,e',rfl,d_,hm⟩;obtain⟨sl,fS⟩:∃sl,(qj ((aJ a.as).eJ y)||qi ((aJ a.as).dx y)||mK ((aJ a.as).ei y))=sl:=⟨_,rfl⟩;rw[fS] at iZ bm;obtain⟨cE,zS⟩:∃cE,(bif sl then a.ef else [])=cE:=⟨_,rfl⟩
  rw[zS] at bm;have NY:de st.sites cE:=by rw[<-zS];cases sl;exact .nil;exact A.bn
  have _J:∀o,o∈keys cE->o∈keys a.ef:=by rw[<-zS];cases sl;intro o h;simp[keys] at h;exact fun o h=>h
  have cT:ae L J X B {st with sites:=aR st.sites cE} tm w:=S.xF NY
  have zU:eH (aR st.sites cE) a.gone:=fun o s M=>by
   obtain⟨O,h1,h2,Z⟩:=A.mC o s M;exact⟨O,by rw[kq (fun h=>IR o (Bn M) (_J o h))];exact h1,h2,Z⟩
  have fH:=cT._I zU c1;have gn:=fH.jump (w':=w') (fun b hb aY=>aV.block b aY (fun h=>hb (.inr h))) aV.size
   ⟨aV.os.trans S.frame.os,aV.tape.trans S.frame.tape,aV.output.trans S.frame.output,Nat.le_trans S.frame.size aV.size,fun b aY hb=>by
    rw[aV.block b (Nat.lt_of_lt_of_le aY S.frame.size) (fun h=>by rcases(Bx b h).2 with aa|aa;exact hb aa;omega)]
    exact S.frame.block b aY hb⟩
  have aeQ:∀b,b∈dI++di->b<w'.heap.size:=fun b hb=>by
   rcases List.mem_append.1 hb with hb|hb
   ·obtain⟨d1,d2,e1,e2,bK⟩:=gl;rw[e1] at hb;rcases List.mem_append.1 hb with hb|hb
    ·exact IU e2 b hb
    ·rcases bK with⟨_,bK⟩|bK
     ·rw[bK] at hb;simp at hb
     ·exact Bw bK b hb
   ·exact IV e' b hb
  have lT:ae L J (fun b=>X b\/b∈dI++(di++[])) B {st with sites:=aR (aR st.sites cE) a.gone} tm w':=gn.shrink fun b hb=>by
   rcases hb with hb|hb
   ·exact .inl (.inl hb)
   ·rw[List.append_nil] at hb;rcases(hm b hb).2 with h|h
    ·exact .inl (.inr h)
    ·exact .inr ⟨h,aeQ b hb⟩
  obtain⟨av,NV,acd,acc⟩:∃av:Nat->Prop,nX w' av (dp a.as vs) ((aJ a.as).dx y) (eT a.as vs) ((aJ a.as).ei y) dI/\jQ w' av ((aJ a.as).eJ y) rv di/\
    ∀c,am (fun b=>X b\/b∈dI++(di++[])) B (aR (aR st.sites cE) a.gone) c->av c:=by
   cases sl with
   |false=>
    rw[Bool.or_eq_false_iff,Bool.or_eq_false_iff] at fS;obtain⟨d1,d2,e1,e2,bK⟩:=gl;exact⟨_,⟨d1,d2,e1,S2 fS.1.2 e2,bK.imp id (Ar fS.2)⟩,S3 fS.1.1 e',fun c hc=>hc⟩
   |true=>
    refine⟨_,gl,e',fun c hc=>?_⟩
    rcases hc with(hc|hc)|⟨o,⟨O,h1,h2⟩,Z⟩
    ·exact .inl (QF c hc)
    ·rw[List.append_nil] at hc;exact .inr hc
    ·refine .inl ((mw c).2 ?_);have a5:o∉keys a.gone:=fun h=>by
      obtain⟨s,M⟩:=nI h;rw[vG c1 M] at h1;obtain⟨_,_,_,e⟩:=A.mC o s M;cases h1;rw[e] at h2;cases h2
     rw[kq a5] at h1;have acg:a.ef=cE:=zS;rw[<-acg] at h1;have live:bM st.sites o:=HN A.bn ⟨O,h1,h2⟩;refine⟨.inr ⟨o,⟨O,h1,h2⟩,Z⟩,fun h=>?_,fun F bh h=>?_⟩
     ·obtain⟨F,ay,ao⟩:=mE.1 h;have:=S.c8 o F c live (ql F ay) Z ao;subst this;exact a5 ay
     ·simp only[Bool.not_true,Bool.false_or,List.isEmpty_iff] at iZ;rw[iZ] at bh;simp at bh
  have ap:Left L J X B {st with sites:=aR (aR st.sites cE) a.gone} av (dI++(di++[])):=by
   refine⟨by simpa using d_,fun b hb=>?_,acc⟩
   rw[List.append_nil] at hb;obtain⟨h1,h2⟩:=hm b hb;refine⟨fun hx=>h1 (QF b hx),?_⟩
   rcases h2 with h2|h2
   ·exact(Bx b h2).2
   ·exact .inr (Nat.le_trans S.frame.size h2)
  have tG:∀ks,iJ st (aR (aR st.sites cE) a.gone) ks:=fun ks m _ O M=>by
   have h1:∀O,look (aR st.sites cE) m=some O->O.bX<aT st m:=fun O M=>by
    rcases k5 NY m with h|⟨s,t,xs,aH,bp⟩
    ·rw[h] at M;exact ja M
    ·rw[bp] at M;cases M;rcases aH with aH|aH|aH<;>(have q:=ja aH;exact q)
   by_cases ag:m∈keys a.gone
   ·obtain⟨s,eN⟩:=nI ag;rw[vG c1 eN] at M;obtain⟨bo,e1,_,bK⟩:=zU m s eN;rw[bK] at M;cases M;exact h1 bo e1
   ·rw[kq ag] at M;exact h1 O M
  rw[fX,fX] at c3;obtain⟨d12,d2,d3⟩:=List.nodup_append.1 c3;obtain⟨d1,aij,d4⟩:=List.nodup_append.1 d12;rw[A.cV] at NV;obtain⟨e1,e2,rfl,acb,EC⟩:=NV;simp only[List.append_assoc] at lT ap;obtain⟨hT,lS,vC⟩:=Jb st a.boxes (st:={st with sites:=aR (aR st.sites cE) a.gone}) lT (my.of fun o s M=>(A.dx o s M).2) acb
   (fun o s M=>vG c1 (A.dx o s M).1) ap (tG _) d1
  obtain⟨fD,agz,kl⟩:∃fD,fq L J (fun b=>X b\/b∈e2++(di++[])) (fun b=>X b\/b∈di++[]) hT fD {st with sites:=aR (aR (aR st.sites cE) a.gone) (eS st a.boxes ((aJ a.as).dx y))} tm w' (eD a.rows ((aJ a.as).ei y))/\
    Left L J X fD {st with sites:=aR (aR (aR (aR st.sites cE) a.gone) (eS st a.boxes ((aJ a.as).dx y))) (eD a.rows ((aJ a.as).ei y))} av (di++[]):=by
   rcases EC with⟨q1,q2⟩|EC
   ·have e:eD a.rows ((aJ a.as).ei y)=[]:=by rw[q1];exact H0
    subst q2;rw[e];exact⟨hT,.nil lS.fR fun b hb=>hb,vC⟩
   ·by_cases hne:eD a.rows ((aJ a.as).ei y)=[]
    ·rw[hne];have T:fq L J (fun b=>X b\/b∈e2++(di++[])) (fun b=>X b\/b∈di++[]) hT hT {st with sites:=aR (aR (aR st.sites cE) a.gone) (eS st a.boxes ((aJ a.as).dx y))} tm w' []:=.nil lS.fR fun b hb=>hb.imp id fun h=>List.mem_append.2 (.inr h)
     exact⟨hT,T,vC.rest fun c hc=>T.le c hc⟩
    have RA:∀o s,some (o,s)∈a.rows->o∉keys (eS st a.boxes ((aJ a.as).dx y)):=fun o s hm ag=>RS o (vI hm) ag
    exact WG a.rows lS.fR EC (A.jA.congr fun o s hm=>by rw[lS.same o (RA o s hm)]) (fun o s hm=>by
     rw[kq (RA o s hm)];exact vG c1 (A.rg o s hm)) c6 vC aij
  have cB:=lS.trans agz;obtain⟨fC,dn,hS,_⟩:=Jc st ((aJ a.as).eJ y) (2000000+d*10000) (st:={st with sites:=aR (aR (aR st.sites cE) a.gone) (eS st a.boxes ((aJ a.as).dx y)++eD a.rows ((aJ a.as).ei y))}) cB.fR acd (by rw[hL];exact kl)
   (iJ.step (tG _) (fun n h1 h2=>d3 n (by rw[fX] at h1;exact h1) n h2 rfl)) d2
  have G1:ae L J X fC {st with sites:=aR st.sites (cE++a.gone++(eS st a.boxes ((aJ a.as).dx y)++eD a.rows ((aJ a.as).ei y))++(dt st (2000000+d*10000) ((aJ a.as).eJ y)).2)} tm w':=by
   have:=dn.fR.shrink (X':=X) fun b hb=>.inl hb
   simpa only[hL] using this
  refine bm fC _ w' (ae.cw G1 Y (v:=LO (dt st (2000000+d*10000) ((aJ a.as).eJ y)).1) ?_);have Ma:mY fC (aR st.sites (cE++a.gone++(eS st a.boxes ((aJ a.as).dx y)++eD a.rows ((aJ a.as).ei y))++(dt st (2000000+d*10000) ((aJ a.as).eJ y)).2)) w'
    (am X fC (aR st.sites (cE++a.gone++(eS st a.boxes ((aJ a.as).dx y)++eD a.rows ((aJ a.as).ei y))++(dt st (2000000+d*10000) ((aJ a.as).eJ y)).2))) (dt st (2000000+d*10000) ((aJ a.as).eJ y)).1 rv:=by
   have e:(fun b=>X b\/b∈([]:List Nat))=X:=by funext b;simp
   rw[e] at hS;simpa only[hL] using hS
  generalize(dt st (2000000+d*10000) ((aJ a.as).eJ y)).1=aeS at Ma;match aeS,rv,Ma with
  |[],[],h=>exact⟨[],rfl,rfl,fun j h=>by simp at h⟩
  |[l],[v],h=>exact h.2 0 (by simp) (by simp)
  |l::fV::U,v::v2::cg,h=>exact⟨v::v2::cg,rfl,h.1,h.2⟩
 rcases E with⟨h1,h2⟩|⟨v,w',h1,h2⟩
 ·unfold Oper.wp;rw[cC,h1,Oper.upon_enter];refine h2.mono fun e w' he=>?_
  cases e with
  |returned v=>
   have:=lr v w' he;cases cZ:D.dst with
   |none=>rw[cZ] at this;simpa[Act.put,cc] using this
   |some t=>rw[cZ] at this;simpa[Act.put,cc] using this
  |panicked c=>exact he.elim
  |outgrown=>exact he.elim
 ·exact l2 (cC.trans h1) (lr v w' h2)
end
def Dz(P:Program)(g:FuncId):Prop:=
 ∀(b:Nat) (p v:Value) (w:World),w.heap[b]? =some (.cells #[p,v] pJ (0,0))->(p=.pointer none\/p=.pointer (some ⟨b,0,none⟩))->
  Enters P g #[.pointer (some ⟨b,0,none⟩)] w fun r w'=>r=.tuple #[]/\w'=w.setRow b #[.pointer (some ⟨b,0,none⟩),v]
def DT(P:Program)(g:FuncId):Prop:=
 ∀(b:Nat) (p v:Value) (T:TypeId) (xs:List Int) (w:World),w.heap[b]? =some (.cells #[p,v] T (0,0))->rowAt w true kX 1 v xs.length (xs.map (Value.int .u8))->
  Enters P g #[.pointer (some ⟨b,0,none⟩)] w fun r w'=>r=.string ⟨(strOf xs).toArray⟩/\w'.os=w.os/\w'.tape=w.tape/\w'.output=w.output/\w.heap.size<=w'.heap.size/\
   (∀c,c<w.heap.size->bc v≠some c->w'.heap[c]? =w.heap[c]?)/\∀c cur e bn,bc v=some c->w.heap[c]? =some (.cells cur e bn)->∃sj,w'.heap[c]? =some (.cells cur e sj)
section
variable {P:Program}{L:World}{J:List Nat}{X:Nat->Prop}{B:Nat->Value}{st:ab}{tm:Array Value}{w:World}{D:Oper}
theorem ae.Xt(S:ae L J X B st tm w){o s:Nat}{t:aE}{xs:List (den t)}(hl:look st.sites o=some (.row s t xs)){w':World}(h1:w'.os=w.os)(h2:w'.tape=w.tape)(Z:w'.output=w.output)(aH:w.heap.size<=w'.heap.size)
  (bp:∀c,c<w.heap.size->bc (B o)≠some c->w'.heap[c]? =w.heap[c]?) (dm:∀c cur e bn,bc (B o)=some c->w.heap[c]? =some (.cells cur e bn)->∃sj,w'.heap[c]? =some (.cells cur e sj)):
  ae L J X B {st with sites:=b2 st.sites o (.cM s t xs)} tm w':=by
 have ci:bM st.sites o:=⟨_,hl,rfl⟩;have dz:∀F,bM (b2 st.sites o (.cM s t xs)) F->bM st.sites F/\F≠o:=by
  rintro F ⟨O,h1,h2⟩;rw[ce] at h1;by_cases e:o=F
  ·subst e;simp at h1;subst h1;cases h2
  ·simp only[e,if_false] at h1;exact⟨⟨O,h1,h2⟩,fun h=>e h.symm⟩
 have bU:∀a3,am X B (b2 st.sites o (.cM s t xs)) a3->am X B st.sites a3:=by
  rintro a3 (h|⟨F,h1,h2⟩)
  ·exact .inl h
  ·exact .inr ⟨F,(dz F h1).1,h2⟩
 have aV:=S.frame;refine S.n7 (fun F O bh=>?_) (fun a3 h hb=>bp a3 hb (fun aa=>h (.inr ⟨o,ci,fL aa⟩))) (fun a3 h _ aa=>h (bU a3 aa)) (fun go F O bh=>?_) (fun F aN a3 h1 h2=>S.c8 F aN a3 (dz F h1).1 (dz aN h2).1)
  (fun F a3 h=>S.b1 F a3 (dz F h).1) (fun F a3 h hb=>Nat.lt_of_lt_of_le (S.dP (dz F h).1 hb) aH)
  ⟨h1.trans aV.os,h2.trans aV.tape,Z.trans aV.output,Nat.le_trans aV.size aH,fun b hb hn=>by
   have M:=aV.size;rw[bp b (by omega) (fun aa=>by
    rcases(S.b1 o b ci (fL aa)).2 with aa|aa
    ·exact hn aa
    ·omega)]
   exact aV.block b hb hn⟩ aH
 ·rw[ce];by_cases e:o=F
  ·subst e;rw[hl] at bh;cases bh;exact⟨.cM s t xs,by simp,Nat.le_refl _,fun _=>rfl⟩
  ·exact⟨O,by simp[e,bh],Nat.le_refl _,fun _=>rfl⟩
 ·rw[ce] at bh;by_cases e:o=F
  ·subst e;simp only[if_true,Option.some.injEq] at bh;subst bh;refine .inr ?_
   show a8 _ _ (.sl t xs) (bO (B o))/\um (bO (B o));obtain⟨bY,cs,ay,ao⟩:=S.sites o _ hl;rw[(ie ay).1];rcases ay.2 with⟨hn,aQ⟩|⟨g,cap,cur,bn,hv,_,hg,hnc,_,_,jt⟩
   ·have:xs=[]:=List.eq_nil_of_length_eq_zero aQ;subst this;rw[hn];exact⟨.nil t,.inl rfl⟩
   ·obtain⟨sj,j8⟩:=dm g cur bY bn (by rw[hv];rfl) hg
    rw[hv];refine⟨?_,.inr ⟨_,_,_,rfl⟩⟩;have hlen:cs.length=(flat t xs).length:=by rw[dO];exact ay.1
    refine .sl t xs _ cap cs xs.length rfl hnc (fun _=>?_) hlen (fun j u hu=>?_) (fun j g1 g2=>jf go (ao j g1 g2))
    ·rintro(hx|⟨F,g1,g2⟩)
     ·exact(S.b1 o g ci (fL (by rw[hv];rfl))).1 hx
     ·obtain⟨g3,eA⟩:=dz F g1;exact eA (S.c8 F o g g3 ci g2 (fL (by rw[hv];rfl)))
    ·rw[f_,Nat.zero_add,cell_of_row w' g j cur bY sj j8];rw[<-jt,List.getElem?_take] at hu;split at hu
     ·simpa using hu
     ·cases hu
  ·simp only[e,if_false] at bh;refine .inl ⟨bh,rfl,fun rK b hb=>bp b (S.dP ⟨_,bh,rK⟩ hb) fun h=>e (S.c8 o F b ci ⟨_,bh,rK⟩ (fL h) hb)⟩
theorem wh{g:FuncId}{vs:List Value}{post:Value->World->Prop}(cC:(execOp (Act.eval ⟨tm,[]⟩) D).run P w=(callFunc g vs.toArray).run P w)(gI:Enters P g vs.toArray w post){K:Act->World->Prop}{Q:Exit->Act->World->Prop}
  (lr:∀v w',post v w'->K ⟨cc tm D.dst v,[]⟩ w'):D.wp P ⟨tm,[]⟩ w K Q:=by
 rcases gI with⟨h1,h2⟩|⟨v,w',h1,h2⟩
 ·unfold Oper.wp;rw[cC,h1,Oper.upon_enter];refine h2.mono fun e w' he=>?_
  cases e with
  |returned v=>
   have:=lr v w' he;cases cZ:D.dst with
   |none=>rw[cZ] at this;simpa[Act.put,cc] using this
   |some t=>rw[cZ] at this;simpa[Act.put,cc] using this
  |panicked c=>exact he.elim
  |outgrown=>exact he.elim
 ·exact l2 (cC.trans h1) (lr v w' h2)
theorem XD(S:ae L J X B st tm w){g:FuncId}(gI:Dz P g){ct:List aI}{vs:List Value}(hl:ct.length=vs.length)
  (hv:∀i (h:i<ct.length) (aa:i<vs.length),b4 B st.sites w (am X B st.sites) (ct[i]) (vs[i])) (Y:b0 st D.dst=true) (cC:(execOp (Act.eval ⟨tm,[]⟩) D).run P w=(callFunc g vs.toArray).run P w):
  Holds (copyV st ct) (cq P L J X st tm w D):=by
 unfold copyV;split
 ·rename_i o s;split
  ·rename_i aj l fb;have fb:look st.sites o=some (.box aj [.eh,l]):=fb;cases ju:aj.beq s with
   |false=>exact .fail
   |true=>
    have:=Nat.eq_of_beq_eq_true ju;subst this;refine Holds.eX ?_
    intro K Q bm;match vs,hl,hv,cC with
    |[pQ],_,hv,cC=>
    obtain⟨p1,afQ,jv⟩:c_ B st.sites w (am X B st.sites) (.ptr o aj 0) pQ:=hv 0 (by simp) (by simp)
    have jv:=Ref.at jv fb rfl;obtain⟨b,T,cur,e1,e2,bK,dW,fW,sx⟩:=S.sites o _ fb;rw[e1] at jv;have jv:b=p1:=by cases jv;rfl
    subst jv;subst afQ;match cur,e2,bK,dW,fW,sx with
    |[p,v],e2,_,dW,fW,sx=>
     obtain⟨rfl,an⟩:=fW rfl;have an:p=.pointer none\/p=.pointer (some ⟨b,0,none⟩):=by simpa using an
     refine wh cC (gI b p v w e2 an) ?_
     rintro r w' ⟨rfl,rfl⟩;have bS:ae L J X B {st with sites:=b2 st.sites o (.box aj [.eh,l])} tm (w.setRow b #[.pointer (some ⟨b,0,none⟩),v]):=by
      refine S.write fb rfl rfl rfl (fL (by rw[e1];rfl)) e2 (fun M hw j8 go=>⟨b,pJ,[.pointer (some ⟨b,0,none⟩),v],e1,j8,rfl,fun u hu=>?_,fun _=>⟨rfl,.inr rfl⟩,fun j h aa=>?_⟩)
      ·rcases List.mem_cons.1 hu with rfl|hu
       ·rfl
       ·exact dW u (List.mem_cons_of_mem _ hu)
      ·match j,h,aa with
       |0,_,_=>trivial
       |1,_,_=>exact go (a:=bD l) (sx 1 (by simp) (by simp))
     exact bm _ _ _ (ae.cw (us:=[(o,.box aj [.eh,l])]) bS Y (v:=.iP []) ⟨[],rfl,rfl,fun j h=>by simp at h⟩)
  ·exact .fail
 ·exact .fail
theorem WF{av:Nat->Prop}{xs:List Int}{cs:List Value}(aQ:cs.length=xs.length)(h:∀j (h:j<(flat .u8 (xs:List (den .u8))).length) (aa:j<cs.length),a8 w av ((flat .u8 (xs:List (den .u8)))[j]) (cs[j])):cs=xs.map (Value.int .u8):=by
 refine List.ext_getElem (by rw[List.length_map];exact aQ) fun j g1 g2=>?_
 have Qz:j<xs.length:=by simpa using g2
 have:=h j (by rw[dO];simpa[au] using Qz) g1
 rw[List.getElem_map];generalize Y:(flat .u8 (xs:List (den .u8)))[j]'(by rw[dO];simpa[au] using Qz)=d at this
 have pG:d=.int .u8 xs[j]:=by
  rw[<-Y];simp only[qG,List.getElem_map]
 subst pG;generalize cs[j]=v at this;cases this;rfl
theorem T0(S:ae L J X B st tm w){g:FuncId}(gI:DT P g){ct:List aI}{vs:List Value}(hl:ct.length=vs.length)
  (hv:∀i (h:i<ct.length) (aa:i<vs.length),b4 B st.sites w (am X B st.sites) (ct[i]) (vs[i])) (Y:b0 st D.dst=true) (cC:(execOp (Act.eval ⟨tm,[]⟩) D).run P w=(callFunc g vs.toArray).run P w):
  Holds (qx st ct) (cq P L J X st tm w D):=by
 unfold qx;split
 ·rename_i o s;match vs,hl,hv,cC with
  |[pQ],_,hv,cC=>
  have kT:c_ B st.sites w (am X B st.sites) (.ptr o s 0) pQ:=hv 0 (by simp) (by simp)
  split
  ·rename_i RE lp;have fb:=gq lp;obtain⟨b,T,cur,bI,rfl,hg,_,hc⟩:=S.box fb kT;refine Holds.ok ?_
   intro K Q bm;obtain⟨p,r1,rfl,_,hc⟩:=hc.inv;obtain⟨v,r2,rfl,uH,hc⟩:=hc.inv;have:r2=[]:=List.eq_nil_of_length_eq_zero hc.1;subst this;have uH:v=.slice none 0 0:=uH;subst uH;refine wh cC (gI b p _ T [] w hg (sN w true kX 1)) ?_
   rintro r w' ⟨rfl,ay,ao,be,b9,dK,gG⟩;have cT:=S.jump (w':=w') (fun c _ hc=>dK c hc (by simp[bc])) b9 ⟨ay.trans S.frame.os,ao.trans S.frame.tape,be.trans S.frame.output,Nat.le_trans S.frame.size b9,fun c hc hn=>by
    rw[dK c (Nat.lt_of_lt_of_le hc S.frame.size) (by simp[bc])]
    exact S.frame.block c hc hn⟩
   have fH:ae L J X B {st with sites:=aR st.sites []} tm w':=cT.shrink fun b hb=>.inl hb
   exact bm _ _ _ (ae.cw (us:=[]) fH Y (v:=one (.str [])) (a8.str _ _ rfl))
  ·rename_i RE F u lp;have fb:=gq lp;obtain⟨b,T,cur,bI,rfl,hg,_,hc⟩:=S.box fb kT;split
   ·rename_i bA xs cY;have cY:look st.sites F=some (.row bA .u8 xs):=cY;cases aff:bA.beq u with
    |false=>exact .fail
    |true=>
     have:=Nat.eq_of_beq_eq_true aff;subst this;refine Holds.eX ?_
     intro K Q bm;obtain⟨p,r1,rfl,_,hc⟩:=hc.inv;obtain⟨v,r2,rfl,uH,hc⟩:=hc.inv;have:r2=[]:=List.eq_nil_of_length_eq_zero hc.1;subst this;obtain⟨e,cs,h1,h2⟩:=S.sites F _ cY;have NJ:v=B F:=(Ref.at uH.2 cY rfl:v=bO (B F)).trans (ie h1).1;have hlen:cs.length=xs.length:=by have:=h1.1;simpa[au] using this
     have hcs:cs=List.map (Value.int .u8) xs:=WF hlen h2;have jl:rowAt w true kX 1 v xs.length (List.map (Value.int .u8) xs):=by
      rw[<-hcs,NJ];refine⟨h1.1,?_⟩;rcases h1.2 with h|⟨cm,cap,rP,bn,q1,q2,dJ⟩
      ·exact .inl h
      ·have:=q2.1 rfl;subst this;exact .inr ⟨cm,cap,rP,bn,q1,q2,dJ⟩
     refine wh cC (gI b p v T xs w hg jl) ?_
     rintro r w' ⟨rfl,ay,ao,be,b9,dK,gG⟩;rw[NJ] at dK gG;have fH:=S.Xt cY ay ao be b9 dK gG;exact bm _ _ _ (ae.cw (us:=[(F,.cM bA .u8 xs)]) fH Y (v:=one (.str (strOf xs))) (a8.str _ _ (by simp)))
   ·exact .fail
  ·exact .fail
 ·exact .fail
end
def xK(P:Program)(g cm:FuncId):Prop:=
 ∀(a b:ByteArray) (w:World),Enters P g #[.string a,.string b] w fun v w'=>∃cB dn,v=.func (.func cm) #[] #[.pointer (some ⟨w.heap.size+1,0,none⟩),.pointer (some ⟨w.heap.size,0,none⟩),.pointer (some ⟨w.heap.size+2,0,none⟩)]/\
  w'=((w.alloc (.cells #[.string a] cB)).alloc (.cells #[.string b] cB)).alloc (.cells #[.int .i64 0] dn)
def yt(P:Program)(g:FuncId):Prop:=
 ∀(xs:List Int) (v:Value) (w:World) (av:Nat->Prop),a8 w av (.sl .u8 xs) v->Enters P g #[v] w fun v' w'=>∃u T,a8 w av (.sl .u8 (xs.take 2000)) u/\v'=.pointer (some ⟨w.heap.size,0,none⟩)/\w'=w.alloc (.cells #[u,.int .i64 0] T)
structure bb(P:Program)(C:Ctx):Prop extends CtxOk P C where
 bx:∀g S,C.bx g=some S->a6 P g S
 z8:P.follows .mixedOrders=true
 ka:∀g cm,C.ka g=some cm->xK P g cm
 op:∀g,C.op g=true->yt P g
 gX:∀g,C.gX g=true->Dz P g
 bs:∀g,C.bs g=true->DT P g
section
variable {P:Program}{L:World}{J:List Nat}{X:Nat->Prop}{B:Nat->Value}{st:ab}{tm:Array Value}{w:World}{D:Oper}
theorem I4:∀{bj:List (Nat×Nat)} {cs:List (List aK)} {us:List (Nat×Site)} {bs:List Nat},kB st bj=some (cs,us,bs)->de st.sites us/\∀o,o∈bs->bM st.sites o:=by
 intro bj;induction bj with
 |nil=>intro cs us bs h;simp only[kB] at h;cases h;exact⟨.nil,fun o h=>by simp at h⟩
 |cons c bj ih=>
  obtain⟨o,s⟩:=c;intro cs us bs h;simp only[kB] at h;split at h
  ·rename_i cells lp;split at h
   ·rename_i ds u1 rest u2 aG d' ma;cases h;obtain⟨ay,ao⟩:=ih ma;refine⟨(CP d').append ay,fun F bh=>?_⟩
    rcases List.mem_cons.1 bh with rfl|bh
    ·exact⟨_,gq lp,rfl⟩
    ·exact ao F bh
   ·cases h
  ·cases h
theorem Ch{l fi:aq}{us:List (Nat×Site)}{bs:List Nat}(h:mg st l=some (fi,us,bs)):de st.sites us/\∀o,o∈bs->bM st.sites o:=by
 unfold mg at h;split at h
 ·cases h;exact⟨.nil,fun o h=>by simp at h⟩
 ·split at h
  ·rename_i hc;cases h;exact I4 hc
  ·cases h
 ·split at h
  ·rename_i Y;cases h;exact⟨Ln Y,fun o h=>by simp at h⟩
  ·cases h
theorem Xn:∀{U da:List aq} {us:List (Nat×Site)} {bs:List Nat},ld st U=some (da,us,bs)->de st.sites us/\∀o,o∈bs->bM st.sites o:=by
 intro U;induction U with
 |nil=>intro da us bs h;simp only[ld] at h;cases h;exact⟨.nil,fun o h=>by simp at h⟩
 |cons l U ih=>
  intro da us bs h;simp only[ld] at h;split at h
  ·rename_i a u1 aS as u2 aG h1 h2;cases h;obtain⟨ay,ao⟩:=Ch h1;obtain⟨be,b9⟩:=ih h2;refine⟨ay.append be,fun o a5=>?_⟩
   rcases List.mem_append.1 a5 with h|h
   ·exact ao o h
   ·exact b9 o h
  ·cases h
theorem VM:∀{ct:List aI} {a:jp},ib st ct=some a->de st.sites a.ef/\∀o,o∈a.fm->bM st.sites o:=by
 intro ct;induction ct with
 |nil=>intro a h;simp only[ib] at h;cases h;exact⟨.nil,fun o h=>by simp at h⟩
 |cons pS ct ih=>
  intro a h;unfold ib at h;split at h
  ·cases ‹pS::ct=[]›
  ·rename_i bN;cases bN;split at h
   ·rename_i hr;split at h
    ·cases h;have q:=ih hr;exact q
    ·cases h
   ·cases h
  ·rename_i bN;cases bN;split at h
   ·rename_i h1 hr;cases h;obtain⟨ay,ao⟩:=Ch h1;obtain⟨be,b9⟩:=ih hr;refine⟨ay.append be,fun o a5=>?_⟩
    rcases List.mem_append.1 a5 with h|h
    ·exact ao o h
    ·exact b9 o h
   ·cases h
  ·rename_i bN;cases bN;split at h
   ·rename_i h1 hr;cases h;obtain⟨ay,ao⟩:=Xn h1;obtain⟨be,b9⟩:=ih hr;refine⟨ay.append be,fun o a5=>?_⟩
    rcases List.mem_append.1 a5 with h|h
    ·exact ao o h
    ·exact b9 o h
   ·cases h
  ·cases h
theorem IY{l fi:aq}{gs us:List (Nat×Site)}{bs:List Nat}(h:k9 st l=some (fi,gs,us,bs)):de st.sites us/\∀o,o∈bs->bM st.sites o:=by
 unfold k9 at h;split at h
 ·split at h
  ·cases h;exact⟨.nil,fun o h=>by simp at h⟩
  ·cases h
 ·cases h;exact⟨.nil,fun o h=>by simp at h⟩
 ·split at h
  ·rename_i hl;cases h;exact Ch hl
  ·cases h
theorem Uv:∀{U da:List aq} {gs us:List (Nat×Site)} {bs:List Nat},k7 st U=some (da,gs,us,bs)->de st.sites us/\∀o,o∈bs->bM st.sites o:=by
 intro U;induction U with
 |nil=>intro da gs us bs h;simp only[k7] at h;cases h;exact⟨.nil,fun o h=>by simp at h⟩
 |cons l U ih=>
  intro da gs us bs h;simp only[k7] at h;split at h
  ·rename_i h1 h2;cases h;obtain⟨ay,ao⟩:=IY h1;obtain⟨be,b9⟩:=ih h2;refine⟨ay.append be,fun o a5=>?_⟩
   rcases List.mem_append.1 a5 with h|h
   ·exact ao o h
   ·exact b9 o h
  ·cases h
theorem Um:∀{ct:List aI} {a:jp},jJ st ct=some a->de st.sites a.ef/\∀o,o∈a.fm->bM st.sites o:=by
 intro ct;induction ct with
 |nil=>intro a h;simp only[jJ] at h;cases h;exact⟨.nil,fun o h=>by simp at h⟩
 |cons pS ct ih=>
  intro a h;unfold jJ at h;split at h
  ·cases ‹pS::ct=[]›
  ·rename_i bN;cases bN;split at h
   ·rename_i h1 hr;cases h;obtain⟨ay,ao⟩:=IY h1;obtain⟨be,b9⟩:=ih hr;refine⟨ay.append be,fun o a5=>?_⟩
    rcases List.mem_append.1 a5 with h|h
    ·exact ao o h
    ·exact b9 o h
   ·cases h
  ·rename_i bN;cases bN;split at h
   ·rename_i h1 hr;cases h;obtain⟨ay,ao⟩:=Uv h1;obtain⟨be,b9⟩:=ih hr;refine⟨ay.append be,fun o a5=>?_⟩
    rcases List.mem_append.1 a5 with h|h
    ·exact ao o h
    ·exact b9 o h
   ·cases h
  ·cases h
theorem Uk{b:Bool}{ct:List aI}{a:jp}(h:qB b st ct=some a):de st.sites a.ef/\∀o,o∈a.fm->bM st.sites o:=by
 cases b
 ·exact VM h
 ·exact Um h
theorem ZV(S:ae L J X B st tm w)(C:Ctx):∀(xs:List Operand) (cD:List TypeId),(fT C st xs cD).length=(xs.map (Act.eval ⟨tm,[]⟩)).length/\
  ∀i (h:i<(fT C st xs cD).length) (aa:i<(xs.map (Act.eval ⟨tm,[]⟩)).length),b4 B st.sites w (am X B st.sites) ((fT C st xs cD)[i]) ((xs.map (Act.eval ⟨tm,[]⟩))[i]):=by
 intro xs;induction xs with
 |nil=>intro cD;cases cD<;>exact⟨rfl,fun i h=>by simp[fT] at h⟩
 |cons x xs ih=>
  intro cD;have key:∀(T:TypeId) (Ga:List TypeId),fT C st (x::xs) cD=aO C st T x::fT C st xs Ga->(fT C st (x::xs) cD).length=((x::xs).map (Act.eval ⟨tm,[]⟩)).length/\
    ∀i (h:i<(fT C st (x::xs) cD).length) (aa:i<((x::xs).map (Act.eval ⟨tm,[]⟩)).length),b4 B st.sites w (am X B st.sites) ((fT C st (x::xs) cD)[i]) (((x::xs).map (Act.eval ⟨tm,[]⟩))[i]):=by
   intro T Ga e;obtain⟨ay,ao⟩:=ih Ga;refine⟨by rw[e];simp[ay],fun i h aa=>?_⟩
   simp only[e];cases i with
   |zero=>exact cO S C T x
   |succ i=>
    simp only[List.getElem_cons_succ,List.map_cons];exact ao i (by simpa[e] using h) (by simpa using aa)
  cases cD with
  |nil=>exact key 0 [] rfl
  |cons T cD=>exact key T cD rfl
theorem Vi(S:ae L J X B st tm w){g cm:FuncId}(gI:xK P g cm){n:Nat}{ct:List aI}{vs:List Value}(hl:ct.length=vs.length)
  (hv:∀i (h:i<ct.length) (aa:i<vs.length),b4 B st.sites w (am X B st.sites) (ct[i]) (vs[i])) (Y:b0 st D.dst=true) (cC:(execOp (Act.eval ⟨tm,[]⟩) D).run P w=(callFunc g vs.toArray).run P w):
  Holds (qO cm n st ct) (cq P L J X st tm w D):=by
 unfold qO;split
 ·rename_i s p;refine Holds.eX ?_
  intro K Q bm;match vs,hl,hv,cC with
  |[pQ,vb],_,hv,cC=>
  obtain⟨a,a9,sh⟩:=g4 (hv 0 (by simp) (by simp))
  obtain⟨b,hb,b3⟩:=g4 (hv 1 (by simp) (by simp))
  simp only[List.getElem_cons_zero,List.getElem_cons_succ] at a9 hb;subst a9 hb;have lr:∀v w',(∃cB dn,v=.func (.func cm) #[] #[.pointer (some ⟨w.heap.size+1,0,none⟩),.pointer (some ⟨w.heap.size,0,none⟩),.pointer (some ⟨w.heap.size+2,0,none⟩)]/\
    w'=((w.alloc (.cells #[.string a] cB)).alloc (.cells #[.string b] cB)).alloc (.cells #[.int .i64 0] dn))->K ⟨cc tm D.dst v,[]⟩ w':=by
   rintro v w' ⟨cB,dn,rfl,hw⟩;have hsz:w'.heap.size=w.heap.size+3:=by rw[hw];simp
   have hold:∀b,b<w.heap.size->w'.heap[b]? =w.heap[b]? :=fun b hb=>by
    rw[hw];rw[RowKit.Below.heap_alloc _ _ _ (by simp;omega),RowKit.Below.heap_alloc _ _ _ (by simp;omega),RowKit.Below.heap_alloc _ _ _ hb]
   have aQ:w'.heap[w.heap.size]? =some (.cells #[.string a] cB):=by
    rw[hw,RowKit.Below.heap_alloc _ _ _ (by simp only[World.size_alloc];omega),RowKit.Below.heap_alloc _ _ _ (by simp only[World.size_alloc];omega)];exact World.alloc_heap_new w _
   have h1:w'.heap[w.heap.size+1]? =some (.cells #[.string b] cB):=by
    rw[hw,RowKit.Below.heap_alloc _ _ _ (by simp only[World.size_alloc];omega)]
    have:=World.alloc_heap_new (w.alloc (.cells #[.string a] cB)) (.cells #[.string b] cB);rwa[World.size_alloc] at this
   have h2:w'.heap[w.heap.size+2]? =some (.cells #[.int .i64 0] dn):=by
    rw[hw];have:=World.alloc_heap_new ((w.alloc (.cells #[.string a] cB)).alloc (.cells #[.string b] cB)) (.cells #[.int .i64 0] dn);rwa[World.size_alloc,World.size_alloc] at this
   have FP:Fr J L w':=⟨by rw[hw];exact S.frame.os,by rw[hw];exact S.frame.tape,by rw[hw];exact S.frame.output,by have:=S.frame.size;omega,fun b hb hn=>by
    have:=S.frame.size;rw[hold b (by omega)];exact S.frame.block b hb hn⟩
   have kF:=S.frame.size;have cT:=S.jump (w':=w') (fun b _ hb=>hold b hb) (by omega) FP
   have mk:∀{B:Nat->Value} {sites:List (Nat×Site)} {av:Nat->Prop} {m k:Nat} {T:TypeId} {x:Value} {d:aK},B m=.pointer (some ⟨k,0,none⟩)->w'.heap[k]? =some (.cells #[x] T)->a8 w' av d x->
     ig B sites w' av m (.box (aT st m) [.d d]):=by
    intro B sites av m k T x d e1 e2 bK;refine⟨k,T,[x],e1,e2,rfl,fun u hu=>?_,(fun h=>by cases h),fun j h aa=>?_⟩
    ·rw[List.mem_singleton.1 hu];exact bK.hN
    ·match j,h,aa with
     |0,_,_=>exact bK
   obtain⟨Hb,_,_⟩:=cT.tQ (X':=fun b=>(X b\/(w.heap.size<=b/\b<w'.heap.size))/\b≠w.heap.size+1) (n:=n) (bo:=.box (aT st n) [.d (.str p)]) (nv:=.pointer (some ⟨w.heap.size+1,0,none⟩)) (fun b h=>h.1)
    (.inl fun O h=>ja h) (fun b h=>by have h:=List.mem_singleton.1 h;simp only at h;subst h;exact⟨.inr ⟨by omega,by omega⟩,fun h=>h.2 rfl,.inr (by omega)⟩) (fun _ e _ _=>mk e h1 (.str _ _ b3))
   obtain⟨Ha,_,_⟩:=Hb.tQ (X':=fun b=>((X b\/(w.heap.size<=b/\b<w'.heap.size))/\b≠w.heap.size+1)/\b≠w.heap.size) (n:=n+1) (bo:=.box (aT st (n+1)) [.d (.str s)]) (nv:=.pointer (some ⟨w.heap.size,0,none⟩)) (fun b h=>h.1)
    (.inl fun O h=>by
     have h:look (b2 st.sites n _) (n+1)=some O:=h;rw[ce,if_neg (by omega)] at h
     exact ja h) (fun b h=>by have h:=List.mem_singleton.1 h;simp only at h;subst h;exact⟨⟨.inr ⟨by omega,by omega⟩,by omega⟩,fun h=>h.2 rfl,.inr (by omega)⟩) (fun _ e _ _=>mk e aQ (.str _ _ sh))
   obtain⟨G',_,_⟩:=Ha.tQ (X':=X) (n:=n+2) (bo:=.box (aT st (n+2)) [.d (.int .i64 0)]) (nv:=.pointer (some ⟨w.heap.size+2,0,none⟩)) (fun b h=>by have:=S.old b h;exact⟨⟨.inl h,by omega⟩,by omega⟩)
    (.inl fun O h=>by
     have h:look (b2 (b2 st.sites n _) (n+1) _) (n+2)=some O:=h;rw[ce,if_neg (by omega),ce,if_neg (by omega)] at h
     exact ja h) (fun b h=>by have h:=List.mem_singleton.1 h;simp only at h;subst h;exact⟨⟨⟨.inr ⟨by omega,by omega⟩,by omega⟩,by omega⟩,fun h=>by have:=S.old _ h;omega,.inr (by omega)⟩) (fun _ e _ _=>mk e h2 (.int _ _))
   refine bm _ _ w' (ae.cw (us:=[(n,.box (aT st n) [.d (.str p)]),(n+1,.box (aT st (n+1)) [.d (.str s)]),(n+2,.box (aT st (n+2)) [.d (.int .i64 0)])]) G' Y (v:=bD (.clo cm _)) ?_);refine⟨[.pointer (some ⟨w.heap.size+1,0,none⟩),.pointer (some ⟨w.heap.size,0,none⟩),.pointer (some ⟨w.heap.size+2,0,none⟩)],rfl,rfl,fun i hi jw=>?_⟩
   match i,hi,jw with
   |0,_,_=>exact⟨.box (aT st n) [.d (.str p)],by simp[aR,ce],Nat.le_refl _,fun _=>by simp[bO]⟩
   |1,_,_=>exact⟨.box (aT st (n+1)) [.d (.str s)],by simp[aR,ce],Nat.le_refl _,fun _=>by simp[bO]⟩
   |2,_,_=>exact⟨.box (aT st (n+2)) [.d (.int .i64 0)],by simp[aR,ce],Nat.le_refl _,fun _=>by simp[bO]⟩
  rcases gI a b w with⟨h1,h2⟩|⟨v,w',h1,h2⟩
  ·unfold Oper.wp;rw[cC,h1,Oper.upon_enter];refine h2.mono fun e w' he=>?_
   cases e with
   |returned v=>
    have:=lr v w' he;cases cZ:D.dst with
    |none=>rw[cZ] at this;simpa[Act.put,cc] using this
    |some t=>rw[cZ] at this;simpa[Act.put,cc] using this
   |panicked c=>exact he.elim
   |outgrown=>exact he.elim
  ·exact l2 (cC.trans h1) (lr v w' h2)
 ·exact .fail
theorem Xc(S:ae L J X B st tm w){g:FuncId}(gI:yt P g){n:Nat}{ct:List aI}{vs:List Value}(hl:ct.length=vs.length)
  (hv:∀i (h:i<ct.length) (aa:i<vs.length),b4 B st.sites w (am X B st.sites) (ct[i]) (vs[i])) (Y:b0 st D.dst=true) (cC:(execOp (Act.eval ⟨tm,[]⟩) D).run P w=(callFunc g vs.toArray).run P w):
  Holds (q_ n st ct) (cq P L J X st tm w D):=by
 unfold q_;split
 ·rename_i xs;refine Holds.eX ?_
  intro K Q bm;match vs,hl,hv,cC with
  |[pQ],_,hv,cC=>
  have du:a8 w (am X B st.sites) (.sl .u8 xs) pQ:=hv 0 (by simp) (by simp)
  have lr:∀v w',(∃u T,a8 w (am X B st.sites) (.sl .u8 (xs.take 2000)) u/\v=.pointer (some ⟨w.heap.size,0,none⟩)/\w'=w.alloc (.cells #[u,.int .i64 0] T))->K ⟨cc tm D.dst v,[]⟩ w':=by
   rintro v w' ⟨u,T,hu,rfl,hw⟩;have hsz:w'.heap.size=w.heap.size+1:=by rw[hw];simp
   have hold:∀b,b<w.heap.size->w'.heap[b]? =w.heap[b]? :=fun b hb=>by
    rw[hw,RowKit.Below.heap_alloc _ _ _ hb]
   have aQ:w'.heap[w.heap.size]? =some (.cells #[u,.int .i64 0] T):=by rw[hw];exact World.alloc_heap_new w _
   have FP:Fr J L w':=⟨by rw[hw];exact S.frame.os,by rw[hw];exact S.frame.tape,by rw[hw];exact S.frame.output,by have:=S.frame.size;omega,fun b hb hn=>by
    have:=S.frame.size;rw[hold b (by omega)];exact S.frame.block b hb hn⟩
   have kF:=S.frame.size;have cT:=S.jump (w':=w') (fun b _ hb=>hold b hb) (by omega) FP
   have hh:∀b,X b->b<w.heap.size:=S.old;have abX:∀b,am (fun b=>X b\/(w.heap.size<=b/\b<w'.heap.size)) B st.sites b->b<w'.heap.size:=fun b hb=>cT.lt hb
   have r3:b4 B st.sites w' (am (fun b=>X b\/(w.heap.size<=b/\b<w'.heap.size)) B st.sites) (one (.sl .u8 (xs.take 2000))) u:=by
    have G:gz B B st.sites st.sites w w' (am X B st.sites) (am (fun b=>X b\/(w.heap.size<=b/\b<w'.heap.size)) B st.sites):=
     ⟨fun F s h=>⟨s,h,Nat.le_refl _,fun _=>rfl⟩,fun b _ b3=>hold b b3,fun b hb b3 aa=>by
      rcases aa with(aa|aa)|aa
      ·exact hb (.inl aa)
      ·omega
      ·exact hb (.inr aa)⟩
    exact b4.goes (a:=one (.sl .u8 (xs.take 2000))) G (by omega) abX hu
   obtain⟨Hb,Fg,ajT⟩:=cT.tQ (X':=X) (n:=n) (bo:=.box (aT st n) [.d (.sl .u8 (xs.take 2000)),.d (.int .i64 0)]) (nv:=.pointer (some ⟨w.heap.size,0,none⟩)) (fun b h=>.inl h)
    (.inl fun O h=>ja h) (fun b h=>by have h:=List.mem_singleton.1 h;simp only at h;subst h;exact⟨.inr ⟨by omega,by omega⟩,fun h=>by have:=hh _ h;omega,.inr (by omega)⟩) (fun M e go _=>by
     have uI:=go r3;refine⟨w.heap.size,T,[u,.int .i64 0],e,aQ,rfl,fun x hx=>?_,(fun h=>by cases h),fun j h aa=>?_⟩
     ·rcases List.mem_cons.1 hx with rfl|hx
      ·exact a8.hN hu
      ·rw[List.mem_singleton.1 hx];rfl
     ·match j,h,aa with
      |0,_,_=>exact uI
      |1,_,_=>exact a8.int .i64 0)
   refine bm _ _ w' (ae.cw (us:=[(n,.box (aT st n) [.d (.sl .u8 (xs.take 2000)),.d (.int .i64 0)])]) Hb Y (v:=bD (.ptr n (aT st n) 0)) ?_);exact⟨w.heap.size,rfl,.box (aT st n) [.d (.sl .u8 (xs.take 2000)),.d (.int .i64 0)],by simp[aR,ce],Nat.le_refl _,fun _=>by simp[bO]⟩
  rcases gI xs pQ w _ du with⟨h1,h2⟩|⟨v,w',h1,h2⟩
  ·unfold Oper.wp;rw[cC,h1,Oper.upon_enter];refine h2.mono fun e w' he=>?_
   cases e with
   |returned v=>
    have:=lr v w' he;cases cZ:D.dst with
    |none=>rw[cZ] at this;simpa[Act.put,cc] using this
    |some t=>rw[cZ] at this;simpa[Act.put,cc] using this
   |panicked c=>exact he.elim
   |outgrown=>exact he.elim
  ·exact l2 (cC.trans h1) (lr v w' h2)
 ·exact .fail
theorem HS(S:ae L J X B st tm w){C:Ctx}(ax:bb P C){c:Go.Call}{f:Operand}(ar:D.op=.call c)(hf:c.callee=.value f)(Y:b0 st D.dst=true)(d:Nat)(T:TypeId):
  Holds (k6 C d st (aO C st T f) (fT C st c.args.toList c.argTypes.toList)) (cq P L J X st tm w D):=by
 have a':=cO S C T f;obtain⟨e1,e2⟩:=ZV S C c.args.toList c.argTypes.toList;have run:∀{g:FuncId} {eO:List Value},Act.eval ⟨tm,[]⟩ f=.func (.func g) #[] eO.toArray->
   (execOp (Act.eval ⟨tm,[]⟩) D).run P w=(callFunc g (c.args.toList.map (Act.eval ⟨tm,[]⟩)++eO).toArray).run P w:=by
  intro g eO hv;have pZ:(#[]++c.args.map (Act.eval ⟨tm,[]⟩))++eO.toArray=(c.args.toList.map (Act.eval ⟨tm,[]⟩)++eO).toArray:=by apply Array.ext';simp
  unfold execOp;simp only[ar,resolve,hf,hv,Deferred.ofValue,Sem.run_bind,Sem.run_pure,Result.andThen_ok,invoke,pZ]
 have go:∀{g:FuncId} {aJ:a4} {a:jp} {cs:List (List aK)} {us:List (Nat×Site)} {bs:List Nat} {eO:List Value} {gb:Bool},C.bx g=some aJ->qB gb st (fT C st c.args.toList c.argTypes.toList)=some a->
   Act.eval ⟨tm,[]⟩ f=.func (.func g) #[] eO.toArray->(de st.sites us/\∀o,o∈bs->bM st.sites o)->
   (∀{cE eb av},eL L J X B st tm w cE eb av->(∀p,p∈us->p∈cE)->(∀o,o∈bs->o∈eb)->jR w av cs eO)->
   Holds (n4 d st aJ {a with as:=a.as++ky cs,ef:=a.ef++us,fm:=a.fm++bs}) (cq P L J X st tm w D):=by
  intro g aJ a cs us bs eO gb hg a9 hv hz hcap;obtain⟨hH,h3⟩:=Uk a9;have g_:de st.sites (a.ef++us):=hH.append hz.1;have u7:eL L J X B st tm w (a.ef++us) (a.fm++bs) (fun _=>False):=⟨⟨S,g_⟩,fun b h=>h.elim,fun _ _ _ _ h=>h⟩
  obtain⟨m1,m2,m3,m4,m5,RD⟩:=H8 u7 a9 e1 e2 (fun p an=>List.mem_append.2 (.inl an)) (fun p an=>List.mem_append.2 (.inl an))
  refine XG (a:={a with as:=a.as++ky cs,ef:=a.ef++us,fm:=a.fm++bs}) S (ax.bx g aJ hg) (vs:=c.args.toList.map (Act.eval ⟨tm,[]⟩)++eO) ⟨g_,fun o a5=>?_,m2,fun av dV=>?_,?_,m4,?_,RD⟩ Y (run hv)
  ·rcases List.mem_append.1 a5 with h|h
   ·exact h3 o h
   ·exact hz.2 o h
  ·obtain⟨n1,_,_,_,_,_⟩:=H8 dV a9 e1 e2 (fun p an=>List.mem_append.2 (.inl an)) (fun p an=>List.mem_append.2 (.inl an))
   have n2:=UF (hcap dV (fun p an=>List.mem_append.2 (.inr an)) (fun p an=>List.mem_append.2 (.inr an)))
   have:=n1.append n2;rwa[List.append_nil] at this
  ·show dp (a.as++ky cs) _=_;rw[Hx m1.length,m3,UH,List.append_nil]
  ·show g' B a.rows (eT (a.as++ky cs) _);rw[SR m1.length,T9,List.append_nil];exact m5
 unfold k6;split
 ·rename_i g bj FQ;rw[FQ] at a';obtain⟨eO,h1,h2,Z⟩:=a';split
  ·rename_i cm lB;split
   ·have hcv:eO=[]:=List.eq_nil_of_length_eq_zero (by simpa using h2)
    subst hcv;have r:=run h1;rw[List.append_nil] at r;exact Vi S (ax.ka g cm lB) e1 e2 Y r
   ·exact .fail
  ·cases FH:C.op g with
   |true=>
    simp only[cond_true];split
    ·have hcv:eO=[]:=List.eq_nil_of_length_eq_zero (by simpa using h2)
     subst hcv;have r:=run h1;rw[List.append_nil] at r;exact Xc S (ax.op g FH) e1 e2 Y r
    ·exact .fail
   |false=>
    simp only[cond_false];have LW:bj=[]->(execOp (Act.eval ⟨tm,[]⟩) D).run P w=(callFunc g (c.args.toList.map (Act.eval ⟨tm,[]⟩)).toArray).run P w:=by
     rintro rfl;have hcv:eO=[]:=List.eq_nil_of_length_eq_zero (by simpa using h2)
     subst hcv;have r:=run h1;rwa[List.append_nil] at r
    cases afN:C.gX g with
    |true=>
     simp only[cond_true];split
     ·exact XD S (ax.gX g afN) e1 e2 Y (LW rfl)
     ·exact .fail
    |false=>
     simp only[cond_false];cases c9:C.bs g with
     |true=>
      simp only[cond_true];split
      ·exact T0 S (ax.bs g c9) e1 e2 Y (LW rfl)
      ·exact .fail
     |false=>
      simp only[cond_false];split
      ·rename_i aJ a cs us bs hg a9 hc;exact go hg a9 h1 (I4 hc) (fun dV hu hb=>I3 dV hc hu hb h2 Z)
      ·exact .fail
 ·rename_i g bj FQ;rw[FQ] at a';obtain⟨eO,h1,_⟩:=jR.LQ a';split
  ·rename_i aJ a hg a9;have:=go (us:=[]) (bs:=[]) (cs:=bj) (gb:=false) hg a9 h1 ⟨.nil,fun o h=>by simp at h⟩ (fun {cE eb av} dV _ _=>by
    obtain⟨ajw,ay,ao⟩:=jR.LQ (dV.rW (a':a8 w (am X B st.sites) (.fn g bj) _));rw[h1] at ay;simp only[Value.func.injEq,Fn.func.injEq,true_and] at ay;have e:=congrArg Array.toList ay;simp only at e;rw[e];exact ao)
   simpa only[List.append_nil] using this
  ·exact .fail
 ·exact .fail
theorem XW(S:ae L J X B st tm w){C:Ctx}(ax:bb P C)(Y:b0 st D.dst=true):Holds (step C st D) (cq P L J X st tm w D):=by
 unfold step;split
 ·rename_i x ar;exact Holds.ok (Kj S (.inl ar) Y _)
 ·rename_i x ar;exact Holds.ok (Kj S (.inr ar) Y _)
 ·rename_i c a b ar;split
  ·rename_i hc;exact Holds.ok (Kc S ar Y hc)
  ·rename_i hc;exact Holds.ok (Kc S ar Y hc)
  ·exact .fail
 ·rename_i elem ar;split
  ·rename_i o e t n cZ aU;exact We S ax.toCtxOk aU ar Y
  ·rename_i o cZ _;split
   ·rename_i z hz;exact Holds.eX (XL S ax.toCtxOk ar cZ hz Y)
   ·exact .fail
  ·exact .fail
 ·rename_i elem x ar;split
  ·rename_i o e t n cZ aU;exact YU S ax.toCtxOk aU ar Y
  ·rename_i o cZ _;split
   ·rename_i a a9;cases df:fY a.cells with
    |false=>exact .fail
    |true=>
     have a':=cO S C elem x;rw[oL a9] at a';exact Holds.eX (Z0 S ar cZ a' df Y)
   ·exact .fail
  ·exact .fail
 ·rename_i t parts ar;split
  ·rename_i bx n z eq aU;exact XH S ax.toCtxOk aU ar Y
  ·rename_i e ty n aU;split
   ·rename_i z hz;exact Wb S ax.toCtxOk aU hz ar Y
   ·exact .fail
  ·exact .fail
 ·rename_i t len parts ar;split
  ·rename_i o e ty bytes cZ aU;cases hb:(parts.toList.length.beq len&&nP 0 parts.toList&&Nat.ble (len*au ty) 1000) with
   |false=>exact .fail
   |true=>
    simp only[Bool.and_eq_true] at hb;obtain⟨⟨aS,aG⟩,bL⟩:=hb;simp only[cond_true];split
    ·rename_i as has;split
     ·rename_i xs us dS;have dS:l3 ty st as=some (xs,us):=by
       cases aL:(C.dF&&ty.gM) with
       |false=>rw[aL] at dS;cases dS
       |true=>rw[aL] at dS;exact dS
      cases aL:(eC (keys us)&&(look us o).isNone) with
      |false=>exact .fail
      |true=>
       simp only[Bool.and_eq_true] at aL;exact Holds.eX (Si S ax.toCtxOk aU ar Y (Nat.eq_of_beq_eq_true aS) aG (Nat.le_of_ble_eq_true bL) has dS ((nF _).1 aL.1) (HJ aL.2))
     ·split
      ·rename_i xs us dS;exact Holds.eX (SA S ax.toCtxOk aU ar cZ Y (Nat.eq_of_beq_eq_true aS) aG (Nat.le_of_ble_eq_true bL) has dS)
      ·exact .fail
    ·exact .fail
  ·exact .fail
 ·rename_i t a ar;split
  ·rename_i e ty n aU;exact Xl S ax.toCtxOk aU ar Y
  ·cases ag:(C.tt t).known with
   |false=>exact .fail
   |true=>exact YF S ax.toCtxOk ar Y ag
 ·rename_i t a x ar;split
  ·rename_i v hv;split
   ·rename_i e ty n aU;exact Vg S ax.toCtxOk aU ar Y hv
   ·cases ag:(C.tt t).known with
    |false=>exact .fail
    |true=>exact WI S ax.toCtxOk ar Y ag hv
  ·exact .fail
 ·rename_i x ar;split
  ·rename_i hx;exact Holds.ok (Aq S ar Y hx fun vv h=>by obtain⟨b,h,_⟩:=h;exact⟨_,h⟩)
  ·rename_i hx;exact Holds.ok (Aq S ar Y hx fun vv h=>by obtain⟨b,D,h,_⟩:=h;exact⟨_,h⟩)
  ·rename_i hx;exact Holds.ok (Aq S ar Y hx fun vv h=>by obtain⟨b,h,_⟩:=h;exact⟨_,h⟩)
  ·exact .fail
 ·rename_i op t x y mz ar;cases hn:x5 y with
  |true=>exact V4 S ax.toCtxOk ar Y hn
  |false=>exact YX S ax.toCtxOk ar Y
 ·rename_i op t x ar;split
  ·rename_i b hx;exact Holds.ok (Td S ar Y hx)
  ·rename_i k n hx;exact Holds.ok (Te S ar Y hx)
  ·rename_i k n hx;exact Holds.ok (Tc (T:=D.type) S ar Y hx)
  ·exact .fail
 ·rename_i src dst x ar;split
  ·rename_i o cZ;exact XE S ax.toCtxOk ar cZ Y
  ·exact .fail
 ·rename_i fn first captured ar
  split
  ·rename_i g;cases hf:first.toList.isEmpty with
   |false=>exact .fail
   |true=>
    simp only[cond_true];split
    ·rename_i bj hc;exact Holds.ok (Tw S ar Y hf hc)
    ·exact .fail
  ·exact .fail
 ·rename_i t l c ar;split
  ·rename_i o e ty bytes kn n km m cZ aU hl hc;split
   ·rename_i z hz;unfold pe;split
    ·rename_i ds us d';have d':sinks st z=some (ds,us):=by
      cases aL:(C.dF&&ty.gM) with
      |false=>rw[aL] at d';cases d'
      |true=>rw[aL] at d';exact d'
     split
     ·rename_i dU kR;cases aL:us.isEmpty with
      |false=>exact .fail
      |true=>exact Holds.eV fun r hr=>St S ax.toCtxOk aU ar Y hl hc hz d' aL kR r hr
     ·exact .fail
    ·split
     ·rename_i ds us d';split
      ·rename_i dU kR;exact Holds.eV fun r hr=>SW S ax.toCtxOk aU ar cZ Y hl hc hz d' kR r hr
      ·exact .fail
     ·exact .fail
   ·exact .fail
  ·exact .fail
 ·rename_i t x cA hi z7 ar;split
  ·split
   ·rename_i e ty n aU;exact Vk S ax.toCtxOk aU ar Y
   ·exact WO S ax.toCtxOk ar Y
  ·exact .fail
 ·rename_i s x f ar;split
  ·rename_i bx n z eq aU;split
   ·rename_i off GB hf;exact S4 S ax.toCtxOk aU ar Y hf
   ·exact .fail
  ·exact .fail
 ·rename_i t x i ar;split
  ·rename_i e ty bytes k n aU hi;exact S1 S ax.toCtxOk aU hi ar Y
  ·rename_i e ty m k n aU hi;exact Sv S ax.toCtxOk aU hi ar Y
  ·exact .fail
 ·rename_i t x i ar;split
  ·rename_i s k n aU hx hi;exact Xs S ax.toCtxOk ar Y aU hx hi
  ·rename_i e ty m k n aU hi;exact VZ S ax.toCtxOk aU hi ar Y
  ·exact .fail
 ·rename_i t i ar;split
  ·rename_i as hx;split
   ·rename_i a a9;exact Holds.ok (Uw S ar Y hx a9)
   ·exact .fail
  ·exact .fail
 ·rename_i c ar;split
  ·rename_i f hf;split
   ·exact HS S ax ar hf Y _ _
   ·exact HS S ax ar hf Y _ _
  ·rename_i b hb;obtain⟨callee,args,argTypes⟩:=c;simp only at hb ar ⊢;subst hb;split
   ·rename_i x t ji Em;have e1:args=#[x]:=Array.ext' ji;have e2:argTypes=#[t]:=Array.ext' Em;subst e1 e2;exact ZL S ax.toCtxOk ar Y
   ·rename_i o s x t u cZ ji Em;have e1:args=#[s,x]:=Array.ext' ji;have e2:argTypes=#[t,u]:=Array.ext' Em;subst e1 e2;split
    ·rename_i aU ej;cases aL:tr st (aO C st u x) with
     |true=>exact UL S ax.toCtxOk aU ej ar cZ Y
     |false=>exact Wd S ax.toCtxOk aU ej ar cZ Y
    ·rename_i aU ej;exact UK S ax.toCtxOk aU ej ar cZ Y
    ·exact .fail
   ·rename_i x y ji;have e1:args=#[x,y]:=Array.ext' ji;subst e1;split
    ·rename_i hx ai;exact Holds.ok (IN (ri:=true) S ar Y hx ai)
    ·exact .fail
   ·rename_i x y z u v ji;have e1:args=#[x,y,z,u,v]:=Array.ext' ji;subst e1;split
    ·rename_i hx ai hz hu hv;exact Holds.ok (YD S ar Y hx ai hz hu hv)
    ·exact .fail
   ·rename_i x y ji;have e1:args=#[x,y]:=Array.ext' ji;subst e1;split
    ·rename_i hx ai;exact Holds.ok (IN (ri:=false) S ar Y hx ai)
    ·exact .fail
   ·exact .fail
  ·exact .fail
 ·exact Un S ax.toCtxOk Y
end
section
variable {st ad:ab}
theorem mG{o:Nat}(h:st.O o=ad.O o)(s:Nat):rowOf st o s=rowOf ad o s:=by unfold rowOf;rw[h]
theorem sF{o:Nat}(h:st.O o=ad.O o)(s:Nat):k_ st o s=k_ ad o s:=by unfold k_;rw[h]
theorem HW{o:Nat}(h:st.O o=ad.O o)(s:Nat):n5 st o s=n5 ad o s:=by unfold n5;rw[mG h,sF h]
theorem sI{o:Nat}(h:st.O o=ad.O o)(s:Nat):fo st o s=fo ad o s:=by unfold fo;rw[h]
theorem k4{o:Nat}(h:st.O o=ad.O o):aT st o=aT ad o:=by unfold aT;rw[h]
abbrev b7(st ad:ab)(N:List Nat):Prop:=∀o,o∈N->st.O o=ad.O o
theorem b7.left{N jG:List Nat}(h:b7 st ad (N++jG)):b7 st ad N:=fun o a5=>h o (List.mem_append.2 (.inl a5))
theorem b7.right{N jG:List Nat}(h:b7 st ad (N++jG)):b7 st ad jG:=fun o a5=>h o (List.mem_append.2 (.inr a5))
theorem b7.head{n:Nat}{jG:List Nat}(h:b7 st ad (n::jG)):st.O n=ad.O n:=h n List.mem_cons_self
theorem b7.tail{n:Nat}{jG:List Nat}(h:b7 st ad (n::jG)):b7 st ad jG:=fun o a5=>h o (List.mem_cons_of_mem _ a5)
theorem nH{N:List Nat}(h:b7 st ad (ee st N)):b7 st ad N:=by
 induction N with
 |nil=>intro o a5;cases a5
 |cons n N ih=>
  intro o a5;rcases List.mem_cons.1 a5 with rfl|a5
  ·exact h.head
  ·exact ih h.tail.right o a5
theorem JN{N:List Nat}(h:b7 st ad (ee st N)){o:Nat}(a5:o∈N):b7 st ad (vV st o):=by
 induction N with
 |nil=>cases a5
 |cons n N ih=>
  rcases List.mem_cons.1 a5 with rfl|a5
  ·exact h.tail.left
  ·exact ih h.tail.right a5
theorem wi{N jG:List Nat}:ee st (N++jG)=ee st N++ee st jG:=by
 induction N with
 |nil=>rfl
 |cons n N ih=>simp[ee,ih]
theorem I2{l:aq}(h:b7 st ad l.names):iU st l=iU ad l:=by
 cases l<;>try rfl
 case own o s=>simp only[iU,lq];rw[mG (h.head) s,sF h.head s,h.head]
 case clo g bj=>cases bj<;>rfl
theorem vO{U:List aq}(h:b7 st ad (cJ U)):gR st U=gR ad U:=by
 induction U with
 |nil=>rfl
 |cons l U ih=>
  simp only[cJ] at h;simp only[gR,I2 h.left,ih h.right]
theorem T5{l:aq}(h:b7 st ad l.names):sink st l=sink ad l:=by
 cases l<;>try rfl
 case own o s=>simp only[sink];rw[h.head]
 case d v=>cases v<;>rfl
theorem An{U:List aq}(h:b7 st ad (cJ U)):sinks st U=sinks ad U:=by
 induction U with
 |nil=>rfl
 |cons l U ih=>
  simp only[cJ] at h;simp only[sinks,T5 h.left,ih h.right]
theorem At{o s:Nat}{cells:List aq}(h:fo st o s=some cells):vV st o=cJ cells:=by
 unfold fo at h;cases M:st.O o with
 |none=>rw[M] at h;cases h
 |some x=>
  rw[M] at h;cases x with
  |box aj cs=>
   have h:(bif aj.beq s then some cs else none)=some cells:=h
   unfold vV;rw[M];cases hb:aj.beq s with
   |true=>simp only[hb,cond_true,Option.some.injEq] at h;subst h;rfl
   |false=>simp[hb] at h
  |row _ _ _=>cases h
  |cM _ _ _=>cases h
  |deep _ _ _=>cases h
  |map _ _ _=>cases h
  |dead _=>cases h
theorem Tx{agg:Bool}{n:Nat}{a:aI}(h:b7 st ad a.names):rf agg n st a=rf agg n ad a:=by
 unfold rf;split
 ·rename_i o s off;rw[sI (show st.O o=ad.O o from h o (by simp[aI.names,bg.cells,cJ,aq.names]))]
 ·rfl
 ·rename_i o s u k off;rw[mG (show st.O o=ad.O o from h o (by simp[aI.names,bg.cells,cJ,aq.names]))]
 ·rfl
theorem SJ{n:Nat}{a:aI}{v:bg}(h:b7 st ad a.names)(hv:b7 st ad (cJ v.cells)):qM n st a v=qM n ad a v:=by
 unfold qM;congr 1
 split
 ·rename_i o s off;rw[sI (show st.O o=ad.O o from h o (by simp[aI.names,bg.cells,cJ,aq.names]))]
 ·rename_i o s u k off;rw[show st.O o=ad.O o from h o (by simp[aI.names,bg.cells,cJ,aq.names]),vO hv,An hv]
 ·rfl
theorem Sa{u:aE}{x:aI}{i:Int}(h:b7 st ad x.names):qg u st x i=qg u ad x i:=by
 unfold qg;split
 ·rfl
 ·rename_i o s;rw[HW (show st.O o=ad.O o from h o (by simp[aI.names,bg.cells,cJ,aq.names]))]
 ·rfl
theorem SN{ti:b8}{x:aI}{cA hi:Option aI}(h:b7 st ad x.names):qP ti st x cA hi=qP ti ad x cA hi:=by
 unfold qP;split
 ·rfl
 ·rfl
 ·rfl
 ·rename_i o s;simp only[lq];rw[mG (show st.O o=ad.O o from h o (by simp[aI.names,bg.cells,cJ,aq.names])),show st.O o=ad.O o from h o (by simp[aI.names,bg.cells,cJ,aq.names])]
 ·rfl
theorem HI{l:aq}(h:b7 st ad l.names):mapOf st l=mapOf ad l:=by
 cases l<;>try rfl
 case own o s=>simp only[mapOf];rw[h.head]
 case d v=>cases v<;>rfl
theorem Up{ti:b8}{x:aI}(h:b7 st ad x.names):rG ti st x=rG ti ad x:=by
 unfold rG;split<;>try rfl
 rotate_left
 ·rename_i l;rw[HI (l:=l) (fun o a5=>h o (by simp[aI.names,bg.cells,cJ,a5]))]
 rename_i o s;rw[HW (show st.O o=ad.O o from h o (by simp[aI.names,bg.cells,cJ,aq.names]))]
theorem Ti{x:aI}(h:b7 st ad x.names):q7 st x=q7 ad x:=by
 unfold q7;split<;>try rfl
 rename_i o s;rw[mG (show st.O o=ad.O o from h o (by simp[aI.names,bg.cells,cJ,aq.names]))]
theorem Hc{o dst s:Nat}(Y:st.O dst=ad.O dst):aT (st.dd o (.dead s)) dst=aT (ad.dd o (.dead s)) dst:=by
 apply k4;rw[ab.lV,ab.lV,Y]
theorem Hl{bytes:Nat}{t:aE}{dst:Nat}{s:aI}{ys:List (den t)}(h:b7 st ad s.names)(Y:st.O dst=ad.O dst):oU bytes t dst st s ys=oU bytes t dst ad s ys:=by
 unfold oU;split
 ·simp only[k4 Y]
 ·rename_i o s;simp only[show st.O o=ad.O o from h o (by simp[aI.names,bg.cells,cJ,aq.names]),Hc Y]
 ·rfl
theorem SB{bytes:Nat}{t:aE}{dst:Nat}{s x:aI}(h:b7 st ad s.names)(hx:b7 st ad x.names)(Y:st.O dst=ad.O dst):qI bytes t dst st s x=qI bytes t dst ad s x:=by
 unfold qI;rw[Ti hx];split
 ·rfl
 ·split
  ·split
   ·exact Hl h Y
   ·rfl
  ·rfl
theorem SZ{x:aI}(h:b7 st ad x.names):tr st x=tr ad x:=by
 unfold tr;split
 ·rename_i o s;rw[sF (show st.O o=ad.O o from h o (by simp[aI.names,bg.cells,cJ,aq.names]))]
 ·rfl
theorem SD{bytes:Nat}{t:aE}{dst:Nat}{s x:aI}(h:b7 st ad s.names)(hx:b7 st ad x.names)(Y:st.O dst=ad.O dst):qK bytes t dst st s x=qK bytes t dst ad s x:=by
 have e2:∀F u o v,aT ((st.dd F (.dead u)).dd o (.dead v)) dst=aT ((ad.dd F (.dead u)).dd o (.dead v)) dst:=fun F u o v=>by
  apply k4;rw[ab.lV,ab.lV,ab.lV,ab.lV,Y]
 unfold qK;split
 ·rename_i F u;rw[sF (show st.O F=ad.O F from hx F (by simp[aI.names,bg.cells,cJ,aq.names]))]
  split
  ·split
   ·split
    ·simp only[Hc Y]
    ·rename_i _ o s;rw[sF (show st.O o=ad.O o from h o (by simp[aI.names,bg.cells,cJ,aq.names]))]
     simp only[e2]
    ·rfl
   ·rfl
  ·rfl
 ·rfl
theorem SC{bytes:Nat}{t:aE}{dst:Nat}{s x:aI}(h:b7 st ad s.names)(Y:st.O dst=ad.O dst):qJ bytes t dst st s x=qJ bytes t dst ad s x:=by
 unfold qJ;split
 ·split
  ·exact Hl h Y
  ·rfl
 ·rfl
theorem H7{o:Nat}{t:aE}{n:Nat}{xs:List (den t)}(Y:st.O o=ad.O o):pd o st t n xs=pd o ad t n xs:=by
 unfold pd;rw[k4 Y]
theorem S6{o:Nat}{t:aE}{n:Nat}(Y:st.O o=ad.O o):q4 o st t n=q4 o ad t n:=by
 unfold q4;split<;>first|exact H7 Y|rfl
theorem UI{o:Nat}{t:aE}{n:Nat}{v:aI}(Y:st.O o=ad.O o):rR o st t n v=rR o ad t n v:=by
 unfold rR;split
 ·split<;>first|exact H7 Y|rfl
 ·rfl
theorem Ty{t:aE}{n:Nat}{a:aI}(h:b7 st ad a.names):rh st t n a=rh ad t n a:=by
 unfold rh;split
 ·rename_i o s u;rw[mG (show st.O o=ad.O o from h o (by simp[aI.names,bg.cells,cJ,aq.names]))]
 ·rfl
theorem SK{t:aE}{n:Nat}{a:aI}{v:bg}(h:b7 st ad a.names):qN st t n a v=qN ad t n a v:=by
 unfold qN;split
 ·rename_i o s u U;rw[show st.O o=ad.O o from h o (by simp[aI.names,bg.cells,cJ,aq.names])]
 ·rfl
theorem Sb{C:Ctx}{t:aE}{n:Nat}{x:aI}{i:Int}(h:b7 st ad x.names):qh C st t n x i=qh C ad t n x i:=by
 unfold qh;split
 ·rename_i o s u;rw[mG (show st.O o=ad.O o from h o (by simp[aI.names,bg.cells,cJ,aq.names]))]
 ·rfl
 ·rfl
theorem SO{t:aE}{n:Nat}{x:aI}{cA hi:Option aI}(h:b7 st ad x.names):qQ st t n x cA hi=qQ ad t n x cA hi:=by
 unfold qQ;split
 ·rename_i o s u;simp only[lq];rw[mG (show st.O o=ad.O o from h o (by simp[aI.names,bg.cells,cJ,aq.names])),show st.O o=ad.O o from h o (by simp[aI.names,bg.cells,cJ,aq.names])]
 ·rfl
theorem UE{t:aE}{as:List bg}(h:b7 st ad (nK as)):kM t st as=kM t ad as:=by
 induction as with
 |nil=>rfl
 |cons a as ih=>
  simp only[nK] at h;simp only[kM,vO h.left,ih h.right]
theorem SP{t:aE}{as:List bg}(h:b7 st ad (nK as)):l3 t st as=l3 t ad as:=by
 induction as with
 |nil=>rfl
 |cons a as ih=>
  simp only[nK] at h;simp only[l3,An h.left,ih h.right]
theorem TJ{C:Ctx}{src dst:TypeId}{o:Nat}{x:aI}(h:b7 st ad x.names)(Y:st.O o=ad.O o):rp C src dst o st x=rp C src dst o ad x:=by
 unfold rp;split<;>try rfl
 ·rename_i F s _ _;rw[mG (show st.O F=ad.O F from h F (by simp[aI.names,bg.cells,cJ,aq.names]))]
 ·rw[k4 Y]
theorem Hw{bj:List (Nat×Nat)}(h:b7 st ad (ee st (keys bj))):kB st bj=kB ad bj:=by
 induction bj with
 |nil=>rfl
 |cons p bj ih=>
  obtain⟨o,s⟩:=p;simp only[keys,ee] at h;simp only[kB];rw[<-sI h.head,<-ih h.tail.right];cases hb:fo st o s with
  |none=>rfl
  |some cells=>
   have:=h.tail.left;rw[At hb] at this;simp only[vO this]
theorem Ax{l:aq}(h:b7 st ad (ee st l.names)):mg st l=mg ad l:=by
 have Y:=I2 (nH h);unfold mg;split
 ·rfl
 ·rename_i g c cs;simp only[aq.names] at h;rw[Hw h]
 ·rw[Y]
theorem Tz{U:List aq}(h:b7 st ad (ee st (cJ U))):ld st U=ld ad U:=by
 induction U with
 |nil=>rfl
 |cons l U ih=>
  simp only[cJ,wi] at h;simp only[ld,Ax h.left,ih h.right]
theorem HM{l:aq}(h:b7 st ad l.names):mb st l=mb ad l:=by
 unfold mb;split<;>try rfl
 rename_i o s;rw[show st.O o=ad.O o from h.head]
theorem Ut{U:List aq}(h:b7 st ad (cJ U)):jm st U=jm ad U:=by
 induction U with
 |nil=>rfl
 |cons l U ih=>
  simp only[cJ] at h;simp only[jm,HM h.left,ih h.right]
def gr:List aI->List Nat
 |[]=>[]
 |v::vs=>v.names++gr vs
theorem Hs{vs:List aI}(h:b7 st ad (ee st (gr vs))):ib st vs=ib ad vs:=by
 induction vs with
 |nil=>rfl
 |cons v vs ih=>
  simp only[gr,wi] at h;have ih:=ih h.right;have h:=h.left;cases v with
  |iP as=>rfl
  |av a=>
   cases a with
   |agg U=>
    simp only[ib];rw[Tz (by simpa[aI.names,bg.cells] using h),ih]
   |ah l=>
    have hl:b7 st ad (ee st l.names):=by simpa[aI.names,bg.cells,cJ] using h
    unfold ib;split
    ·rfl
    ·rename_i o s aeh bN;cases bN;have hl:b7 st ad (ee st [o]):=by simpa[aI.names,bg.cells,cJ,aq.names] using h
     simp only[ee] at hl;rw[<-sI hl.head,<-ih];cases hb:fo st o s with
     |none=>rfl
     |some cells=>
      have:=hl.tail.left;rw[At hb] at this;cases ib st vs with
      |none=>rfl
      |some r=>simp only[Ut this]
    ·rename_i fi aeh _ bN;cases bN;rw[Ax hl,ih]
    ·rename_i bN;cases bN
    ·rfl
theorem Hv{l:aq}(h:b7 st ad (ee st l.names)):k9 st l=k9 ad l:=by
 unfold k9;split
 ·rw[HM (nH h)]
 ·rfl
 ·rw[Ax h]
theorem Sy{U:List aq}(h:b7 st ad (ee st (cJ U))):k7 st U=k7 ad U:=by
 induction U with
 |nil=>rfl
 |cons l U ih=>
  simp only[cJ,wi] at h;simp only[k7,Hv h.left,ih h.right]
theorem TC{l:aq}(h:b7 st ad l.names):kH st l=kH ad l:=by
 unfold kH;split<;>try rfl
 rename_i o s;rw[show st.O o=ad.O o from h.head]
theorem HG{U da:List aq}(h:b7 st ad (cJ U)):mV st U da=mV ad U da:=by
 unfold mV;have:U.map (kH st)=U.map (kH ad):=by
  induction U with
  |nil=>rfl
  |cons l U ih=>
   simp only[cJ] at h;simp only[List.map_cons,TC h.left,ih h.right]
 rw[this]
theorem Ss{vs:List aI}(h:b7 st ad (ee st (gr vs))):jJ st vs=jJ ad vs:=by
 induction vs with
 |nil=>rfl
 |cons v vs ih=>
  simp only[gr,wi] at h;have ih:=ih h.right;have h:=h.left;cases v with
  |iP as=>rfl
  |av a=>
   cases a with
   |agg U=>
    have hl:b7 st ad (ee st (cJ U)):=by simpa[aI.names,bg.cells] using h
    simp only[jJ,Sy hl,ih,HG (nH hl)]
   |ah l=>
    have hl:b7 st ad (ee st l.names):=by simpa[aI.names,bg.cells,cJ] using h
    have lE:b7 st ad (cJ [l]):=by simpa[cJ] using nH hl
    simp only[jJ,Hv hl,ih,HG lE]
theorem Sr{b:Bool}{vs:List aI}(h:b7 st ad (ee st (gr vs))):qB b st vs=qB b ad vs:=by
 cases b
 ·exact Hs h
 ·exact Ss h
theorem sG(hb:∀o,1000000<=o->st.O o=ad.O o){o:Nat}(h:1000000<=o):aT st o=aT ad o:=k4 (hb o h)
theorem Av(hb:∀o,1000000<=o->st.O o=ad.O o):∀{U:List aq} {n:Nat},1000000<=n->take st n U=take ad n U:=by
 intro U;induction U with
 |nil=>intro n _;rfl
 |cons l U ih=>
  intro n hn;cases l<;>simp only[take,ih (show 1000000<=n+1 by omega),sG hb hn]
theorem Tg(hb:∀o,1000000<=o->st.O o=ad.O o):∀{as:List bg} {n:Nat},1000000<=n->dt st n as=dt ad n as:=by
 intro as;induction as with
 |nil=>intro n _;rfl
 |cons a as ih=>
  intro n hn;cases a with
  |ah l=>simp only[dt];rw[Av hb hn,ih (show 1000000<=n+100 by omega)]
  |agg U=>simp only[dt];rw[Av hb hn,ih (show 1000000<=n+100 by omega)]
theorem Tf(hb:∀o,1000000<=o->st.O o=ad.O o):∀{bs:List (Nat×Nat)} {ck:List (List aq)},eS st bs ck=eS ad bs ck:=by
 intro bs;induction bs with
 |nil=>intro ck;cases ck<;>rfl
 |cons p bs ih=>
  obtain⟨o,s⟩:=p;intro ck;cases ck with
  |nil=>rfl
  |cons cs ck=>simp only[eS];rw[Av hb (by omega),ih]
theorem HR(hb:∀o,1000000<=o->st.O o=ad.O o){dst:Nat}{S:a4}{a:jp}:n4 dst st S a=n4 dst ad S a:=by
 unfold n4;simp only[Tf hb,Tg hb (show 1000000<=2000000+dst*10000 by omega)]
theorem SL{g:FuncId}{n:Nat}{vs:List aI}(hb:∀o,1000000<=o->st.O o=ad.O o)(hn:1000000<=n):qO g n st vs=qO g n ad vs:=by
 unfold qO;rw[sG hb hn,sG hb (show 1000000<=n+1 by omega),sG hb (show 1000000<=n+2 by omega)]
theorem Tr{n:Nat}{vs:List aI}(hb:∀o,1000000<=o->st.O o=ad.O o)(hn:1000000<=n):q_ n st vs=q_ n ad vs:=by
 unfold q_;rw[sG hb hn]
theorem TI{vs:List aI}(h:b7 st ad (ee st (gr vs))):copyV st vs=copyV ad vs:=by
 unfold copyV;split
 ·rename_i o s;rw[show st.O o=ad.O o from nH h o (by simp[gr,aI.names,bg.cells,cJ,aq.names])]
 ·rfl
theorem Sn{vs:List aI}(h:b7 st ad (ee st (gr vs))):qx st vs=qx ad vs:=by
 unfold qx;split
 ·rename_i o s;have aQ:o∈gr [aI.av (.ah (.ptr o s 0))]:=by simp[gr,aI.names,bg.cells,cJ,aq.names]
  rw[<-sI (nH h o aQ)];split
  ·rfl
  ·rename_i RE F u hb;have:=JN h aQ;rw[At hb] at this;rw[show st.O F=ad.O F from this F (by simp[cJ,aq.names])]
  ·rfl
 ·rfl
theorem Hg{C:Ctx}(hb:∀o,1000000<=o->st.O o=ad.O o){dst:Nat}{f:aI}{vs:List aI}(hf:b7 st ad (ee st f.names))(h:b7 st ad (ee st (gr vs))):k6 C dst st f vs=k6 C dst ad f vs:=by
 unfold k6;split
 ·rename_i g bj;have:b7 st ad (ee st (keys bj)):=by simpa[aI.names,bg.cells,cJ,aq.names] using hf
  simp only[Sr h,Hw this,HR hb,SL hb (show 1000000<=3000000+dst*10 by omega),Tr hb (show 1000000<=4000000+dst by omega),TI h,Sn h]
 ·simp only[Hs h,HR hb]
 ·rfl
theorem Xw{C:Ctx}{x:Operand}{T:TypeId}(h:∀t,x=.tmp t->st.get t=ad.get t):aO C st T x=aO C ad T x:=by
 cases x with
 |tmp t=>exact h t rfl
 |_=>rfl
theorem Sz{ti:b8}{v:Value}:(th ti v).names=[]:=by
 unfold th;split<;>try rfl
 all_goals(split<;>rfl)
theorem wE{C:Ctx}{x:Operand}{T:TypeId}:∀{xs:List Operand},x∈xs->∀o,o∈(aO C st T x).names->o∈mO st xs:=by
 intro xs;induction xs with
 |nil=>intro h;cases h
 |cons y xs ih=>
  intro h o a5;rcases List.mem_cons.1 h with rfl|h
  ·cases x with
   |tmp t=>simp only[mO];exact List.mem_append.2 (.inl a5)
   |const v=>simp only[aO,Sz] at a5;cases a5
   |global g=>simp[aO,aI.names,bg.cells,cJ,aq.names,bD] at a5
   |func g=>simp[aO,aI.names,bg.cells,cJ,aq.names,bD,keys] at a5
  ·have:=ih h o a5;cases y<;>simp only[mO]<;>first|exact List.mem_append.2 (.inr this)|exact this
theorem Ts{t:Nat}:∀{xs:List Operand},.tmp t∈xs->t∈nM xs:=by
 intro xs;induction xs with
 |nil=>intro h;cases h
 |cons y xs ih=>
  intro h;rcases List.mem_cons.1 h with h|h
  ·subst h;simp only[nM];exact List.mem_cons_self
  ·have:=ih h;cases y<;>simp only[nM]<;>first|exact List.mem_cons_of_mem _ this|exact this
theorem Ih{v:aI}{a:bg}(h:lu v=some a):cJ a.cells=v.names:=by
 cases v with
 |av b=>simp only[lu,Option.some.injEq] at h;subst h;rfl
 |iP _=>cases h
theorem HU{vs:List aI}:∀{as:List bg},mc vs=some as->∀o,o∈nK as->o∈gr vs:=by
 induction vs with
 |nil=>intro as h;simp only[mc,Option.some.injEq] at h;subst h;intro o a5;cases a5
 |cons v vs ih=>
  intro as h o a5;simp only[mc] at h;split at h
  ·rename_i a iW h1 h2;simp only[Option.some.injEq] at h;subst h;simp only[nK,List.mem_append] at a5;simp only[gr,List.mem_append];rcases a5 with a5|a5
   ·exact .inl (by rw[Ih h1] at a5;exact a5)
   ·exact .inr (ih h2 o a5)
  ·cases h
end
theorem T2{C:Ctx}{st ad:ab}{D:Oper}(M:∀t,t∈nM (kD D.op)->st.get t=ad.get t)(hn:b7 st ad (DO C st D))(hb:x6 D.op=true->∀o,1000000<=o->st.O o=ad.O o):
  step C st D=step C ad D:=by
 have he:∀x,x∈kD D.op->∀T,aO C st T x=aO C ad T x:=fun x hx T=>Xw fun t aB=>M t (Ts (aB▸hx))
 have NT:looks D.op=true->b7 st ad (ee st (mO st (kD D.op))):=fun h=>by have:=hn.left.left;rw[h] at this;exact this
 have NM:looks D.op=true->∀x,x∈kD D.op->∀T,b7 st ad (aO C st T x).names:=fun hl x hx T o a5=>nH (NT hl) o (wE hx o a5)
 have Lg:looks D.op=true->∀N:List Nat,(∀o,o∈N->o∈mO st (kD D.op))->b7 st ad (ee st N):=by
  intro hl N;have u0:=NT hl;induction N with
  |nil=>intro _ o a5;cases a5
  |cons n N ih=>
   intro h o a5;simp only[ee,List.mem_cons,List.mem_append] at a5;rcases a5 with rfl|a5|a5
   ·exact nH u0 o (h o List.mem_cons_self)
   ·exact JN u0 (h n List.mem_cons_self) o a5
   ·exact ih (fun F bh=>h F (List.mem_cons_of_mem _ bh)) o a5
 have Y:∀d,D.dst=some d->st.O d=ad.O d:=fun d h=>hn.left.right d (by simp[h])
 have hz:b7 st ad (DA C D.op):=hn.right;obtain⟨dst,op,type,pos,after,guard⟩:=D;simp only at he NM Lg Y hb hz;cases op<;>(try have fE:=NM rfl)<;>(try have kG:=Lg rfl)<;>(try simp only[kD,List.mem_cons,List.not_mem_nil,or_false,forall_eq_or_imp,forall_eq] at he)<;>
  (try simp only[kD,List.mem_cons,List.not_mem_nil,or_false,forall_eq_or_imp,forall_eq] at fE)<;>simp only[step]<;>try rfl
 case move x=>rw[he]
 case assign x=>rw[he]
 case makeMap t r=>
  simp only[kw];cases dst with
  |none=>rfl
  |some o=>
   have e:=k4 (Y o rfl);cases C.tt t<;>try rfl
   cases r with
   |none=>simp only[e]
   |some x=>simp only[he x (by simp[kD]),e]
 case lookup t m k c=>
  simp only[kw];rw[he.1,he.2];have h1:=fE.1 t;rw[he.1] at h1;generalize aO C ad t m=Rx at h1 ⊢;split
  ·rename_i l n _ _;rw[HI (l:=l) (fun o a5=>h1 o (by simp[aI.names,bg.cells,cJ,a5]))]
  ·rfl
 case mapUpdate t m k x=>
  simp only[kw,kw.qU];rw[he.1,he.2.1,he.2.2];have h1:=fE.1 t;rw[he.1] at h1;generalize aO C ad t m=Rx at h1 ⊢;split
  ·rename_i o s n d _ _ _;rw[show st.O o=ad.O o from h1 o (by simp[aI.names,bg.cells,cJ,aq.names])]
  ·rfl
 case insert t m k x=>
  simp only[kw,kw.qU];rw[he.1,he.2.1,he.2.2];have h1:=fE.1 t;rw[he.1] at h1;generalize aO C ad t m=Rx at h1 ⊢;split
  ·rename_i o s n d _ _ _;rw[show st.O o=ad.O o from h1 o (by simp[aI.names,bg.cells,cJ,aq.names])]
  ·rfl
 case pick c a b=>rw[he.1,he.2.1,he.2.2]
 case alloc elem=>
  cases dst with
  |none=>rfl
  |some o=>
   have e:=k4 (Y o rfl);cases aU:C.tt elem with
   |arr _ t n=>exact S6 (Y o rfl)
   |_=>simp only[e]
 case box elem x=>
  rw[he];cases dst with
  |none=>rfl
  |some o=>
   have e:=k4 (Y o rfl);cases aU:C.tt elem with
   |arr _ t n=>exact UI (Y o rfl)
   |_=>simp only[e]
 case build t ps=>
  have go:∀(bx:List (Nat×Nat)) (r:List (Nat×Operand)) (z:List aq),(∀x,x∈r.map (·.2)->∀T,aO C st T x=aO C ad T x)->step.l9 C st bx z r=step.l9 C ad bx z r:=by
    intro bx r;induction r with
    |nil=>intro z _;rfl
    |cons p r ih=>
     obtain⟨i,x⟩:=p;intro z h;simp only[step.l9];rw[h x (by simp)]
     split
     ·rw[ih _ fun x hx=>h x (by simp only[List.map_cons,List.mem_cons];exact .inr hx)]
     ·rfl
  split
  ·exact go _ _ _ he
  ·split
   ·exact go _ _ _ he
   ·rfl
  ·rfl
 case buildSlice t len ps=>
  cases dst with
  |none=>rfl
  |some o=>
   cases h2:C.tt t<;>try rfl
   rename_i e ty bytes;simp only;have h1:some o=some o:=rfl;have em:(ps.toList.map fun p=>aO C st e p.2)=ps.toList.map fun p=>aO C ad e p.2:=by
    apply List.map_congr_left;intro p an;exact he _ (List.mem_map.2 ⟨p,an,rfl⟩) e
   have hD:b7 st ad (gr (ps.toList.map fun p=>aO C st e p.2)):=by
    have:∀l:List (Nat×Operand),(∀p,p∈l->p∈ps.toList)->b7 st ad (gr (l.map fun p=>aO C st e p.2)):=by
     intro l;induction l with
     |nil=>intro _ o a5;cases a5
     |cons p l ih=>
      intro h o a5;simp only[List.map_cons,gr,List.mem_append] at a5;rcases a5 with a5|a5
      ·exact fE _ (List.mem_map.2 ⟨p,h p List.mem_cons_self,rfl⟩) e o a5
      ·exact ih (fun q aL=>h q (List.mem_cons_of_mem _ aL)) o a5
    exact this _ fun _ h=>h
   rw[<-em,k4 (Y o h1)];congr 1
   split
   ·rename_i as has;rw[UE fun F bh=>hD F (HU has F bh),SP fun F bh=>hD F (HU has F bh)]
   ·rfl
 case load t a=>
  rw[<-he];split
  ·exact Ty (fE _)
  ·rw[Tx (fE _)]
 case store t a x=>
  rw[<-he.1,<-he.2];split
  ·rename_i v hv;split
   ·exact SK (fE.1 _)
   ·rw[SJ (fE.1 _) (by rw[Ih hv];exact fE.2 _)]
  ·rfl
 case nilCheck x=>rw[he]
 case makeInterface t x=>simp only[kw];rw[he]
 case binOp op t x y ty=>rw[he.1,he.2]
 case unOp op t x=>rw[he]
 case convert src aki x=>
  cases dst with
  |none=>rfl
  |some o=>simp only;rw[<-he,TJ (fE _) (Y o rfl)]
 case makeFunc fn first captured=>
  split
  ·rename_i g;have go:∀(r:List Operand),(∀x,x∈r->∀T,aO C st T x=aO C ad T x)->step.mX C st r=step.mX C ad r:=by
    intro r;induction r with
    |nil=>intro _;rfl
    |cons x r ih=>
     intro h;simp only[step.mX];rw[h x (by simp),ih fun x hx=>h x (List.mem_cons_of_mem _ hx)]
   rw[go _ he]
  ·rfl
 case makeSlice t l c=>
  rw[<-he.1,<-he.2];cases dst with
  |none=>rfl
  |some o=>
   cases h2:C.tt t<;>try rfl
   rename_i e ty bytes;simp only[DA,h2] at hz;have e1:=k4 (Y o rfl);have e2:∀z n m,(C.tt e).zero=some z->pe C.dF bytes o st ty n m z=pe C.dF bytes o ad ty n m z:=fun z n m hzz=>by
    simp only[hzz] at hz;unfold pe;rw[vO hz,An hz,e1]
   generalize aO C st 0 l=pP;generalize aO C st 0 c=jz;have dW:∀n m:Int,(match(C.tt e).zero with
      |some z=>pe C.dF bytes o st ty n m z
      |none=>.fail)=(match(C.tt e).zero with
      |some z=>pe C.dF bytes o ad ty n m z
      |none=>.fail):=by
    intro n m;cases hzz:(C.tt e).zero with
    |none=>rfl
    |some z=>exact e2 z n m hzz
   rcases pP with(cW|_)|_<;>try rfl
   cases cW<;>try rfl
   rename_i d1;cases d1<;>try rfl
   rcases jz with(fV|_)|_<;>try rfl
   cases fV<;>try rfl
   rename_i d2;cases d2<;>try rfl
   exact dW _ _
 case slice t x cA hi z7=>
  cases z7 with
  |some _=>rfl
  |none=>
   simp only;have e1:cA.map (aO C st 0)=cA.map (aO C ad 0):=by
    cases cA with
    |none=>rfl
    |some y=>simp only[Option.map_some];rw[he.2 y (by simp)]
   have e2:hi.map (aO C st 0)=hi.map (aO C ad 0):=by
    cases hi with
    |none=>rfl
    |some y=>simp only[Option.map_some];rw[he.2 y (by simp)]
   rw[<-he.1,e1,e2];split
   ·exact SO (fE.1 _)
   ·exact SN (fE.1 _)
 case fieldAddr s x f=>rw[he]
 case indexAddr t x i=>
  rw[<-he.1,<-he.2];split
  ·rw[Sa (fE.1 _)]
  ·rw[Sb (fE.1 _)]
  ·rfl
 case index t x i=>rw[he.1,he.2]
 case extract t i=>rw[he]
 case call c=>
  obtain⟨ags,args,E8⟩:=c;simp only;cases ags with
  |invoke r m=>rfl
  |value f=>
   simp only[kD,List.mem_append,List.mem_cons,List.not_mem_nil,or_false] at kG;simp only[x6,forall_const] at hb;simp only[List.mem_append,List.mem_cons,List.not_mem_nil,or_false] at he;have em:∀(xs:List Operand) (cD:List TypeId),(∀x,x∈xs->∀T,aO C st T x=aO C ad T x)->fT C st xs cD=fT C ad xs cD:=by
    intro xs;induction xs with
    |nil=>intro cD _;cases cD<;>rfl
    |cons x xs ih=>
     intro cD h;cases cD with
     |nil=>simp only[fT];rw[h x (by simp),ih [] fun y ai=>h y (List.mem_cons_of_mem _ ai)]
     |cons T cD=>simp only[fT];rw[h x (by simp),ih cD fun y ai=>h y (List.mem_cons_of_mem _ ai)]
   have GM:∀(xs ys:List Operand) (cD:List TypeId),(∀x,x∈xs->x∈ys)->∀o,o∈gr (fT C st xs cD)->o∈mO st ys:=by
    intro xs ys;induction xs with
    |nil=>intro cD _ o a5;cases cD<;>cases a5
    |cons x xs ih=>
     intro cD h o a5;cases cD with
     |nil=>
      simp only[fT,gr,List.mem_append] at a5;rcases a5 with a5|a5
      ·exact wE (h x List.mem_cons_self) o a5
      ·exact ih [] (fun y ai=>h y (List.mem_cons_of_mem _ ai)) o a5
     |cons T cD=>
      simp only[fT,gr,List.mem_append] at a5;rcases a5 with a5|a5
      ·exact wE (h x List.mem_cons_self) o a5
      ·exact ih cD (fun y ai=>h y (List.mem_cons_of_mem _ ai)) o a5
   have h1:b7 st ad (ee st (aO C st 0 f).names):=kG _ fun o a5=>wE (List.mem_append.2 (.inl (by simp))) o a5
   have h2:b7 st ad (ee st (gr (fT C st args.toList E8.toList))):=kG _ fun o a5=>GM _ _ _ (fun x hx=>List.mem_append.2 (.inr hx)) o a5
   have Z:=he f (.inl rfl) 0;have aH:=em args.toList E8.toList fun x hx=>he x (.inr hx)
   cases dst with
   |none=>show k6 C 0 st _ _=k6 C 0 ad _ _;rw[<-Z,<-aH];exact Hg hb h1 h2
   |some d=>show k6 C d st _ _=k6 C d ad _ _;rw[<-Z,<-aH];exact Hg hb h1 h2
  |builtin b=>
   simp only[List.nil_append] at he fE;generalize args.toList=xs at he fE;generalize E8.toList=cQ;cases b<;>try rfl
   case append=>
    rcases dst with _|o
    ·rfl
    rcases xs with _|⟨s,_|⟨x,_|_⟩⟩<;>try rfl
    rcases cQ with _|⟨t,_|⟨u,_|_⟩⟩<;>try rfl
    have e1:=he s (by simp) t
    have e2:=he x (by simp) u
    dsimp only;cases C.tt t<;>try rfl
    cases C.tt u<;>try rfl
    all_goals dsimp only
    all_goals rw[<-e1,<-e2]
    all_goals first|(rw[SZ (fE x (by simp) _),SD (fE s (by simp) _) (fE x (by simp) _) (Y o rfl),SB (fE s (by simp) _) (fE x (by simp) _) (Y o rfl)];done)|exact SC (fE s (by simp) _) (Y o rfl)
   case len=>
    rcases xs with _|⟨s,_|⟨x,_|_⟩⟩<;>try rfl
    rcases cQ with _|⟨t,_|⟨u,_|_⟩⟩<;>try rfl
    have e1:=he s (by simp) t
    dsimp only;rw[<-e1];exact Up (fE s (by simp) _)
   case max=>
    rcases xs with _|⟨s,_|⟨x,_|⟨z,_|⟨u,_|⟨v,_|_⟩⟩⟩⟩⟩<;>try rfl
    ·have e1:=he s (by simp) type
     have e2:=he x (by simp) type
     dsimp only;rw[<-e1,<-e2]
    ·have e1:=he s (by simp) type
     have e2:=he x (by simp) type
     have bK:=he z (by simp) type
     have dW:=he u (by simp) type
     have fW:=he v (by simp) type
     dsimp only;rw[<-e1,<-e2,<-bK,<-dW,<-fW]
   case min=>
    rcases xs with _|⟨s,_|⟨x,_|_⟩⟩<;>try rfl
    have e1:=he s (by simp) type
    have e2:=he x (by simp) type
    dsimp only;rw[<-e1,<-e2]
section
variable {P:Program}{L:World}{J:List Nat}{X:Nat->Prop}{B:Nat->Value}{st:ab}{tm:Array Value}{w:World}{D:Oper}
structure oY(w:World)(av:Nat->Prop)(B:Nat->Value)(o:Nat)(t:aE)(xs:List (den t))(k off:Nat)(x:den t)(u:aE)(ys:List (den u))(e:TypeId)(v0 nv:Value)(n1 n2 c1 c2:List Value):Prop where
 sw:B o=.tuple (v0::(n1++nv::n2)).toArray
 RB:(bu (B o)).Nodup
 row:rowAt w t.e7 e (au t) v0 xs.length (c1++nv::c2)
 len:c1.length=k*au t+off
 d1:Deep w av (flat t (xs.take k)++(enc t x).take off) c1 n1
 mid:∃bY U,(∀d,d∈flat u ys->d.plain=true)/\rowAt w u.e7 bY (au u) nv ys.length U/\b' w av (flat u ys) U
 d2:Deep w av ((enc t x).drop (off+1)++flat t (xs.drop (k+1))) c2 n2
theorem ae.ZK(S:ae L J X B st tm w){o s k off:Nat}{t u:aE}{xs:List (den t)}{x:den t}{ys:List (den u)}(hl:look st.sites o=some (.deep s t xs))(hx:xs[k]? =some x)(hu:(enc t x)[off]? =some (.sl u ys)):
  ∃e v0 nv n1 n2 c1 c2,oY w (am X B st.sites) B o t xs k off x u ys e v0 nv n1 n2 c1 c2:=by
 obtain⟨e,v0,aC,cs,aQ,d_,cY,kG⟩:=S.sites o _ hl;have ag:k<xs.length:=(List.getElem?_eq_some_iff.1 hx).1;have ar:off<(enc t x).length:=(List.getElem?_eq_some_iff.1 hu).1;rw[e3] at ar;obtain⟨d0,zO,m'⟩:=Ll (x:=x) ar;rw[hu] at zO;cases zO;have mv:flat t xs=(flat t (xs.take k)++(enc t x).take off)++(.sl u ys::((enc t x).drop (off+1)++flat t (xs.drop (k+1)))):=by
  rw[BI t hx];conv=>lhs;rw[m']
  simp only[List.append_assoc,List.cons_append]
 rw[mv] at kG;obtain⟨c1,QD,n1,gT,rfl,rfl,d1,d23⟩:=kG.inv;have cW:c1.length=k*au t+off:=by
  rw[d1.len,List.length_append,dO,List.length_take,List.length_take,e3,Nat.min_eq_left (Nat.le_of_lt ag),Nat.min_eq_left (Nat.le_of_lt ar)]
 cases d23 with
 |row bA mm bY U an h hr k'=>exact⟨e,v0,_,n1,_,c1,_,aQ,d_,cY,cW,d1,⟨bY,U,an,h,hr⟩,k'⟩
 |leaf an h k'=>cases an
theorem oY.acs{av:Nat->Prop}{o:Nat}{t:aE}{xs:List (den t)}{k off:Nat}{x:den t}{u:aE}{ys:List (den u)}{e:TypeId}{v0 nv:Value}{n1 n2 c1 c2:List Value}(N:oY w av B o t xs k off x u ys e v0 nv n1 n2 c1 c2):
  (∀b,bc nv=some b->b∈bu (B o))/\(∀b,bc v0=some b->bc nv≠some b)/\(∀n,n∈n1->∀b,bc n=some b->bc nv≠some b)/\∀n,n∈n2->∀b,bc n=some b->bc nv≠some b:=by
 have d_:=N.RB;rw[N.sw] at d_;simp only[bu,List.flatMap_cons,List.flatMap_append] at d_;obtain⟨a1,a2,jE⟩:=List.nodup_append.1 d_;obtain⟨aS,aG,bL⟩:=List.nodup_append.1 a2;obtain⟨ajY,ajX,c3⟩:=List.nodup_append.1 aG;refine⟨fun b hb=>by rw[N.sw];exact iA.2 (.inr ⟨nv,by simp,hb⟩),fun b hb hn=>?_,fun n hn b hb hv=>?_,fun n hn b hb hv=>?_⟩
 ·exact jE b (by rw[hb];simp) b (List.mem_append.2 (.inr (List.mem_append.2 (.inl (by rw[hn];simp))))) rfl
 ·exact bL b (List.mem_flatMap.2 ⟨n,hn,by rw[hb];simp⟩) b (List.mem_append.2 (.inl (by rw[hv];simp))) rfl
 ·exact c3 b (by rw[hv];simp) b (List.mem_flatMap.2 ⟨n,hn,by rw[hb];simp⟩) rfl
theorem H'{C:Ctx}{D:Oper}{dF:Nat}{v:aI}(h:tq C st D=some (dF,v)):∃x,D.op=.move x/\D.dst=some dF/\D.guard=none/\Nat.blt dF st.nt=true/\v=aO C st D.type x:=by
 unfold tq at h;split at h
 ·rename_i x d ar Y hg;cases hb:Nat.blt d st.nt with
  |false=>rw[hb] at h;cases h
  |true=>
   rw[hb] at h;cases h;exact⟨x,ar,Y,hg,hb,rfl⟩
 ·cases h
theorem AR{C:Ctx}{o1 e_ o2:Oper}{q:pa}(h:rb C st o1 e_ o2=some q):∃T a e pR aS c g x,o1.op=.load T a/\o1.dst=some q.d1/\o1.guard=none/\o2.op=.call c/\o2.guard=none/\C.tt T=.slice e pR aS/\aO C st T a=.av (.ah (.ec q.o q.s q.t q.k q.off))/\
  st.O q.o=some (.deep q.s q.t q.xs)/\c.callee=.value (.func g)/\c.args.toList=[.tmp q.d1,x]/\C.bx g=some q.S/\aO C (st.mZ q) 0 x=.av (.ah (.d (.int q.i q.n)))/\Nat.blt q.d1 st.nt=true/\
  tq C (st.set q.d1 (bD .any)) e_=some (q.dF,q.v)/\q.dF≠q.d1:=by
 unfold rb at h;split at h
 ·rename_i T a d1 c zF iS gk j4 ot;split at h
  ·rename_i o s u k off a9;split at h
   ·rename_i aj t xs g d2 x M hc ji;split at h
    ·rename_i dF v hm;split at h
     ·rename_i e pR aS i n S aU hx gI;cases hb:(d2.beq d1&&aj.beq s&&decide (t=u)&&Nat.blt d1 st.nt&&!dF.beq d1) with
      |false=>rw[hb] at h;cases h
      |true=>
       rw[hb] at h;simp only[cond_true,Option.some.injEq] at h;simp only[Bool.and_eq_true,decide_eq_true_eq,Bool.not_eq_true'] at hb;obtain⟨⟨⟨⟨q1,q2⟩,dJ⟩,lP⟩,pT⟩:=hb;have q1:=Nat.eq_of_beq_eq_true q1;have q2:=Nat.eq_of_beq_eq_true q2;subst q1 q2 dJ h;exact⟨T,a,e,pR,aS,c,g,x,zF,iS,gk,j4,ot,aU,a9,M,hc,ji,gI,hx,lP,hm,fun e=>by
        have e:dF=_:=e;subst e;rw[Nat.beq_refl] at pT;cases pT⟩
     ·cases h
    ·cases h
   ·cases h
  ·cases h
 ·cases h
theorem YC(S:ae L J X B st tm w){C:Ctx}{e_:Oper}{dF:Nat}{v:aI}(h:tq C st e_=some (dF,v)){K:Act->World->Prop}{Q:Exit->Act->World->Prop}
  (bm:∀c',ae L J X B (st.set dF v) c' w->(∀t,t≠dF->c'.getD t undef=tm.getD t undef)->K ⟨c',[]⟩ w):e_.wp P ⟨tm,[]⟩ w K Q:=by
 obtain⟨x,ar,Y,hg,aY,rfl⟩:=H' h;refine l2 (vv:=Act.eval ⟨tm,[]⟩ x) ?_ (bm _ ?_ fun t aB=>?_)
 ·unfold execOp;simp only[ar,Sem.run_bind,Sem.run_pure]
 ·have lJ:b0 st e_.dst=true:=by rw[Y];exact aY
  have:=ae.cw (us:=[]) S lJ (cO S C e_.type x);rw[Y] at this ⊢;exact this
 ·rw[Y];have:dF≠t:=fun e=>aB e.symm
  simp[cc,Array.getD_eq_getD_getElem?,Array.getElem?_setIfInBounds_ne this]
theorem Xe(S:ae L J X B st tm w){C:Ctx}(ax:bb P C){o1 e_ o2:Oper}{q:pa}(aL:rb C st o1 e_ o2=some q){x:den q.t}(hx:q.xs[q.k]? =some x){u:aE}{ys:List (den u)}(hu:(enc q.t x)[q.off]? =some (.sl u ys))
  {K:Act->World->Prop} {Q:Exit->Act->World->Prop}
  (bm:∀c',ae L J X B (st.set q.d1 (bD .any)) c' w->(∀t,t≠q.d1->c'.getD t undef=tm.getD t undef)->(∃e v0 n1 n2 c1 c2,oY w (am X B st.sites) B q.o q.t q.xs q.k q.off x u ys e v0 (c'.getD q.d1 undef) n1 n2 c1 c2)->K ⟨c',[]⟩ w):o1.wp P ⟨tm,[]⟩ w K Q:=by
 obtain⟨T,a,p0,pR,aS,c,g,jz,zF,iS,gk,j4,ot,aU,a9,M,hc,ji,gI,Fs,aY,pz,hne⟩:=AR aL;have hl:look st.sites q.o=some (.deep q.s q.t q.xs):=M;obtain⟨e,v0,nv,n1,n2,c1,c2,N⟩:=S.ZK hl hx hu;have a':=cO S C T a;rw[a9] at a';obtain⟨b,hv,hr⟩:=a';obtain⟨n,aik,bI⟩:=Ref.at hr hl rfl;rw[N.sw] at bI;replace bI:v0=.slice (some ⟨b,0,none⟩) n aik:=bI
 have iI:w.cell? ⟨b,q.k*au q.t+q.off,none⟩=some nv:=by
  rcases N.row.2 with⟨h,_⟩|⟨cm,cap,cur,bn,h1,_,h2,_,_,_,Z⟩
  ·rw[h] at bI;cases bI
  ·rw[h1] at bI;cases bI;rw[cell_of_row w b _ cur e bn h2];have:(cur.toList.take (q.xs.length*au q.t))[q.k*au q.t+q.off]? =some nv:=by
    rw[Z,List.getElem?_append_right (by rw[N.len];exact Nat.le_refl _),N.len,Nat.sub_self]
    rfl
   rw[List.getElem?_take] at this;split at this
   ·simpa using this
   ·cases this
 have bv:=ax.tt T;rw[aU] at bv;have cC:=qa (P:=P) (w:=w) bv (by rintro h;cases h) ⟨b,q.k*au q.t+q.off,none⟩ [nv] rfl (fun j y ai=>by
  match j,ai with
  |0,ai=>
   simp only[List.getElem?_cons_zero,Option.some.injEq] at ai;subst ai;rw[f_,Nat.add_zero];exact iI)
 have abN:(cc tm o1.dst nv).getD q.d1 undef=nv:=by
  rw[iS];have:q.d1<tm.size:=by rw[S.nt];exact Nat.le_of_ble_eq_true aY
  simp[cc,Array.getD_eq_getD_getElem?,this]
 refine l2 (vv:=nv) ?_ (bm _ ?_ (fun t aB=>?_) ?_)
 ·unfold execOp;simp only[zF,Instr.loadAt,Instr.sureAddr,hv,Sem.run_bind,Sem.run_pure,Result.andThen_ok,cC];rfl
 ·have Y:b0 st o1.dst=true:=by rw[iS];exact aY
  have:=ae.cw (us:=[]) (v:=bD .any) (vv:=nv) S Y trivial;rw[iS] at this ⊢;exact this
 ·rw[iS];have:q.d1≠t:=fun e=>aB e.symm
  simp[cc,Array.getD_eq_getD_getElem?,Array.getElem?_setIfInBounds_ne this]
 ·rw[abN];exact⟨e,v0,n1,n2,c1,c2,N⟩
theorem Xd{c':Array Value}{C:Ctx}(ax:bb P C){o1 e_ o2:Oper}{q:pa}(aL:rb C st o1 e_ o2=some q)(S:ae L J X B (st.mZ q) c' w){x:den q.t}(hx:q.xs[q.k]? =some x){u:aE}{ys:List (den u)}(hu:(enc q.t x)[q.off]? =some (.sl u ys))
  {e:TypeId} {v0:Value} {n1 n2 c1 c2:List Value} (N:oY w (am X B st.sites) B q.o q.t q.xs q.k q.off x u ys e v0 (c'.getD q.d1 undef) n1 n2 c1 c2) {y:(q.S [.av (.ah (.fresh u ys)),.av (.ah (.d (.int q.i q.n)))]).H}
  (ai:(q.S [.av (.ah (.fresh u ys)),.av (.ah (.d (.int q.i q.n)))]).comp=some y) {d:aK} {bA:aE} {mm:List (den bA)} (h1:(q.S [.av (.ah (.fresh u ys)),.av (.ah (.d (.int q.i q.n)))]).eJ y=[.ah (.d d)]) (h2:(q.S [.av (.ah (.fresh u ys)),.av (.ah (.d (.int q.i q.n)))]).dx y=[])
  (Z:(q.S [.av (.ah (.fresh u ys)),.av (.ah (.d (.int q.i q.n)))]).ei y=[.fresh bA mm]) {cP:den q.t} (dS:dec q.t (bf (enc q.t x) q.off [.sl bA mm])=some cP) (mv:d.hA=true) (fS:bA.gM=false) (Y:b0 st o2.dst=true)
  {K:Act->World->Prop} {Q:Exit->Act->World->Prop}
  (bm:∀aw bH w',ae L J X aw (((st.mZ q).cw o2.dst (one d) [(q.o,.deep q.s q.t (q.xs.set q.k cP))])) bH w'->K ⟨bH,[]⟩ w'):o2.wp P ⟨c',[]⟩ w K Q:=by
 obtain⟨T,a,p0,pR,aS,c,g,jz,zF,iS,gk,j4,ot,aU,a9,M,hc,ji,gI,Fs,aY,pz,hne⟩:=AR aL;have hl:look (st.mZ q).sites q.o=some (.deep q.s q.t q.xs):=M;obtain⟨nv,uR⟩:∃nv,c'.getD q.d1 undef=nv:=⟨_,rfl⟩;rw[uR] at N;have N:oY w (am X B (st.mZ q).sites) B q.o q.t q.xs q.k q.off x u ys e v0 nv n1 n2 c1 c2:=N;generalize y1:st.mZ q=dB at S hl Fs N bm;have lJ:b0 dB o2.dst=true:=by rw[<-y1];exact Y
 obtain⟨ay,ao,be,b9⟩:=N.acs;have fx:bM dB.sites q.o:=⟨_,hl,rfl⟩;have ag:q.k<q.xs.length:=(List.getElem?_eq_some_iff.1 hx).1;have ar:q.off<au q.t:=by
  have:=(List.getElem?_eq_some_iff.1 hu).1;rwa[e3] at this
 have ob:=cO S C 0 jz;rw[Fs] at ob;have ab2:Act.eval ⟨c',[]⟩ jz=.int q.i q.n:=by
  have ob:a8 w _ (.int q.i q.n) (Act.eval ⟨c',[]⟩ jz):=ob;generalize Act.eval ⟨c',[]⟩ jz=v at ob;cases ob;rfl
 have hvs:c.args.toList.map (Act.eval ⟨c',[]⟩)=[nv,.int q.i q.n]:=by
  rw[ji];simp only[List.map_cons,List.map_nil,ab2];have:Act.eval ⟨c',[]⟩ (.tmp q.d1)=nv:=uR;rw[this]
 have cC:(execOp (Act.eval ⟨c',[]⟩) o2).run P w=(callFunc g #[nv,.int q.i q.n]).run P w:=by
  have hf:Act.eval ⟨c',[]⟩ (.func g)=.func (.func g) #[] #[]:=rfl;have pZ:(#[]++c.args.map (Act.eval ⟨c',[]⟩))++#[]=#[nv,.int q.i q.n]:=by
   apply Array.ext';simpa using hvs
  unfold execOp;simp only[j4,resolve,hc,hf,Deferred.ofValue,Sem.run_bind,Sem.run_pure,Result.andThen_ok,invoke,pZ]
 obtain⟨bY,U,kU,cY,du⟩:=N.mid;obtain⟨cR,oy⟩:∃cR,(bc nv).toList=cR:=⟨_,rfl⟩;have NA:∀b,b∈cR <-> bc nv=some b:=fun b=>by rw[<-oy];simp
 obtain⟨X',mw⟩:∃X':Nat->Prop,∀b,X' b <-> (am X B dB.sites b/\b∉cR):=⟨_,fun b=>Iff.rfl⟩
 have KO:∀{av bR:Nat->Prop} {w:World} {t:aE} {fG:List (den t)} {vs:List Value},(∀d,d∈flat t fG->d.plain=true)->b' w av (flat t fG) vs->b' w bR (flat t fG) vs:=fun an hr=>⟨hr.1,fun j g1 g2=>by
  have nk:=an _ (List.getElem_mem g1);refine sX ?_ (hr.2 j g1 g2);generalize(flat _ _)[j]=vx at nk ⊢;cases vx<;>first|rfl|cases nk⟩
 have YL:hM w (fun b=>X' b\/b∈cR) [.av (.ah (.fresh u ys)),.av (.ah (.d (.int q.i q.n)))] [nv,.int q.i q.n] cR:=
  ⟨cR,[],by simp,⟨oy.symm,bY,U,cY,KO kU du⟩,[],[],rfl,⟨rfl,.int _ _⟩,rfl⟩
 have acf:∀b,X' b->b<w.heap.size:=fun b hb=>S.lt ((mw b).1 hb).1
 have hG:ht w cR X':=by
  obtain⟨g1,g2⟩:=S.jD;refine⟨g1,fun b hb h=>?_,fun b hb h=>(g2 b hb).1 ((mw b).1 h).1,fun b hb=>(g2 b hb).2⟩
  exact(g2 b hb).1 (.inr ⟨q.o,fx,ay b ((NA b).1 h)⟩)
 have E:=ax.bx g q.S gI _ y ai w X' [nv,.int q.i q.n] cR YL (by rw[<-oy];cases bc nv<;>simp) (fun b hb hx=>((mw b).1 hx).2 hb) acf hG
 refine wh (vs:=[nv,.int q.i q.n]) cC E ?_
 rintro v w' ⟨dI,di,rv,aV,gl,e',rfl,ajs,hm⟩;obtain⟨hH,h3,rfl,hb1,hb2⟩:=gl;rw[h2] at hb1;rw[h1] at e';rw[Z] at hb2;have mu:eT [.av (.ah (.fresh u ys)),.av (.ah (.d (.int q.i q.n)))] [nv,.int q.i q.n]=[nv]:=by
  simp only[eT,bg.cells,fJ,aq.qz,Bool.and_true,cond_false,cond_true,List.append_nil,Bool.true_and];exact A_ (Ap cY)
 rw[mu] at hb2;have hb2:fN w' (fun b=>X' b\/b∈hH++h3++di) [.fresh bA mm] [nv] h3:=hb2.resolve_left fun h=>by cases h.1
 obtain⟨h4,eQ,hz,⟨uC,e2,aeR,_R,abK⟩,ajM⟩:=hb2;match rv,e' with
 |[v1],⟨a1,a2,ajv,iQ,FW⟩=>
 have iQ:a1=[]/\a8 w' _ d v1:=iQ;have afK:aq.gM (.d d)=false:=by cases d<;>first|rfl|cases mv
 have uP:∀av,a8 w' av d v1:=fun av=>sX afK iQ.2
 have yD:enc q.t cP=(enc q.t x).take q.off++.sl bA mm::(enc q.t x).drop (q.off+1):=by rw[mS _ _ _ dS,H4]
 have mi:flat q.t (q.xs.set q.k cP)=(flat q.t (q.xs.take q.k)++(enc q.t x).take q.off)++(.sl bA mm::((enc q.t x).drop (q.off+1)++flat q.t (q.xs.drop (q.k+1)))):=by
  rw[wg q.t ag,yD];simp only[List.append_assoc,List.cons_append]
 have yz:∀b,b<w.heap.size->bc nv≠some b->w'.heap[b]? =w.heap[b]? :=fun b hb hn=>aV.block b hb fun h=>hn ((NA b).1 h)
 have yV:∀b,b∈bu (B q.o)->b<w.heap.size:=fun b hb=>S.dP fx hb
 have uz:∀n,n∈n1\/n∈n2->∀b,bc n=some b->b∈bu (B q.o):=fun n hn b hb=>by
  rw[N.sw];exact iA.2 (.inr ⟨n,by simp only[List.mem_append,List.mem_cons];exact hn.imp id .inr,hb⟩)
 have G:=S.ug (o:=q.o) (bo:=.deep q.s q.t (q.xs.set q.k cP)) (nv:=B q.o) (w':=w') (ks:=[]) (K:=[q.o]) .nil (fun F=>by simp[keys];intro e;subst e;exact fx)
  (fun b hb hne=>yz b hb fun h=>hne q.o (by simp) (ay b h)) aV.os aV.tape aV.output aV.size rfl (fun O M=>by rw[hl] at M;cases M;exact .inr ⟨rfl,rfl⟩)
  (fun b hb=>⟨Nat.lt_of_lt_of_le (yV b hb) aV.size,.inl ⟨q.o,by simp,hb⟩⟩) (fun {ba aw} dy go=>?_)
 ·have DJ:(fun F=>if F=q.o then B q.o else B F)=B:=by funext F;by_cases e:F=q.o<;>simp[e]
  rw[DJ] at G;exact bm B _ w' (ae.cw (us:=[(q.o,.deep q.s q.t (q.xs.set q.k cP))]) G lJ (v:=one d) (uP _))
 ·have iT:∀{d v},a8 w (am X B dB.sites) d v->a8 _ (am X aw ba) d v:=jf go;refine⟨e,v0,n1++nv::n2,c1++nv::c2,dy.trans N.sw,by rw[dy];exact N.RB,?_,?_⟩
  ·rw[List.length_set];refine qf N.row fun b hb=>yz b (yV b ?_) (ao b hb)
   rw[N.sw];exact iA.2 (.inl hb)
  ·rw[mi];refine(N.d1.map iT fun n hn b hb=>yz b (yV b (uz n (.inl hn) b hb)) (be n hn b hb)).cw (.row bA mm e2 aeR (AD fS) _R (KO (AD fS) abK) (N.d2.map iT fun n hn b hb=>yz b (yV b (uz n (.inr hn) b hb)) (b9 n hn b hb)))
end
def ed(r:Option Nat):Fence:={Fence.wide with round:=r}
abbrev fI(r:Option Nat)(P:Program)(c:Code)(Q:Exit->Act->World->Prop)(a:Act)(w:World):Prop:=c.wpIn (ed r) 0 P Q a w
theorem yP(r:Option Nat)(f:FuncId):(ed r).fn f:=trivial
theorem Kz(r:Option Nat)(n:Nat):(ed r).room n:=fun _ h=>by simp[ed,Fence.wide] at h
theorem fI.any{r:Option Nat}{P:Program}{c:Code}{Q:Exit->Act->World->Prop}{a:Act}{w:World}(h:fI r P c Q a w)(n:Nat):c.wpIn (ed r) n P Q a w:=
 fun b k cs FE hb _=>h b k cs FE hb (Kz r _)
theorem fI.of{r:Option Nat}{P:Program}{c:Code}{Q:Exit->Act->World->Prop}{a:Act}{w:World}{n:Nat}(h:c.wpIn (ed r) n P Q a w):fI r P c Q a w:=
 fun b k cs FE hb _=>h b k cs FE hb (Kz r _)
theorem fI.wp{P:Program}{c:Code}{Q:Exit->Act->World->Prop}{a:Act}{w:World}(h:fI none P c Q a w):c.wp P Q a w:=(wpIn_wide (n:=0)).1 h
theorem UG{r:Option Nat}{n:Nat}{P:Program}{f:FuncId}{args:Array Value}{w:World}{R:Ending->World->Prop}(h:Calls P f args w R):CallsIn (ed r) n P f args w R:=by
 cases r with
 |none=>exact callsIn_wide.2 h
 |some l=>exact CallsIn.inRound l (callsIn_wide.2 h)
theorem Vr{r:Option Nat}{n:Nat}{P:Program}{row:String}{args:Array Value}{w:World}{R:Value->World->Prop}(h:Rows P row args w R):RowsIn (ed r) n P row args w R:=by
 intro c cs _;obtain⟨v,w',hr,M⟩:=h c cs;exact⟨v,w',hr,stepsIn_wide.2 M⟩
theorem sY(tm:Array Value)(ds:List Deferred)(dst:Option Nat)(v:Value):(⟨tm,ds⟩:Act).put dst v=⟨cc tm dst v,ds⟩:=by cases dst<;>rfl
theorem q'{P:Program}{D:Oper}{tm:Array Value}{w:World}{K:Act->World->Prop}(bm:∀a w,K a w->a.defers=[])(h:D.wp P ⟨tm,[]⟩ w K (fun _ _ _=>False))(r:Option Nat)(ds:List Deferred){Q:Exit->Act->World->Prop}:
  D.wpIn (ed r) 0 P ⟨tm,ds⟩ w (fun fa w'=>∃v,fa=⟨cc tm D.dst v,ds⟩/\K ⟨cc tm D.dst v,[]⟩ w') Q:=by
 refine⟨fun f _=>yP r f,?_⟩
 have a':(⟨tm,ds⟩:Act).eval=(⟨tm,[]⟩:Act).eval:=by funext x;cases x<;>rfl
 rw[a'];unfold Oper.wp at h;have Y:∀c,D.op≠.defer c:=by
  intro c ar;have:(execOp (Act.eval ⟨tm,[]⟩) D)=(do let d <-resolve (Act.eval ⟨tm,[]⟩) c D.type;pure (.defer d)):=by
   unfold execOp;simp only[ar]
  rw[this] at h;simp only[Sem.run_bind] at h;cases hr:(resolve (Act.eval ⟨tm,[]⟩) c D.type).run P w with
  |ok d w'=>
   rw[hr] at h;simp only[Result.andThen_ok,Sem.run_pure,Oper.upon] at h;have:=bm _ _ h;cases cZ:D.dst<;>rw[cZ] at this<;>simp[Act.put] at this
  |halt x w'=>
   rw[hr] at h;cases x<;>simp[Result.andThen,Oper.upon] at h
 rw[Oper.semAt_eq _ _ _ Y];generalize(execOp (Act.eval ⟨tm,[]⟩) D).run P w=eJ at h;have an:∀v,(⟨tm,ds⟩:Act).put D.dst v=⟨cc tm D.dst v,ds⟩:=sY tm ds D.dst;have nj:∀v,(⟨tm,[]⟩:Act).put D.dst v=⟨cc tm D.dst v,[]⟩:=sY tm [] D.dst;cases eJ with
 |ok x w'=>
  cases x with
  |value v=>simp only[Oper.upon,Oper.uponIn,nj] at h ⊢;exact⟨v,an v,h⟩
  |skip=>simp only[Oper.upon,Oper.uponIn,nj] at h ⊢;exact⟨undef,an _,h⟩
  |defer d=>
   simp only[Oper.upon] at h;have:=bm _ _ h;cases cZ:D.dst<;>rw[cZ] at this<;>simp[Act.put] at this
  |enter f args=>
   simp only[Oper.upon,Oper.uponIn] at h ⊢;refine⟨fun h=>by simp[ed,Fence.wide] at h,(UG h).mono fun e zh he=>?_⟩
   cases e with
   |returned v=>simp only[nj] at he;exact⟨v,an v,he⟩
   |panicked c=>exact he.elim
   |outgrown=>obtain⟨akn,L,aL⟩:=he;exact aL.elim
  |row row args=>
   simp only[Oper.upon,Oper.uponIn] at h ⊢;refine⟨fun h=>by simp[ed,Fence.wide] at h,(Vr h).mono fun v zh he=>?_⟩
   simp only[nj] at he;exact⟨v,an v,he⟩
  |_=>simp only[Oper.upon] at h
 |halt x w'=>
  cases x<;>simp only[Oper.upon] at h
def hB:List Oper->List Nat
 |[]=>[]
 |D::r=>D.dst.toList++hB r
def gJ:Nat:=1000000000
def cd:Code->List Nat
 |.region _ ops _=>hB ops.toList
 |.seq a b|.cond _ a b=>cd a++cd b
 |.block _ a|.loop a=>cd a
 |.rangeFunc _ ps a b=>gJ::(ps.toList++(cd a++cd b))
 |_=>[]
def gv:Code->Bool
 |.seq a b|.cond _ a b=>gv a&&gv b
 |.block _ a|.loop a=>gv a
 |.rangeFunc _ _ _ _=>false
 |_=>true
def mark(aK:Nat):Deferred:={target:=.collected aK,args:=#[]}
structure g7(L:World)(J:List Nat)(X:Nat->Prop)(bZ:World)(dh:List Nat)(cL:Nat->Prop):Prop where
 cn:∀w,Fr dh bZ w->Fr J L w
 b1:∀b,(b∈dh\/bZ.heap.size<=b)->(b∈J\/L.heap.size<=b)
 x:∀b,X b->cL b
structure Marks(L:World)(dk:List Nat)(bZ:World)(dh:List Nat)(cL:Nat->Prop):Prop where
 nodup:dk.Nodup
 new:∀aK,aK∈dk->L.heap.size<=aK
 gH:∀aK,aK∈dk->bZ.heap[aK]? =some (.deferred (some []))/\aK∉dh/\cL aK
def dX(L:World)(J:List Nat)(X:Nat->Prop)(ds:List Deferred)(eg:Array Value)(W:List Nat)(st:ab)(a:Act)(w:World):Prop:=
 ∃bZ dh cL B dk,g7 L J X bZ dh cL/\Marks L dk bZ dh cL/\(a.defers=dk.map mark++ds/\(gJ∉W->dk=[]))/\ae bZ dh cL B st a.tmps w/\∀t,t∉W->a.tmps.getD t undef=eg.getD t undef
def eU(L:World)(J:List Nat)(X:Nat->Prop)(ds:List Deferred)(eg:Array Value)(W:List Nat):Out->Exit->Act->World->Prop
 |.norm st,.normal,a,w=>dX L J X ds eg W st a w
 |.exit id st,.exit hY,a,w=>id=hY/\dX L J X ds eg W st a w
 |.ret st,.ret,a,w=>dX L J X ds eg W st a w
 |_,_,_,_=>False
theorem g7.refl(L:World)(J:List Nat)(X:Nat->Prop):g7 L J X L J X:=⟨fun _ h=>h,fun _ h=>h,fun _ h=>h⟩
theorem g7.trans{L bZ w2:World}{J dh ey:List Nat}{X cL cp:Nat->Prop}(h:g7 L J X bZ dh cL)(k:g7 bZ dh cL w2 ey cp):g7 L J X w2 ey cp:=
 ⟨fun w hw=>h.cn w (k.cn w hw),fun b hb=>h.b1 b (k.b1 b hb),fun b hb=>k.x b (h.x b hb)⟩
theorem Marks.nil(L bZ:World)(J:List Nat)(X:Nat->Prop):Marks L [] bZ J X:=⟨List.nodup_nil,fun _ h=>by simp at h,fun _ h=>by simp at h⟩
theorem Marks.lt{L bZ:World}{J:List Nat}{X:Nat->Prop}{dk:List Nat}(h:Marks L dk bZ J X){aK:Nat}(ek:aK∈dk):aK<bZ.heap.size:=by
 have:=(h.gH aK ek).1;exact(Array.getElem?_eq_some_iff.1 this).1
theorem Marks.trans{L bZ w2:World}{J dh ey:List Nat}{X cL cp:Nat->Prop}{dk z2:List Nat}(hb:g7 L J X bZ dh cL)(h:Marks L dk bZ dh cL)(k:g7 bZ dh cL w2 ey cp)(m:Marks bZ z2 w2 ey cp):
  Marks L (z2++dk) w2 ey cp:=by
 have hf:Fr dh bZ w2:=k.cn w2 (Fr.refl _ _);refine⟨List.nodup_append.2 ⟨m.nodup,h.nodup,fun a a9 b hb e=>?_⟩,fun aK ek=>?_,fun aK ek=>?_⟩
 ·subst e;have h1:=m.new a a9;have h2:=h.lt hb;omega
 ·rcases List.mem_append.1 ek with ek|ek
  ·have h1:=m.new aK ek;have h2:Fr J L bZ:=hb.cn bZ (Fr.refl _ _);have:=h2.size;omega
  ·exact h.new aK ek
 ·rcases List.mem_append.1 ek with ek|ek
  ·exact m.gH aK ek
  ·obtain⟨h1,h2,Z⟩:=h.gH aK ek;have aY:=h.lt ek;refine⟨(hf.block aK aY h2).trans h1,fun aH=>?_,k.x aK Z⟩
   rcases k.b1 aK (.inl aH) with bp|bp
   ·exact h2 bp
   ·omega
section
variable {L:World}{J:List Nat}{X:Nat->Prop}{ds:List Deferred}{eg:Array Value}{W:List Nat}
theorem dX.of{B:Nat->Value}{st:ab}{tm:Array Value}{w:World}(S:ae L J X B st tm w)(aB:∀t,t∉W->tm.getD t undef=eg.getD t undef):dX L J X ds eg W st ⟨tm,ds⟩ w:=
 ⟨L,J,X,B,[],g7.refl _ _ _,Marks.nil _ _ _ _,⟨rfl,fun _=>rfl⟩,S,aB⟩
theorem dX.mono{cN:List Nat}(h:∀t,t∈W->t∈cN){st:ab}{a:Act}{w:World}(k:dX L J X ds eg W st a w):dX L J X ds eg cN st a w:=by
 obtain⟨bZ,dh,cL,B,dk,h1,h2,Z,aH,bp⟩:=k;exact⟨bZ,dh,cL,B,dk,h1,h2,⟨Z.1,fun hn=>Z.2 fun aa=>hn (h _ aa)⟩,aH,fun t aB=>bp t fun aa=>aB (h t aa)⟩
theorem eU.mono{cN:List Nat}(h:∀t,t∈W->t∈cN):∀{D:Out} {e:Exit} {a:Act} {w:World},eU L J X ds eg W D e a w->eU L J X ds eg cN D e a w:=by
 intro D e a w k;cases D<;>cases e<;>first|exact dX.mono h k|exact⟨k.1,dX.mono h k.2⟩|exact k.elim
theorem dX.trans{bZ:World}{dh:List Nat}{cL:Nat->Prop}{dk:List Nat}{W1 iy:List Nat}{c':Array Value}(hb:g7 L J X bZ dh cL)(hm:Marks L dk bZ dh cL)(hr:gJ∉W1->dk=[])(aB:∀t,t∉W1->c'.getD t undef=eg.getD t undef)
  {st:ab} {a:Act} {w:World} (k:dX bZ dh cL (dk.map mark++ds) c' iy st a w):dX L J X ds eg (W1++iy) st a w:=by
 obtain⟨w2,ey,cp,B,z2,h1,h2,Z,aH,bp⟩:=k;refine⟨w2,ey,cp,B,z2++dk,hb.trans h1,hm.trans hb h1 h2,⟨by rw[Z.1,List.map_append,List.append_assoc],fun hn=>by
  simp only[List.mem_append,not_or] at hn;rw[Z.2 hn.2,hr hn.1];rfl⟩,aH,fun t Fy=>?_⟩
 simp only[List.mem_append,not_or] at Fy;rw[bp t Fy.2,aB t Fy.1]
theorem eU.trans{bZ:World}{dh:List Nat}{cL:Nat->Prop}{dk:List Nat}{W1 iy:List Nat}{c':Array Value}(hb:g7 L J X bZ dh cL)(hm:Marks L dk bZ dh cL)(hr:gJ∉W1->dk=[])(aB:∀t,t∉W1->c'.getD t undef=eg.getD t undef)
  {D:Out} {e:Exit} {a:Act} {w:World} (k:eU bZ dh cL (dk.map mark++ds) c' iy D e a w):eU L J X ds eg (W1++iy) D e a w:=by
 cases D<;>cases e<;>first|exact dX.trans hb hm hr aB k|exact⟨k.1,dX.trans hb hm hr aB k.2⟩|exact k.elim
end
def br(P:Program)(c:Code)(f:gE):Prop:=
 ∀r,r=none\/gv c=true->∀L J X st y,(f st).comp=some y->∀B tm w ds,ae L J X B st tm w->fI r P c (eU L J X ds tm (cd c) ((f st).out y)) ⟨tm,ds⟩ w
def fO(P:Program)(C:gS):Code->Nat->Prop
 |.seq a b,p=>(∀f,C.nd p=some f->br P (.seq a b) f)/\fO P C a (2*p)/\fO P C b (2*p+1)
 |.cond c a b,p=>(∀f,C.nd p=some f->br P (.cond c a b) f)/\fO P C a (2*p)/\fO P C b (2*p+1)
 |.block id a,p=>(∀f,C.nd p=some f->br P (.block id a) f)/\fO P C a (2*p)
 |c,p=>∀f,C.nd p=some f->br P c f
def fy:Code->Nat->List (Nat×Code)
 |.seq a b,p=>(p,.seq a b)::(fy a (2*p)++fy b (2*p+1))
 |.cond c a b,p=>(p,.cond c a b)::(fy a (2*p)++fy b (2*p+1))
 |.block id a,p=>(p,.block id a)::fy a (2*p)
 |c,p=>[(p,c)]
theorem Kg{P:Program}{C:gS}:∀(c:Code) (p:Nat),(∀q fk,(q,fk)∈fy c p->∀f,C.nd q=some f->br P fk f)->fO P C c p:=by
 intro c;induction c with
 |seq a b lx pn=>
  intro p h;simp only[fy] at h;exact⟨h p _ List.mem_cons_self,lx _ fun q fk hm=>h q fk (List.mem_cons_of_mem _ (List.mem_append.2 (.inl hm))),pn _ fun q fk hm=>h q fk (List.mem_cons_of_mem _ (List.mem_append.2 (.inr hm)))⟩
 |cond D a b lx pn=>
  intro p h;simp only[fy] at h;exact⟨h p _ List.mem_cons_self,lx _ fun q fk hm=>h q fk (List.mem_cons_of_mem _ (List.mem_append.2 (.inl hm))),pn _ fun q fk hm=>h q fk (List.mem_cons_of_mem _ (List.mem_append.2 (.inr hm)))⟩
 |block id a lx=>
  intro p h;simp only[fy] at h;exact⟨h p _ List.mem_cons_self,lx _ fun q fk hm=>h q fk (List.mem_cons_of_mem _ hm)⟩
 |_=>intro p h;exact h p _ (by simp[fy])
section
variable {P:Program}{L:World}{J:List Nat}{X:Nat->Prop}{B:Nat->Value}{st:ab}{tm:Array Value}{w:World}
theorem ae.k8(S:ae L J X B st tm w){t:Nat}{v:aI}(hv:b4 B st.sites w (am X B st.sites) v (tm.getD t undef)):ae L J X B (st.set t v) tm w:=by
 refine⟨S.nt,fun u=>?_,S.sites,S.c8,S.b1,S.frame,S.old,S.eM⟩
 rw[ab.oT];by_cases h:t=u
 ·subst h;simp only[if_true];exact hv
 ·simp only[h,if_false];exact S.cz u
variable {R:Type}{C:Ctx}{ops:Array Oper}
theorem IK(S:ae L J X B st tm w)(ax:bb P C){D:Oper}{K:ab->Option R}{r:R}(h:jM C st D K=some r){N:Act->World->Prop}{Q:Exit->Act->World->Prop}
  (bm:∀ad aw bH w',K ad=some r->ae L J X aw ad bH w'->N ⟨bH,[]⟩ w'):D.wp P ⟨tm,[]⟩ w N Q:=by
 unfold jM at h;cases Y:b0 st D.dst with
 |false=>simp[Y] at h
 |true=>
  simp only[Y,cond_true] at h;have M:=XW S ax Y;cases hc:(step C st D).comp with
  |none=>simp[hc] at h
  |some y=>
   simp only[hc,Option.bind_some] at h;cases ag:(step C st D).pM y with
   |false=>simp[ag] at h
   |true=>
    simp only[ag,cond_true] at h;exact M y hc ag N Q fun aw bH w' bS=>bm _ aw bH w' h bS
theorem T7{T e:TypeId}(h:P.underlying T=some (.slice e))(a:Option Addr)(n c:Nat)(neg:Bool):
  (binOp (if neg then .neq else .eql) T (.slice a n c) (.slice none 0 0)).run P w=.ok (.bool (if neg then !a.isNone else a.isNone)) w:=by
 have e:(Op.equal T (.slice a n c) (.slice none 0 0)).run P w=.ok a.isNone w:=by
  have key:∀d:Nat,(Op.equalIn (d+1) T (.slice a n c) (.slice none 0 0)).run P w=.ok a.isNone w:=fun d=>by cases a<;>simp[Op.equalIn,run_underlying h]
  exact key 9999
 cases neg
 ·show((do pure (.bool (<-Op.equal T (.slice a n c) (.slice none 0 0)))):Sem Value).run P w=_
  simp only[Sem.run_bind,e,Result.andThen_ok,Sem.run_pure];rfl
 ·show((do pure (.bool (!(<-Op.equal T (.slice a n c) (.slice none 0 0))))):Sem Value).run P w=_
  simp only[Sem.run_bind,e,Result.andThen_ok,Sem.run_pure];rfl
theorem R9{op:BinOp}{T:TypeId}{x y:Operand}{a b:Option Addr}{n c k2 fk:Nat}:(eqGuard op T x y (.slice a n c) (.slice b k2 fk)).run P w=.ok () w:=by
 unfold eqGuard;cases op<;>rfl
theorem Uh{D:Oper}{t:aE}{xs:List (den t)}{neg:Bool}(h:C8 C st D=some (⟨t,xs⟩,neg)):∃T x mz e ty bytes,D.op=.binOp (if neg then .neq else .eql) T x (.const (.slice none 0 0)) mz/\C.tt T=.slice e ty bytes/\aO C st T x=.av (.ah (.d (.sl t xs))):=by
 unfold C8 at h;split at h
 ·rename_i op T x mz ar;split at h
  ·rename_i e ty bytes aU;split at h
   ·split at h
    ·rename_i a7 g8 hx;cases h;exact⟨T,x,mz,e,ty,bytes,ar,aU,hx⟩
    ·cases h
   ·split at h
    ·rename_i a7 g8 hx;cases h;exact⟨T,x,mz,e,ty,bytes,ar,aU,hx⟩
    ·cases h
   ·cases h
  ·cases h
 ·cases h
theorem Sl{t:aE}{xs:List (den t)}{a b:Option R}{r:R}(h:oM xs a b=some r):b=some r/\(xs=[]->a=some r):=by
 unfold oM at h;split at h
 ·rename_i Qo;exact⟨h,fun he=>(Qo he).trans h⟩
 ·cases h
theorem WS(S:ae L J X B st tm w)(ax:bb P C){D:Oper}{K:ab->Option R}{r:R}(h:tE C st D K=some r){N:Act->World->Prop}{Q:Exit->Act->World->Prop}
  (bm:∀ad aw bH w',K ad=some r->ae L J X aw ad bH w'->N ⟨bH,[]⟩ w'):D.wp P ⟨tm,[]⟩ w N Q:=by
 unfold tE at h;split at h
 ·rename_i t xs neg hn;cases Y:b0 st D.dst with
  |false=>simp[Y] at h
  |true=>
   simp only[Y,cond_true] at h;obtain⟨h2,h1⟩:=Sl h;obtain⟨T,x,mz,e,ty,bytes,ar,aU,hx⟩:=Uh hn;have M:=cO S C T x;rw[hx] at M;have bv:=ax.tt T;rw[aU] at bv;have run:∀{a:Option Addr} {n c:Nat},Act.eval ⟨tm,[]⟩ x=.slice a n c->(execOp (Act.eval ⟨tm,[]⟩) D).run P w=.ok (.value (.bool (if neg then !a.isNone else a.isNone))) w:=by
    intro a n c hv;unfold execOp;have hc:Act.eval ⟨tm,[]⟩ (.const (.slice none 0 0))=.slice none 0 0:=rfl;simp only[ar,hv,hc,Sem.run_bind,R9,T7 bv.1.1,Result.andThen_ok,Sem.run_pure]
   have fin:∀b:Bool,(execOp (Act.eval ⟨tm,[]⟩) D).run P w=.ok (.value (.bool b)) w->K (st.cw D.dst (one (.bool b)) [])=some r->D.wp P ⟨tm,[]⟩ w N Q:=by
    intro b hr ag;refine l2 hr (bm _ _ _ _ ag (ae.cw (us:=[]) S Y ?_));exact a8.bool b
   have M:a8 w (am X B st.sites) (.sl t xs) (Act.eval ⟨tm,[]⟩ x):=M;generalize hR:Act.eval ⟨tm,[]⟩ x=v at M;cases M with
   |nil=>
    have:=run hR;cases neg
    ·exact fin true this (h1 rfl)
    ·exact fin false this (h1 rfl)
   |sl t xs a cap cs n eY hcap hb hl hc hr=>
    have:=run hR;cases neg
    ·exact fin false this h2
    ·exact fin true this h2
 ·exact IK S ax h bm
theorem Vl(S:ae L J X B st tm w){D:Oper}{K:ab->Option R}{r:R}(h:qR st D K=some r){N:Act->World->Prop}
  (bm:∀ad aw bH w',K ad=some r->ae L J X aw ad bH w'->N ⟨bH,[]⟩ w'):N ((⟨tm,[]⟩:Act).put D.dst undef) w:=by
 unfold qR at h;cases Y:b0 st D.dst with
 |false=>simp[Y] at h
 |true=>
  simp only[Y,cond_true] at h;have:(⟨tm,[]⟩:Act).put D.dst undef=⟨cc tm D.dst undef,[]⟩:=by cases D.dst<;>rfl
  rw[this];exact bm _ _ _ _ h (ae.cw (us:=[]) S Y rfl)
theorem gY{tm:Array Value}{dst:Option Nat}{v:Value}{t:Nat}(h:t∉dst.toList):(cc tm dst v).getD t undef=tm.getD t undef:=by
 cases dst with
 |none=>rfl
 |some d=>
  have:d≠t:=fun e=>h (by simp[e])
  simp[cc,Array.getD_eq_getD_getElem?,Array.getElem?_setIfInBounds_ne this]
variable {rn:Option Nat}{ds:List Deferred}
theorem Bm(S:ae L J X B st tm w)(ax:bb P C){D:Oper}{K:ab->Option R}{r:R}(h:tE C st D K=some r){N:Act->World->Prop}{Q:Exit->Act->World->Prop}
  (bm:∀ad aw bH w',K ad=some r->ae L J X aw ad bH w'->(∀t,t∉D.dst.toList->bH.getD t undef=tm.getD t undef)->N ⟨bH,ds⟩ w'):D.wpIn (ed rn) 0 P ⟨tm,ds⟩ w N Q:=by
 refine Oper.wpIn_mono ?_ (q' (K:=fun a w=>a.defers=[]/\∃ad aw,K ad=some r/\ae L J X aw ad a.tmps w) (fun _ _ h=>h.1) (WS S ax h fun ad aw bH w' ag bS=>⟨rfl,ad,aw,ag,bS⟩) rn ds)
 rintro a w' ⟨v,rfl,_,ad,aw,ag,bS⟩;exact bm ad aw _ w' ag bS fun t aB=>gY aB
theorem mI(S:ae L J X B st tm w)(ax:bb P C){D:Oper}{K:ab->Option R}{r:R}(h:jM C st D K=some r){N:Act->World->Prop}{Q:Exit->Act->World->Prop}
  (bm:∀ad aw bH w',K ad=some r->ae L J X aw ad bH w'->(∀t,t∉D.dst.toList->bH.getD t undef=tm.getD t undef)->N ⟨bH,ds⟩ w'):D.wpIn (ed rn) 0 P ⟨tm,ds⟩ w N Q:=by
 refine Oper.wpIn_mono ?_ (q' (K:=fun a w=>a.defers=[]/\∃ad aw,K ad=some r/\ae L J X aw ad a.tmps w) (fun _ _ h=>h.1) (IK S ax h fun ad aw bH w' ag bS=>⟨rfl,ad,aw,ag,bS⟩) rn ds)
 rintro a w' ⟨v,rfl,_,ad,aw,ag,bS⟩;exact bm ad aw _ w' ag bS fun t aB=>gY aB
theorem vU(S:ae L J X B st tm w){D:Oper}{K:ab->Option R}{r:R}(h:qR st D K=some r){N:Act->World->Prop}
  (bm:∀ad aw bH w',K ad=some r->ae L J X aw ad bH w'->(∀t,t∉D.dst.toList->bH.getD t undef=tm.getD t undef)->N ⟨bH,ds⟩ w'):N ((⟨tm,ds⟩:Act).put D.dst undef) w:=by
 rw[sY];refine Vl (N:=fun a w=>∀t0,a.tmps=t0->t0=cc tm D.dst undef->N ⟨t0,ds⟩ w) S h (fun ad aw bH w' ag bS t0 e1 e2=>?_) (cc tm D.dst undef) (by rw[sY]) rfl
 subst e1;exact bm ad aw _ w' ag bS fun t aB=>by have e2:bH=cc tm D.dst undef:=e2;rw[e2];exact gY aB
theorem Tm{D:Oper}{r:List Oper}{K:ab->Option R}{y:R}(h:l5 C ops (D::r) st K=some y):tf C ops st D (fun ad=>l5 C ops r ad K)=some y\/
  ∃e_ o2 r2 q,r=e_::o2::r2/\rb C st D e_ o2=some q/\Ki st o2 q (fun ad=>l5 C ops r2 ad K)=some y:=by
 match r,h with
 |[],h=>exact .inl h
 |[o2],h=>exact .inl h
 |e_::o2::r2,h=>
  simp only[l5] at h;split at h
  ·rename_i q aL;exact .inr ⟨e_,o2,r2,q,rfl,aL,h⟩
  ·exact .inl h
theorem Vq(ax:bb P C){r:R}{W:List Nat}:∀(n k:Nat),ops.size=k+n->(∀D,D∈ops.toList.drop k->∀t,t∈D.dst.toList->t∈W)->∀(st:ab) (B:Nat->Value) (tm:Array Value) (w:World) (K:ab->Option R) (Q:Exit->Act->World->Prop),ae L J X B st tm w->
  l5 C ops (ops.toList.drop k) st K=some r->(∀ad aw bH w',K ad=some r->ae L J X aw ad bH w'->(∀t,t∉W->bH.getD t undef=tm.getD t undef)->Q .normal ⟨bH,ds⟩ w')->wpOpsIn (ed rn) 0 P ops Q (List.range' k n) ⟨tm,ds⟩ w:=by
 intro n;induction n using Nat.strongRecOn with
 |ind n ih=>
 intro k ag hW st B tm w K Q S h bm;match n,ih,ag with
 |0,ih,ag=>
  rw[List.drop_eq_nil_of_le (by simp;omega)] at h
  exact bm st B tm w h S fun _ _=>rfl
 |n+1,ih,ag=>
  have aY:k<ops.size:=by omega
  have ar:ops[k]? =some ops[k]:=Array.getElem?_eq_getElem aY;have DM:ops.toList.drop k=ops[k]::ops.toList.drop (k+1):=by
   rw[List.drop_eq_getElem_cons (by simpa using aY)];simp
  rw[DM] at h hW;rw[show List.range' k (n+1)=k::List.range' (k+1) n from rfl]
  simp only[wpOpsIn,ar];rcases Tm h with h|⟨e_,o2,r2,q,uO,aL,h⟩
  rotate_left
  ·-- three at aji
   have iL:k+1<ops.size/\k+2<ops.size:=by
    have:=congrArg List.length uO;simp at this;omega
   have j4:ops[k+1]? =some (ops[k+1]'iL.1):=Array.getElem?_eq_getElem iL.1;have P':ops[k+2]? =some (ops[k+2]'iL.2):=Array.getElem?_eq_getElem iL.2;have ZR:ops.toList.drop (k+1)=(ops[k+1]'iL.1)::(ops[k+2]'iL.2)::ops.toList.drop (k+3):=by
    rw[List.drop_eq_getElem_cons (by simpa using iL.1),List.drop_eq_getElem_cons (by simpa using iL.2)];simp
   rw[ZR] at uO hW;obtain⟨e1,afm⟩:=List.cons.inj uO;obtain⟨e2,bK⟩:=List.cons.inj afm;subst e1 e2 bK;obtain⟨k2,rfl⟩:∃k2,n=k2+2:=⟨n-2,by omega⟩
   have zR:=hW _ List.mem_cons_self;have Qp:=hW _ (List.mem_cons_of_mem _ List.mem_cons_self);have NX:=hW _ (List.mem_cons_of_mem _ (List.mem_cons_of_mem _ List.mem_cons_self));have u6:=fun D ar=>hW D (List.mem_cons_of_mem _ (List.mem_cons_of_mem _ (List.mem_cons_of_mem _ ar)))
   generalize(ops[k+1]'iL.1)=e_ at aL Qp j4;generalize(ops[k+2]'iL.2)=o2 at h aL NX P';generalize ops[k]=D at aL zR ⊢;obtain⟨_,_,_,_,_,_,_,_,_,iS,gk,_,ot,_,_,_,_,_,_,_,_,pz,hne⟩:=AR aL;obtain⟨_,_,ajP,afF,_,_⟩:=H' pz;rw[if_pos (by simp[Region.wanted,gk])]
   obtain⟨x,hx,h⟩:=Option.bind_eq_some_iff.1 h;split at h
   ·rename_i u ys hu;obtain⟨y,ai,h⟩:=Option.bind_eq_some_iff.1 h;unfold LX at h;split at h
    ·rename_i d bA mm h1 h2 Z;split at h
     ·rename_i cP dS;cases hb:(d.hA&&!bA.gM&&b0 st o2.dst) with
      |false=>rw[hb] at h;cases h
      |true=>
       rw[hb] at h;simp only[cond_true] at h;simp only[Bool.and_eq_true,Bool.not_eq_true'] at hb;obtain⟨⟨aS,aG⟩,bL⟩:=hb;refine Oper.wpIn_mono ?_ (q' (K:=fun a bZ=>a.defers=[]/\bZ=w/\ae L J X B (st.set q.d1 (bD .any)) a.tmps w/\(∀t,t≠q.d1->a.tmps.getD t undef=tm.getD t undef)/\
        ∃e v0 n1 n2 c1 c2,oY w (am X B st.sites) B q.o q.t q.xs q.k q.off x u ys e v0 (a.tmps.getD q.d1 undef) n1 n2 c1 c2) (fun _ _ h=>h.1) (Xe S ax aL hx hu fun c' q1 q2 dJ=>⟨rfl,rfl,q1,q2,dJ⟩) rn ds)
       rintro a bZ ⟨v,rfl,_,rfl,cT,kept,e,v0,n1,n2,c1,c2,N⟩;rw[show List.range' (k+1) (k2+2)=(k+1)::(k+2)::List.range' (k+3) k2 from rfl]
       simp only[wpOpsIn,j4,P'];rw[if_pos (by simp[Region.wanted,afF])]
       refine Oper.wpIn_mono ?_ (q' (K:=fun a w2=>a.defers=[]/\w2=bZ/\ae L J X B (st.mZ q) a.tmps bZ/\(∀t,t≠q.dF->a.tmps.getD t undef=(cc tm D.dst v).getD t undef)) (fun _ _ h=>h.1) (YC cT pz fun c' q1 q2=>⟨rfl,rfl,q1,q2⟩) rn ds)
       rintro a w2 ⟨v1,rfl,_,rfl,agI,_M⟩;rw[if_pos (by simp[Region.wanted,ot])]
       rw[<-_M q.d1 (fun e=>hne e.symm)] at N
       refine Oper.wpIn_mono ?_ (q' (K:=fun a bZ=>a.defers=[]/\∃aw,ae L J X aw (((st.mZ q).cw o2.dst (one d) [(q.o,.deep q.s q.t (q.xs.set q.k cP))])) a.tmps bZ) (fun _ _ h=>h.1)
        (Xd ax aL agI hx hu N ai h1 h2 Z dS aS aG bL fun aw bH w' bS=>⟨rfl,aw,bS⟩) rn ds)
       rintro a h6 ⟨v2,rfl,_,aw,fH⟩;refine ih k2 (by omega) (k+3) (by omega) u6 _ aw _ h6 K Q fH h fun pm fC mn ahN hF gn uL=>bm pm fC mn ahN hF gn fun t pt=>?_
       rw[uL t pt,gY fun aa=>pt (NX t aa),gY fun aa=>pt (Qp t aa)]
       exact gY fun aa=>pt (zR t aa)
     ·cases h
    ·cases h
   ·cases h
  have zR:=hW _ List.mem_cons_self;have u6:=fun D ar=>hW D (List.mem_cons_of_mem _ ar)
  have next:∀ad aw bH w',l5 C ops (ops.toList.drop (k+1)) ad K=some r->ae L J X aw ad bH w'->(∀t,t∉(ops[k]).dst.toList->bH.getD t undef=tm.getD t undef)->wpOpsIn (ed rn) 0 P ops Q (List.range' (k+1) n) ⟨bH,ds⟩ w':=
   fun ad aw bH w' aa bS aB=>ih n (by omega) (k+1) (by omega) u6 ad aw bH w' K Q bS aa fun pm fC mn w2 hF fH uL=>bm pm fC mn w2 hF fH fun t pt=>(uL t pt).trans (aB t fun aa=>pt (zR t aa))
  generalize ops[k]=D at h next ⊢
  have ny:∀f,D.about P w (Act.eval ⟨tm,ds⟩)=some f->(ed rn).fn f:=fun f _=>yP rn f
  unfold tf at h;cases hg:D.guard with
  |none=>
   simp only[hg] at h;rw[if_pos (by simp[Region.wanted,hg])]
   exact Bm S ax h next
  |some GH=>
   obtain⟨j,want⟩:=GH;simp only[hg] at h;have hw:Region.wanted D (yielded ops tm)=(yielded ops tm j==some want):=by simp[Region.wanted,hg]
   cases hj:(ops[j]?).bind (·.dst) with
   |none=>simp[hj] at h
   |some t=>
    simp only[hj] at h;have ii:=S.cz t;split at h
    ·rename_i b hb;rw[hb] at ii;have hv:=iD ii;have ai:yielded ops tm j=some b:=by
      have aB:t<tm.size:=by
       rcases Nat.lt_or_ge t tm.size with aa|aa
       ·exact aa
       ·simp[Array.getD,Nat.not_lt.2 aa,undef] at hv
      have:tm[t]? =some (.bool b):=by
       rw[Array.getElem?_eq_getElem aB];simpa[Array.getD,aB] using hv
      simp[yielded,hj,this]
     rw[ai] at hw;have go:∀a3,b=a3->ae L J X B (st.set t (one (.bool a3))) tm w:=fun a3 e=>S.k8 (by rw[hv,e];exact .bool _)
     cases b<;>cases want<;>simp only[cond_true,cond_false,Bool.not_true,Bool.not_false] at h
     ·rw[if_pos (by rw[hw];rfl)];exact Bm (go false rfl) ax h next
     ·rw[if_neg (by rw[hw];decide)];exact⟨ny,vU (go false rfl) h next⟩
     ·rw[if_neg (by rw[hw];decide)];exact⟨ny,vU (go true rfl) h next⟩
     ·rw[if_pos (by rw[hw];rfl)];exact Bm (go true rfl) ax h next
    ·rename_i x hb;rw[hb] at ii;have hv:tm.getD t undef=.tuple x:=ii;have ai:yielded ops tm j=none:=by
      simp only[yielded,hj,Option.bind_some];cases aB:tm[t]? with
      |none=>rfl
      |some v=>
       have:tm.getD t undef=v:=by simp[Array.getD_eq_getD_getElem?,aB]
       rw[this] at hv;rw[hv]
     rw[ai] at hw;rw[if_neg (by rw[hw];simp)]
     exact⟨ny,vU S h next⟩
    ·cases h
end
abbrev nC:=Nat⊕Nat
def dG(st:ab):nC->aI⊕Option Site
 |.inl t=>.inl (st.get t)
 |.inr o=>.inr (st.O o)
def mL{az:Type}:List (Nat×az)->Nat->Option az
 |[],_=>none
 |(k,v)::r,n=>match mL r n with
  |some x=>some x
  |none=>bif k.beq n then some v else none
def Rec.wr(x:Rec):nC->Option (aI⊕Option Site)
 |.inl t=>match x.D.dst with
  |some d=>bif d.beq t then some (.inl x.v) else none
  |none=>none
 |.inr o=>(mL x.us o).map fun s=>.inr (some s)
theorem Va:∀(us:List (Nat×Site)) (st:ab) (o:Nat),(st.g5 us).O o=match mL us o with|some s=>some s|none=>st.O o:=by
 intro us;induction us with
 |nil=>intro st o;rfl
 |cons p us ih=>
  obtain⟨k,s⟩:=p;intro st o;simp only[ab.g5,ih,mL];cases mL us o with
  |some x=>rfl
  |none=>
   simp only[ab.lV];by_cases h:k=o
   ·subst h;simp
   ·simp[h,iN h]
theorem I':∀(us:List (Nat×Site)) (st:ab) (t:Nat),(st.g5 us).get t=st.get t:=by
 intro us;induction us with
 |nil=>intro st t;rfl
 |cons p us ih=>intro st t;simp only[ab.g5,ih,ab.TD]
theorem JU:∀(us:List (Nat×Site)) (st:ab),(st.g5 us).nt=st.nt:=by
 intro us;induction us with
 |nil=>intro st;rfl
 |cons p us ih=>intro st;simp only[ab.g5,ih,ab.Ug]
theorem Dy(st:ab)(d:Option Nat)(v:aI)(us:List (Nat×Site)):(st.cw d v us).nt=st.nt:=by
 cases d<;>simp only[ab.cw,ab.ZJ,JU]
theorem wj(st:ab)(x:Rec)(l:nC):dG (st.cw x.D.dst x.v x.us) l=match x.wr l with|some u=>u|none=>dG st l:=by
 cases l with
 |inl t=>
  simp only[dG,Rec.wr];cases x.D.dst with
  |none=>simp only[ab.cw,I']
  |some d=>
   simp only[ab.cw,ab.oT,I'];by_cases h:d=t
   ·subst h;simp
   ·simp[h,iN h]
 |inr o=>
  simp only[dG,Rec.wr];have:(st.cw x.D.dst x.v x.us).O o=(st.g5 x.us).O o:=by cases x.D.dst<;>simp only[ab.cw,ab.WP]
  rw[this,Va];cases mL x.us o<;>rfl
def dQ(ap:Nat->Bool):Nat->List Rec->ab->ab
 |_,[],st=>st
 |k,x::r,st=>dQ ap (k+1) r (bif ap k then st.cw x.D.dst x.v x.us else st)
theorem BK{ap:Nat->Bool}:∀{xs:List Rec} {k:Nat} {st:ab},(dQ ap k xs st).nt=st.nt:=by
 intro xs;induction xs with
 |nil=>intro k st;rfl
 |cons x xs ih=>intro k st;simp only[dQ,ih];cases ap k<;>simp[Dy]
theorem AF{ap L':Nat->Bool}:∀{xs:List Rec} {k:Nat} {st ad:ab} {l:nC},dG st l=dG ad l->(∀j x,xs[j]? =some x->x.wr l≠none->ap (k+j)=L' (k+j))->dG (dQ ap k xs st) l=dG (dQ L' k xs ad) l:=by
 intro xs;induction xs with
 |nil=>intro k st ad l h _;exact h
 |cons x xs ih=>
  intro k st ad l h dV;simp only[dQ];refine ih ?_ fun j y ai hw=>?_
  ·cases hw:x.wr l with
   |none=>
    have e1:∀s:ab,dG (s.cw x.D.dst x.v x.us) l=dG s l:=fun s=>by rw[wj,hw]
    cases ap k<;>cases L' k<;>simp only[cond_true,cond_false,e1,h]
   |some u=>
    have:=dV 0 x rfl (by rw[hw];intro h;cases h)
    simp only[Nat.add_zero] at this;rw[this];cases L' k with
    |true=>simp only[cond_true,wj,hw]
    |false=>simp only[cond_false,h]
  ·have:=dV (j+1) y (by simpa using ai) hw
   rw[show k+(j+1)=k+1+j from by omega] at this
   exact this
theorem AG{xs:List Rec}:∀{k:Nat} {st:ab} {ap:Nat->Bool},(∀j,k<=j->ap j=false)->dQ ap k xs st=st:=by
 induction xs with
 |nil=>intro k st ap _;rfl
 |cons x xs ih=>
  intro k st ap h;simp only[dQ,h k (Nat.le_refl _),cond_false];exact ih fun j hj=>h j (by omega)
theorem HV{ap L':Nat->Bool}:∀{xs:List Rec} {k k':Nat} {st:ab},(∀j,j<xs.length->ap (k+j)=L' (k'+j))->dQ ap k xs st=dQ L' k' xs st:=by
 intro xs;induction xs with
 |nil=>intro k k' st _;rfl
 |cons x xs ih=>
  intro k k' st h;simp only[dQ];have aQ:=h 0 (by simp)
  simp only[Nat.add_zero] at aQ;rw[aQ];exact ih fun j hj=>by have:=h (j+1) (by simpa using hj);rw[show k+(j+1)=k+1+j from by omega,show k'+(j+1)=k'+1+j from by omega] at this;exact this
theorem UJ{ap:Nat->Bool}:∀{xs:List Rec} {k i:Nat} {st:ab} {l:nC} {x:Rec} {u:aI⊕Option Site},xs[i]? =some x->ap (k+i)=true->x.wr l=some u->
  (∀j y,i<j->xs[j]? =some y->y.wr l≠none->ap (k+j)=false)->dG (dQ ap k xs st) l=u:=by
 intro xs;induction xs with
 |nil=>intro k i st l x u h;cases h
 |cons y xs ih=>
  intro k i st l x u h dV hw hj;simp only[dQ];cases i with
  |zero=>
   simp only[List.getElem?_cons_zero,Option.some.injEq] at h;subst h;simp only[Nat.add_zero] at dV;rw[dV];simp only[cond_true];have e:dG (st.cw y.D.dst y.v y.us) l=u:=by rw[wj,hw]
   rw[<-e];have e2:st.cw y.D.dst y.v y.us=dQ (fun _=>false) (k+1) xs (st.cw y.D.dst y.v y.us):=(AG fun _ _=>rfl).symm
   conv=>rhs;rw[e2]
   refine AF rfl fun j z hz Ft=>?_
   have:=hj (j+1) z (by omega) (by simpa using hz) Ft
   rw[show k+(j+1)=k+1+j from by omega] at this
   exact this
  |succ i=>
   refine ih (by simpa using h) (by rw[show k+1+i=k+(i+1) from by omega];exact dV) hw fun j z oo hz Ft=>?_
   have:=hj (j+1) z (by omega) (by simpa using hz) Ft
   rw[show k+(j+1)=k+1+j from by omega] at this
   exact this
section
variable {P:Program}{ops:Array Oper}
def zd(ops:Array Oper)(ap:Nat->Bool)(i:Nat):Prop:=∀D,ops[i]? =some D->∀e,e∈D.after.toList->Region.binds .any e=true->ap e.on=true
def yu(ops:Array Oper)(ap:Nat->Bool):Prop:=∀j,ap j=true->zd ops ap j
def sq(ops:Array Oper)(k i:Nat):Prop:=∀ap,yu ops ap->zd ops ap i->ap k=true
theorem Kn{az:Type}{l:List (Nat×az)}{n:Nat}{v:az}(h:look l n=some v):(n,v)∈l:=by
 induction l with
 |nil=>cases h
 |cons p l ih=>
  obtain⟨m,u⟩:=p;simp only[look] at h;cases hb:m.beq n with
  |true=>
   simp only[hb,cond_true,Option.some.injEq] at h;rw[<-Nat.eq_of_beq_eq_true hb,h];exact List.mem_cons_self
  |false=>simp only[hb,cond_false] at h;exact List.mem_cons_of_mem _ (ih h)
theorem XI{bV:List (Nat×Rec×List Nat)}(a9:∀k x b,(k,x,b)∈bV->∀m,m∈b->sq ops m k){i:Nat}:∀{es:List Edge} {m:Nat},m∈lg bV es->∀ap,yu ops ap->
  (∀e,e∈es->Region.binds .any e=true->ap e.on=true)->ap m=true:=by
 intro es;induction es with
 |nil=>intro m h;cases h
 |cons e es ih=>
  intro m h ap hc hf;simp only[lg] at h;cases hb:Region.binds .any e with
  |false=>
   simp only[hb,cond_false] at h;exact ih h ap hc fun bY lI=>hf bY (List.mem_cons_of_mem _ lI)
  |true=>
   simp only[hb,cond_true] at h;have aQ:=hf e List.mem_cons_self hb;split at h
   ·rename_i x hx;rcases List.mem_cons.1 h with rfl|h
    ·exact aQ
    ·rcases List.mem_append.1 h with h|h
     ·have hm:(e.on,x)∈bV:=Kn hx;obtain⟨pP,jz⟩:=x;exact a9 _ _ _ hm m h ap hc (hc _ aQ)
     ·exact ih h ap hc fun bY lI=>hf bY (List.mem_cons_of_mem _ lI)
   ·exact ih h ap hc fun bY lI=>hf bY (List.mem_cons_of_mem _ lI)
structure ru(C:Ctx)(ops:Array Oper)(st:ab)(D:Oper)(x:Rec):Prop where
 gH:x.D=D
 guard:∀j want,D.guard=some (j,want)->∃t,(ops[j]?).bind (·.dst)=some t/\t∈x.kc/\((∃b,st.get t=one (.bool b)/\(x.go=(b==want)))\/((∃u,st.get t=bD (.cu (.tuple u)))/\x.go=false))
 free:D.guard=none->x.go=true
 skip:x.go=false->x.v=xN/\x.us=[]
 run:x.go=true->∃y,(step C st D).comp=some y/\(step C st D).pM y=true/\x.v=(step C st D).val y/\x.us=(step C st D).us y/\(∀t,t∈nM (kD D.op)->t∈x.kc)/\(∀o,o∈DO C st D->o∈x.rn)/\(x6 D.op=true->x.zW=true)
inductive kj(C:Ctx)(ops:Array Oper):List Oper->Nat->List (Nat×Rec×List Nat)->ab->List Rec->ab->Prop where
 |nil {i bV st}:kj C ops [] i bV st [] st
 |cons {D r i bV st x xs ad} (Y:b0 st D.dst=true) (he:qH i D.after.toList=true) (hx:ru C ops st D x) (ag:qT (lg bV D.after.toList) x bV=true)
   (h:kj C ops r (i+1) ((i,x,lg bV D.after.toList)::bV) (st.cw D.dst x.v x.us) xs ad):kj C ops (D::r) i bV st (x::xs) ad
theorem VU{R:Type}{g:Bool}{v:aI}{K:aI->Option R}{r:R}(h:Ef g v K=some r):K v=some r:=by
 unfold Ef at h;cases g with
 |false=>exact h
 |true=>
  simp only[cond_true] at h;split at h
  ·rename_i b;cases b<;>exact h
  ·exact h
theorem TH{R:Type}{C:Ctx}{g:Bool}{st:ab}{D:Oper}{K:Rec->Option R}{r:R}(h:Dw C ops g st D K=some r):∃x,ru C ops st D x/\K x=some r:=by
 have run:∀gs,xI C g st D gs K=some r->(∀j want,D.guard=some (j,want)->∃t,(ops[j]?).bind (·.dst)=some t/\t∈gs/\∃b,st.get t=one (.bool b)/\(b==want)=true)->∃x,ru C ops st D x/\K x=some r:=by
  intro gs h hg;unfold xI at h;obtain⟨y,ai,h⟩:=Option.bind_eq_some_iff.1 h;cases hc:(step C st D).pM y with
  |false=>simp[hc] at h
  |true=>
   simp only[hc,cond_true] at h;refine⟨_,⟨rfl,fun j want hj=>?_,fun _=>rfl,fun h=>(by cases h),fun _=>⟨y,ai,hc,rfl,rfl,fun t aB=>List.mem_append.2 (.inr aB),fun _ h=>h,fun h=>h⟩⟩,VU h⟩
   obtain⟨t,h1,h2,b,Z,aH⟩:=hg j want hj;exact⟨t,h1,List.mem_append.2 (.inl h2),.inl ⟨b,Z,aH.symm⟩⟩
 have skip:∀gs,BJ D gs K=some r->(∃j want,D.guard=some (j,want)/\∃t,(ops[j]?).bind (·.dst)=some t/\t∈gs/\((∃b,st.get t=one (.bool b)/\(b==want)=false)\/∃u,st.get t=bD (.cu (.tuple u))))->∃x,ru C ops st D x/\K x=some r:=by
  intro gs h hg;obtain⟨j,want,hj,t,h1,h2,Z⟩:=hg;refine⟨_,⟨rfl,fun RG ai0 iR=>?_,fun h=>(by rw[hj] at h;cases h),fun _=>⟨rfl,rfl⟩,fun h=>(by cases h)⟩,h⟩
  rw[hj] at iR;cases iR;refine⟨t,h1,h2,?_⟩;rcases Z with⟨b,Z,aH⟩|Z
  ·exact .inl ⟨b,Z,aH.symm⟩
  ·exact .inr ⟨Z,rfl⟩
 unfold Dw at h;split at h
 ·rename_i hg;exact run [] h fun j want hj=>by rw[hg] at hj;cases hj
 ·rename_i j want hg;split at h
  ·rename_i t aB;split at h
   ·rename_i b hb;cases b<;>cases want<;>simp only[cond_true,cond_false,Bool.not_true,Bool.not_false] at h
    ·exact run [t] h fun RG w' iR=>by rw[hg] at iR;cases iR;exact⟨t,aB,List.mem_singleton.2 rfl,false,hb,rfl⟩
    ·exact skip [t] h ⟨j,true,hg,t,aB,List.mem_singleton.2 rfl,.inl ⟨false,hb,rfl⟩⟩
    ·exact skip [t] h ⟨j,false,hg,t,aB,List.mem_singleton.2 rfl,.inl ⟨true,hb,rfl⟩⟩
    ·exact run [t] h fun RG w' iR=>by rw[hg] at iR;cases iR;exact⟨t,aB,List.mem_singleton.2 rfl,true,hb,rfl⟩
   ·rename_i u hu;exact skip [t] h ⟨j,want,hg,t,aB,List.mem_singleton.2 rfl,.inr ⟨u,hu⟩⟩
   ·cases h
  ·cases h
theorem V_{R:Type}{C:Ctx}{K:ab->Option R}{r:R}:∀{os:List Oper} {i:Nat} {bV:List (Nat×Rec×List Nat)} {st:ab},yq C ops os i bV st K=some r->∃xs ad,kj C ops os i bV st xs ad/\K ad=some r:=by
 intro os;induction os with
 |nil=>intro i bV st h;exact⟨[],st,.nil,h⟩
 |cons D os ih=>
  intro i bV st h;simp only[yq] at h;cases Y:b0 st D.dst&&qH i D.after.toList with
  |false=>simp[Y] at h
  |true=>
   simp only[Y,cond_true] at h;obtain⟨x,hx,h⟩:=TH h;cases ag:qT (lg bV D.after.toList) x bV with
   |false=>simp[ag] at h
   |true=>
    simp only[ag,cond_true] at h;obtain⟨xs,ad,h1,h2⟩:=ih h;simp only[Bool.and_eq_true] at Y;exact⟨x::xs,ad,.cons Y.1 Y.2 hx ag h1,h2⟩
theorem kj.length{C:Ctx}{os:List Oper}{i:Nat}{bV:List (Nat×Rec×List Nat)}{st ad:ab}{xs:List Rec}(h:kj C ops os i bV st xs ad):xs.length=os.length:=by
 induction h with
 |nil=>rfl
 |cons _ _ _ _ _ ih=>simp[ih]
theorem kj.ack{C:Ctx}{os:List Oper}{i:Nat}{bV:List (Nat×Rec×List Nat)}{st ad:ab}{xs:List Rec}(h:kj C ops os i bV st xs ad):∀k,dQ (fun _=>true) k xs st=ad:=by
 induction h with
 |nil=>intro k;rfl
 |cons _ _ hx _ _ ih=>intro k;simp only[dQ,cond_true,hx.gH];exact ih _
theorem kj.at_{C:Ctx}{os:List Oper}{i:Nat}{bV:List (Nat×Rec×List Nat)}{st ad:ab}{xs:List Rec}(h:kj C ops os i bV st xs ad):∀j x,xs[j]? =some x->
  ∃D,os[j]? =some D/\b0 st D.dst=true/\qH (i+j) D.after.toList=true/\ru C ops (dQ (fun k=>decide (k<j)) 0 xs st) D x:=by
 induction h with
 |nil=>intro j x h;cases h
 |@cons D r i bV st x xs ad Y he hx ag h ih=>
  intro j y ai;cases j with
  |zero=>
   simp only[List.getElem?_cons_zero,Option.some.injEq] at ai;subst ai;refine⟨D,rfl,Y,he,?_⟩;rw[AG fun j _=>by simp[Nat.blt]]
   exact hx
  |succ j=>
   obtain⟨cS,h1,h2,Z,aH⟩:=ih j y (by simpa using ai)
   refine⟨cS,by simpa using h1,?_,by rw[show i+(j+1)=i+1+j from by omega];exact Z,?_⟩
   ·revert h2;cases cS.dst<;>simp[b0,Dy]
   ·simp only[dQ];have p0:decide (0<j+1)=true:=by simp
    rw[p0,cond_true,hx.gH];rw[HV (L':=fun k=>decide (k<j)) (k':=0) fun m _=>by simp only[decide_eq_decide];omega]
    exact aH
theorem IM{n:Nat}{l:List Nat}:fz n l=true <-> n∈l:=by
 induction l with
 |nil=>simp[fz]
 |cons m l ih=>
  simp only[fz,Bool.or_eq_true,ih,List.mem_cons];constructor
  ·rintro(h|h)
   ·exact .inl (Nat.eq_of_beq_eq_true h)
   ·exact .inr h
  ·rintro(h|h)
   ·exact .inl (by rw[h];exact Nat.beq_refl m)
   ·exact .inr h
theorem Uf{va:List Nat}{x:Rec}:∀{bV:List (Nat×Rec×List Nat)},qT va x bV=true->∀k y b,(k,y,b)∈bV->k∈va\/lm y x=false:=by
 intro bV;induction bV with
 |nil=>intro _ k y b h;cases h
 |cons p bV ih=>
  obtain⟨j,z,akk⟩:=p;intro h k y b hm;simp only[qT,Bool.and_eq_true,Bool.or_eq_true] at h;rcases List.mem_cons.1 hm with hm|hm
  ·cases hm;rcases h.1 with h1|h1
   ·exact .inl (IM.1 h1)
   ·exact .inr (by simpa using h1)
  ·exact ih h.2 k y b hm
theorem kj.aeD{C:Ctx}{os:List Oper}{i:Nat}{bV:List (Nat×Rec×List Nat)}{st ad:ab}{xs:List Rec}(h:kj C ops os i bV st xs ad):∀(pre:List Rec),pre.length=i->(∀j,ops[i+j]? =os[j]?)->
  (∀k y,pre[k]? =some y->∃b,(k,y,b)∈bV)->(∀k x b,(k,x,b)∈bV->∀m,m∈b->sq ops m k)->∀j x,xs[j]? =some x->∀k y,k<i+j->(pre++xs)[k]? =some y->sq ops k (i+j)\/lm y x=false:=by
 induction h with
 |nil=>intro pre _ _ _ _ j x h;cases h
 |@cons D r i bV st x xs ad Y he hx ag h ih=>
  intro pre hlen NL NK NW j y ai k z afy hz;have NU:∀m,m∈lg bV D.after.toList->sq ops m i:=fun m hm ap hc hf=>by
   refine XI NW (i:=i) hm ap hc fun e he hb=>hf D ?_ e he hb
   have:=NL 0;simpa using this
  cases j with
  |zero=>
   simp only[List.getElem?_cons_zero,Option.some.injEq] at ai;subst ai;simp only[Nat.add_zero] at afy ⊢;rw[List.getElem?_append_left (by omega)] at hz
   obtain⟨b,hb⟩:=NK k z hz;rcases Uf ag k z b hb with h1|h1
   ·exact .inl (NU k h1)
   ·exact .inr h1
  |succ j=>
   have:=ih (pre++[x]) (by simp[hlen]) (fun j=>by have:=NL (j+1);rw[show i+1+j=i+(j+1) from by omega];simpa using this)
    (fun k y ai=>?_) (fun k cP b hm m Qa=>?_) j y (by simpa using ai) k z (by omega) (by simpa using hz)
   ·rw[show i+(j+1)=i+1+j from by omega];exact this
   ·rcases Nat.lt_or_ge k pre.length with aa|aa
    ·rw[List.getElem?_append_left aa] at ai;obtain⟨b,hb⟩:=NK k y ai;exact⟨b,List.mem_cons_of_mem _ hb⟩
    ·rw[List.getElem?_append_right aa] at ai;have aQ:k-pre.length=0:=by
      rcases Nat.eq_zero_or_pos (k-pre.length) with aQ|aQ
      ·exact aQ
      ·rw[List.getElem?_eq_none (by simp;omega)] at ai;cases ai
     rw[aQ] at ai;simp only[List.getElem?_cons_zero,Option.some.injEq] at ai;subst ai;have:k=i:=by omega
     subst this;exact⟨_,List.mem_cons_self⟩
   ·rcases List.mem_cons.1 hm with hm|hm
    ·cases hm;exact NU m Qa
    ·exact NW k cP b hm m Qa
end
section
variable {P:Program}{L:World}{J:List Nat}{X:Nat->Prop}{B:Nat->Value}{st ad:ab}{tm:Array Value}{w:World}
theorem ae.same(S:ae L J X B st tm w)(hv:∀l,dG st l=dG ad l)(hn:st.nt=ad.nt):ae L J X B ad tm w:=by
 have M:∀o,look st.sites o=look ad.sites o:=fun o=>by have:=hv (.inr o);simpa[dG,ab.O] using this
 have hg:∀t,st.get t=ad.get t:=fun t=>by have:=hv (.inl t);simpa[dG] using this
 have hl:∀o,bM st.sites o <-> bM ad.sites o:=fun o=>by unfold bM;rw[M]
 have a9:am X B ad.sites=am X B st.sites:=by
  funext b
  unfold am;simp only[hl]
 have G:gz B B st.sites ad.sites w w (am X B st.sites) (am X B ad.sites):=by
  rw[a9];exact⟨fun o O h=>⟨O,by rw[<-M];exact h,Nat.le_refl _,fun _=>rfl⟩,fun _ _ _=>rfl,fun _ h _=>h⟩
 have aY:∀b,am X B ad.sites b->b<w.heap.size:=fun b hb=>S.lt (by rw[<-a9];exact hb)
 refine⟨S.nt.trans hn,fun t=>?_,fun o O h=>?_,fun o F b h1 h2=>S.c8 o F b ((hl o).2 h1) ((hl F).2 h2),fun o b h=>S.b1 o b ((hl o).2 h),S.frame,S.old,S.eM⟩
 ·rw[<-hg];exact(S.cz t).goes G (Nat.le_refl _) aY
 ·exact(S.sites o O (by rw[M];exact h)).goes G (Nat.le_refl _) aY rfl (fun _ _ _=>rfl)
theorem ae.drawn(S:ae L J X B st tm w)(n:Nat):ae L J X B st tm {w with drawn:=n}:=by
 have G:gz B B st.sites st.sites w {w with drawn:=n} (am X B st.sites) (am X B st.sites):=
  ⟨fun o O h=>⟨O,h,Nat.le_refl _,fun _=>rfl⟩,fun _ _ _=>rfl,fun _ h _=>h⟩
 refine⟨S.nt,fun t=>(S.cz t).goes G (Nat.le_refl _) fun b hb=>S.lt hb,fun o O h=>(S.sites o O h).goes G (Nat.le_refl _) (fun b hb=>S.lt hb) rfl (fun _ _ _=>rfl),S.c8,S.b1,⟨S.frame.os,S.frame.tape,S.frame.output,S.frame.size,S.frame.block⟩,S.old,S.eM⟩
theorem Su{az:Type}:∀{us:List (Nat×az)} {o:Nat} {s:az},mL us o=some s->o∈keys us:=by
 intro us;induction us with
 |nil=>intro o s h;cases h
 |cons p us ih=>
  obtain⟨k,v⟩:=p;intro o s h;simp only[mL] at h;split at h
  ·rename_i x hx;exact List.mem_cons_of_mem _ (ih hx)
  ·cases hb:k.beq o with
   |true=>rw[<-Nat.eq_of_beq_eq_true hb];exact List.mem_cons_self
   |false=>simp[hb] at h
theorem AS{n:Nat}{l:List Nat}:fz n l=true <-> n∈l:=IM
theorem qn{l m:List Nat}{n:Nat}(h1:n∈l)(h2:n∈m):eG l m=false:=by
 induction l with
 |nil=>cases h1
 |cons k l ih=>
  simp only[eG];rcases List.mem_cons.1 h1 with rfl|h1
  ·rw[AS.2 h2];rfl
  ·rw[ih h1,Bool.and_false]
theorem Il{l:List Nat}{n:Nat}(h1:n∈l)(h2:1000000<=n):tx l=true:=by
 induction l with
 |nil=>cases h1
 |cons k l ih=>
  simp only[tx,Bool.or_eq_true];rcases List.mem_cons.1 h1 with rfl|h1
  ·exact .inl (Nat.ble_eq_true_of_le h2)
  ·exact .inr (ih h1)
def Rec.at_(x:Rec):nC->Prop
 |.inl t=>t∈x.kc
 |.inr o=>o∈x.rn\/(x.zW=true/\1000000<=o)
theorem xM{x:Rec}{t:Nat}(h:x.wr (.inl t)≠none):x.D.dst=some t:=by
 simp only[Rec.wr] at h;split at h
 ·rename_i d Y;cases hb:d.beq t with
  |true=>rw[Y,Nat.eq_of_beq_eq_true hb]
  |false=>simp[hb] at h
 ·exact absurd rfl h
theorem xL{x:Rec}{o:Nat}(h:x.wr (.inr o)≠none):o∈keys x.us:=by
 simp only[Rec.wr] at h;cases hl:mL x.us o with
 |none=>simp[hl] at h
 |some s=>exact Su hl
theorem YJ{a b:Rec}{l:nC}(h1:a.wr l≠none)(h2:b.at_ l):lm a b=true:=by
 unfold lm;cases l with
 |inl t=>
  have:=xM h1;have h2:t∈b.kc:=h2;simp[this,rF,AS.2 h2]
 |inr o=>
  have:=xL h1;rcases h2 with h2|⟨h2,Z⟩
  ·have:eG (keys a.us) (b.rn++keys b.us)=false:=qn this (List.mem_append.2 (.inl h2));simp[this]
  ·have:=Il this Z;simp[this,h2]
theorem YK{a b:Rec}{l:nC}(h1:a.at_ l)(h2:b.wr l≠none):lm a b=true:=by
 unfold lm;cases l with
 |inl t=>
  have:=xM h2;have h1:t∈a.kc:=h1;simp[this,rF,AS.2 h1]
 |inr o=>
  have:=xL h2;rcases h1 with h2|⟨h2,Z⟩
  ·have:eG (keys b.us) a.rn=false:=qn this h2;simp[this]
  ·have:=Il this Z;simp[this,h2]
theorem YI{a b:Rec}{l:nC}(h1:a.wr l≠none)(h2:b.wr l≠none):lm a b=true:=by
 unfold lm;cases l with
 |inl t=>
  have e1:=xM h1;have e2:=xM h2;simp[e1,e2,rF,fz]
 |inr o=>
  have e1:=xL h1;have e2:=xL h2;have:eG (keys a.us) (b.rn++keys b.us)=false:=qn e1 (List.mem_append.2 (.inr e2));simp[this]
variable {C:Ctx}{ops:Array Oper}{rn:Option Nat}{ds:List Deferred}
def na(ap:Nat->Bool)(i:Nat):Nat->Bool:=fun j=>ap j||decide (j=i)
theorem V9(ax:bb P C){xs:List Rec}{a_:ab}{i:Nat}{D:Oper}{x:Rec}(hx:xs[i]? =some x)(Y:b0 a_ D.dst=true)(hr:ru C ops (dQ (fun k=>decide (k<i)) 0 xs a_) D x)
  (ll:∀j y,xs[j]? =some y->∀k z,k<j->xs[k]? =some z->sq ops k j\/lm z y=false) {ap:Nat->Bool} (hc:yu ops ap) (hi:ap i=false) (hf:zd ops ap i) (afr:ops[i]? =some D)
  (S:ae L J X B (dQ ap 0 xs a_) tm w) {Q:Exit->Act->World->Prop} {K:Act->World->Prop} (bm:∀aw bH w',ae L J X aw (dQ (na ap i) 0 xs a_) bH w'->(∀t,t∉D.dst.toList->bH.getD t undef=tm.getD t undef)->K ⟨bH,ds⟩ w'):wpOpIn (ed rn) 0 P ops Q i K ⟨tm,ds⟩ w:=by
 have E':∀l,x.at_ l->dG (dQ (fun k=>decide (k<i)) 0 xs a_) l=dG (dQ ap 0 xs a_) l:=fun l hl=>by
  refine(AF rfl fun j y ai hw=>?_).symm
  simp only[Nat.zero_add];rcases Nat.lt_trichotomy j i with h|h|h
  ·rcases ll i x hx j y h ai with h1|h1
   ·rw[h1 ap hc hf];simp[h]
   ·rw[YJ hw hl] at h1;cases h1
  ·subst h;rw[hi];simp
  ·have:ap j=false:=by
    cases pH:ap j with
    |false=>rfl
    |true=>
     rcases ll j y ai i x h hx with h1|h1
     ·have:=h1 ap hc (hc j pH);rw[hi] at this;cases this
     ·rw[YK hl hw] at h1;cases h1
   rw[this];simp;omega
 have MB:∀t,t∈x.kc->(dQ (fun k=>decide (k<i)) 0 xs a_).get t=(dQ ap 0 xs a_).get t:=fun t aB=>by
  have:=E' (.inl t) aB;simpa[dG] using this
 have yy:∀l,dG ((dQ ap 0 xs a_).cw x.D.dst x.v x.us) l=dG (dQ (na ap i) 0 xs a_) l:=fun l=>by
  rw[wj];cases hw:x.wr l with
  |none=>
   simp only;refine AF rfl fun j y ai Fu=>?_
   simp only[Nat.zero_add,na];by_cases h:j=i
   ·subst h;rw[hx] at ai;cases ai;exact absurd hw Fu
   ·simp[h]
  |some u=>
   simp only;refine(UJ hx (by simp[na]) hw fun j y oo ai Fu=>?_).symm
   simp only[Nat.zero_add,na];have:ap j=false:=by
    cases pH:ap j with
    |false=>rfl
    |true=>
     rcases ll j y ai i x oo hx with h1|h1
     ·have:=h1 ap hc (hc j pH);rw[hi] at this;cases this
     ·rw[YI (by rw[hw];intro h;cases h) Fu] at h1;cases h1
   rw[this];simp;omega
 have Ql:b0 (dQ ap 0 xs a_) D.dst=true:=by revert Y;cases D.dst<;>simp[b0,BK]
 have fin:∀aw bH w',ae L J X aw ((dQ ap 0 xs a_).cw x.D.dst x.v x.us) bH w'->(∀t,t∉D.dst.toList->bH.getD t undef=tm.getD t undef)->K ⟨bH,ds⟩ w':=fun aw bH w' bS=>bm aw bH w' (bS.same yy (by rw[Dy,BK,BK]))
 unfold wpOpIn;rw[afr];simp only;have yA:Region.wanted D (yielded ops tm)=x.go:=by
  cases hg:D.guard with
  |none=>rw[hr.free hg];simp[Region.wanted,hg]
  |some GH=>
   obtain⟨j,want⟩:=GH;obtain⟨t,h1,h2,Z⟩:=hr.guard j want hg;rw[show Region.wanted D (yielded ops tm)=(yielded ops tm j==some want) by simp[Region.wanted,hg]]
   have ii:=S.cz t;rw[<-MB t h2] at ii;rcases Z with⟨b,Z,aH⟩|⟨⟨u,Z⟩,aH⟩
   ·rw[Z] at ii;have hv:=iD ii;have ai:yielded ops tm j=some b:=by
     have aB:t<tm.size:=by
      rcases Nat.lt_or_ge t tm.size with aa|aa
      ·exact aa
      ·simp[Array.getD,Nat.not_lt.2 aa,undef] at hv
     have:tm[t]? =some (.bool b):=by
      rw[Array.getElem?_eq_getElem aB];simpa[Array.getD,aB] using hv
     simp[yielded,h1,this]
    rw[ai,aH];cases b<;>cases want<;>rfl
   ·rw[Z] at ii;have hv:tm.getD t undef=.tuple u:=ii;have ai:yielded ops tm j=none:=by
     simp only[yielded,h1,Option.bind_some];cases aB:tm[t]? with
     |none=>rfl
     |some v=>
      have:tm.getD t undef=v:=by simp[Array.getD_eq_getD_getElem?,aB]
      rw[this] at hv;rw[hv]
    rw[ai,aH];rfl
 cases sf:x.go with
 |false=>
  rw[sf] at yA;rw[if_neg (by rw[yA];decide)]
  obtain⟨e1,e2⟩:=hr.skip sf;refine⟨fun f _=>yP rn f,vU (R:=ab) (r:=(dQ ap 0 xs a_).cw D.dst xN []) S (K:=some) (by simp[qR,Ql]) fun dB fD c' bZ h1 cT=>?_⟩
  cases h1;refine fin fD c' bZ ?_
  rw[hr.gH,e1,e2];exact cT
 |true=>
  rw[sf] at yA;rw[if_pos yA];obtain⟨y,g1,g2,g3,eA,nx,vu,vt⟩:=hr.run sf;have df:step C (dQ (fun k=>decide (k<i)) 0 xs a_) D=step C (dQ ap 0 xs a_) D:=by
   refine T2 (fun t aB=>MB t (nx t aB)) (fun o a5=>?_) fun _Z o a5=>?_
   ·have:=E' (.inr o) (.inl (vu o a5));simpa[dG] using this
   ·have:=E' (.inr o) (.inr ⟨vt _Z,a5⟩);simpa[dG] using this
  revert y
  rw[df];intro y g1 g2 g3 eA;refine mI (R:=ab) (r:=(dQ ap 0 xs a_).cw D.dst x.v x.us) S ax (K:=some) ?_ fun dB fD c' bZ h1 cT=>?_
  ·unfold jM;rw[Ql,cond_true,g1];simp only[Option.bind_some,g2,cond_true,g3,eA]
  ·cases h1;refine fin fD c' bZ ?_
   rw[hr.gH];exact cT
def ut(listed:Array Bool):Nat:=listed.toList.count false
def f'(listed:Array Bool):Nat->Bool:=fun j=>listed.getD j false
theorem XS{listed:Array Bool}{i:Nat}(h:listed.getD i true=false):ut (listed.setIfInBounds i true)+1=ut listed:=by
 unfold ut;have aY:i<listed.size:=by
  rcases Nat.lt_or_ge i listed.size with aa|aa
  ·exact aa
  ·simp[Array.getD,Nat.not_lt.2 aa] at h
 have hv:listed.toList[i]'(by simpa using aY)=false:=by simpa[Array.getD,aY] using h
 rw[Array.toList_setIfInBounds,List.count_set (by simpa using aY)]
 rw[hv];have:0<listed.toList.count false:=List.count_pos_iff.2 (by rw[<-hv];exact List.getElem_mem _)
 have e1:(if(false==false)=true then 1 else 0)=1:=rfl
 have e2:(if(true==false)=true then 1 else 0)=0:=rfl
 rw[e1,e2];omega
theorem I0{D:Oper}{t:Nat}:∀{l:List Oper},D∈l->t∈D.dst.toList->t∈hB l:=by
 intro l;induction l with
 |nil=>intro h;cases h
 |cons p l ih=>
  intro h aB;simp only[hB,List.mem_append];rcases List.mem_cons.1 h with rfl|h
  ·exact .inl aB
  ·exact .inr (ih h aB)
theorem XA(ax:bb P C){a_ zl:ab}{xs:List Rec}(aU:kj C ops ops.toList 0 [] a_ xs zl){Q:Exit->Act->World->Prop}{eg:Array Value}(z9:∀B tm w,ae L J X B zl tm w->(∀t,t∉hB ops.toList->tm.getD t undef=eg.getD t undef)->Q .normal ⟨tm,ds⟩ w):
  ∀(oc:Nat) (listed:Array Bool) (B:Nat->Value) (tm:Array Value) (w:World),listed.size=ops.size->ut listed<=oc->yu ops (f' listed)->ae L J X B (dQ (f' listed) 0 xs a_) tm w->
   (∀t,t∉hB ops.toList->tm.getD t undef=eg.getD t undef)->wpAnyIn (ed rn) 0 P .any ops Q oc listed ⟨tm,ds⟩ w:=by
 have hlen:xs.length=ops.size:=by rw[aU.length];simp
 have ll:∀j y,xs[j]? =some y->∀k z,k<j->xs[k]? =some z->sq ops k j\/lm z y=false:=fun j y ai k z ag hz=>by
  have:=aU.aeD [] rfl (fun j=>by simp) (fun k y h=>by simp at h) (fun k x b h=>by simp at h) j y ai k z (by omega) (by simpa using hz)
  simpa using this
 have all:∀listed:Array Bool,listed.size=ops.size->(∀j,j<ops.size->f' listed j=true)->∀B tm w,ae L J X B (dQ (f' listed) 0 xs a_) tm w->(∀t,t∉hB ops.toList->tm.getD t undef=eg.getD t undef)->Q .normal ⟨tm,ds⟩ w:=fun listed M hl B tm w S aB=>by
  refine z9 B tm w ?_ aB;rw[<-aU.ack 0];rw[HV (L':=f' listed) (k':=0) fun j hj=>by simp only[Nat.zero_add];rw[hl j (by omega)]]
  exact S
 have done:∀listed:Array Bool,listed.size=ops.size->Region.ready .any ops listed=[]->∀j,j<ops.size->f' listed j=true:=fun listed M hr j=>by
  induction j using Nat.strongRecOn with
  |_ j ih=>
   intro hj;cases pH:f' listed j with
   |true=>rfl
   |false=>
    exfalso
    have hx:xs[j]? =some (xs[j]'(by omega)):=List.getElem?_eq_getElem _
    obtain⟨D,h1,_,Z,_⟩:=aU.at_ j _ hx;have h1:ops[j]? =some D:=by simpa using h1
    have hm:j∈Region.ready .any ops listed:=by
     rw[mem_ready];refine⟨?_,D,h1,fun e he hb=>?_⟩
     ·have aY:j<listed.size:=by omega
      simpa[f',Array.getD,aY] using pH
     ·have:e.on<j:=by
       have lI:e∈D.after.toList:=by simpa using he
       clear he hr;revert Z
       simp only[Nat.zero_add];generalize D.after.toList=es at lI;induction es with
       |nil=>cases lI
       |cons bY es ae4=>
        intro Z;simp only[qH,Bool.and_eq_true] at Z;rcases List.mem_cons.1 lI with rfl|lI
        ·rw[hb] at Z;simpa using Z.1
        ·exact ae4 lI Z.2
      have:=ih e.on this (by omega)
      simpa[f'] using this
    rw[hr] at hm;cases hm
 intro oc;induction oc with
 |zero=>
  intro listed B tm w M hu hc S aB;have mj:∀j,j<ops.size->f' listed j=true:=fun j hj=>by
   have aQ:listed.toList.count false=0:=Nat.le_zero.1 hu;rw[List.count_eq_zero] at aQ;cases pH:f' listed j with
   |true=>rfl
   |false=>
    exfalso
    have aY:j<listed.size:=by omega
    apply aQ;have:listed.toList[j]'(by simpa using aY)=false:=by simpa[f',Array.getD,aY] using pH
    rw[<-this];exact List.getElem_mem _
  refine⟨?_,all listed M mj B tm w S aB⟩;rw[List.eq_nil_iff_forall_not_mem];intro j hj;rw[mem_ready] at hj;obtain⟨h1,D,h2,_⟩:=hj;have hj:j<ops.size:=(Array.getElem?_eq_some_iff.1 h2).1;have:=mj j hj;have aY:j<listed.size:=by omega
  simp[f',Array.getD,aY] at this h1;rw[h1] at this;cases this
 |succ oc ih=>
  intro listed B tm w M hu hc S aB;refine⟨fun hr=>all listed M (done listed M hr) B tm w S aB,fun i hi=>?_⟩
  have jw:=mem_ready.1 hi;obtain⟨h1,D,h2,Z⟩:=jw;have j7:i<ops.size:=(Array.getElem?_eq_some_iff.1 h2).1;have hx:xs[i]? =some (xs[i]'(by omega)):=List.getElem?_eq_getElem _
  obtain⟨cS,g1,g2,g3,eA⟩:=aU.at_ i _ hx;have g1:ops[i]? =some cS:=by simpa using g1
  rw[h2] at g1;cases g1;have aY:i<listed.size:=by omega
  have afW:f' listed i=false:=by simpa[f',Array.getD,aY] using h1
  have hf:zd ops (f' listed) i:=fun o2 j4 e he hb=>by
   rw[h2] at j4;cases j4;have:=Z e (by simpa using he) hb
   simpa[f'] using this
  have mi:f' (listed.setIfInBounds i true)=na (f' listed) i:=by
   funext j
   simp only[f',na];by_cases h:j=i
   ·subst h;simp[aY]
   ·simp[h,Array.getElem?_setIfInBounds_ne (show i≠j from fun e=>h e.symm)]
  refine V9 ax hx g2 eA ll hc afW hf h2 S fun aw bH w' bS uM=>ih _ aw bH w' (by simpa using M) (by have:=XS h1;omega) ?_ (by rw[mi];exact bS) fun t htn=>(uM t fun aa=>htn (I0 (l:=ops.toList) (by simpa using Array.mem_of_getElem? h2) aa)).trans (aB t htn)
  rw[mi];intro j hj o2 j4 e he hb;simp only[na,Bool.or_eq_true,decide_eq_true_eq] at hj;simp only[na,Bool.or_eq_true,decide_eq_true_eq];rcases hj with hj|hj
  ·exact .inl (hc j hj o2 j4 e he hb)
  ·subst hj;exact .inl (hf o2 j4 e he hb)
theorem V1:∀l:List Nat,de st.sites (yi st l):=by
 intro l;induction l with
 |nil=>exact .nil
 |cons t l ih=>
  refine de.append ?_ ih;unfold Mg;split
  ·rename_i o s _;split
   ·rename_i aj t xs M;cases hb:aj.beq s with
    |false=>exact .nil
    |true=>
     intro F O hm;simp only[cond_true,List.mem_singleton,Prod.mk.injEq] at hm;obtain⟨rfl,rfl⟩:=hm;exact⟨aj,t,xs,rfl,.inl M⟩
   ·exact .nil
  ·exact .nil
theorem UB(ax:bb P C)(hm:P.follows .mixedOrders=true){R:Type}{r:R}{K:ab->Option R}{id:Nat}{Q:Exit->Act->World->Prop}(S:ae L J X B st tm w)(h:Ku C ops st K=some r)
  (bm:∀ad aw bH w',K ad=some r->ae L J X aw ad bH w'->(∀t,t∉hB ops.toList->bH.getD t undef=tm.getD t undef)->Q .normal ⟨bH,ds⟩ w'):fI rn P (Code.region id ops true) Q ⟨tm,ds⟩ w:=by
 obtain⟨xs,zl,aU,ag⟩:=V_ h;have S:ae L J X B (st.g5 (yi st (Bk ops.toList ops.toList))) tm w:=by rw[ab.s6];exact S.xF (V1 _)
 refine wpIn_region_any hm (XA ax aU (fun B tm w S=>bm zl B tm w ag S) _ _ B tm _ (by simp) ?_ ?_ ?_ (fun _ _=>rfl))
 ·unfold ut;simp
 ·intro j hj;simp only[f'] at hj;exfalso
  rw[Array.getD_eq_getD_getElem?,Array.getElem?_replicate] at hj;split at hj<;>cases hj
 ·rw[AG fun j _=>by
   simp only[f'];rw[Array.getD_eq_getD_getElem?,Array.getElem?_replicate];split<;>rfl]
  exact S.drawn _
end
def rC(r:Option Nat)(c:Code):Prop:=r=none\/gv c=true
theorem rC.left{r:Option Nat}{a b:Bool}(h:r=none\/(a&&b)=true):r=none\/a=true:=by
 rcases h with h|h
 ·exact .inl h
 ·simp only[Bool.and_eq_true] at h;exact .inr h.1
theorem rC.right{r:Option Nat}{a b:Bool}(h:r=none\/(a&&b)=true):r=none\/b=true:=by
 rcases h with h|h
 ·exact .inl h
 ·simp only[Bool.and_eq_true] at h;exact .inr h.2
theorem iB{P:Program}{C:gS}(ax:bb P C.toCtx){R:Type}{r:R}{rn:Option Nat}:∀(c:Code) (p:Nat),(rn=none\/gv c=true)->fO P C c p->∀(L:World) (J:List Nat) (X:Nat->Prop) (st:ab) (B:Nat->Value) (tm:Array Value) (w:World)
  (ds:List Deferred) (K:Out->Option R)
  (Q:Exit->Act->World->Prop),exec C c p st K=some r->ae L J X B st tm w->(∀D e a w',K D=some r->eU L J X ds tm (cd c) D e a w'->Q e a w')->fI rn P c Q ⟨tm,ds⟩ w:=by
 have piece:∀(c:Code) (p:Nat),(rn=none\/gv c=true)->(∀f,C.nd p=some f->br P c f)->∀(L:World) (J:List Nat) (X:Nat->Prop) (st:ab) (B:Nat->Value) (tm:Array Value) (w:World) (ds:List Deferred) (K:Out->Option R) (Q:Exit->Act->World->Prop) (x:Option R),
   wrap C p st K x=some r->ae L J X B st tm w->(∀D e a w',K D=some r->eU L J X ds tm (cd c) D e a w'->Q e a w')->(x=some r->fI rn P c Q ⟨tm,ds⟩ w)->fI rn P c Q ⟨tm,ds⟩ w:=by
  intro c p hn hf L J X st B tm w ds K Q x h S bm hx;unfold wrap at h;cases ar:C.nd p with
  |none=>simp only[ar] at h;exact hx h
  |some f=>
   simp only[ar] at h;cases hc:(f st).comp with
   |none=>simp[hc] at h
   |some y=>
    simp only[hc,Option.bind_some,(f st).run_eq] at h;exact wpIn_mono (hf f ar rn hn L J X st y hc B tm w ds S) fun e a w' hl=>bm _ e a w' h hl
 intro c;induction c with
 |skip=>
  intro p _ _ L J X st B tm w ds K Q h S bm;exact wpIn_skip (bm (.norm st) .normal _ _ h (dX.of S fun _ _=>rfl))
 |region id ops draw=>
  intro p hn dL L J X st B tm w ds K Q h S bm;cases draw with
  |false=>
   simp only[exec] at h;refine piece _ p hn dL L J X st B tm w ds K Q _ h S bm fun aa=>?_
   refine wpIn_region ?_
   rw[List.range_eq_range'];refine Vq ax (W:=hB ops.toList) ops.size 0 (by omega) (fun D ar t aB=>I0 (by simpa using ar) aB) st B tm w _ Q S aa ?_
   intro ad aw bH w' ag bS aB;exact bm (.norm ad) .normal _ _ ag (dX.of bS aB)
  |true=>
   simp only[exec] at h;refine piece _ p hn dL L J X st B tm w ds K Q _ h S bm fun aa=>?_
   exact UB ax ax.z8 S aa fun ad aw bH w' ag bS aB=>bm (.norm ad) .normal _ _ ag (dX.of bS aB)
 |seq a b lx pn=>
  intro p hn dL L J X st B tm w ds K Q h S bm;simp only[exec] at h;refine piece _ p hn dL.1 L J X st B tm w ds K Q _ h S bm fun aa=>?_
  refine wpIn_seq (lx _ (rC.left hn) dL.2.1 L J X st B tm w ds _ _ aa S ?_);intro D e fa w' ag hl;have up:∀{D e fa w'},eU L J X ds tm (cd a) D e fa w'->eU L J X ds tm (cd (.seq a b)) D e fa w':=fun hl=>hl.mono fun t aB=>List.mem_append.2 (.inl aB)
  cases D with
  |norm ad=>
   cases e<;>try exact hl.elim
   obtain⟨bZ,dh,cL,aw,dk,h1,h2,Z,bS,bp⟩:=hl;obtain⟨bH,GQ⟩:=fa;obtain⟨Z,af7⟩:=Z;have Z:GQ=dk.map mark++ds:=Z;subst Z;exact pn _ (rC.right hn) dL.2.2 bZ dh cL ad aw bH w' _ K Q ag bS fun D e a2 w2 hF lE=>bm D e a2 w2 hF (eU.trans h1 h2 af7 bp lE)
  |exit id ad=>
   cases e<;>try exact hl.elim
   exact bm _ _ _ _ ag (up hl)
  |ret ad=>
   cases e<;>try exact hl.elim
   exact bm _ _ _ _ ag (up hl)
 |cond D a b lx pn=>
  intro p hn dL L J X st B tm w ds K Q h S bm;simp only[exec] at h;refine piece _ p hn dL.1 L J X st B tm w ds K Q _ h S bm fun aa=>?_
  split at aa
  ·rename_i t aB;have hv:=CM S aB;have hv:Act.eval ⟨tm,ds⟩ D=.bool t:=by cases D<;>exact hv
   cases t with
   |true=>exact wpIn_cond hv (lx _ (rC.left hn) dL.2.1 L J X st B tm w ds K Q aa S fun D e a2 w2 hF lE=>bm D e a2 w2 hF (lE.mono fun t aB=>List.mem_append.2 (.inl aB)))
   |false=>exact wpIn_cond hv (pn _ (rC.right hn) dL.2.2 L J X st B tm w ds K Q aa S fun D e a2 w2 hF lE=>bm D e a2 w2 hF (lE.mono fun t aB=>List.mem_append.2 (.inr aB)))
  ·cases aa
 |block id a lx=>
  intro p hn dL L J X st B tm w ds K Q h S bm;simp only[exec] at h;refine piece _ p hn dL.1 L J X st B tm w ds K Q _ h S bm fun aa=>?_
  refine wpIn_block (lx _ hn dL.2 L J X st B tm w ds _ _ aa S ?_);intro D e fa w' ag hl;cases D with
  |norm ad=>
   cases e<;>try exact hl.elim
   exact bm _ _ _ _ ag hl
  |exit hY ad=>
   cases e<;>try exact hl.elim
   rename_i ajL;obtain⟨rfl,hl⟩:=hl;simp only[Exit.inBlock];cases hb:hY.beq id with
   |true=>
    simp only[hb,cond_true] at ag;have:=Nat.eq_of_beq_eq_true hb;subst this;simp only[if_true];exact bm _ _ _ _ ag hl
   |false=>
    simp only[hb,cond_false] at ag;have:hY≠id:=by rintro rfl;rw[Nat.beq_refl] at hb;cases hb
    simp only[this,if_false];exact bm _ _ _ _ ag ⟨rfl,hl⟩
  |ret ad=>
   cases e<;>try exact hl.elim
   exact bm _ _ _ _ ag hl
 |loop a _=>
  intro p hn dL L J X st B tm w ds K Q h S bm;simp only[exec] at h;exact piece _ p hn dL L J X st B tm w ds K Q _ h S bm fun aa=>by cases aa
 |rangeFunc=>
  intro p hn dL L J X st B tm w ds K Q h S bm;simp only[exec] at h;exact piece _ p hn dL L J X st B tm w ds K Q _ h S bm fun aa=>by cases aa
 |exit id=>
  intro p _ _ L J X st B tm w ds K Q h S bm;exact wpIn_exit (bm (.exit id st) (.exit id) _ _ h ⟨rfl,dX.of S fun _ _=>rfl⟩)
 |ret=>
  intro p _ _ L J X st B tm w ds K Q h S bm;exact wpIn_ret (bm (.ret st) .ret _ _ h (dX.of S fun _ _=>rfl))
 |_=>
  intro p _ _ L J X st B tm w ds K Q h S bm;simp only[exec] at h;cases h
inductive dj:Type where
 |int (k:IntKind)
 |bool
 |str
 |sl (t:aE)
 |map (t:aE)
 |err (T:Nat)
@[reducible] def dj.H:dj->Type
 |.int _=>Int
 |.bool=>Bool
 |.str=>al
 |.sl t=>List (den t)
 |.map t=>List (al×den t)
 |.err _=>Option Int
def dj.mk:(s:dj)->s.H->aK
 |.int k,n=>.int k n
 |.bool,b=>.bool b
 |.str,s=>.str s
 |.sl t,xs=>.sl t xs
 |.map t,es=>.map t es
 |.err T,D=>.err T D
def dj.ex:(s:dj)->aK->Option s.H
 |.int k,.int k' n=>if k=k' then some n else none
 |.bool,.bool b=>some b
 |.str,.str s=>some s
 |.sl t,.sl a7 xs=>if h:a7=t then some (h▸xs) else none
 |.map t,.map a7 es=>if h:a7=t then some (h▸es) else none
 |.err T,.err fv D=>if fv=T then some D else none
 |_,_=>none
theorem dj.LZ{s:dj}{d:aK}{y:s.H}(h:s.ex d=some y):s.mk y=d:=by
 unfold dj.ex at h;split at h
 ·split at h
  ·rename_i e;cases h;subst e;rfl
  ·cases h
 ·cases h;rfl
 ·cases h;rfl
 ·split at h
  ·rename_i e;cases h;subst e;rfl
  ·cases h
 ·split at h
  ·rename_i e;cases h;subst e;rfl
  ·cases h
 ·split at h
  ·rename_i e;cases h;subst e;rfl
  ·cases h
 ·cases h
@[reducible] def j_:List dj->Type
 |[]=>Unit
 |s::r=>s.H×j_ r
def fe:(aP:List dj)->j_ aP->List aK
 |[],_=>[]
 |s::r,(y,z)=>s.mk y::fe r z
def uh:(aP:List dj)->List aK->Option (j_ aP)
 |[],[]=>some ()
 |s::r,d::ds=>match s.ex d,uh r ds with
  |some y,some z=>some (y,z)
  |_,_=>none
 |_,_=>none
theorem Kk:∀{aP:List dj} {ds:List aK} {y:j_ aP},uh aP ds=some y->fe aP y=ds:=by
 intro aP;induction aP with
 |nil=>intro ds y h;cases ds with
  |nil=>rfl
  |cons=>cases h
 |cons s aP ih=>
  intro ds y h;cases ds with
  |nil=>cases h
  |cons d ds=>
   simp only[uh] at h;split at h
   ·rename_i a b h1 h2;cases h;simp only[fe,dj.LZ h1,ih h2]
   ·cases h
@[reducible] def uj:List (List dj)->Type
 |[]=>Unit
 |s::r=>j_ s×uj r
def tH:(aP:List (List dj))->uj aP->List (List aK)
 |[],_=>[]
 |s::r,(y,z)=>fe s y::tH r z
def yI:(aP:List (List dj))->List (List aK)->Option (uj aP)
 |[],[]=>some ()
 |s::r,d::ds=>match uh s d,yI r ds with
  |some y,some z=>some (y,z)
  |_,_=>none
 |_,_=>none
theorem Xh:∀{aP:List (List dj)} {ds:List (List aK)} {y:uj aP},yI aP ds=some y->tH aP y=ds:=by
 intro aP;induction aP with
 |nil=>intro ds y h;cases ds with
  |nil=>rfl
  |cons=>cases h
 |cons s aP ih=>
  intro ds y h;cases ds with
  |nil=>cases h
  |cons d ds=>
   simp only[yI] at h;split at h
   ·rename_i a b h1 h2;cases h;simp only[tH,Kk h1,ih h2]
   ·cases h
inductive dN:Type where
 |any
 |d (s:dj)
 |fn (g:FuncId) (ck:List (List dj))
 |dZ (aP:List dj) (off:Nat)
 |own (n:Nat)
 |ptr (n off:Nat)
 |clo (g:FuncId) (aC:List Nat)
 |eh
 |Nx -- mo nil interface
 |ec (n:Nat) (t:aE)
@[reducible] def dN.H:dN->Type
 |.d s=>s.H
 |.fn _ ck=>uj ck
 |.dZ aP _=>j_ aP
 |_=>Unit
def dN.mk:(s:dN)->s.H->aq
 |.any,_=>.any
 |.d s,y=>.d (s.mk y)
 |.fn g ck,y=>.d (.fn g (tH ck y))
 |.dZ aP off,y=>.dZ (fe aP y) off
 |.own n,_=>.own n 0
 |.ptr n off,_=>.ptr n 0 off
 |.clo g aC,_=>.clo g (aC.map fun n=>(n,0))
 |.eh,_=>.eh
 |.Nx,_=>.cu .nilIface
 |.ec n t,_=>.ec n 0 t 0 0
abbrev Ren:=List (Nat×Option (Nat×Nat))
def l_(aN:Ren)(n o s:Nat):Bool:=match look aN n with
 |some (some (E6,aj))=>E6.beq o&&aj.beq s
 |_=>false
def s9(aN:Ren):List Nat->List (Nat×Nat)->Bool
 |[],[]=>true
 |n::aC,(o,s)::cs=>l_ aN n o s&&s9 aN aC cs
 |_,_=>false
def l0(aN:Ren):List Nat
 :=match aN with
 |[]=>[]
 |(_,some (o,_))::r=>o::l0 r
 |(_,none)::r=>l0 r
def dN.ex(st:ab)(aN:Ren):(s:dN)->aq->Option s.H
 |.any,_=>some ()
 |.d s,.d v=>s.ex v
 |.d (.sl t),.nil _=>some ([]:List (den t))
 |.d (.err _),.cu .nilIface=>some (none:Option Int)
 |.d (.sl t),.own o s=>match st.O o with
  |some (.cM aj a7 xs)=>bif aj.beq s then(if h:a7=t then some (h▸xs:List (den t)) else none) else none
  |_=>none
 |.d (.map t),.own o s=>match st.O o with
  |some (.map aj a7 es)=>bif aj.beq s&&!fz o (l0 aN) then(if h:a7=t then some (h▸es:List (al×den t)) else none) else none
  |_=>none
 |.fn g ck,.d (.fn cm cs)=>bif Nat.beq g cm then yI ck cs else none
 |.fn g [],.clo cm []=>bif Nat.beq g cm then some () else none
 |.dZ aP off,.dZ ds n9=>bif Nat.beq off n9 then uh aP ds else none
 |.own n,.own o s=>bif l_ aN n o s then some () else none
 |.own n,.nil _=>match look aN n with|some none=>some ()|_=>none
 |.ptr n off,.ptr o s n9=>bif l_ aN n o s&&Nat.beq off n9 then some () else none
 |.clo g aC,.clo cm cs=>bif Nat.beq g cm&&s9 aN aC cs then some () else none
 |.eh,.eh=>some ()
 |.Nx,.cu .nilIface=>some ()
 |.ec n t,.ec o s a7 0 0=>bif l_ aN n o s then(if a7=t then some () else none) else none
 |_,_=>none
@[reducible] def pj:List dN->Type
 |[]=>Unit
 |s::r=>s.H×pj r
def rc:(aP:List dN)->pj aP->List aq
 |[],_=>[]
 |s::r,(y,z)=>s.mk y::rc r z
def o'(st:ab)(aN:Ren):(aP:List dN)->List aq->Option (pj aP)
 |[],[]=>some ()
 |s::r,l::U=>match s.ex st aN l,o' st aN r U with
  |some y,some z=>some (y,z)
  |_,_=>none
 |_,_=>none
inductive e0:Type where
 |ah (s:dN)
 |agg (aP:List dN)
@[reducible] def e0.H:e0->Type
 |.ah s=>s.H
 |.agg aP=>pj aP
def e0.mk:(s:e0)->s.H->aI
 |.ah s,y=>bD (s.mk y)
 |.agg aP,y=>.av (.agg (rc aP y))
def e0.ex(st:ab)(aN:Ren):(s:e0)->aI->Option s.H
 |.ah s,.av (.ah l)=>s.ex st aN l
 |.agg aP,.av (.agg U)=>o' st aN aP U
 |_,_=>none
@[reducible] def tz:List (Nat×e0)->Type
 |[]=>Unit
 |s::r=>s.2.H×tz r
def tb:(aP:List (Nat×e0))->tz aP->List (Nat×aI)
 |[],_=>[]
 |s::r,(y,z)=>(s.1,s.2.mk y)::tb r z
def xG(st:ab)(aN:Ren):(aP:List (Nat×e0))->Option (tz aP)
 |[]=>some ()
 |s::r=>match s.2.ex st aN (st.get s.1),xG st aN r with
  |some y,some z=>some (y,z)
  |_,_=>none
inductive dE:Type where
 |row (t:aE)
 |rA (t:aE) (n:Nat) -- akm aiQ row,aiZ length gH told
 |deep (t:aE)
 |box (aP:List dN)
 |map (t:aE)
@[reducible] def dE.H:dE->Type
 |.row t=>List (den t)
 |.rA t _=>List (den t)
 |.deep t=>List (den t)
 |.box aP=>pj aP
 |.map t=>List (al×den t)
def yT{az:Type}(z:az):Nat->List az->List az
 |0,_=>[]
 |n+1,xs=>xs.headD z::yT z n xs.tail
theorem Ke{az:Type}(z:az):∀(xs:List az),yT z xs.length xs=xs
 |[]=>rfl
 |x::xs=>by simp only[List.length_cons,yT,List.headD_cons,List.tail_cons,Ke z xs]
def pad{t:aE}(n:Nat)(xs:List (den t)):List (den t):=match vk t with
 |some z=>yT z n xs
 |none=>xs
theorem ZG{t:aE}{n:Nat}{xs:List (den t)}(h:xs.length=n):pad n xs=xs:=by
 subst h;unfold pad;split
 ·exact Ke _ _
 ·rfl
def dE.mk:(s:dE)->s.H->Site
 |.row t,xs=>.row 0 t xs
 |.rA t n,xs=>.row 0 t (pad n xs)
 |.deep t,xs=>.deep 0 t xs
 |.box aP,y=>.box 0 (rc aP y)
 |.map t,es=>.map 0 t es
def dE.ex(st:ab)(aN:Ren):(s:dE)->Option (Nat×Nat)->Option s.H
 |.row t,none=>some ([]:List (den t))
 |.row t,some (o,s)=>match st.O o with
  |some (.row aj a7 xs)=>bif aj.beq s then(if h:a7=t then some (h▸xs:List (den t)) else none) else none
  |_=>none
 |.deep t,none=>some ([]:List (den t))
 |.deep t,some (o,s)=>match st.O o with
  |some (.deep aj a7 xs)=>bif aj.beq s then(if h:a7=t then some (h▸xs:List (den t)) else none) else none
  |_=>none
 |.rA _ _,none=>none
 |.rA t n,some (o,s)=>match st.O o with
  |some (.row aj a7 xs)=>bif aj.beq s then(if h:a7=t then(if xs.length=n then some (h▸xs:List (den t)) else none) else none) else none
  |_=>none
 |.box aP,some (o,s)=>match fo st o s with
  |some cells=>o' st aN aP cells
  |none=>none
 |.box _,none=>none
 |.map t,some (o,s)=>match st.O o with
  |some (.map aj a7 es)=>bif aj.beq s then(if h:a7=t then some (h▸es:List (al×den t)) else none) else none
  |_=>none
 |.map _,none=>none
inductive Loc:Type where
 |same
 |slot (t j:Nat)
 |cell (o j:Nat)
def _G(st:ab):Loc->Option aq
 |.same=>none
 |.slot t j=>match st.get t with
  |.av (.ah l)=>bif Nat.beq j 0 then some l else none
  |.av (.agg U)=>U[j]?
  |_=>none
 |.cell o j=>match st.O o with
  |some (.box _ cells)=>cells[j]?
  |_=>none
def DH(st:ab)(n:Nat)(l:Loc):Option (Option (Nat×Nat)):=
 match l with
 |.same=>match st.O n with|some s=>some (some (n,s.bX))|none=>none
 |l=>match _G st l with
  |some (.own o s)=>some (some (o,s))
  |some (.ptr o s _)=>some (some (o,s))
  |some (.ec o s _ _ _)=>some (some (o,s))
  |some (.nil _)=>some none
  |_=>none
@[reducible] def q5:List (Nat×dE×Loc)->Type
 |[]=>Unit
 |s::r=>s.2.1.H×q5 r
def fw:(aP:List (Nat×dE×Loc))->q5 aP->List (Nat×Site)
 |[],_=>[]
 |s::r,(y,z)=>(s.1,s.2.1.mk y)::fw r z
def xH(st:ab)(aN:Ren):(aP:List (Nat×dE×Loc))->Option (q5 aP)
 |[]=>some ()
 |s::r=>match(look aN s.1).bind fun D=>s.2.1.ex st aN D,xH st aN r with
  |some y,some z=>some (y,z)
  |_,_=>none
def o5(st:ab):List (Nat×dE×Loc)->Option Ren
 |[]=>some []
 |s::r=>match DH st s.1 s.2.2,o5 st r with
  |some D,some aN=>some ((s.1,D)::aN)
  |_,_=>none
structure Shape where
 cz:List (Nat×e0)
 sites:List (Nat×dE×Loc)
 nt:Nat
@[reducible] def Shape.H(aM:Shape):Type:=tz aM.cz×q5 aM.sites
def Shape.st(aM:Shape)(y:aM.H):ab:=⟨tb aM.cz y.1,fw aM.sites y.2,aM.nt⟩
def y4(st:ab):dN->aq->List (Nat×Site)
 |.d (.sl _),.own o s=>match st.O o with
  |some (.row aj t xs)=>bif aj.beq s then [(o,.cM s t xs)] else []
  |some (.deep aj t xs)=>bif aj.beq s then [(o,.cM s t xs)] else []
  |_=>[]
 |_,_=>[]
def y3(st:ab):List dN->List aq->List (Nat×Site)
 |s::aP,l::U=>y4 st s l++y3 st aP U
 |_,_=>[]
def N0(st:ab):e0->aI->List (Nat×Site)
 |.ah s,.av (.ah l)=>y4 st s l
 |.agg aP,.av (.agg U)=>y3 st aP U
 |_,_=>[]
def oO(st:ab):List (Nat×e0)->List (Nat×Site)
 |[]=>[]
 |s::r=>N0 st s.2 (st.get s.1)++oO st r
def NZ(st:ab):dE->Option (Option (Nat×Nat))->List (Nat×Site)
 |.box aP,some (some (o,s))=>match fo st o s with
  |some cells=>y3 st aP cells
  |none=>[]
 |_,_=>[]
def oP(st:ab):List (Nat×dE×Loc)->List (Nat×Site)
 |[]=>[]
 |s::r=>NZ st s.2.1 (DH st s.1 s.2.2)++oP st r
def Shape.ex(aM:Shape)(a_:ab):Option aM.H:=
 let st:=a_.g5 (oO a_ aM.cz++oP a_ aM.sites)
 bif st.nt.beq aM.nt then
  match o5 st aM.sites with
  |some aN=>bif eC (keys aN)&&eC (l0 aN) then
    match xG st aN aM.cz,xH st aN aM.sites with
    |some y,some z=>some (y,z)
    |_,_=>none
   else none
  |none=>none
 else none
theorem Ks{st:ab}{s:dN}{l:aq}:de st.sites (y4 st s l):=by
 unfold y4;split
 ·rename_i o s;split
  ·rename_i aj t xs hl;cases hb:aj.beq s with
   |false=>exact .nil
   |true=>
    have:=Nat.eq_of_beq_eq_true hb;subst this;intro F O hm;simp only[cond_true,List.mem_singleton,Prod.mk.injEq] at hm;obtain⟨rfl,rfl⟩:=hm;exact⟨_,_,_,rfl,.inl hl⟩
  ·rename_i aj t xs hl;cases hb:aj.beq s with
   |false=>exact .nil
   |true=>
    have:=Nat.eq_of_beq_eq_true hb;subst this;intro F O hm;simp only[cond_true,List.mem_singleton,Prod.mk.injEq] at hm;obtain⟨rfl,rfl⟩:=hm;exact⟨_,_,_,rfl,.inr (.inr hl)⟩
  ·exact .nil
 ·exact .nil
theorem Kr{st:ab}:∀{aP:List dN} {U:List aq},de st.sites (y3 st aP U):=by
 intro aP;induction aP with
 |nil=>intro U;cases U<;>exact .nil
 |cons s aP ih=>
  intro U;cases U with
  |nil=>exact .nil
  |cons l U=>exact Ks.append ih
theorem TE{st:ab}:∀{aP:List (Nat×e0)},de st.sites (oO st aP):=by
 intro aP;induction aP with
 |nil=>exact .nil
 |cons s aP ih=>
  refine de.append ?_ ih;unfold N0;split
  ·exact Ks
  ·exact Kr
  ·exact .nil
theorem TF{st:ab}:∀{aP:List (Nat×dE×Loc)},de st.sites (oP st aP):=by
 intro aP;induction aP with
 |nil=>exact .nil
 |cons s aP ih=>
  refine de.append ?_ ih;unfold NZ;split
  ·split
   ·exact Kr
   ·exact .nil
  ·exact .nil
def rs(st:ab)(aN:Ren)(ba:List (Nat×Site)):Prop:=
 ∀n D,look aN n=some D->(∃aj,look ba n=some aj/\aj.bX=0)/\∀o s,D=some (o,s)->∃O,look st.sites o=some O/\O.bX=s/\O.live=true
def eF(B:Nat->Value)(aN:Ren)(ba:List (Nat×Site))(n:Nat):Value:=
 match look aN n with
 |some (some (o,_))=>B o
 |some none=>match look ba n with
  |some (.deep _ _ _)=>.tuple #[.slice none 0 0]
  |_=>.slice none 0 0
 |none=>undef
theorem IL{B:Nat->Value}{aN:Ren}{ba:List (Nat×Site)}{n:Nat}(h:look aN n=some none):bO (eF B aN ba n)=.slice none 0 0/\bu (eF B aN ba n)=[]:=by
 unfold eF;rw[h];simp only;split<;>exact⟨rfl,rfl⟩
theorem T_{aN:Ren}{n o s:Nat}(h:l_ aN n o s=true):look aN n=some (some (o,s)):=by
 unfold l_ at h;split at h
 ·rename_i E6 aj hl;simp only[Bool.and_eq_true] at h;rw[hl,Nat.eq_of_beq_eq_true h.1,Nat.eq_of_beq_eq_true h.2]
 ·cases h
section
variable {L:World}{J:List Nat}{X:Nat->Prop}{B:Nat->Value}{st:ab}{tm:Array Value}{w:World}{aN:Ren}{ba:List (Nat×Site)}{bR:Nat->Prop}
theorem w9(S:ae L J X B st tm w)(ea:rs st aN ba){n o s:Nat}(h:l_ aN n o s=true){p pW:Prop}(hr:Ref st.sites o s p)(an:eF B aN ba n=B o->p->pW):Ref ba n 0 pW:=by
 have hl:=T_ h;obtain⟨⟨aj,h1,h2⟩,Z⟩:=ea n _ hl;obtain⟨O,aH,bp,_⟩:=Z o s rfl;exact Ref.mk h1 h2 (an (by simp[eF,hl]) (Ref.at hr aH bp))
theorem T'(S:ae L J X B st tm w)(ea:rs st aN ba):∀{aC:List Nat} {cs:List (Nat×Nat)} {vs:List Value},s9 aN aC cs=true->vs.length=cs.length->
  (∀i (h:i<cs.length) (aa:i<vs.length),Ref st.sites (cs[i]).1 (cs[i]).2 (vs[i]=bO (B (cs[i]).1)))->
  vs.length=(aC.map fun n=>(n,0)).length/\∀i (h:i<(aC.map fun n=>((n,0):Nat×Nat)).length) (aa:i<vs.length),Ref ba ((aC.map fun n=>((n,0):Nat×Nat))[i]).1 ((aC.map fun n=>((n,0):Nat×Nat))[i]).2 (vs[i]=bO (eF B aN ba ((aC.map fun n=>((n,0):Nat×Nat))[i]).1)):=by
 intro aC;induction aC with
 |nil=>
  intro cs vs h hl _;match cs,h with
  |[],_=>exact⟨by simpa using hl,fun i h=>by simp at h⟩
 |cons n aC ih=>
  intro cs vs h hl hr;match cs,h with
  |(o,s)::cs,h=>
   simp only[s9,Bool.and_eq_true] at h;match vs,hl with
   |v::vs,hl=>
    obtain⟨ay,ao⟩:=ih (vs:=vs) h.2 (by simpa using hl) (fun i g1 g2=>hr (i+1) (by simpa using g1) (by simpa using g2))
    refine⟨by simpa using ay,fun i g1 g2=>?_⟩
    cases i with
    |zero=>exact w9 S ea h.1 (hr 0 (by simp) (by simp)) (fun e p=>p.trans (congrArg bO e.symm))
    |succ i=>exact ao i (by simpa using g1) (by simpa using g2)
def yQ(B:Nat->Value)(st:ab)(aN:Ren)(bR:Nat->Prop):Prop:=∀o,bM st.sites o->fz o (l0 aN)=false->∀b,b∈bu (B o)->¬bR b
theorem dN.fM(S:ae L J X B st tm w)(ea:rs st aN ba)(bU:∀b,bR b->am X B st.sites b)(dL:yQ B st aN bR){s:dN}{l:aq}{y:s.H}{v:Value}(h:s.ex st aN l=some y)(hv:c_ B st.sites w (am X B st.sites) l v):
  c_ (eF B aN ba) ba w bR (s.mk y) v:=by
 have fp:∀{d:aK} {v:Value},a8 w (am X B st.sites) d v->a8 w bR d v:=fun h=>b4.fp (B:=B) (sites:=[]) (a:=one _) bU (fun b hb=>S.lt (bU b hb)) h
 unfold dN.ex at h;split at h
 ·trivial
 ·rename_i s v';have:s.mk y=v':=dj.LZ h;show a8 w bR (s.mk y) v;rw[this];exact fp hv
 ·rename_i t u;cases h;have hv:v=.slice none 0 0:=hv;rw[hv];exact a8.nil t
 ·rename_i T;cases h;have hv:v=.nilIface:=hv;rw[hv];exact a8.ui T
 ·rename_i t o s;split at h
  ·rename_i aj a7 xs hl;cases hb:aj.beq s with
   |false=>simp[hb] at h
   |true=>
    simp only[hb,cond_true] at h;split at h
    ·rename_i e;subst e;cases h;have M:=Nat.eq_of_beq_eq_true hb;subst M;have hl:look st.sites o=some (.cM aj a7 xs):=hl;have ir:v=bO (B o):=Ref.at hv.2 hl rfl;rw[ir];exact fp (S.sites o _ hl).1
    ·cases h
  ·cases h
 ·rename_i t o s;split at h
  ·rename_i aj a7 es hl;cases hb:(aj.beq s&&!fz o (l0 aN)) with
   |false=>simp[hb] at h
   |true=>
    simp only[hb,cond_true] at h;simp only[Bool.and_eq_true,Bool.not_eq_true'] at hb;split at h
    ·rename_i e;subst e;cases h;have M:=Nat.eq_of_beq_eq_true hb.1;subst M;have hl:look st.sites o=some (.map aj a7 es):=hl;have ir:v=bO (B o):=Ref.at hv.2 hl rfl;obtain⟨b,h1,h2⟩:=S.sites o _ hl;rw[ir,h1];exact a8.map a7 es b (dL o ⟨_,hl,rfl⟩ hb.2 b (fL (by rw[h1];rfl))) h2
    ·cases h
  ·cases h
 ·rename_i g ck cm cs;cases hb:Nat.beq g cm with
  |false=>simp[hb] at h
  |true=>
   simp only[hb,cond_true] at h;have:=Nat.eq_of_beq_eq_true hb;subst this;show a8 w bR (.fn g (tH ck y)) v;rw[Xh h];exact fp hv
 ·rename_i g cm;cases hb:Nat.beq g cm with
  |false=>simp[hb] at h
  |true=>
   have:=Nat.eq_of_beq_eq_true hb;subst this;obtain⟨vs,h1,h2,_⟩:=hv;rw[List.eq_nil_of_length_eq_zero h2] at h1;rw[h1];exact jR.fn (bj:=[]) (vs:=[]) trivial
 ·rename_i aP off ds n9;cases hb:Nat.beq off n9 with
  |false=>simp[hb] at h
  |true=>
   simp only[hb,cond_true] at h;have:=Nat.eq_of_beq_eq_true hb;subst this;have e:=Kk h;obtain⟨b,D,h1,h2,Z,cs,aH,bp,dm⟩:=hv;show c_ (eF B aN ba) ba w bR (.dZ (fe aP y) off) v;rw[e];exact⟨b,D,h1,fun hx=>h2 (bU b hx),Z,cs,aH,bp,fun j g1 g2=>fp (dm j g1 g2)⟩
 ·rename_i n o s;cases hb:l_ aN n o s with
  |false=>simp[hb] at h
  |true=>exact⟨hv.1,w9 S ea hb hv.2 (fun e p=>p.trans (by rw[e]))⟩
 ·rename_i n t;split at h
  ·rename_i hl;have hv:v=.slice none 0 0:=hv;obtain⟨⟨aj,h1,h2⟩,_⟩:=ea n _ hl;exact⟨by rw[hv];rfl,Ref.mk h1 h2 (by rw[(IL hl).1,hv])⟩
  ·cases h
 ·rename_i n off o s n9;cases hb:(l_ aN n o s&&Nat.beq off n9) with
  |false=>simp[hb] at h
  |true=>
   simp only[Bool.and_eq_true] at hb;have:=Nat.eq_of_beq_eq_true hb.2;subst this;obtain⟨b,h1,h2⟩:=hv;exact⟨b,h1,w9 S ea hb.1 h2 (fun e p=>by rw[e];exact p)⟩
 ·rename_i g aC cm cs;cases hb:(Nat.beq g cm&&s9 aN aC cs) with
  |false=>simp[hb] at h
  |true=>
   simp only[Bool.and_eq_true] at hb;have:=Nat.eq_of_beq_eq_true hb.1;subst this;obtain⟨vs,h1,h2,Z⟩:=hv;obtain⟨ay,ao⟩:=T' S ea hb.2 h2 Z;exact⟨vs,h1,ay,ao⟩
 ·trivial
 ·exact hv
 ·rename_i n t o s a7;cases hb:l_ aN n o s with
  |false=>simp[hb] at h
  |true=>
   simp only[hb,cond_true] at h;split at h
   ·rename_i e;subst e;obtain⟨b,h1,h2⟩:=hv;exact⟨b,h1,w9 S ea hb h2 (fun e p=>by rw[e];exact p)⟩
   ·cases h
 ·cases h
theorem Uz{aP:List dN}{U:List aq}{y:pj aP}(h:o' st aN aP U=some y)(bW:(rc aP y).head?=some .eh):U.head?=some .eh:=by
 cases aP with
 |nil=>cases bW
 |cons s aP=>
  cases U with
  |nil=>cases h
  |cons l U=>
   simp only[o'] at h;split at h
   ·rename_i a b h1 h2;cases h;simp only[rc,List.head?_cons,Option.some.injEq] at bW ⊢;cases s with
    |eh=>cases l<;>first|rfl|cases h1
    |_=>cases bW
   ·cases h
theorem JL(S:ae L J X B st tm w)(ea:rs st aN ba)(bU:∀b,bR b->am X B st.sites b)(dL:yQ B st aN bR):∀{aP:List dN} {U:List aq} {y:pj aP} {vs:List Value},o' st aN aP U=some y->
  ca B st.sites w (am X B st.sites) U vs->ca (eF B aN ba) ba w bR (rc aP y) vs:=by
 intro aP;induction aP with
 |nil=>
  intro U y vs h hv;match U,h with
  |[],_=>rw[hv.kx];exact .nil
 |cons s aP ih=>
  intro U y vs h hv;match U,h with
  |l::U,h=>
   simp only[o'] at h;split at h
   ·rename_i a b h1 h2;cases h;obtain⟨v,cg,rfl,ay,ao⟩:=hv.inv;exact .cons (dN.fM S ea bU dL h1 ay) (ih h2 ao)
   ·cases h
theorem e0.fM(S:ae L J X B st tm w)(ea:rs st aN ba)(bU:∀b,bR b->am X B st.sites b)(dL:yQ B st aN bR){s:e0}{a:aI}{y:s.H}{v:Value}(h:s.ex st aN a=some y)(hv:b4 B st.sites w (am X B st.sites) a v):
  b4 (eF B aN ba) ba w bR (s.mk y) v:=by
 unfold e0.ex at h;split at h
 ·exact dN.fM S ea bU dL h hv
 ·obtain⟨vs,h1,h2,Z⟩:=hv;have:=JL S ea bU dL h ⟨h2,Z⟩;exact⟨vs,h1,this.1,this.2⟩
 ·cases h
theorem Ux:∀{aP:List (Nat×e0)} {y:tz aP},xG st aN aP=some y->∀t v,look (tb aP y) t=some v->∃s:e0,∃y':s.H,s.ex st aN (st.get t)=some y'/\v=s.mk y':=by
 intro aP;induction aP with
 |nil=>intro y h t v hl;cases hl
 |cons s aP ih=>
  intro y h t v hl;simp only[xG] at h;split at h
  ·rename_i a b h1 h2;cases h;simp only[tb,look] at hl;cases hb:s.1.beq t with
   |true=>
    simp only[hb,cond_true,Option.some.injEq] at hl;have:=Nat.eq_of_beq_eq_true hb;subst this;exact⟨s.2,a,h1,hl.symm⟩
   |false=>
    simp only[hb,cond_false] at hl;exact ih h2 t v hl
  ·cases h
theorem Uy:∀{aP:List (Nat×dE×Loc)} {y:q5 aP},xH st aN aP=some y->∀n bo,look (fw aP y) n=some bo->∃z:dE,∃y':z.H,∃D,look aN n=some D/\z.ex st aN D=some y'/\bo=z.mk y':=by
 intro aP;induction aP with
 |nil=>intro y h n bo hl;cases hl
 |cons s aP ih=>
  intro y h n bo hl;simp only[xH] at h;split at h
  ·rename_i a b h1 h2;cases h;simp only[fw,look] at hl;cases hb:s.1.beq n with
   |true=>
    simp only[hb,cond_true,Option.some.injEq] at hl;have:=Nat.eq_of_beq_eq_true hb;subst this;obtain⟨D,ay,ao⟩:=Option.bind_eq_some_iff.1 h1;exact⟨s.2.1,a,D,ay,ao,hl.symm⟩
   |false=>
    simp only[hb,cond_false] at hl;exact ih h2 n bo hl
  ·cases h
theorem dE.bX(z:dE)(y:z.H):(z.mk y).bX=0:=by cases z<;>rfl
theorem Uj{dB:ab}:∀{aP:List (Nat×dE×Loc)} {aN:Ren} {y:q5 aP},o5 dB aP=some aN->∀n D,look aN n=some D->(∃aj,look (fw aP y) n=some aj/\aj.bX=0):=by
 intro aP;induction aP with
 |nil=>intro aN y h n D hl;simp only[o5] at h;cases h;cases hl
 |cons s aP ih=>
  intro aN y h n D hl;simp only[o5] at h;split at h
  ·rename_i a b h1 h2;cases h;obtain⟨h4,eQ⟩:=y;simp only[fw,look] at hl ⊢;cases hb:s.1.beq n with
   |true=>simp only[cond_true];exact⟨_,rfl,dE.bX _ _⟩
   |false=>
    simp only[hb,cond_false] at hl ⊢;exact ih h2 n D hl
  ·cases h
theorem Ui{dB:ab}:∀{aP:List (Nat×dE×Loc)} {aN:Ren},o5 dB aP=some aN->(keys aN).Nodup->∀n z,(n,z,Loc.same)∈aP->∃s,look aN n=some (some (n,s)):=by
 intro aP;induction aP with
 |nil=>intro aN h _ n z hm;simp at hm
 |cons s aP ih=>
  intro aN h hn n z hm;simp only[o5] at h;split at h
  ·rename_i a b h1 h2;cases h;simp only[keys,List.nodup_cons] at hn;rcases List.mem_cons.1 hm with hm|hm
   ·subst hm;simp only[DH] at h1;split at h1
    ·cases h1;exact⟨_,by simp[look];rfl⟩
    ·cases h1
   ·obtain⟨aj,eN⟩:=ih h2 hn.2 n z hm;refine⟨aj,?_⟩;simp only[look];have:¬s.1=n:=by
     rintro rfl;have key:∀{aN:Ren} {n:Nat} {D},look aN n=some D->n∈keys aN:=by
      intro aN;induction aN with
      |nil=>intro n D h;cases h
      |cons p aN ae5=>
       obtain⟨m,q⟩:=p;intro n D h;simp only[look] at h;cases hb:m.beq n with
       |true=>have:=Nat.eq_of_beq_eq_true hb;subst this;exact List.mem_cons_self
       |false=>simp only[hb,cond_false] at h;exact List.mem_cons_of_mem _ (ae5 h)
     exact hn.1 (key eN)
    rw[iN this];exact eN
  ·cases h
theorem Ao:∀{aN:Ren} {n o s:Nat},look aN n=some (some (o,s))->o∈l0 aN:=by
 intro aN;induction aN with
 |nil=>intro n o s h;cases h
 |cons p aN ih=>
  obtain⟨m,D⟩:=p;intro n o s h;simp only[look] at h;cases hb:m.beq n with
  |true=>
   simp only[hb,cond_true,Option.some.injEq] at h;subst h;exact List.mem_cons_self
  |false=>
   simp only[hb,cond_false] at h;have:=ih h;cases D with
   |none=>exact this
   |some q=>exact List.mem_cons_of_mem _ this
theorem To:∀{aN:Ren} {n m o s aj:Nat},(l0 aN).Nodup->look aN n=some (some (o,s))->look aN m=some (some (o,aj))->n=m:=by
 intro aN;induction aN with
 |nil=>intro n m o s aj _ h;cases h
 |cons p aN ih=>
  obtain⟨k,D⟩:=p;intro n m o s aj Y h aa;simp only[look] at h aa;have lJ:(l0 aN).Nodup:=by
   cases D with
   |none=>exact Y
   |some q=>exact(List.nodup_cons.1 Y).2
  cases hb:k.beq n with
  |true=>
   simp only[hb,cond_true,Option.some.injEq] at h;subst h;cases b3:k.beq m with
   |true=>rw[<-Nat.eq_of_beq_eq_true hb,<-Nat.eq_of_beq_eq_true b3]
   |false=>
    simp only[b3,cond_false] at aa;exact absurd (Ao aa) (List.nodup_cons.1 Y).1
  |false=>
   simp only[hb,cond_false] at h;cases b3:k.beq m with
   |true=>
    simp only[b3,cond_true,Option.some.injEq] at aa;subst aa;exact absurd (Ao h) (List.nodup_cons.1 Y).1
   |false=>
    simp only[b3,cond_false] at aa;exact ih lJ h aa
theorem Shape.fM(S:ae L J X B st tm w){aM:Shape}{y:aM.H}(h:aM.ex st=some y):∃aw,ae L J X aw (aM.st y) tm w/\∀n z,(n,z,Loc.same)∈aM.sites->aw n=B n:=by
 unfold Shape.ex at h;have ft:de st.sites (oO st aM.cz++oP st aM.sites):=TE.append TF;have cT:=S.xF ft;rw[<-ab.s6] at cT;generalize st.g5 (oO st aM.cz++oP st aM.sites)=dB at h cT;cases py:dB.nt.beq aM.nt with
 |false=>simp[py] at h
 |true=>
  simp only[py,cond_true] at h;split at h
  ·rename_i aN uA;cases hc:(eC (keys aN)&&eC (l0 aN)) with
   |false=>simp[hc] at h
   |true=>
    simp only[hc,cond_true] at h;simp only[Bool.and_eq_true,nF] at hc;split at h
    ·rename_i h4 eQ h1 h2;cases h;have facts:=Uy h2;have LJ:∀{z:dE} {y':z.H} {o s:Nat},z.ex dB aN (some (o,s))=some y'->∃O,look dB.sites o=some O/\O.bX=s/\O.live=true:=by
      intro z y' o s hz;cases z with
      |row t=>
       simp only[dE.ex] at hz;split at hz
       ·rename_i aj a7 xs hl;cases hb:aj.beq s with
        |false=>simp[hb] at hz
        |true=>exact⟨_,hl,Nat.eq_of_beq_eq_true hb,rfl⟩
       ·cases hz
      |rA t n=>
       simp only[dE.ex] at hz;split at hz
       ·rename_i aj a7 xs hl;cases hb:aj.beq s with
        |false=>simp[hb] at hz
        |true=>exact⟨_,hl,Nat.eq_of_beq_eq_true hb,rfl⟩
       ·cases hz
      |deep t=>
       simp only[dE.ex] at hz;split at hz
       ·rename_i aj a7 xs hl;cases hb:aj.beq s with
        |false=>simp[hb] at hz
        |true=>exact⟨_,hl,Nat.eq_of_beq_eq_true hb,rfl⟩
       ·cases hz
      |box aP=>
       simp only[dE.ex] at hz;split at hz
       ·rename_i hl;exact⟨_,gq hl,rfl,rfl⟩
       ·cases hz
      |map t=>
       simp only[dE.ex] at hz;split at hz
       ·rename_i aj a7 xs hl;cases hb:aj.beq s with
        |false=>simp[hb] at hz
        |true=>exact⟨_,hl,Nat.eq_of_beq_eq_true hb,rfl⟩
       ·cases hz
     have ea:rs dB aN (fw aM.sites eQ):=by
      intro n D hn;obtain⟨aj,uN,pu⟩:=Uj (y:=eQ) uA n D hn;refine⟨⟨aj,uN,pu⟩,fun o s e=>?_⟩
      obtain⟨z,y',cS,ay,ao,_⟩:=facts n aj uN;rw[hn] at ay;cases ay;subst e;exact LJ ao
     have live:∀n,bM (fw aM.sites eQ) n->∀b,b∈bu (eF B aN (fw aM.sites eQ) n)->∃o s,look aN n=some (some (o,s))/\bM dB.sites o/\eF B aN (fw aM.sites eQ) n=B o:=by
      rintro n ⟨bo,hn,_⟩ b hb;obtain⟨z,y',D,ay,ao,_⟩:=facts n bo hn;cases D with
      |none=>rw[(IL ay).2] at hb;cases hb
      |some q=>
       obtain⟨o,s⟩:=q;obtain⟨O,q1,_,dJ⟩:=LJ ao;exact⟨o,s,ay,⟨O,q1,dJ⟩,by simp[eF,ay]⟩
     have bU:∀b,am X (eF B aN (fw aM.sites eQ)) (fw aM.sites eQ) b->am X B dB.sites b:=by
      rintro b (hb|⟨n,hn,hb⟩)
      ·exact .inl hb
      ·obtain⟨o,s,_,q2,dJ⟩:=live n hn b hb;exact .inr ⟨o,q2,by rw[<-dJ];exact hb⟩
     have fp:∀{d:aK} {v:Value},a8 w (am X B dB.sites) d v->a8 w (am X (eF B aN (fw aM.sites eQ)) (fw aM.sites eQ)) d v:=
      fun h=>b4.fp (B:=B) (sites:=[]) (a:=one _) bU (fun b hb=>cT.lt (bU b hb)) h
     have dL:yQ B dB aN (am X (eF B aN (fw aM.sites eQ)) (fw aM.sites eQ)):=by
      rintro o ci hm b hb (hx|⟨n,hn,uS⟩)
      ·exact(cT.b1 o b ci hb).1 hx
      ·obtain⟨F,s,q1,q2,dJ⟩:=live n hn b uS;rw[dJ] at uS;have e:=cT.c8 o F b ci q2 hb uS;subst e;have hin:=Ao q1;rw[<-sZ] at hin;rw[hm] at hin;cases hin
     refine⟨eF B aN (fw aM.sites eQ),⟨?_,fun t=>?_,fun n bo hn=>?_,fun n m b cW fV g1 g2=>?_,fun n b cW g1=>?_,cT.frame,cT.old,cT.eM⟩,fun n z hm=>?_⟩
     ·rw[cT.nt];exact Nat.eq_of_beq_eq_true py
     ·show b4 _ _ _ _ (ab.get _ t) _;unfold ab.get;cases hl:look (tb aM.cz h4) t with
      |none=>simp only[Shape.st,hl];trivial
      |some v=>
       simp only[Shape.st,hl];obtain⟨s,y',ay,ao⟩:=Ux h1 t v hl;rw[ao];exact e0.fM cT ea bU dL ay (cT.cz t)
     ·have hn:look (fw aM.sites eQ) n=some bo:=hn;obtain⟨z,y',D,ay,ao,be⟩:=facts n bo hn;rw[be];cases z with
      |row t=>
       cases D with
       |none=>
        simp only[dE.ex] at ao;cases ao;exact⟨0,[],⟨by simp,.inl ⟨by rw[be] at hn;unfold eF;rw[ay,hn];rfl,rfl⟩⟩,fun j h=>by simp[flat] at h⟩
       |some q=>
        obtain⟨o,s⟩:=q;simp only[dE.ex] at ao;split at ao
        ·rename_i aj a7 xs hl;cases hb:aj.beq s with
         |false=>simp[hb] at ao
         |true=>
          simp only[hb,cond_true] at ao;split at ao
          ·rename_i e;subst e;cases ao;obtain⟨e,cs,q1,q2⟩:=cT.sites o _ hl;refine⟨e,cs,?_,fun j g1 g2=>fp (q2 j g1 g2)⟩
           have:eF B aN (fw aM.sites eQ) n=B o:=by simp[eF,ay]
           rw[this];exact q1
          ·cases ao
        ·cases ao
      |rA t m=>
       cases D with
       |none=>cases ao
       |some q=>
        obtain⟨o,s⟩:=q;simp only[dE.ex] at ao;split at ao
        ·rename_i aj a7 xs hl;cases hb:aj.beq s with
         |false=>simp[hb] at ao
         |true=>
          simp only[hb,cond_true] at ao;split at ao
          ·rename_i e;subst e;split at ao
           ·rename_i hlen;cases ao;obtain⟨e,cs,q1,q2⟩:=cT.sites o _ hl;simp only[dE.mk,ZG hlen];refine⟨e,cs,?_,fun j g1 g2=>fp (q2 j g1 g2)⟩
            have:eF B aN (fw aM.sites eQ) n=B o:=by simp[eF,ay]
            rw[this];exact q1
           ·cases ao
          ·cases ao
        ·cases ao
      |deep t=>
       cases D with
       |none=>
        simp only[dE.ex] at ao;cases ao;have e:eF B aN (fw aM.sites eQ) n=.tuple #[.slice none 0 0]:=by rw[be] at hn;unfold eF;rw[ay,hn];rfl
        exact⟨0,.slice none 0 0,[],[],e,by rw[e];exact List.nodup_nil,⟨by simp,.inl ⟨rfl,rfl⟩⟩,.nil⟩
       |some q=>
        obtain⟨o,s⟩:=q;simp only[dE.ex] at ao;split at ao
        ·rename_i aj a7 xs hl;cases hb:aj.beq s with
         |false=>simp[hb] at ao
         |true=>
          simp only[hb,cond_true] at ao;split at ao
          ·rename_i e;subst e;cases ao;obtain⟨e,v,aC,cs,q1,q2,dJ,lP⟩:=cT.sites o _ hl;have:eF B aN (fw aM.sites eQ) n=B o:=by simp[eF,ay]
           exact⟨e,v,aC,cs,this.trans q1,by rw[this];exact q2,dJ,lP.map fp fun _ _ _ _=>rfl⟩
          ·cases ao
        ·cases ao
      |box aP=>
       cases D with
       |none=>cases ao
       |some q=>
        obtain⟨o,s⟩:=q;simp only[dE.ex] at ao;split at ao
        ·rename_i cells hl;obtain⟨b,T,cur,q1,q2,dJ,lP,aeA,pT⟩:=cT.sites o _ (gq hl);have:=JL cT ea bU dL ao ⟨dJ,pT⟩;exact⟨b,T,cur,by simp[eF,ay,q1],q2,this.1,lP,fun bW=>aeA (Uz ao bW),this.2⟩
        ·cases ao
      |map t=>
       cases D with
       |none=>cases ao
       |some q=>
        obtain⟨o,s⟩:=q;simp only[dE.ex] at ao;split at ao
        ·rename_i aj a7 es hl;cases hb:aj.beq s with
         |false=>simp[hb] at ao
         |true=>
          simp only[hb,cond_true] at ao;split at ao
          ·rename_i e;subst e;cases ao;obtain⟨b,q1,q2⟩:=cT.sites o _ hl;have:eF B aN (fw aM.sites eQ) n=B o:=by simp[eF,ay]
           exact⟨b,this.trans q1,q2⟩
          ·cases ao
        ·cases ao
     ·obtain⟨o,s,a1,a2,jE⟩:=live n cW b g1;obtain⟨F,aj,aS,aG,bL⟩:=live m fV b g2;rw[jE] at g1;rw[bL] at g2;have:=cT.c8 o F b a2 aG g1 g2;subst this;exact To hc.2 a1 aS
     ·obtain⟨o,s,a1,a2,jE⟩:=live n cW b g1;rw[jE] at g1;exact cT.b1 o b a2 g1
     ·obtain⟨s,M⟩:=Ui uA hc.1 n z hm;simp[eF,M]
    ·cases h
  ·cases h
end
inductive Kind:Type where
 |norm
 |exit (id:Nat)
 |ret
abbrev bd:=Kind×Shape
@[reducible] def aW:List bd->Type
 |[]=>Empty
 |[D]=>D.2.H
 |D::cS::r=>Sum D.2.H (aW (cS::r))
def Kind.mk:Kind->ab->Out
 |.norm,st=>.norm st
 |.exit id,st=>.exit id st
 |.ret,st=>.ret st
def kQ:(os:List bd)->aW os->Out
 |[D],y=>D.1.mk (D.2.st y)
 |D::cS::r,y=>match y with
  |.inl y=>D.1.mk (D.2.st y)
  |.inr y=>kQ (cS::r) y
def Kind.gH:Kind->Out->Option ab
 |.norm,.norm st=>some st
 |.exit id,.exit hY st=>bif Nat.beq id hY then some st else none
 |.ret,.ret st=>some st
 |_,_=>none
def gD:(os:List bd)->Out->Option (aW os)
 |[],_=>none
 |[D],x=>match D.1.gH x with
  |some st=>D.2.ex st
  |none=>none
 |D::cS::r,x=>match D.1.gH x with
  |some st=>(D.2.ex st).map Sum.inl
  |none=>(gD (cS::r) x).map Sum.inr
section
variable {L:World}{J:List Nat}{X:Nat->Prop}{ds:List Deferred}{eg:Array Value}{W:List Nat}
theorem dX.ex{st:ab}{aM:Shape}{y:aM.H}{a:Act}{w:World}(ai:aM.ex st=some y)(h:dX L J X ds eg W st a w):dX L J X ds eg W (aM.st y) a w:=by
 obtain⟨bZ,dh,cL,B,dk,h1,h2,Z,S,bp⟩:=h;obtain⟨aw,bS,_⟩:=Shape.fM S ai;exact⟨bZ,dh,cL,aw,dk,h1,h2,Z,bS,bp⟩
theorem Kind.Bv{k:Kind}{x:Out}{st:ab}{aM:Shape}{y:aM.H}{e:Exit}{a:Act}{w:World}(h:k.gH x=some st)(ai:aM.ex st=some y)(hl:eU L J X ds eg W x e a w):eU L J X ds eg W (k.mk (aM.st y)) e a w:=by
 cases k<;>cases x<;>simp only[Kind.gH] at h<;>try(cases h;done)
 ·cases h;cases e<;>try exact hl.elim
  exact dX.ex ai hl
 ·rename_i id hY ad;cases hb:Nat.beq id hY with
  |false=>simp[hb] at h
  |true=>
   simp only[hb,cond_true,Option.some.injEq] at h;subst h;cases e<;>try exact hl.elim
   exact⟨(Nat.eq_of_beq_eq_true hb).trans hl.1,dX.ex ai hl.2⟩
 ·cases h;cases e<;>try exact hl.elim
  exact dX.ex ai hl
theorem sR:∀{os:List bd} {x:Out} {y:aW os} {e:Exit} {a:Act} {w:World},gD os x=some y->eU L J X ds eg W x e a w->eU L J X ds eg W (kQ os y) e a w:=by
 intro os;induction os with
 |nil=>intro x y;exact y.elim
 |cons D os ih=>
  intro x y e a w h hl;cases os with
  |nil=>
   simp only[gD] at h;split at h
   ·rename_i st ag;exact Kind.Bv ag h hl
   ·cases h
  |cons cS r=>
   simp only[gD] at h;split at h
   ·rename_i st ag;obtain⟨h4,ay,ao⟩:=Option.map_eq_some_iff.1 h;subst ao;exact Kind.Bv ag ay hl
   ·obtain⟨h4,ay,ao⟩:=Option.map_eq_some_iff.1 h;subst ao;exact ih ay hl
end
section
variable {H bq:Type}
def iter(f:H->Option (Sum H bq)):Nat->H->Option bq
 |0,_=>none
 |n+1,y=>match f y with
  |none=>none
  |some (.inl y')=>iter f n y'
  |some (.inr b)=>some b
theorem IS{f:H->Option (Sum H bq)}:∀{n m:Nat} {y:H} {b:bq},n<=m->iter f n y=some b->iter f m y=some b:=by
 intro n;induction n with
 |zero=>intro m y b _ h;cases h
 |succ n ih=>
  intro m y b cX h;obtain⟨m,rfl⟩:∃k,m=k+1:=⟨m-1,by omega⟩
  simp only[iter] at h ⊢;split at h
  ·cases h
  ·exact ih (by omega) h
  ·exact h
open Classical in
noncomputable def bP(f:H->Option (Sum H bq))(y:H):Option bq:=
 if h:∃n b,iter f n y=some b then some (Classical.choose (Classical.choose_spec h)) else none
theorem AU{f:H->Option (Sum H bq)}{y:H}{b:bq}:bP f y=some b <-> ∃n,iter f n y=some b:=by
 unfold bP;constructor
 ·intro h;split at h
  ·rename_i aa;cases h;exact⟨_,Classical.choose_spec (Classical.choose_spec aa)⟩
  ·cases h
 ·rintro⟨n,hn⟩;have h:∃n b,iter f n y=some b:=⟨n,b,hn⟩;rw[dif_pos h];have h1:=Classical.choose_spec (Classical.choose_spec h);have h2:=IS (Nat.le_max_left (Classical.choose h) n) h1;have Z:=IS (Nat.le_max_right (Classical.choose h) n) hn;rw[h2] at Z;exact Z
theorem wy(f:H->Option (Sum H bq))(y:H):bP f y=match f y with
  |none=>none
  |some (.inl y')=>bP f y'
  |some (.inr b)=>some b:=by
 apply Option.ext;intro b;rw[AU];cases hf:f y with
 |none=>
  simp only;constructor
  ·rintro⟨n,hn⟩;cases n with
   |zero=>cases hn
   |succ n=>simp only[iter,hf] at hn;cases hn
  ·intro h;cases h
 |some s=>
  cases s with
  |inl y'=>
   simp only;rw[AU];constructor
   ·rintro⟨n,hn⟩;cases n with
    |zero=>cases hn
    |succ n=>simp only[iter,hf] at hn;exact⟨n,hn⟩
   ·rintro⟨n,hn⟩;exact⟨n+1,by simp only[iter,hf];exact hn⟩
  |inr a3=>
   simp only;constructor
   ·rintro⟨n,hn⟩;cases n with
    |zero=>cases hn
    |succ n=>simp only[iter,hf] at hn;exact hn
   ·intro h;exact⟨1,by simp only[iter,hf];exact h⟩
theorem least{p:Nat->Prop}(h:∃n,p n):∃n,p n/\∀m,p m->n<=m:=by
 obtain⟨n,hn⟩:=h;induction n using Nat.strongRecOn with
 |_ n ih=>
  by_cases aa:∃m,m<n/\p m
  ·obtain⟨m,h1,h2⟩:=aa;exact ih m h1 h2
  ·exact⟨n,hn,fun m hm=>Nat.le_of_not_lt fun aY=>aa ⟨m,aY,hm⟩⟩
end
noncomputable def qS(C:gS)(c:Code)(p:Nat)(aM:Shape)(os:List bd)(y:aM.H):Option (Sum aM.H (aW os)):=
 exec C c (2*p) (aM.st y) fun
  |.norm st=>(aM.ex st).map .inl
  |x=>(gD os x).map .inr
def yM:(os:List bd)->(R:Type)->aW os->(Out->Option R)->Option R
 |[D],R,y,K=>K (D.1.mk (D.2.st y))
 |D::cS::r,R,y,K=>match y with
  |.inl y=>K (D.1.mk (D.2.st y))
  |.inr y=>yM (cS::r) R y K
theorem JP:∀(os:List bd) (R:Type) (y:aW os) (K:Out->Option R),yM os R y K=K (kQ os y):=by
 intro os;induction os with
 |nil=>intro R y;exact y.elim
 |cons D os ih=>
  intro R y K;cases os with
  |nil=>rfl
  |cons cS r=>
   cases y with
   |inl y=>rfl
   |inr y=>exact ih R y K
def bB(aM:Shape)(os:List bd)(g:aM.H->Option (aW os)):gE:=fun st=>⟨aW os,(aM.ex st).bind g,kQ os,yM os,JP os⟩
section
variable {P:Program}{C:gS}
theorem VR(ax:bb P C.toCtx){c:Code}{p:Nat}{aM:Shape}{os:List bd}(dL:fO P C c (2*p)){g:aM.H->Option (aW os)}(hg:∀y,g y=bP (qS C c p aM os) y):
  br P (.loop c) (bB aM os g):=by
 intro rn hn L J X st y ai B tm w ds S;simp only[bB] at ai y ⊢;obtain⟨ha,h1,h2⟩:=Option.bind_eq_some_iff.1 ai;obtain⟨hT,nB,_⟩:=Shape.fM S h1;rw[hg] at h2;obtain⟨n0,FL⟩:=AU.1 h2;have aig:∃fl:Nat->Act->World->Prop,∀n a w,fl n a w <-> ∃z,iter (qS C c p aM os) n z=some y/\dX L J X ds tm (cd c) (aM.st z) a w:=⟨_,fun _ _ _=>Iff.rfl⟩
 obtain⟨fl,lQ⟩:=aig;classical
 refine wpIn_loop (I:=fun a w=>∃n,fl n a w) (μ:=fun a w=>if h:∃n,fl n a w then Classical.choose (least h) else 0) ⟨n0,(lQ _ _ _).2 ⟨ha,FL,dX.of nB fun _ _=>rfl⟩⟩ ?_
 intro a w' db;have abS:=(Classical.choose_spec (least db)).1;obtain⟨z,hz,bZ,dh,cL,fD,dk,aS,aG,bL,cT,vz⟩:=(lQ _ _ _).1 abS;obtain⟨c',GQ⟩:=a;obtain⟨bL,agt⟩:=bL;have bL:GQ=dk.map mark++ds:=bL;subst bL;have join:∀{D:Out} {e:Exit} {a2:Act} {w2:World},eU bZ dh cL (dk.map mark++ds) c' (cd c) D e a2 w2->eU L J X ds tm (cd c) D e a2 w2:=fun hl=>
  (eU.trans aS aG agt vz hl).mono fun t aB=>(List.mem_append.1 aB).elim id id
 cases eY:Classical.choose (least db) with
 |zero=>rw[eY] at hz;cases hz
 |succ n=>
  rw[eY] at hz;simp only[iter] at hz;have go:∀s,qS C c p aM os z=some s->fI rn P c (fun e a w=>match s with
    |.inl dU=>eU L J X ds tm (cd c) (.norm (aM.st dU)) e a w
    |.inr b=>eU L J X ds tm (cd c) (kQ os b) e a w/\e≠.normal) ⟨c',dk.map mark++ds⟩ w':=by
   intro s M;refine iB ax c (2*p) hn dL bZ dh cL (aM.st z) fD c' w' _ _ _ M cT ?_
   intro D e a w2 ag hl;have hl:=join hl;cases D with
   |norm pm=>
    obtain⟨dU,q1,q2⟩:=Option.map_eq_some_iff.1 ag;subst q2;exact Kind.Bv (k:=.norm) rfl q1 hl
   |exit id pm=>
    obtain⟨dU,q1,q2⟩:=Option.map_eq_some_iff.1 ag;subst q2;exact⟨sR q1 hl,by rintro rfl;exact hl⟩
   |ret pm=>
    obtain⟨dU,q1,q2⟩:=Option.map_eq_some_iff.1 ag;subst q2;exact⟨sR q1 hl,by rintro rfl;exact hl⟩
  cases hr:qS C c p aM os z with
  |none=>rw[hr] at hz;cases hz
  |some s=>
   cases s with
   |inl dU=>
    rw[hr] at hz;refine wpIn_mono (go _ hr) fun e a2 w2 hl=>?_
    cases e<;>try exact hl.elim
    have F0:fl n a2 w2:=(lQ _ _ _).2 ⟨dU,hz,hl⟩;refine⟨⟨n,F0⟩,?_⟩;have hex:∃n,fl n a2 w2:=⟨n,F0⟩;simp only[dif_pos hex,dif_pos db,eY];have:Classical.choose (least hex)<=n:=(Classical.choose_spec (least hex)).2 n F0;omega
   |inr b=>
    rw[hr] at hz;simp only[Option.some.injEq] at hz;subst hz;refine wpIn_mono (go _ hr) fun e a2 w2 hl=>?_
    cases e<;>first|exact absurd rfl hl.2|exact hl.1
noncomputable def KP(C:gS)(c:Code)(p:Nat)(aM:Shape)(os:List bd)(y:aM.H):Option (aW os):=exec C c p (aM.st y) (gD os)
theorem Ue(ax:bb P C.toCtx){c:Code}{p:Nat}{aM:Shape}{os:List bd}(dL:fO P C c p){g:aM.H->Option (aW os)}(hg:∀y,g y=KP C c p aM os y):br P c (bB aM os g):=by
 intro rn hn L J X st y ai B tm w ds S;simp only[bB] at ai y ⊢;obtain⟨ha,h1,h2⟩:=Option.bind_eq_some_iff.1 ai;obtain⟨hT,nB,_⟩:=Shape.fM S h1;rw[hg] at h2;exact iB ax c p hn dL L J X (aM.st ha) hT tm w _ _ _ h2 nB fun D e a w' ag hl=>sR ag hl
end
end Go.Jk
