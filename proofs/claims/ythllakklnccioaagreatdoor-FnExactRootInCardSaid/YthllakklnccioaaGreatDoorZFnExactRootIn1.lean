/- FnExactRootIn: the program's RootIn returns what the reference's returns, for all arguments. (part 2 of 6: JnOps17, JnOps18, JnCall1, JnCall2, JnCall3, JnCall4, JnCall5, JnBld, JnCall6, JnDraw1, JnNest, JnLogic, JnWalk0, JnDraw2, JnDraw3, JnWalk1, JnShape, JnShape2, JnWalk2) Conditions: none beyond the statement. -/
import Derived.Test.YthllakklnccioaaGreatDoorZFnExactRootIn0
import Derived.RangeFuncRecord
import Derived.Below
import Derived.RangeFuncSeq
import Derived.Orders
import Derived.OrdersIn
import Derived.ControlIn
import Derived.LoopIn
import Derived.RangeFuncCalls
set_option linter.unusedVariables false
set_option linter.unusedSimpArgs false
namespace Go.Jk
section
variable {P:Program}{L:World}{J:List Nat}{X:Nat->Prop}{B:Nat->Value}{st:ad}{tm:Array Value}{w:World}{D:Oper}
theorem Kh(S:ah L J X B st tm w){T:TypeId}{g' kz:TypeId}{t:aF}{r:Option Operand}{o:Nat}(au:D.op=.makeMap T r)(da:D.dst=some o)(Y:b6 st D.dst=true)(aZ:P.underlying T=some (.map g' kz))
  (hr:∀x,r=some x->∃k n,Act.eval ⟨tm,[]⟩ x=.int k n):cz P L J X st tm w D (bP (.own o (aY st o))) [(o,.map (aY st o) t [])]:=by
 have bZ:=S.makeMap (o:=o) (t:=t);refine il (us:=[(o,.map (aY st o) t [])]) bZ Y (vv:=.map (some w.heap.size)) ?_ ?_
 ·unfold execOp;cases r with
  |none=>simp[au,Instr.makeMap]
  |some x=>
   obtain⟨k,n,hx⟩:=hr x rfl;simp[au,Instr.makeMap,hx,run_underlying aZ,asInt,asIntOf,Result.andThen]
 ·refine⟨rfl,Ref.mk (O:=.map (aY st o) t []) ?_ rfl (by simp[bY])⟩
  simp only[aW,cn];simp
theorem K2(S:ah L J X B st tm w){C:Ctx}(ay:CtxOk P C){T:TypeId}{m k x:Operand}(au:D.op=.mapUpdate T m k x\/D.op=.insert T m k x)(Y:b6 st D.dst=true):
  Holds (kN.rA C st T m k x) (cz P L J X st tm w D):=by
 have bM:=ay.tt T;unfold kN.rA;split
 ·rename_i g' kz t o s n d aZ hm ag hx;rw[aZ] at bM;split
  ·rename_i am u es hl;cases hb:(am.beq s&&decide (u=t)) with
   |false=>exact .fail
   |true=>
    simp only[cond_true];simp only[Bool.and_eq_true,decide_eq_true_eq] at hb;have M:=Nat.eq_of_beq_eq_true hb.1;subst M;split
    ·rename_i v hv;refine Holds.e8 ?_
     have em:=cT S C T m;rw[hm] at em;have qE:=cT S C 0 k;rw[ag] at qE;have ex:=cT S C 0 x;rw[hx] at ex;have hl:look st.sites o=some (.map am u es):=hl;obtain⟨b,h1,arr,clock,h2,aa⟩:=S.sites o _ hl;have qi:Act.eval ⟨tm,[]⟩ m=B o:=(Ref.at em.2 hl rfl:_=bY (B o)).trans (by rw[h1];rfl)
     obtain⟨bs,o4,k9⟩:=hp (s:=n) qE;have AM:Act.eval ⟨tm,[]⟩ k=gA n:=by rw[o4];exact Mr k9
     have AC:Act.eval ⟨tm,[]⟩ x=m7 u v:=adM hv (av:=an X B st.sites) ex;obtain⟨oT,oB,r1,r2⟩:=Xu (T:=T) bM.1.1 bM.2.1 h2 aa n v;have bZ:=S.acC hl h1 h2 (oB:=oB) r2;refine qN (us:=[(o,.map am u (oz es n v))]) bZ Y ?_
     unfold execOp;rcases au with au|au
     ·simp only[au,qi,h1,AM,AC,Sem.run_bind,r1,Result.andThen_ok,Sem.run_pure]
     ·simp only[au,qi,h1,AM,AC,Sem.run_bind,r1,Result.andThen_ok,Sem.run_pure]
    ·exact .fail
  ·exact .fail
 ·exact .fail
theorem Zv(S:ah L J X B st tm w){C:Ctx}(ay:CtxOk P C){T g' kz:TypeId}{t:aF}{m k:Operand}{c:Bool}{l:aw}{n:al}{es:List (al×den t)}{d:aL}(au:D.op=.lookup T m k c)(Y:b6 st D.dst=true)
  (aZ:C.tt T=.map g' kz t) (hm:aP C st T m=.av (.ai l)) (ag:aP C st 0 k=.av (.ai (.d (.str n)))) (HS:mapOf st l=some ⟨t,es⟩) (HT:uI t (jZ es n)=some d):
  cz P L J X st tm w D (bif c then .jd [.ai (.d d),.ai (.d (.bool (jZ es n).isSome))] else one d) []:=by
 have bM:=ay.tt T;rw[aZ] at bM;have em:=cT S C T m;rw[hm] at em;have qE:=cT S C 0 k;rw[ag] at qE;obtain⟨bs,o4,k9⟩:=hp (s:=n) qE;have AM:Act.eval ⟨tm,[]⟩ k=gA n:=by rw[o4];exact Mr k9
 have hz:∀cZ:Option (den t),uI t cZ=some d->(∀x,cZ=some x->∀av,bi w av d (m7 t x))/\(cZ=none->∃z,(zeroValue kz).run P w=.ok z w/\∀av,bi w av d z):=by
  intro cZ h;have he:=bM.2.2;have key:∀{U0:TypeDesc} {z:Value},iB P kz U0 z->(zeroValue kz).run P w=.ok z w:=by
   intro U0 z h;obtain⟨_,_,_,h⟩:=h;cases hi:P.info? kz with
   |none=>simp[hi] at h
   |some i=>
    simp only[hi,Option.map_some,Option.some.injEq,Prod.mk.injEq] at h;simp[zeroValue,kG hi,h.2]
  cases t<;>first|(exact he.elim)|skip
  ·simp only[uI,Option.some.injEq] at h;subst h;refine⟨fun x hx av=>by subst hx;exact .int _ _,fun hn=>?_⟩
   subst hn;exact⟨_,key he,fun av=>.int _ _⟩
  ·simp only[uI,Option.some.injEq] at h;subst h;refine⟨fun x hx av=>by subst hx;exact .bool _,fun hn=>?_⟩
   subst hn;exact⟨_,key he,fun av=>.bool _⟩
 obtain⟨hz1,hz2⟩:=hz _ HT;have main:∃v,(Instr.lookup T (Act.eval ⟨tm,[]⟩ m) (Act.eval ⟨tm,[]⟩ k) c).run P w=.ok (if c then .tuple #[v,.bool (jZ es n).isSome] else v) w/\∀av,bi w av d v:=by
  rw[AM];rcases MM S em HS with⟨h1,rfl⟩|⟨b,h1,arr,clock,h2,aa⟩
  ·obtain⟨z,fO,gK⟩:=hz2 rfl;refine⟨z,?_,gK⟩;have hf:=xl (w:=w) (t:=t) bM.2.1 (es:=[]) (arr:=#[]) rfl n;have HR:(Instr.findKey g' (gA n) []).run P w=.ok none w:=hf;simp[Instr.lookup,run_underlying bM.1.1,h1,tv bM.2.1,HR,fO,jZ,Result.andThen]
  ·have hf:=xl (w:=w) bM.2.1 aa n;have hg:=Zs n es 0;cases a9:kU es n 0 with
   |none=>
    rw[a9] at hf hg;have hg:jZ es n=none:=hg.symm;obtain⟨z,fO,gK⟩:=hz2 hg;refine⟨z,?_,gK⟩;simp[Instr.lookup,run_underlying bM.1.1,h1,MapKept.run_getObj_map h2,tv bM.2.1,hf,fO,hg,Result.andThen]
   |some p=>
    rw[a9] at hf hg;have hg:jZ es n=some p.2:=hg.symm;refine⟨m7 t p.2,?_,hz1 p.2 hg⟩;simp[Instr.lookup,run_underlying bM.1.1,h1,MapKept.run_getObj_map h2,tv bM.2.1,hf,hg,Result.andThen]
 obtain⟨v,r1,r2⟩:=main;refine dv S Y (vv:=if c then .tuple #[v,.bool (jZ es n).isSome] else v) ?_ ?_
 ·unfold execOp;simp only[au,Sem.run_bind,r1,Result.andThen_ok,Sem.run_pure]
 ·cases c with
  |true=>
   refine⟨[v,.bool (jZ es n).isSome],rfl,rfl,fun j g1 g2=>?_⟩
   match j,g1 with
   |0,_=>exact r2 _
   |1,_=>exact bi.bool _
  |false=>exact r2 _
theorem XP(S:ah L J X B st tm w){C:Ctx}(ay:CtxOk P C)(Y:b6 st D.dst=true):Holds (kN C st D) (cz P L J X st tm w D):=by
 unfold kN;split
 ·rename_i t r au;split
  ·rename_i o g' kz ty da aZ;have bM:=ay.tt t;rw[aZ] at bM;split
   ·exact Holds.e8 (Kh S au da Y bM.1.1 (fun x h=>by cases h))
   ·rename_i x;split
    ·rename_i k n hx;refine Holds.e8 (Kh S au da Y bM.1.1 (fun y h=>?_))
     cases h;have ex:=cT S C 0 x;rw[hx] at ex;exact⟨k,n,hq ex⟩
    ·exact .fail
  ·exact .fail
 ·rename_i t m k x au;exact K2 S ay (.inl au) Y
 ·rename_i t m k x au;exact K2 S ay (.inr au) Y
 ·rename_i t m k c au;split
  ·rename_i g' kz ty l n aZ hm ag;split
   ·rename_i u es HS;cases hu:decide (u=ty) with
    |false=>exact .fail
    |true=>
     have hu:=of_decide_eq_true hu;subst hu;simp only[cond_true];split
     ·rename_i d HT;exact Holds.ok (Zv S ay au Y aZ hm ag HS HT)
     ·exact .fail
   ·exact .fail
  ·exact .fail
 ·rename_i t x au;split
  ·rename_i bN q z e n aZ hx;exact Holds.ok (Vh S ay au Y aZ hx)
  ·exact .fail
 ·exact .fail
end
theorem nd{P:Program}{e:TypeId}{t:aF}(h:Ej P e t):ax t=1/\(∃d z,iB P e d z)/\∃l ea,sA t=some l/\we t=some ea/\cC (enc t ea)=[l]:=by
 cases t<;>first|exact h.elim|exact⟨rfl,⟨_,_,h⟩,_,_,rfl,rfl,rfl⟩
theorem Ks{P:Program}{e:TypeId}{t:aF}{T:TypeId}(h:Ej P e t):t.ek=true->T=lc:=by intro ab;cases t<;>first|exact h.elim|cases ab
theorem Cr(t:aF)(x:den t)(xs:List (den t)):flat t (x::xs)=enc t x++flat t xs:=by simp[flat]
theorem Ei(a b:List aL):cC (a++b)=cC a++cC b:=by simp[cC]
theorem M1{t:aF}{z:den t}(hz:we t=some z)(xs:List (den t)):Ac t xs xs.length=cC (flat t xs):=by
 unfold Ac;rw[hz];suffices h:∀(ys fN:List (den t)),xs=fN++ys->((List.range' fN.length ys.length).flatMap fun j=>cC (enc t (xs.getD j z)))=cC (flat t ys) by
  have:=h xs [] rfl;rw[List.length_nil,<-List.range_eq_range'] at this;exact this
 intro ys;induction ys with
 |nil=>intro fN _;rfl
 |cons y ys ih=>
  intro fN hx;rw[List.length_cons,List.range'_succ,List.flatMap_cons,Cr,Ei];have e1:xs.getD fN.length z=y:=by rw[hx];simp[List.getD]
  have e2:=ih (fN++[y]) (by rw[hx];simp)
  rw[List.length_append,List.length_singleton] at e2;rw[e1,e2]
theorem Eg{t:aF}:∀{U:List aw} {xs:List (den t)},sw t U=some xs->U=cC (flat t xs):=by
 intro U;induction U with
 |nil=>intro xs h;cases h;rfl
 |cons l U ih=>
  intro xs h;cases l<;>try(cases h;done)
  rename_i d;simp only[sw] at h;split at h
  ·rename_i x ys h1 h2;cases h;rw[Cr,Ei,<-ih h2,nw _ _ _ h1];rfl
  ·cases h
theorem tx{aH:Type}{n:Nat}{xs ys:List aH}(h:long n xs=some ys):ys=xs/\xs.length=n:=by
 unfold long at h;split at h
 ·cases h;exact⟨rfl,by assumption⟩
 ·cases h
section
variable {P:Program}{L:World}{J:List Nat}{X:Nat->Prop}{B:Nat->Value}{st:ad}{tm:Array Value}{w:World}{D:Oper}
theorem ah.jR(S:ah L J X B st tm w):o' w/\∀b,b∈nZ->¬an X B st.sites b/\b<w.heap.size:=by
 have G:=S.eS;refine⟨aeb (fun b hb=>S.frame.block b (G.lt b hb) (G.J b hb)) G.ok,fun b hb=>⟨?_,Nat.lt_of_lt_of_le (G.lt b hb) S.frame.size⟩⟩
 rintro(h|⟨o,h1,h2⟩)
 ·exact G.X b hb h
 ·rcases(S.b7 o b h1 h2).2 with h|h
  ·exact G.J b hb h
  ·have:=G.lt b hb;omega
theorem acH{ds:List aL}{vs:List Value}{av:Nat->Prop}(h:ch w av ds vs):∀u∈vs,u.oneCell'=true:=by
 intro u hu;obtain⟨j,hj,rfl⟩:=List.getElem_of_mem hu;exact(h.2 j (by rw[<-h.1];exact hj) hj).h4
theorem MI(S:ah L J X B st tm w){T:TypeId}{o n:Nat}{t:aF}{xs:List (den t)}{vs:List Value}(he:ax t=1)(ey:t.ek=true->T=lc)(hv:ch w (an X B st.sites) (flat t xs) vs)(Y:b6 st D.dst=true)
  (cI:(execOp (Act.eval ⟨tm,[]⟩) D).run P w=.ok (.value (.pointer (some ⟨w.heap.size,0,none⟩))) (w.alloc (.cells vs.toArray T (0,0)))):Holds (pS o st t n xs) (cz P L J X st tm w D):=by
 unfold pS;cases hc:(xs.length.beq n&&Nat.ble n 1000) with
 |false=>exact .fail
 |true=>
  simp only[Bool.and_eq_true] at hc;have h1:=Nat.eq_of_beq_eq_true hc.1;have h2:=Nat.le_of_ble_eq_true hc.2;simp only[cond_true];have hl:vs.length=xs.length:=by rw[hv.1,dQ,he,Nat.mul_one]
  have bZ:=S.DH (o:=o) (T:=T) (rest:=[]) (cap:=n) hv (by rw[he,hl,h1];simp) (by unfold maxLen;omega) ey
  rw[List.append_nil] at bZ;refine Holds.e8 (il (us:=[(o,.row (aY st o) t xs)]) bZ Y cI ?_);refine⟨w.heap.size,by simp,Ref.mk (O:=.row (aY st o) t xs) ?_ rfl ⟨xs.length,n,by simp[bY]⟩⟩
  simp only[aW,cn];simp
theorem ZQ(S:ah L J X B st tm w){C:Ctx}(ay:CtxOk P C){elem e:TypeId}{t:aF}{n o:Nat}(aZ:C.tt elem=.arr e t n)(au:D.op=.alloc elem)(Y:b6 st D.dst=true):Holds (rJ o st t n) (cz P L J X st tm w D):=by
 have bM:=ay.tt elem;rw[aZ] at bM;obtain⟨_,_,l0⟩:=id bM;obtain⟨he,_,l,ea,hzl,k6,hzz⟩:=nd l0;unfold rJ;rw[k6];obtain⟨v,hv,hzv⟩:=cd.xk (w:=w) bM (z:=List.replicate n l) (by simp only[cd.zero,hzl,Option.map_some])
 obtain⟨h1,h2,aa⟩:=qM hzv;have hr:ch w (an X B st.sites) (flat t (List.replicate n ea)) v.cells.toList:=by
  have:=aa B st.sites w (an X B st.sites);have e1:∀n,cC (flat t (List.replicate n ea))=List.replicate n l:=by
   intro n;induction n with
   |zero=>rfl
   |succ n ih=>rw[List.replicate_succ,Cr,Ei,hzz,List.replicate_succ,ih];rfl
  refine io (B:=B) (sites:=st.sites) ?_
  rw[e1];exact⟨h1,this⟩
 refine MI (T:=elem) S he (Ks l0) hr Y ?_
 unfold execOp;simp[au,Instr.alloc,hv,newVar,newRow]
theorem abL(S:ah L J X B st tm w){C:Ctx}(ay:CtxOk P C){elem e:TypeId}{t:aF}{n o:Nat}{x:Operand}(aZ:C.tt elem=.arr e t n)(au:D.op=.box elem x)(Y:b6 st D.dst=true):Holds (sy o st t n (aP C st elem x)) (cz P L J X st tm w D):=by
 have bM:=ay.tt elem;rw[aZ] at bM;have he:=(nd bM.2.2).1;have bn:=cT S C elem x;unfold sy;split
 ·rename_i U hx;rw[hx] at bn;split
  ·rename_i xs nQ;obtain⟨vs,hv,hl,hr⟩:∃vs:List Value,Act.eval ⟨tm,[]⟩ x=.agg vs.toArray/\vs.length=U.length/\∀j (h:j<U.length) (ab:j<vs.length),dj B st.sites w (an X B st.sites) (U[j]) (vs[j]):=bn;have oW:ck B st.sites w (an X B st.sites) U vs:=⟨hl,hr⟩;rw[Eg nQ] at oW;refine MI (T:=elem) S he (Ks bM.2.2) (io oW) Y ?_
   unfold execOp;simp[au,Instr.box,newVar,newRow,hv,Value.cells]
  ·exact .fail
 ·exact .fail
theorem ah.arr(S:ah L J X B st tm w){o s:Nat}{t:aF}{xs:List (den t)}{v:Value}(hr:rowOf st o s=some ⟨t,xs⟩)(hv:dj B st.sites w (an X B st.sites) (.ej o s t 0 0) v):
  ∃b c,∃cs:List Value,v=.pointer (some ⟨b,0,none⟩)/\bY (B o)=.slice (some ⟨b,0,none⟩) xs.length c/\ho w b 0 cs/\ch w (an X B st.sites) (flat t xs) cs:=by
 obtain⟨cs,hl,iX⟩:=S.row hr;obtain⟨O,fZ,jL⟩:∃O,look st.sites o=some O/\O.b1=s:=by
  rcases jt hr with h|h<;>exact⟨_,h,rfl⟩
 obtain⟨b,hv,uZ⟩:=hv;obtain⟨n,c,bW⟩:=Ref.at uZ fZ jL;rcases iX with⟨oM,_⟩|⟨a_,fp,dJ,hcs,_⟩
 ·rw[oM] at bW;cases bW
 ·have Qx:=bW;rw[dJ] at Qx;cases Qx;exact⟨b,c,cs,by simpa using hv,dJ,hcs,io hl⟩
theorem _Y(S:ah L J X B st tm w){C:Ctx}(ay:CtxOk P C){T e:TypeId}{t:aF}{n:Nat}{x:Operand}(aZ:C.tt T=.arr e t n)(au:D.op=.load T x)(Y:b6 st D.dst=true):Holds (rW st t n (aP C st T x)) (cz P L J X st tm w D):=by
 have bM:=ay.tt T;rw[aZ] at bM;obtain⟨he,_,_,ea,_,k6,_⟩:=nd bM.2.2;have bn:=cT S C T x;unfold rW;split
 ·rename_i o s u hx;rw[hx] at bn;split
  ·rename_i bj xs cJ;split
   ·rename_i g7;obtain⟨rfl,rfl⟩:=g7;refine Holds.d' fun y ak=>?_
    obtain⟨rfl,hlen⟩:=tx (ak:long n xs=some y);obtain⟨b,c,cs,hv,_,hc,hr⟩:=S.arr cJ bn;have hcl:cs.length=n:=by rw[hr.1,dQ,he,hlen,Nat.mul_one]
    refine dv S Y (vv:=.agg cs.toArray) ?_ ?_
    ·have cI:=qK (P:=P) (w:=w) bM (by rintro h;cases h) ⟨b,0,none⟩ cs hcl (fun j u hu=>by rw[gh];exact hc j u hu)
     unfold execOp;simp only[au,Instr.loadAt,Instr.sureAddr,hv,Sem.run_bind,Sem.run_pure,Result.andThen_ok,cI];rfl
    ·subst hlen;have:=gV (B:=B) (sites:=st.sites) hr.1 hr.2;rw[<-M1 k6] at this;exact⟨cs,rfl,this.1,this.2⟩
   ·exact .fail
  ·exact .fail
 ·exact .fail
theorem YR(S:ah L J X B st tm w){C:Ctx}(ay:CtxOk P C){T e:TypeId}{t:aF}{n:Nat}{a x:Operand}{v:bz}(aZ:C.tt T=.arr e t n)(au:D.op=.store T a x)(Y:b6 st D.dst=true)(hv:lM (aP C st T x)=some v):
  Holds (rp st t n (aP C st T a) v) (cz P L J X st tm w D):=by
 have bM:=ay.tt T;rw[aZ] at bM;have he:=(nd bM.2.2).1;have nX:=cT S C T a;have hex:=cT S C T x;rw[pn hv] at hex;unfold rp;split
 ·rename_i o s u U hx;rw[hx] at nX;split
  ·rename_i am bj xs fi;have fi:look st.sites o=some (.row am bj xs):=fi;split
   ·rename_i g7;obtain⟨rfl,rfl,rfl⟩:=g7;split
    ·rename_i ys ajq;cases hc:ys.length.beq n with
     |false=>exact .fail
     |true=>
      have AB:=Nat.eq_of_beq_eq_true hc;refine Holds.e3 fun r hr=>?_
      obtain⟨_,hlen⟩:=tx (hr:long n xs=some r);obtain⟨vs,nR,hl,dF⟩:∃vs:List Value,Act.eval ⟨tm,[]⟩ x=.agg vs.toArray/\vs.length=U.length/\∀j (h:j<U.length) (ab:j<vs.length),dj B st.sites w (an X B st.sites) (U[j]) (vs[j]):=hex;have oW:ck B st.sites w (an X B st.sites) U vs:=⟨hl,dF⟩;rw[Eg ajq] at oW;have mQ:=io oW;have kd:vs.length=n:=by rw[mQ.1,dQ,he,AB,Nat.mul_one]
      obtain⟨b,AH,uZ⟩:=nX;obtain⟨m,c,bW⟩:=Ref.at uZ fi rfl;obtain⟨b3,cs,iy,hcs⟩:=S.sites o _ fi;rcases iy.2 with⟨hn,_⟩|⟨g,cap,cur,bG,gp,hz,hg,hnc,gq,ht,jK⟩
      ·rw[hn] at bW;cases bW
      ·have o6:=bW;rw[gp] at o6;cases o6;have aj6:cur.size=c:=by rw[ht,he,Nat.mul_one]
       have iA:0+vs.length<=cur.toList.length:=by
        have:cur.toList.length=cur.size:=Array.length_toList;omega
       have bZ:ah L J X B {st with sites:=b8 st.sites o (.row am bj ys)} tm (w.setRow b (a8 cur.toList 0 vs).toArray):=by
        refine S.write fi rfl rfl rfl (fS (by rw[gp];rfl)) hg (fun M hw kk go=>?_)
        refine⟨b3,vs,⟨by rw[he,AB,Nat.mul_one];exact kd,.inr ⟨b,c,_,bG,by rw[gp,hlen,AB],?_,kk,by omega,gq,?_,?_⟩⟩,fun j g1 g2=>jy go (mQ.2 j g1 g2)⟩
        ·refine⟨hz.1,hz.2.imp id fun h=>⟨h.1,?_⟩⟩
         rw[List.size_toArray,me _ _ _ iA];simpa using h.2
        ·rw[List.size_toArray,me _ _ _ iA,Array.length_toList,aj6,he,Nat.mul_one]
        ·rw[he,Nat.mul_one,AB,<-kd];simp[a8]
       refine qN (us:=[(o,.row am bj ys)]) bZ Y ?_
       have cI:=Jc (P:=P) (w:=w) bM (by rintro h;cases h) (vv:=.agg vs.toArray) (cur:=cur.toList) (off:=0) (by simpa using hg) (by simpa using hz) (by simpa[Value.cells,cd.size] using kd) (by simpa[Value.cells] using iA) (by simpa[Value.cells] using acH mQ)
       unfold execOp;simp only[au,AH,nR,Instr.storeAt,Instr.sureAddr,Sem.run_bind,Sem.run_pure,Result.andThen_ok,Nat.zero_mul,Nat.zero_add,cI];simp[Value.cells]
    ·exact .fail
   ·exact .fail
  ·exact .fail
 ·exact .fail
theorem VK(S:ah L J X B st tm w){C:Ctx}(ay:CtxOk P C){T e:TypeId}{t:aF}{m:Nat}{x i:Operand}{k:IntKind}{n:Int}(aZ:C.tt T=.arr e t m)(hi:aP C st 0 i=.av (.ai (.d (.int k n))))(au:D.op=.indexAddr T x i)(Y:b6 st D.dst=true):
  Holds (qP C st t m (aP C st T x) n) (cz P L J X st tm w D):=by
 have bM:=ay.tt T;rw[aZ] at bM;obtain⟨dZ,_,l0⟩:=bM;obtain⟨he,⟨d,Bf,mP⟩,_⟩:=nd l0;have uY:=jx S hi;have bn:=cT S C T x;obtain⟨inf,j8,gC⟩:∃inf,P.info? e=some inf/\inf.size=1:=by
  have:=mP.2.2.2;cases aD:P.info? e with
  |none=>simp[aD] at this
  |some i=>simp only[aD,Option.map_some,Option.some.injEq,Prod.mk.injEq] at this;exact⟨i,rfl,this.1⟩
 have run:∀{b:Nat},Act.eval ⟨tm,[]⟩ x=.pointer (some ⟨b,0,none⟩)->0<=n->n<m->(execOp (Act.eval ⟨tm,[]⟩) D).run P w=.ok (.value (.pointer (some ⟨b,n.toNat,none⟩))) w:=by
  intro b hx h0 h1;unfold execOp;simp[au,hx,uY,Instr.indexAt,Instr.sureAddr,asIntOf,run_underlying dZ,h0,h1,sizeOf,kG j8,gC,gh]
 unfold qP;split
 ·rename_i o s u hx;rw[hx] at bn;split
  ·rename_i bj xs cJ;split
   ·rename_i g7;obtain⟨rfl,rfl⟩:=g7;refine Holds.d' fun y ak=>?_
    obtain⟨fN,hz1,hz2⟩:=Option.bind_eq_some_iff.1 (ak:(long m xs).bind (fun xs=>e9 xs.length n)=some y)
    obtain⟨rfl,hlen⟩:=tx hz1;unfold e9 at hz2;split at hz2
    ·rename_i hb;cases hz2;obtain⟨b,c,cs,hv,bW,_⟩:=S.arr cJ bn;refine dv S Y (run hv hb.1 (by rw[<-hlen];exact hb.2)) ⟨b,?_,?_⟩
     ·rw[he,Nat.mul_one,Nat.add_zero]
     ·rcases jt cJ with h|h<;>exact Ref.mk h rfl ⟨_,_,bW⟩
    ·cases hz2
   ·exact .fail
  ·exact .fail
 ·rename_i g hx;rw[hx] at bn;split
  ·rename_i bj xs qk;cases hc:(decide (bj=t)&&xs.length.beq m) with
   |false=>exact .fail
   |true=>
    simp only[Bool.and_eq_true,decide_eq_true_eq] at hc;obtain⟨rfl,hlen⟩:=hc;have hlen:=Nat.eq_of_beq_eq_true hlen;refine Holds.d' fun y ak=>?_
    have dM:bk xs n=some y:=ak;unfold bk at dM;split at dM
    ·rename_i h0;have a3:n.toNat<xs.length:=by
      rcases Nat.lt_or_ge n.toNat xs.length with h|h
      ·exact h
      ·rw[List.getElem?_eq_none h] at dM;cases dM
     obtain⟨AQ,sR⟩:=ay.gt g _ _ qk;obtain⟨ff,b0⟩:=S.jR;obtain⟨fA,sV,cs,hg,dF⟩:=sR w (an X B st.sites) ff;have hv:Act.eval ⟨tm,[]⟩ x=.pointer (some ⟨g,0,none⟩):=bn;refine dv S Y (run hv h0 (by omega)) ⟨g,n.toNat,rfl,(b0 g AQ).1,(b0 g AQ).2,(cs.drop n.toNat).take 1,?_,fun j u hu=>?_,?_⟩
     ·have:cs.length=xs.length:=by rw[dF.1,dQ,he,Nat.mul_one]
      rw[fc,he];simp;omega
     ·exact(((ho.row hg).drop n.toNat).take 1) j u hu|>fun h=>by simpa using h
     ·have M:=ts bj xs n.toNat y dM;rw[he,Nat.mul_one] at M;have mI:ch w (an X B st.sites) (flat bj xs) cs:=dF;have ad8:=gV (B:=B) (sites:=st.sites) mI.1 mI.2;have h2:=io (ds:=((flat bj xs).drop n.toNat).take 1) (by
       have:=(ad8.drop n.toNat).take 1;simpa[cC,List.map_drop,List.map_take] using this)
      rw[M] at h2;exact h2.2
    ·cases dM
  ·exact .fail
 ·exact .fail
theorem ZB(S:ah L J X B st tm w){C:Ctx}(ay:CtxOk P C){T e:TypeId}{t:aF}{m:Nat}{x i:Operand}{k:IntKind}{n:Int}(aZ:C.tt T=.arr e t m)(hi:aP C st 0 i=.av (.ai (.d (.int k n))))(au:D.op=.index T x i)(Y:b6 st D.dst=true):
  Holds (EX t m (aP C st T x) n) (cz P L J X st tm w D):=by
 have bM:=ay.tt T;rw[aZ] at bM;obtain⟨dZ,_,l0⟩:=bM;obtain⟨he,⟨d,Bf,mP⟩,_⟩:=nd l0;have uY:=jx S hi;have bn:=cT S C T x;obtain⟨inf,j8,gC⟩:∃inf,P.info? e=some inf/\inf.size=1:=by
  have:=mP.2.2.2;cases aD:P.info? e with
  |none=>simp[aD] at this
  |some i=>simp only[aD,Option.map_some,Option.some.injEq,Prod.mk.injEq] at this;exact⟨i,rfl,this.1⟩
 unfold EX;split
 ·rename_i U hx;rw[hx] at bn;split
  ·rename_i xs nQ;cases hc:xs.length.beq m with
   |false=>exact .fail
   |true=>
    have hlen:=Nat.eq_of_beq_eq_true hc;refine Holds.d' fun y ak=>?_
    have dM:bk xs n=some y:=ak;unfold bk at dM;split at dM
    ·rename_i h0;have a3:n.toNat<xs.length:=by
      rcases Nat.lt_or_ge n.toNat xs.length with h|h
      ·exact h
      ·rw[List.getElem?_eq_none h] at dM;cases dM
     obtain⟨vs,hv,hl,hr⟩:∃vs:List Value,Act.eval ⟨tm,[]⟩ x=.agg vs.toArray/\vs.length=U.length/\∀j (h:j<U.length) (ab:j<vs.length),dj B st.sites w (an X B st.sites) (U[j]) (vs[j]):=bn;have oW:ck B st.sites w (an X B st.sites) U vs:=⟨hl,hr⟩;rw[Eg nQ] at oW;have mQ:=io oW;have kd:vs.length=xs.length:=by rw[mQ.1,dQ,he,Nat.mul_one]
     obtain⟨d1,jh⟩:∃d1,enc t y=[d1]:=by
      have:=fc t y;rw[he] at this;match h:enc t y,this with
      |[d1],_=>exact⟨d1,rfl⟩
     simp only[jh];have cr:n.toNat<vs.length:=by omega
     refine dv S Y (vv:=vs[n.toNat]) ?_ ?_
     ·have Gl:(isAgg e).run P w=.ok false w:=by
       have h1:=mP.1;simp only[isAgg,Sem.run_bind,run_underlying h1,Result.andThen_ok];have g1:=mP.2.1;have g2:=mP.2.2.1;cases d<;>first|rfl|exact absurd rfl (g1 _)|exact absurd rfl (g2 _ _)
      have h1:n<(m:Int):=by omega
      unfold execOp;simp[au,hv,uY,Instr.index,asIntOf,run_underlying dZ,h0,h1,sizeOf,kG j8,gC,part,Gl,cr]
     ·have M:=ts t xs n.toNat y dM;rw[he,Nat.mul_one,jh] at M;have mS:n.toNat<(flat t xs).length:=by rw[dQ,he,Nat.mul_one];exact a3
      have e1:(flat t xs)[n.toNat]=d1:=by
       have:=congrArg (fun l=>l[0]?) M
       simp only[List.getElem?_take,List.getElem?_drop] at this;rw[if_pos (by decide),Nat.add_zero,List.getElem?_eq_getElem mS] at this
       simpa using this
      have:=mQ.2 n.toNat mS cr;rw[e1] at this;exact this
    ·cases dM
  ·exact .fail
 ·exact .fail
theorem YV(S:ah L J X B st tm w){C:Ctx}(ay:CtxOk P C){T e:TypeId}{t:aF}{m:Nat}{x:Operand}{cG hi:Option Operand}(aZ:C.tt T=.arr e t m)(au:D.op=.slice T x cG hi none)(Y:b6 st D.dst=true):
  Holds (rs st t m (aP C st T x) (cG.map (aP C st 0)) (hi.map (aP C st 0))) (cz P L J X st tm w D):=by
 have bM:=ay.tt T;rw[aZ] at bM;obtain⟨dZ,_,l0⟩:=bM;obtain⟨he,⟨d,Bf,mP⟩,_⟩:=nd l0;have bn:=cT S C T x;obtain⟨inf,j8,gC⟩:∃inf,P.info? e=some inf/\inf.size=1:=by
  have:=mP.2.2.2;cases aD:P.info? e with
  |none=>simp[aD] at this
  |some i=>simp only[aD,Option.map_some,Option.some.injEq,Prod.mk.injEq] at this;exact⟨i,rfl,this.1⟩
 have pW:∀{cG:Option Operand} {k1 l:Int},h6 k1 (cG.map (aP C st 0))=some l->(cG.map (Act.eval ⟨tm,[]⟩)=none/\l=k1)\/∃k,cG.map (Act.eval ⟨tm,[]⟩)=some (.int k l):=by
  intro cG k1 l h;rcases Mb S h with⟨rfl,ab⟩|⟨x,k,rfl,ab⟩
  ·exact .inl ⟨rfl,ab⟩
  ·exact .inr ⟨k,by simp[ab]⟩
 unfold rs;split
 ·rename_i o s u hx;rw[hx] at bn;split
  ·rename_i bj xs l h cJ fM iI;split
   ·rename_i g7;obtain⟨rfl,rfl⟩:=g7;refine Holds.e3 fun r hr=>?_
    obtain⟨fN,hz1,hz2⟩:=Option.bind_eq_some_iff.1 (hr:(long m xs).bind (fun xs=>dw xs l h)=some r)
    obtain⟨rfl,hlen⟩:=tx hz1;unfold dw at hz2;split at hz2
    ·rename_i hb;obtain⟨h0,h1,h2⟩:=hb;cases hz2;obtain⟨b,c,cs,hv,bW,_⟩:=S.arr cJ bn;refine KM (us:=[(o,.cR s bj fN)]) (L7 cJ).symm ?_
     have hD:dp st.sites [(o,.cR s bj fN)]:=by
      intro F O hm;simp only[List.mem_singleton,Prod.mk.injEq] at hm;obtain⟨rfl,rfl⟩:=hm;exact⟨s,bj,fN,rfl,(jt cJ).elim .inl fun h=>.inr (.inl h)⟩
     have aR:kF L J X B st tm w [(o,.cR s bj fN)]:=⟨S,hD⟩;have oX:=wC hD (List.mem_singleton.2 rfl);obtain⟨dF,OS⟩:=aR.new.sites o _ oX;rw[bW] at dF;generalize Td:Value.slice (some ⟨b,0,none⟩) fN.length c=v at dF;cases dF with
     |nil=>cases Td
     |sl _ _ a cap jk k ag hcap b9 hl hc hr=>
      cases Td;have aj9:=BL (P:=P) (w:=w) false m m (cG.map (Act.eval ⟨tm,[]⟩)) (hi.map (Act.eval ⟨tm,[]⟩)) l h (pW fM) (pW iI) h0 h1 (by omega) (Nat.le_refl _)
      refine il (us:=[(o,.cR s bj fN)]) aR.new Y (vv:=.slice (if m=l.toNat then some ⟨b,0,none⟩ else(some (⟨b,0,none⟩:Addr)).map (·.add (l.toNat*ax bj))) (h.toNat-l.toNat) (m-l.toNat)) ?_ ?_
      ·unfold execOp;simp only[au,Option.map_none,Sem.run_bind,Instr.sliceAt,run_underlying dZ,Result.andThen_ok,hv,Instr.sureAddr,Sem.run_pure,aj9,sizeOf,kG j8,gC,he];split<;>simp
      ·exact DG b9 ⟨hl,hr⟩ hc l.toNat h.toNat m (by omega) (by omega) (by omega)
    ·cases hz2
   ·exact .fail
  ·exact .fail
 ·exact .fail
theorem ZF{f g:Nat->Option (Nat×Nat)}(h:∀i p,f i=some p->g i=some p):∀(l:List (Nat×Value)) (cs jk:Array Value),Instr.fill f cs l=some jk->Instr.fill g cs l=some jk:=by
 intro l;induction l with
 |nil=>intro cs jk k;exact k
 |cons p l ih=>
  obtain⟨i,v⟩:=p;intro cs jk k;simp only[Instr.fill] at k ⊢;cases hf:f i with
  |none=>simp[hf] at k
  |some q=>
   obtain⟨off,size⟩:=q;rw[h i _ hf];rw[hf] at k;simp only at k ⊢;split at k
   ·cases k
   ·rename_i hn;rw[if_neg hn];exact ih _ _ k
theorem ZN(S:ah L J X B st tm w){C:Ctx}(ay:CtxOk P C){T e:TypeId}{t:aF}{n:Nat}{z:aw}{parts:Array (Nat×Operand)}(aZ:C.tt T=.arr e t n)(hz:sA t=some z)(au:D.op=.build T parts)(Y:b6 st D.dst=true):
  Holds (step.mw C st ((List.range n).map fun j=>(j,1)) (List.replicate n z) parts.toList) (cz P L J X st tm w D):=by
 have bM:=ay.tt T;rw[aZ] at bM;obtain⟨dZ,⟨fl,fO,j8,hz1,hzz⟩,l0⟩:=bM;rw[hz] at hz1;cases hz1;obtain⟨he,⟨d,Bf,mP⟩,_⟩:=nd l0;obtain⟨aoY,ajX,agd⟩:∃inf,P.info? e=some inf/\inf.size=1:=by
  have:=mP.2.2.2;cases aD:P.info? e with
  |none=>simp[aD] at this
  |some i=>simp only[aD,Option.map_some,Option.some.injEq,Prod.mk.injEq] at this;exact⟨i,rfl,this.1⟩
 obtain⟨aB,ao,bu⟩:=qM hzz;intro y ak hc;obtain⟨g1,iT,g2,g3⟩:=Lj S parts.toList (List.replicate n z) fl ⟨aB,fun j h ab=>bu _ _ _ _ j h ab⟩ y ak hc
 rw[g1];refine dv S Y (vv:=.agg iT) ?_ g3;cases hi:P.info? T with
 |none=>simp[hi] at j8
 |some UT=>
  simp only[hi,Option.map_some,Option.some.injEq,Prod.mk.injEq] at j8;have hb:P.built T (parts.toList.map fun p=>(p.1,Act.eval ⟨tm,[]⟩ p.2))=some iT:=by
   unfold Program.built;simp only[hi,dZ,j8.2,ajX,agd];refine ZF (fun i p aj=>?_) _ _ _ g2
   simp only[List.getElem?_toArray,List.getElem?_map,Option.map_eq_some_iff] at aj;obtain⟨a,a9,rfl⟩:=aj;have:=List.getElem?_eq_some_iff.1 a9;obtain⟨h1,h2⟩:=this;simp at h2;subst h2;simp
  have b9:P.built T (parts.map fun p=>(p.1,Act.eval ⟨tm,[]⟩ p.2)).toList=some iT:=by simpa using hb
  unfold execOp;simp only[au,Sem.run_bind,run_build w T _ iT b9,Result.andThen_ok,Sem.run_pure]
theorem WB(S:ah L J X B st tm w){C:Ctx}{x:Operand}{k:IntKind}{n:Int}{T ed:TypeId}(au:D.op=.unOp .xor ed x)(Y:b6 st D.dst=true)(hc:aP C st T x=.av (.ai (.d (.int k n)))):
  cz P L J X st tm w D (one (.int k (se k (if k.signed then-1 else k.max) n))) []:=by
 refine dv S Y (vv:=.int k (se k (if k.signed then-1 else k.max) n)) ?_ (.int _ _)
 unfold execOp;simp[au,jx S hc,Op.unary,Op.intBits,se]
end
def lC:Nat->Value:=fun _=>undef
def lB(w:World)(av:Nat->Prop)(l:aw)(v:Value)(bs:List Nat):Prop:=
 match l with
 |.fresh t xs=>bs=(a6 v).toList/\∃e,∃cs:List Value,rowAt w t.ek e (ax t) v xs.length cs/\ch w av (flat t xs) cs
 |.eK t xs=>∃e,∃cs az:List Value,bs=bJ (.tuple (v::az).toArray)/\rowAt w t.ek e (ax t) v xs.length cs/\Deep w av (flat t xs) cs az
 |l=>bs=[]/\dj lC [] w av l v
def fU(w:World)(av:Nat->Prop):List aw->List Value->List Nat->Prop
 |[],[],bs=>bs=[]
 |l::U,v::vs,bs=>∃aU aJ,bs=aU++aJ/\lB w av l v aU/\fU w av U vs aJ
 |_,_,_=>False
def zQ(w:World)(av:Nat->Prop):bz->Value->List Nat->Prop
 |.ai l,v,bs=>lB w av l v bs
 |.agg U,v,bs=>∃vs:List Value,v=.agg vs.toArray/\fU w av U vs bs
def j1(w:World)(av:Nat->Prop):List bz->List Value->List Nat->Prop
 |[],[],bs=>bs=[]
 |l::U,v::vs,bs=>∃aU aJ,bs=aU++aJ/\zQ w av l v aU/\j1 w av U vs aJ
 |_,_,_=>False
def Ek(w:World)(av:Nat->Prop)(b:Nat)(cells:List aw)(bs:List Nat):Prop:=
 ∃T,∃cur:List Value,∃n4,bs=b::n4/\w.heap[b]? =some (.cells cur.toArray T (0,0))/\(∀u∈cur,u.oneCell'=true)/\mD cells T cur b/\fU w av cells cur n4
def M2(w:World)(av:Nat->Prop):Arg->Value->List Nat->Prop
 |.av a,v,bs=>zQ w av a v bs
 |.dH cells,v,bs=>∃b,v=.pointer (some ⟨b,0,none⟩)/\Ek w av b cells bs
def h3(w:World)(av:Nat->Prop):List Arg->List Value->List Nat->Prop
 |[],[],bs=>bs=[]
 |l::U,v::vs,bs=>∃aU aJ,bs=aU++aJ/\M2 w av l v aU/\h3 w av U vs aJ
 |_,_,_=>False
def di:List Arg->List Value->List Nat
 |.dH _::as,.pointer (some a)::vs=>a.block::di as vs
 |_::as,_::vs=>di as vs
 |_,_=>[]
def lv(w:World)(av:Nat->Prop):List Nat->List (List aw)->List Nat->Prop
 |[],[],bs=>bs=[]
 |b::c8,cs::ct,bs=>∃aU aJ,bs=aU++aJ/\Ek w av b cs aU/\lv w av c8 ct aJ
 |_,_,_=>False
def hR:Value->List Value
 |.agg vs=>vs.toList
 |v=>[v]
def eZ:List Arg->List Value->List Value
 |.av a::as,v::vs=>(bif fR a.cells then [] else hR v)++eZ as vs
 |.dH _::as,_::vs=>eZ as vs
 |_,_=>[]
def oD(w:World)(av:Nat->Prop)(c8:List Nat)(ct:List (List aw))(rv:List Value)(ew:List aw)(bs:List Nat):Prop:=
 ∃c1 c2,bs=c1++c2/\lv w av c8 ct c1/\(ew=[]/\c2=[]\/fU w av ew rv c2)
theorem oD.of{w:World}{av:Nat->Prop}{c8:List Nat}{ct:List (List aw)}{rv:List Value}{bs:List Nat}(h:lv w av c8 ct bs):oD w av c8 ct rv [] bs:=⟨bs,[],by simp,h,.inl ⟨rfl,rfl⟩⟩
def nx:List Value->Value
 |[v]=>v
 |vs=>.tuple vs.toArray
def Enters(P:Program)(g:FuncId)(vs:Array Value)(w:World)(R:Value->World->Prop):Prop:=
 ((callFunc g vs).run P w=.ok (.enter g vs) w/\Calls P g vs w fun|.returned v,w'=>R v w'|_,_=>False)\/(∃v w',(callFunc g vs).run P w=.ok (.value v) w'/\R v w')
def a0(P:Program)(g:FuncId)(S:aT):Prop:=
 ∀as y,(S as).comp=some y->∀(w:World) (X:Nat->Prop) (vs:List Value) (cE:List Nat),h3 w (fun b=>X b\/b∈cE) as vs cE->cE.Nodup->(∀b,b∈cE->¬X b)->(∀b,X b->b<w.heap.size)->hO w cE X->
  Enters P g vs.toArray w fun v w'=>∃dR dt rv,Fr cE w w'/\oD w' (fun b=>X b\/b∈dR++dt) (di as vs) ((S as).dH y) (eZ as vs) ((S as).ew y) dR/\j1 w' (fun b=>X b\/b∈dR++dt) ((S as).eQ y) rv dt/\
   v=nx rv/\(dR++dt).Nodup/\∀b,b∈dR++dt->¬X b/\(b∈cE\/w.heap.size<=b)
section
variable {L:World}{J:List Nat}{X:Nat->Prop}{B:Nat->Value}{st:ad}{tm:Array Value}{w:World}
theorem b_.ft{sites:List (Nat×Site)}{av bS:Nat->Prop}(h:∀b,bS b->av b)(a3:∀b,bS b->b<w.heap.size){a:aK}{v:Value}(k:b_ B sites w av a v):b_ B sites w bS a v:=by
 have G:gD B B sites sites w w av bS:=⟨fun o O M=>⟨O,M,Nat.le_refl _,fun _=>rfl⟩,fun _ _ _=>rfl,fun b hb _ ab=>hb (h b ab)⟩
 exact k.goes G (Nat.le_refl _) a3
theorem it.ft{sites:List (Nat×Site)}{av bS:Nat->Prop}(h:∀b,bS b->av b)(a3:∀b,bS b->b<w.heap.size){o:Nat}{O:Site}(k:it B sites w av o O):it B sites w bS o O:=by
 have G:gD B B sites sites w w av bS:=⟨fun o O M=>⟨O,M,Nat.le_refl _,fun _=>rfl⟩,fun _ _ _=>rfl,fun b hb _ ab=>hb (h b ab)⟩
 exact k.goes G (Nat.le_refl _) a3 rfl (fun _ _ _=>rfl)
theorem ah.lt(S:ah L J X B st tm w){b:Nat}(h:an X B st.sites b):b<w.heap.size:=by
 rcases h with h|⟨o,h1,h2⟩
 ·exact S.old b h
 ·exact S.dX h1 h2
theorem ah.shrink(S:ah L J X B st tm w){X':Nat->Prop}(h:∀b,X' b->X b):ah L J X' B st tm w:=by
 have b0:∀b,an X' B st.sites b->an X B st.sites b:=by
  rintro b (hb|hb)
  ·exact .inl (h b hb)
  ·exact .inr hb
 have a3:=fun b hb=>S.lt (b0 b hb)
 exact⟨S.nt,fun t=>(S.cF t).ft b0 a3,fun o O M=>(S.sites o O M).ft b0 a3,S.de,fun o b h1 h2=>⟨fun hx=>(S.b7 o b h1 h2).1 (h b hx),(S.b7 o b h1 h2).2⟩,S.frame,fun b hb=>S.old b (h b hb),S.eS.less fun b _=>h b⟩
theorem ah.kill(S:ah L J X B st tm w){o:Nat}{O:Site}(hl:look st.sites o=some O)(fD:O.live=true):
  ah L J (fun b=>X b\/b∈bJ (B o)) B {st with sites:=b8 st.sites o (.dead O.b1)} tm w:=by
 have cr:∀F,bX (b8 st.sites o (.dead O.b1)) F->F≠o/\bX st.sites F:=by
  rintro F ⟨s,h1,h2⟩;rw[cn] at h1;by_cases e:o=F
  ·subst e;simp at h1;subst h1;cases h2
  ·simp only[e,if_false] at h1;exact⟨fun h=>e h.symm,s,h1,h2⟩
 have b0:∀b,an (fun b=>X b\/b∈bJ (B o)) B (b8 st.sites o (.dead O.b1)) b->an X B st.sites b:=by
  rintro b ((h|h)|⟨F,h1,h2⟩)
  ·exact .inl h
  ·exact .inr ⟨o,⟨O,hl,fD⟩,h⟩
  ·exact .inr ⟨F,(cr F h1).2,h2⟩
 have a3:=fun b hb=>S.lt (b0 b hb)
 have bZ:ah L J X B {st with sites:=b8 st.sites o (.dead O.b1)} tm w:=by
  have u0:∀b,an X B (b8 st.sites o (.dead O.b1)) b->an X B st.sites b:=by
   rintro b (h|⟨F,h1,h2⟩)
   ·exact .inl h
   ·exact .inr ⟨F,(cr F h1).2,h2⟩
  refine S.oJ (fun F s M=>?_) (fun _ _ _=>rfl) (fun b hb _ ab=>hb (u0 b ab)) (fun go F s M=>?_) (fun F aO b h1 h2 g1 g2=>S.de F aO b (cr F h1).2 (cr aO h2).2 g1 g2) (fun F b h1 h2=>S.b7 F b (cr F h1).2 h2)
   (fun F b h1 h2=>S.dX (cr F h1).2 h2) S.frame (Nat.le_refl _)
  ·rw[cn];by_cases e:o=F
   ·subst e;rw[hl] at M;cases M;exact⟨.dead O.b1,by simp,Nat.le_refl _,fun _=>rfl⟩
   ·exact⟨s,by simp[e,M],Nat.le_refl _,fun _=>rfl⟩
  ·rw[cn] at M;by_cases e:o=F
   ·simp only[e,if_true,Option.some.injEq] at M;subst M;exact .inr trivial
   ·simp only[e,if_false] at M;exact .inl ⟨M,rfl,fun _ _ _=>rfl⟩
 refine⟨bZ.nt,fun t=>?_,fun F s M=>?_,bZ.de,fun F b h1 h2=>⟨?_,(bZ.b7 F b h1 h2).2⟩,bZ.frame,?_,S.eS.less fun b hb hx=>hx.elim id fun e=>absurd (.inr ⟨o,⟨O,hl,fD⟩,e⟩) (S.jR.2 b hb).1⟩
 ·have G:gD B B st.sites (b8 st.sites o (.dead O.b1)) w w (an X B st.sites) (an (fun b=>X b\/b∈bJ (B o)) B (b8 st.sites o (.dead O.b1))):=
   ⟨fun F s M=>by
    rw[cn];by_cases e:o=F
    ·subst e;rw[hl] at M;cases M;exact⟨.dead O.b1,by simp,Nat.le_refl _,fun _=>rfl⟩
    ·exact⟨s,by simp[e,M],Nat.le_refl _,fun _=>rfl⟩,fun _ _ _=>rfl,fun b hb _ ab=>hb (b0 b ab)⟩
  exact(S.cF t).goes G (Nat.le_refl _) a3
 ·have eT:look (b8 st.sites o (.dead O.b1)) F=some s:=M;rw[cn] at eT;by_cases e:o=F
  ·simp only[e,if_true,Option.some.injEq] at eT;subst eT;trivial
  ·simp only[e,if_false] at eT;have G:gD B B st.sites (b8 st.sites o (.dead O.b1)) w w (an X B st.sites) (an (fun b=>X b\/b∈bJ (B o)) B (b8 st.sites o (.dead O.b1))):=
    ⟨fun F s M=>by
     rw[cn];by_cases e:o=F
     ·subst e;rw[hl] at M;cases M;exact⟨.dead O.b1,by simp,Nat.le_refl _,fun _=>rfl⟩
     ·exact⟨s,by simp[e,M],Nat.le_refl _,fun _=>rfl⟩,fun _ _ _=>rfl,fun b hb _ ab=>hb (b0 b ab)⟩
   exact(S.sites F s eT).goes G (Nat.le_refl _) a3 rfl (fun _ _ _=>rfl)
 ·rintro(hx|hx)
  ·exact(bZ.b7 F b h1 h2).1 hx
  ·exact(cr F h1).1 (S.de F o b (cr F h1).2 ⟨O,hl,fD⟩ h2 hx)
 ·rintro b (hb|hb)
  ·exact S.old b hb
  ·exact S.dX ⟨O,hl,fD⟩ hb
theorem ah.jump(S:ah L J X B st tm w){w':World}(h:∀b,¬X b->b<w.heap.size->w'.heap[b]? =w.heap[b]?)(M:w.heap.size<=w'.heap.size)(hf:Fr J L w'):
  ah L J (fun b=>X b\/(w.heap.size<=b/\b<w'.heap.size)) B st tm w':=by
 have a3:∀b,an (fun b=>X b\/(w.heap.size<=b/\b<w'.heap.size)) B st.sites b->b<w'.heap.size:=by
  rintro b ((hb|hb)|⟨F,h1,h2⟩)
  ·exact Nat.lt_of_lt_of_le (S.old b hb) M
  ·exact hb.2
  ·exact Nat.lt_of_lt_of_le (S.dX h1 h2) M
 have G:gD B B st.sites st.sites w w' (an X B st.sites) (an (fun b=>X b\/(w.heap.size<=b/\b<w'.heap.size)) B st.sites):=
  ⟨fun F s h=>⟨s,h,Nat.le_refl _,fun _=>rfl⟩,fun b hb b9=>h b (fun hx=>hb (.inl hx)) b9,fun b hb b9 ab=>by
   rcases ab with(ab|ab)|ab
   ·exact hb (.inl ab)
   ·omega
   ·exact hb (.inr ab)⟩
 refine⟨S.nt,fun t=>(S.cF t).goes G M a3,fun o s h1=>(S.sites o s h1).goes G M a3 rfl (fun hl b hb=>?_),S.de,fun o b h1 h2=>⟨?_,(S.b7 o b h1 h2).2⟩,hf,?_,S.eS.less fun b hb hx=>hx.elim id fun e=>absurd (S.jR.2 b hb).2 (by omega)⟩
 ·exact h b (S.b7 o b ⟨s,h1,hl⟩ hb).1 (S.dX ⟨s,h1,hl⟩ hb)
 ·rintro(hx|hx)
  ·exact(S.b7 o b h1 h2).1 hx
  ·have:=S.dX h1 h2;omega
 ·rintro b (hb|hb)
  ·exact Nat.lt_of_lt_of_le (S.old b hb) M
  ·exact hb.2
theorem ah.uK(S:ah L J X B st tm w){X':Nat->Prop}{n:Nat}{bI:Site}{nv:Value}(gO:∀b,X' b->X b)
  (c9:(∀O,look st.sites n=some O->O.b1<bI.b1)\/(bY (B n)=bY nv/\∀O,look st.sites n=some O->O.b1=bI.b1/\O.live=false))
  (hb:∀b,b∈bJ nv->X b/\¬X' b/\(b∈J\/L.heap.size<=b))
  (ff:∀{bo:List (Nat×Site)} {aA:Nat->Value},bo=b8 st.sites n bI->aA n=nv->(∀{a v},b_ B st.sites w (an X B st.sites) a v->b_ aA bo w (an X' aA bo) a v)->
   (∀b,an X' aA bo b->an X B st.sites b)->it aA bo w (an X' aA bo) n bI):
  ah L J X' (fun F=>if F=n then nv else B F) {st with sites:=b8 st.sites n bI} tm w/\
   (∀b,an X' (fun F=>if F=n then nv else B F) (b8 st.sites n bI) b->an X B st.sites b)/\
   (∀{a v},b_ B st.sites w (an X B st.sites) a v->b_ (fun F=>if F=n then nv else B F) (b8 st.sites n bI) w (an X' (fun F=>if F=n then nv else B F) (b8 st.sites n bI)) a v):=by
 have cr:∀F,bX (b8 st.sites n bI) F->F=n\/(F≠n/\bX st.sites F):=by
  rintro F ⟨s,h1,h2⟩;rw[cn] at h1;by_cases e:n=F
  ·exact .inl e.symm
  ·simp only[e,if_false] at h1;exact .inr ⟨fun h=>e h.symm,s,h1,h2⟩
 have b0:∀b,an X' (fun F=>if F=n then nv else B F) (b8 st.sites n bI) b->an X B st.sites b:=by
  rintro b (h|⟨F,h1,h2⟩)
  ·exact .inl (gO b h)
  ·rcases cr F h1 with rfl|⟨aa,aI⟩
   ·simp at h2;exact .inl (hb b h2).1
   ·simp only[aa,if_false] at h2;exact .inr ⟨F,aI,h2⟩
 have pV:∀o O,look st.sites o=some O->∃am,look (b8 st.sites n bI) o=some am/\O.b1<=am.b1/\(am.b1=O.b1->bY ((fun F=>if F=n then nv else B F) o)=bY (B o)):=by
  intro F s M;rw[cn];by_cases e:n=F
  ·subst e;refine⟨bI,by simp,?_,fun h=>?_⟩
   ·rcases c9 with h|⟨_,h⟩
    ·exact Nat.le_of_lt (h s M)
    ·exact Nat.le_of_eq (h s M).1
   ·rcases c9 with ab|⟨ab,_⟩
    ·have:=ab s M;omega
    ·simp[ab]
  ·have b3:¬F=n:=fun h=>e h.symm
   exact⟨s,by simp[e,M],Nat.le_refl _,fun _=>by simp[b3]⟩
 have G:gD B (fun F=>if F=n then nv else B F) st.sites (b8 st.sites n bI) w w (an X B st.sites) (an X' (fun F=>if F=n then nv else B F) (b8 st.sites n bI)):=
  ⟨pV,fun _ _ _=>rfl,fun b hb _ ab=>hb (b0 b ab)⟩
 have a3:=fun b hb=>S.lt (b0 b hb)
 refine⟨⟨S.nt,fun t=>(S.cF t).goes G (Nat.le_refl _) a3,fun F s M=>?_,fun F aO b h1 h2 g1 g2=>?_,fun F b h1 h2=>?_,S.frame,fun b h=>S.old b (gO b h),S.eS.less fun b _=>gO b⟩,b0,fun h=>h.goes G (Nat.le_refl _) a3⟩
 ·have eT:look (b8 st.sites n bI) F=some s:=M;rw[cn] at eT;by_cases e:n=F
  ·subst e;simp only[if_true,Option.some.injEq] at eT;subst eT;exact ff rfl (by simp) (fun h=>h.goes G (Nat.le_refl _) a3) b0
  ·have b3:¬F=n:=fun h=>e h.symm
   simp only[e,if_false] at eT;exact(S.sites F s eT).goes G (Nat.le_refl _) a3 (by simp[b3]) (fun _ _ _=>rfl)
 ·rcases cr F h1 with rfl|⟨n1,cW⟩<;>rcases cr aO h2 with rfl|⟨n2,ga⟩
  ·rfl
  ·simp only[if_true] at g1;simp only[n2,if_false] at g2;exact absurd (hb b g1).1 (S.b7 aO b ga g2).1
  ·simp only[if_true] at g2;simp only[n1,if_false] at g1;exact absurd (hb b g2).1 (S.b7 F b cW g1).1
  ·simp only[n1,if_false] at g1;simp only[n2,if_false] at g2;exact S.de F aO b cW ga g1 g2
 ·rcases cr F h1 with rfl|⟨n1,cW⟩
  ·simp only[if_true] at h2;exact⟨(hb b h2).2.1,(hb b h2).2.2⟩
  ·simp only[n1,if_false] at h2;exact⟨fun hx=>(S.b7 F b cW h2).1 (gO b hx),(S.b7 F b cW h2).2⟩
end
def j2(w:World)(av:Nat->Prop):List (List aL)->List Value->Prop
 |[],[]=>True
 |ds::r,v::vs=>(∃b,∃cs:List Value,v=.pointer (some ⟨b,0,none⟩)/\¬av b/\b<w.heap.size/\ho w b 0 cs/\ch w av ds cs)/\j2 w av r vs
 |_,_=>False
theorem j2.fn{w:World}{av:Nat->Prop}{g:FuncId}:∀{bE:List (List aL)} {vs:List Value},j2 w av bE vs->bi w av (.fn g bE) (.func (.func g) #[] vs.toArray):=by
 intro bE vs h;have key:∀{bE:List (List aL)} {vs:List Value},j2 w av bE vs->∃m':List Nat,∃eU:List (List Value),vs=m'.map (fun b=>Value.pointer (some ⟨b,0,none⟩))/\m'.length=bE.length/\eU.length=bE.length/\
   (∀b,b∈m'->¬av b/\b<w.heap.size)/\(∀i (h:i<m'.length) (ab:i<eU.length),ho w m'[i] 0 eU[i])/\(∀i (h:i<bE.length) (ab:i<eU.length),ch w av bE[i] eU[i]):=by
  intro bE;induction bE with
  |nil=>
   intro vs h;match vs,h with
   |[],_=>exact⟨[],[],rfl,rfl,rfl,fun b h=>by simp at h,fun i h=>by simp at h,fun i h=>by simp at h⟩
  |cons ds bE ih=>
   intro vs h;match vs,h with
   |v::vs,⟨⟨b,cs,h1,h2,aa,aI,bD⟩,dh⟩=>
    obtain⟨m',eU,aB,ao,bu,b',dS,gM⟩:=ih dh;refine⟨b::m',cs::eU,by simp[h1,aB],by simp[ao],by simp[bu],fun c hc=>?_,fun i g1 g2=>?_,fun i g1 g2=>?_⟩
    ·rcases List.mem_cons.1 hc with rfl|hc
     ·exact⟨h2,aa⟩
     ·exact b' c hc
    ·cases i with
     |zero=>exact aI
     |succ i=>exact dS i (by simpa using g1) (by simpa using g2)
    ·cases i with
     |zero=>exact bD
     |succ i=>exact gM i (by simpa using g1) (by simpa using g2)
 obtain⟨m',eU,aB,ao,bu,b',dS,gM⟩:=key h;refine .fn g bE m' (fun i=>eU.getD i []) _ (by rw[aB]) ao (fun b hb=>(b' b hb).1) (fun b hb=>(b' b hb).2) (fun i hi=>?_) (fun i hi j u hu=>?_) (fun i hi j h1 h2=>?_)
 ·have ab:i<eU.length:=by omega
  have:=(gM i hi ab).1;simpa[List.getD,ab] using this
 ·have ab:i<eU.length:=by omega
  have:=dS i hi ab j u (by simpa[List.getD,ab] using hu)
  simpa using this
 ·have ab:i<eU.length:=by omega
  have h2':j<eU[i].length:=by simpa[List.getD,ab] using h2
  have:=(gM i hi ab).2 j h1 h2';simpa[List.getD,ab] using this
theorem j2.Oo{w:World}{av:Nat->Prop}{g:FuncId}{bE:List (List aL)}{v:Value}(h:bi w av (.fn g bE) v):∃vs:List Value,v=.func (.func g) #[] vs.toArray/\j2 w av bE vs:=by
 cases h with
 |fn _ _ bs ij lb AK o8 hb a3 hl hc hr=>
  refine⟨bs.map fun b=>Value.pointer (some ⟨b,0,none⟩),by rw[AK],?_⟩
  have key:∀(bE:List (List aL)) (bs:List Nat) (ij:Nat->List Value),bs.length=bE.length->(∀b,b∈bs->¬av b/\b<w.heap.size)->(∀i (h:i<bE.length),(ij i).length=(bE[i]).length)->
    (∀i (h:i<bs.length) j u,(ij i)[j]? =some u->w.cell? ⟨bs[i],j,none⟩=some u)->(∀i (h:i<bE.length) j (h1:j<(bE[i]).length) (h2:j<(ij i).length),bi w av ((bE[i])[j]) ((ij i)[j]))->
    j2 w av bE (bs.map fun b=>Value.pointer (some ⟨b,0,none⟩)):=by
   intro bE;induction bE with
   |nil=>intro bs ij h _ _ _ _;rw[List.eq_nil_of_length_eq_zero h];trivial
   |cons ds bE ih=>
    intro bs ij h h1 h2 aa aI;match bs,h with
    |b::bs,h=>
     refine⟨⟨b,ij 0,rfl,(h1 b List.mem_cons_self).1,(h1 b List.mem_cons_self).2,fun j u hu=>?_,h2 0 (by simp),fun j g1 g2=>aI 0 (by simp) j g1 g2⟩,?_⟩
     ·have:=aa 0 (by simp) j u hu
      simpa using this
     ·exact ih bs (fun i=>ij (i+1)) (by simpa using h) (fun c hc=>h1 c (List.mem_cons_of_mem _ hc)) (fun i hi=>h2 (i+1) (by simpa using hi)) (fun i hi j u hu=>aa (i+1) (by simpa using hi) j u hu)
       (fun i hi j g1 g2=>aI (i+1) (by simpa using hi) j g1 g2)
  exact key bE bs ij o8 (fun b h=>⟨hb b h,a3 b h⟩) hl hc hr
section
variable {L:World}{J:List Nat}{X:Nat->Prop}{B:Nat->Value}{st:ad}{tm:Array Value}{w:World}
structure eR(L:World)(J:List Nat)(X:Nat->Prop)(B:Nat->Value)(st:ad)(tm:Array Value)(w:World)(cL:List (Nat×Site))(eh:List Nat)(av:Nat->Prop):Prop where
 bG:kF L J X B st tm w cL
 le:∀b,av b->an X B (aW st.sites cL) b
 m6:∀o,o∈eh->∀b,a6 (B o)=some b->¬av b
variable {cL:List (Nat×Site)}{eh:List Nat}{av:Nat->Prop}
theorem eR.lt(ar:eR L J X B st tm w cL eh av){b:Nat}(h:av b):b<w.heap.size:=ar.bG.new.lt (ar.le b h)
theorem eR.sub(ar:eR L J X B st tm w cL eh av){b:Nat}(h:av b):an X B st.sites b:=by
 rcases ar.le b h with h|⟨o,⟨O,h1,h2⟩,aa⟩
 ·exact .inl h
 ·refine .inr ⟨o,?_,aa⟩;rcases ll ar.bG.bG o with h|⟨s,t,xs,aI,bD⟩
  ·exact⟨O,h▸h1,h2⟩
  ·rw[bD] at h1;cases h1;cases h2
theorem eR.rd(ar:eR L J X B st tm w cL eh av){d:aL}{v:Value}(h:bi w (an X B (aW st.sites cL)) d v):bi w av d v:=
 b_.ft (B:=B) (sites:=[]) (a:=one d) (v:=v) ar.le (fun b hb=>ar.lt hb) h
theorem eR.sF(ar:eR L J X B st tm w cL eh av){d:aL}{v:Value}(h:bi w (an X B st.sites) d v):bi w av d v:=
 b_.ft (B:=B) (sites:=[]) (a:=one d) (v:=v) (fun b hb=>ar.sub hb) (fun b hb=>ar.lt hb) h
theorem Lh(ar:eR L J X B st tm w cL eh av):∀{bE:List (Nat×Nat)} {cs:List (List aL)} {us:List (Nat×Site)} {bs:List Nat} {vs:List Value},kS st bE=some (cs,us,bs)->
  (∀p,p∈us->p∈cL)->(∀o,o∈bs->o∈eh)->vs.length=bE.length->(∀i (h:i<bE.length) (ab:i<vs.length),Ref st.sites (bE[i]).1 (bE[i]).2 (vs[i]=bY (B (bE[i]).1)))->j2 w av cs vs:=by
 intro bE;induction bE with
 |nil=>
  intro cs us bs vs h _ _ hl _;simp only[kS] at h;cases h;rw[List.eq_nil_of_length_eq_zero hl];trivial
 |cons c bE ih=>
  obtain⟨o,s⟩:=c;intro cs us bs vs h dN df hl hr;simp only[kS] at h;split at h
  ·rename_i cells lH;split at h
   ·rename_i ds u1 rest u2 aJ ef mA;cases h;match vs,hl with
    |v::vs,hl=>
     have iW:=gw lH;obtain⟨b,T,cur,h1,h2,aa,aI,_,bD⟩:=ar.bG.old.sites o _ iW;have hv:v=B o:=(Ref.at (hr 0 (by simp) (by simp)) iW rfl:v=bY (B o)).trans (by rw[h1];rfl)
     have dF:=yE ef ⟨aa,bD⟩ ar.bG (fun p aj=>dN p (List.mem_append.2 (.inl aj)))
     refine⟨⟨b,cur,by rw[hv,h1],ar.m6 o (df o List.mem_cons_self) b (by rw[h1];rfl),ar.bG.old.dX ⟨_,iW,rfl⟩ (fS (by rw[h1];rfl)),.row h2,dF.1,fun j g1 g2=>ar.rd (dF.2 j g1 g2)⟩,?_⟩
     exact ih mA (fun p aj=>dN p (List.mem_append.2 (.inr aj))) (fun F bB=>df F (List.mem_cons_of_mem _ bB)) (by simpa using hl) (fun i g1 g2=>hr (i+1) (by simpa using g1) (by simpa using g2))
   ·cases h
  ·cases h
theorem DI(ar:eR L J X B st tm w cL eh av){l fm:aw}{us:List (Nat×Site)}{bs:List Nat}{v:Value}(h:mF st l=some (fm,us,bs))(dN:∀p,p∈us->p∈cL)(df:∀o,o∈bs->o∈eh)
  (hv:dj B st.sites w (an X B st.sites) l v):lB w av fm v []:=by
 unfold mF at h;split at h
 ·rename_i cells;cases h;obtain⟨b,D,h1,h2,aa,cs,aI,bD,dh⟩:=hv;exact⟨rfl,b,D,h1,fun hx=>h2 (ar.sub hx),aa,cs,aI,bD,fun j g1 g2=>ar.sF (dh j g1 g2)⟩
 ·rename_i g c cs;split at h
  ·rename_i ds u b hc;cases h;obtain⟨vs,h1,h2,aa⟩:=hv;rw[h1];exact⟨rfl,(Lh ar hc dN df h2 aa).fn⟩
  ·cases h
 ·split at h
  ·rename_i d u Y;cases h;exact⟨rfl,ar.rd (NT Y hv ar.bG dN)⟩
  ·cases h
theorem _Z(ar:eR L J X B st tm w cL eh av):∀{U dl:List aw} {us:List (Nat×Site)} {bs:List Nat} {vs:List Value},lw st U=some (dl,us,bs)->(∀p,p∈us->p∈cL)->(∀o,o∈bs->o∈eh)->
  ck B st.sites w (an X B st.sites) U vs->fU w av dl vs []:=by
 intro U;induction U with
 |nil=>intro dl us bs vs h _ _ hv;simp only[lw] at h;cases h;rw[hv.kO];rfl
 |cons l U ih=>
  intro dl us bs vs h dN df hv;simp only[lw] at h;split at h
  ·rename_i a u1 aU as u2 aJ h1 h2;cases h;obtain⟨v,cq,rfl,jf,jJ⟩:=hv.inv;exact⟨[],[],rfl,DI ar h1 (fun p aj=>dN p (List.mem_append.2 (.inl aj))) (fun p aj=>df p (List.mem_append.2 (.inl aj))) jf,
    ih h2 (fun p aj=>dN p (List.mem_append.2 (.inr aj))) (fun p aj=>df p (List.mem_append.2 (.inr aj))) jJ⟩
  ·cases h
theorem abl(ar:eR L J X B st tm w cL eh av){o s:Nat}{t:aF}{xs:List (den t)}(hl:look st.sites o=some (.row s t xs)):
  ∃e,∃cs:List Value,rowAt w t.ek e (ax t) (B o) xs.length cs/\ch w av (flat t xs) cs:=by
 obtain⟨e,cs,h1,h2⟩:=ar.bG.old.sites o _ hl;refine⟨e,cs,h1,by rw[dQ];exact h1.1,fun j g1 g2=>ar.sF (h2 j g1 g2)⟩
theorem xr(ar:eR L J X B st tm w cL eh av){l fm:aw}{us:List (Nat×Site)}{v:Value}(h:mB st l=some (fm,us))(hv:dj B st.sites w (an X B st.sites) l v):
  lB w av fm v (cp B (keys us))/\eP st.sites us:=by
 unfold mB at h;split at h
 ·cases h;exact⟨⟨rfl,ar.sF hv⟩,.nil⟩
 ·rename_i t;cases h;have hv:v=.slice none 0 0:=hv;subst hv;exact⟨⟨rfl,0,[],⟨by simp,.inl ⟨rfl,rfl⟩⟩,rfl,fun j g=>by simp[flat] at g⟩,.nil⟩
 ·rename_i o s;split at h
  ·rename_i am t xs hl;cases hb:am.beq s with
   |false=>simp[hb] at h
   |true=>
    simp only[hb,cond_true,Option.some.injEq,Prod.mk.injEq] at h;obtain⟨rfl,rfl⟩:=h;have M:=Nat.eq_of_beq_eq_true hb;subst M;have hl:look st.sites o=some (.row am t xs):=hl;obtain⟨e,cs,h1,h2⟩:=abl ar hl;have iF:v=B o:=(Ref.at hv.2 hl rfl:v=bY (B o)).trans (is h1).1;refine⟨⟨?_,e,cs,by rw[iF];exact h1,h2⟩,fun F aiO hm=>?_⟩
    ·simp only[keys,cp,List.flatMap_cons,List.flatMap_nil,iF,(is h1).2,List.append_nil]
    ·simp only[List.mem_singleton,Prod.mk.injEq] at hm;obtain⟨rfl,rfl⟩:=hm;exact⟨_,hl,rfl,rfl⟩
  ·rename_i am t xs hl;cases hb:am.beq s with
   |false=>simp[hb] at h
   |true=>
    simp only[hb,cond_true,Option.some.injEq,Prod.mk.injEq] at h;obtain⟨rfl,rfl⟩:=h;have M:=Nat.eq_of_beq_eq_true hb;subst M;have hl:look st.sites o=some (.cR am t xs):=hl;have iF:v=bY (B o):=Ref.at hv.2 hl rfl;refine⟨⟨rfl,?_⟩,.nil⟩;rw[iF];exact ar.sF (ar.bG.old.sites o _ hl).1
  ·rename_i am t xs hl;cases hb:am.beq s with
   |false=>simp[hb] at h
   |true=>
    simp only[hb,cond_true,Option.some.injEq,Prod.mk.injEq] at h;obtain⟨rfl,rfl⟩:=h;have M:=Nat.eq_of_beq_eq_true hb;subst M;have hl:look st.sites o=some (.deep am t xs):=hl;obtain⟨e,v',az,cs,h1,_,h2,aa⟩:=ar.bG.old.sites o _ hl;have iF:v=v':=(Ref.at hv.2 hl rfl:v=bY (B o)).trans (by rw[h1];rfl)
    subst iF;refine⟨⟨e,cs,az,?_,h2,aa.map (fun h=>ar.sF h) fun _ _ _ _=>rfl⟩,fun F aiO hm=>?_⟩
    ·simp only[keys,cp,List.flatMap_cons,List.flatMap_nil,List.append_nil,h1]
    ·simp only[List.mem_singleton,Prod.mk.injEq] at hm;obtain⟨rfl,rfl⟩:=hm;exact⟨_,hl,rfl,rfl⟩
  ·cases h
 ·cases h;exact⟨⟨rfl,trivial⟩,.nil⟩
 ·cases h;exact⟨⟨rfl,hv⟩,.nil⟩
 ·cases h
theorem K9{U dl:List aw}{us:List (Nat×Site)}(h:jE st U=some (dl,us))(bR:dl.head?=some .ev):U.head?=some .ev:=by
 cases U with
 |nil=>simp only[jE] at h;cases h;cases bR
 |cons l U=>
  simp only[jE] at h;split at h
  ·rename_i a u1 as u2 h1 h2;cases h;simp only[List.head?_cons,Option.some.injEq] at bR ⊢;subst bR;unfold mB at h1;split at h1<;>try(cases h1;done)
   ·split at h1;all_goals first|cases h1;done|skip
    all_goals
     rename_i am t xs _;revert h1
     generalize am.beq _=q;intro h1;cases q<;>cases h1
   ·rfl
  ·cases h
theorem ya(ar:eR L J X B st tm w cL eh av):∀{U dl:List aw} {us:List (Nat×Site)} {vs:List Value},jE st U=some (dl,us)->ck B st.sites w (an X B st.sites) U vs->
  fU w av dl vs (cp B (keys us))/\eP st.sites us:=by
 intro U;induction U with
 |nil=>intro dl us vs h hv;simp only[jE] at h;cases h;rw[hv.kO];exact⟨rfl,.nil⟩
 |cons l U ih=>
  intro dl us vs h hv;simp only[jE] at h;split at h
  ·rename_i a u1 as u2 h1 h2;cases h;obtain⟨v,cq,rfl,jf,jJ⟩:=hv.inv;obtain⟨aB,ao⟩:=xr ar h1 jf;obtain⟨bu,b'⟩:=ih h2 jJ;exact⟨⟨_,_,by rw[gd,jU],aB,bu⟩,ao.append b'⟩
  ·cases h
theorem h3.append{as jl:List Arg}{vs cq:List Value}{bs n4:List Nat}(h:h3 w av as vs bs)(ab:h3 w av jl cq n4):h3 w av (as++jl) (vs++cq) (bs++n4):=by
 induction as generalizing vs bs with
 |nil=>
  match vs,h with
  |[],h=>have h:bs=[]:=h;subst h;exact ab
 |cons a as ih=>
  match vs,h with
  |v::vs,⟨aU,aJ,h1,h2,aa⟩=>exact⟨aU,aJ++n4,by rw[h1,List.append_assoc],h2,ih aa⟩
theorem Ya{cs:List (List aL)}{vs:List Value}(h:j2 w av cs vs):h3 w av (kP cs) vs []:=by
 induction cs generalizing vs with
 |nil=>
  match vs,h with
  |[],_=>rfl
 |cons ds cs ih=>
  match vs,h with
  |v::vs,⟨⟨b,cur,h1,h2,aa,aI,bD⟩,dh⟩=>
   refine⟨[],[],rfl,⟨rfl,b,0,by rw[h1],h2,aa,cur,by rw[bD.1],fun j u hu=>aI j u hu,bD.2⟩,ih dh⟩
theorem JB{as jl:List Arg}{vs cq:List Value}(hl:as.length=vs.length):di (as++jl) (vs++cq)=di as vs++di jl cq:=by
 induction as generalizing vs with
 |nil=>rw[List.eq_nil_of_length_eq_zero hl.symm];rfl
 |cons a as ih=>
  match vs,hl with
  |v::vs,hl=>
   have:=ih (vs:=vs) (by simpa using hl)
   cases a with
   |av a=>cases v<;>simp[di,this]
   |dH c=>
    cases v<;>try(simp[di,this];done)
    rename_i p;cases p<;>simp[di,this]
theorem Yc(cs:List (List aL))(vs:List Value):di (kP cs) vs=[]:=by
 induction cs generalizing vs with
 |nil=>cases vs<;>rfl
 |cons c cs ih=>cases vs<;>simp[kP,di,ih]
theorem V8{as jl:List Arg}{vs cq:List Value}(hl:as.length=vs.length):eZ (as++jl) (vs++cq)=eZ as vs++eZ jl cq:=by
 induction as generalizing vs with
 |nil=>rw[List.eq_nil_of_length_eq_zero hl.symm];rfl
 |cons a as ih=>
  match vs,hl with
  |v::vs,hl=>
   have:=ih (vs:=vs) (by simpa using hl)
   cases a<;>simp[eZ,this]
theorem Xx(cs:List (List aL))(vs:List Value):eZ (kP cs) vs=[]:=by
 induction cs generalizing vs with
 |nil=>cases vs<;>rfl
 |cons c cs ih=>cases vs<;>simp[kP,eZ,ih,bz.cells,fR,aw.q8]
def hF(B:Nat->Value):List (Option (Nat×Nat))->List Value->Prop
 |[],_=>True
 |none::r,_::vs=>hF B r vs
 |some p::r,v::vs=>v=bY (B p.1)/\hF B r vs
 |_::_,[]=>False
theorem hF.append{B:Nat->Value}{r iL:List (Option (Nat×Nat))}{vs cq:List Value}(hl:r.length=vs.length)(h:hF B r vs)(ab:hF B iL cq):hF B (r++iL) (vs++cq):=by
 induction r generalizing vs with
 |nil=>rw[List.eq_nil_of_length_eq_zero hl.symm];exact ab
 |cons D r ih=>
  match vs,hl with
  |v::vs,hl=>
   cases D with
   |none=>exact ih (by simpa using hl) h
   |some p=>exact⟨h.1,ih (by simpa using hl) h.2⟩
theorem h3.length{as:List Arg}{vs:List Value}{bs:List Nat}(h:h3 w av as vs bs):as.length=vs.length:=by
 induction as generalizing vs bs with
 |nil=>
  match vs,h with
  |[],_=>rfl
 |cons a as ih=>
  match vs,h with
  |v::vs,⟨_,_,_,_,h⟩=>simp[ih h]
theorem Zn(ar:eR L J X B st tm w cL eh av):∀{cA:List aK} {a:jH} {vs:List Value},ir st cA=some a->cA.length=vs.length->
  (∀i (h:i<cA.length) (ab:i<vs.length),b_ B st.sites w (an X B st.sites) (cA[i]) (vs[i]))->(∀p,p∈a.er->p∈cL)->(∀o,o∈a.fr->o∈eh)->
  h3 w av a.as vs (cp B (keys a.gone))/\eP st.sites a.gone/\di a.as vs=cp B (keys a.boxes)/\(∀o s,(o,s)∈a.boxes->(o,.dead s)∈a.gone/\∃b,B o=.pointer (some ⟨b,0,none⟩))/\a.rows=[]:=by
 intro cA;induction cA with
 |nil=>
  intro a vs h hl _ _ _;simp only[ir] at h;cases h;rw[List.eq_nil_of_length_eq_zero hl.symm];exact⟨rfl,.nil,rfl,fun o s hm=>by simp at hm,rfl⟩
 |cons qA cA ih=>
  intro a vs h hl hv dN df;match vs,hl with
  |v::vs,hl=>
   have k8:=hv 0 (by simp) (by simp)
   have hvs:∀i (h:i<cA.length) (ab:i<vs.length),b_ B st.sites w (an X B st.sites) (cA[i]) (vs[i]):=fun i g1 g2=>hv (i+1) (by simpa using g1) (by simpa using g2)
   have fv:cA.length=vs.length:=by simpa using hl
   simp only[List.getElem_cons_zero] at k8;unfold ir at h;split at h
   ·cases ‹qA::cA=[]›
   ·rename_i o s cq bU;cases bU;split at h
    ·rename_i cells r lH hr;split at h
     ·rename_i cs gone hg;cases h;obtain⟨aB,ao,bu,b',dS⟩:=ih hr fv hvs dN df;have iW:=gw lH;obtain⟨b,T,cur,e1,e2,bK,c_,fy⟩:=ar.bG.old.box iW k8;have F8:mD cells T cur b:=by
       obtain⟨aJ,dz,QT,q1,q2,_,_,dB,_⟩:=ar.bG.old.sites o _ iW;rw[e1] at q1;cases q1;rw[bK] at q2;cases q2;exact dB
      obtain⟨g1,g2⟩:=ya ar hg fy;subst e2;refine⟨⟨b::cp B (keys gone),_,?_,⟨b,rfl,T,cur,_,rfl,bK,c_,fun bR=>F8 (K9 hg bR),g1⟩,aB⟩,?_,?_,?_,dS⟩
      ·show cp B (keys (((o,Site.dead s)::gone)++r.gone))=_;rw[gd,jU];congr 1
       simp[keys,cp,e1,a6,bJ]
      ·refine eP.append ?_ ao;intro F am hm;rcases List.mem_cons.1 hm with hm|hm
       ·cases hm;exact⟨_,iW,rfl,rfl⟩
       ·exact g2 F am hm
      ·simp[di,bu,keys,cp,e1,a6,bJ]
      ·intro F am hm;rcases List.mem_cons.1 hm with hm|hm
       ·cases hm;exact⟨by simp,b,e1⟩
       ·obtain⟨q1,q2⟩:=b' F am hm;exact⟨List.mem_append.2 (.inr q1),q2⟩
     ·cases h
    ·cases h
   ·rename_i l cq _ bU;cases bU;split at h
    ·rename_i fm us bs r h1 hr;cases h;obtain⟨aB,ao,bu,b',_⟩:=ih hr fv hvs (fun p aj=>dN p (List.mem_append.2 (.inr aj))) (fun p aj=>df p (List.mem_append.2 (.inr aj)))
     have:=DI ar h1 (fun p aj=>dN p (List.mem_append.2 (.inl aj))) (fun p aj=>df p (List.mem_append.2 (.inl aj))) k8
     refine⟨⟨[],_,rfl,this,aB⟩,ao,?_,b',rfl⟩;cases v<;>simp[di,bu]
    ·cases h
   ·rename_i U cq bU;cases bU;split at h
    ·rename_i dl us bs r h1 hr;cases h;obtain⟨aB,ao,bu,b',_⟩:=ih hr fv hvs (fun p aj=>dN p (List.mem_append.2 (.inr aj))) (fun p aj=>df p (List.mem_append.2 (.inr aj)))
     obtain⟨jc,e1,e2,bK⟩:=k8;have:=_Z ar h1 (fun p aj=>dN p (List.mem_append.2 (.inl aj))) (fun p aj=>df p (List.mem_append.2 (.inl aj))) ⟨e2,bK⟩
     refine⟨⟨[],_,rfl,⟨jc,e1,this⟩,aB⟩,ao,?_,b',rfl⟩;cases v<;>simp[di,bu]
    ·cases h
   ·cases h
theorem K_(ar:eR L J X B st tm w cL eh av){l fm:aw}{gs us:List (Nat×Site)}{bs:List Nat}{v:Value}(h:lr st l=some (fm,gs,us,bs))(dN:∀p,p∈us->p∈cL)(df:∀o,o∈bs->o∈eh)
  (hv:dj B st.sites w (an X B st.sites) l v):lB w av fm v (cp B (keys gs))/\eP st.sites gs:=by
 unfold lr at h;split at h
 ·split at h
  ·rename_i hg;cases h;exact xr ar hg hv
  ·cases h
 ·cases h;exact xr (l:=.nil _) (us:=[]) ar rfl hv
 ·split at h
  ·rename_i hl;cases h;exact⟨DI ar hl dN df hv,.nil⟩
  ·cases h
theorem Kn(ar:eR L J X B st tm w cL eh av){l fm:aw}{gs us:List (Nat×Site)}{bs:List Nat}{v:Value}(h:lr st l=some (fm,gs,us,bs))(hv:dj B st.sites w (an X B st.sites) l v):
  ∀o s,kX st l=some (o,s)->v=bY (B o)/\(o,.dead s)∈gs:=by
 intro o s hg;unfold kX at hg;split at hg
 ·rename_i GY am;unfold lr at h;simp only[mB] at h;split at hg
  ·rename_i u t xs hl;cases hg;rw[hl] at h;simp only at h;cases hb:u.beq s with
   |false=>simp[hb] at h
   |true=>
    have M:=Nat.eq_of_beq_eq_true hb;subst M;simp only[hb,cond_true] at h;cases h;exact⟨Ref.at hv.2 hl rfl,List.mem_singleton.2 rfl⟩
  ·rename_i u t xs hl;cases hg;rw[hl] at h;simp only at h;cases hb:u.beq s with
   |false=>simp[hb] at h
   |true=>
    have M:=Nat.eq_of_beq_eq_true hb;subst M;simp only[hb,cond_true] at h;cases h;exact⟨Ref.at hv.2 hl rfl,List.mem_singleton.2 rfl⟩
  ·cases hg
 ·cases hg
theorem XX(ar:eR L J X B st tm w cL eh av):∀{U dl:List aw} {gs us:List (Nat×Site)} {bs:List Nat} {vs:List Value},lp st U=some (dl,gs,us,bs)->(∀p,p∈us->p∈cL)->(∀o,o∈bs->o∈eh)->
  ck B st.sites w (an X B st.sites) U vs->fU w av dl vs (cp B (keys gs))/\eP st.sites gs/\hF B (U.map (kX st)) vs/\∀o s,some (o,s)∈U.map (kX st)->(o,.dead s)∈gs:=by
 intro U;induction U with
 |nil=>intro dl gs us bs vs h _ _ hv;simp only[lp] at h;cases h;rw[hv.kO];exact⟨rfl,.nil,trivial,fun o s h=>by simp at h⟩
 |cons l U ih=>
  intro dl gs us bs vs h dN df hv;simp only[lp] at h;split at h
  ·rename_i a u1 f1 aU as u2 f2 aJ h1 h2;cases h;obtain⟨v,cq,rfl,jf,jJ⟩:=hv.inv;obtain⟨aB,ao⟩:=K_ ar h1 (fun p aj=>dN p (List.mem_append.2 (.inl aj))) (fun p aj=>df p (List.mem_append.2 (.inl aj))) jf
   obtain⟨bu,b',dS,gM⟩:=ih h2 (fun p aj=>dN p (List.mem_append.2 (.inr aj))) (fun p aj=>df p (List.mem_append.2 (.inr aj))) jJ
   have hr:=Kn ar h1 jf;refine⟨⟨_,_,by rw[gd,jU],aB,bu⟩,ao.append b',?_,fun o s hm=>?_⟩
   ·simp only[List.map_cons];cases aD:kX st l with
    |none=>exact dS
    |some p=>exact⟨(hr p.1 p.2 aD).1,dS⟩
   ·simp only[List.map_cons,List.mem_cons] at hm;rcases hm with hm|hm
    ·exact List.mem_append.2 (.inl (hr o s hm.symm).2)
    ·exact List.mem_append.2 (.inr (gM o s hm))
  ·cases h
theorem Cs{v:Value}(h:v.oneCell'=true):hR v=[v]:=by
 cases v<;>first|rfl|cases h
theorem ZC{l:aw}{v:Value}{bs:List Nat}(hn:l.q8=false)(h:lB w av l v bs):v.oneCell'=true:=by
 cases l with
 |fresh t xs=>
  obtain⟨_,e,cs,k,_⟩:=h;rcases k.2 with⟨h,_⟩|⟨g,cap,cur,bG,h,_⟩<;>rw[h]<;>rfl
 |eK t xs=>
  obtain⟨e,cs,az,_,k,_⟩:=h;rcases k.2 with⟨h,_⟩|⟨g,cap,cur,bG,h,_⟩<;>rw[h]<;>rfl
 |_=>cases hn
theorem fU.length{U:List aw}{vs:List Value}{bs:List Nat}(h:fU w av U vs bs):vs.length=U.length:=by
 induction U generalizing vs bs with
 |nil=>
  match vs,h with
  |[],_=>rfl
 |cons l U ih=>
  match vs,h with
  |v::vs,⟨_,_,_,_,h⟩=>simp[ih h]
theorem XN(ar:eR L J X B st tm w cL eh av):∀{cA:List aK} {a:jH} {vs:List Value},jV st cA=some a->cA.length=vs.length->
  (∀i (h:i<cA.length) (ab:i<vs.length),b_ B st.sites w (an X B st.sites) (cA[i]) (vs[i]))->(∀p,p∈a.er->p∈cL)->(∀o,o∈a.fr->o∈eh)->
  h3 w av a.as vs (cp B (keys a.gone))/\eP st.sites a.gone/\di a.as vs=cp B (keys a.boxes)/\(∀o s,(o,s)∈a.boxes->(o,.dead s)∈a.gone/\∃b,B o=.pointer (some ⟨b,0,none⟩))/\
   hF B a.rows (eZ a.as vs)/\∀o s,some (o,s)∈a.rows->(o,.dead s)∈a.gone:=by
 intro cA;induction cA with
 |nil=>
  intro a vs h hl _ _ _;simp only[jV] at h;cases h;rw[List.eq_nil_of_length_eq_zero hl.symm];exact⟨rfl,.nil,rfl,fun o s hm=>by simp at hm,trivial,fun o s hm=>by simp at hm⟩
 |cons qA cA ih=>
  intro a vs h hl hv dN df;match vs,hl with
  |v::vs,hl=>
   have k8:=hv 0 (by simp) (by simp)
   have hvs:∀i (h:i<cA.length) (ab:i<vs.length),b_ B st.sites w (an X B st.sites) (cA[i]) (vs[i]):=fun i g1 g2=>hv (i+1) (by simpa using g1) (by simpa using g2)
   have fv:cA.length=vs.length:=by simpa using hl
   simp only[List.getElem_cons_zero] at k8;unfold jV at h;split at h
   ·cases ‹qA::cA=[]›
   ·rename_i l cq bU;cases bU;split at h
    ·rename_i fm gs us bs r h1 hr;cases h;obtain⟨aB,ao,bu,b',dS,gM⟩:=ih hr fv hvs (fun p aj=>dN p (List.mem_append.2 (.inr aj))) (fun p aj=>df p (List.mem_append.2 (.inr aj)))
     obtain⟨g1,g2⟩:=K_ ar h1 (fun p aj=>dN p (List.mem_append.2 (.inl aj))) (fun p aj=>df p (List.mem_append.2 (.inl aj))) k8
     have cJ:=Kn ar h1 k8;refine⟨⟨_,_,by rw[gd,jU],g1,aB⟩,g2.append ao,?_,fun F am hm=>?_,?_,fun F am hm=>?_⟩
     ·cases v<;>simp[di,bu]
     ·obtain⟨q1,q2⟩:=b' F am hm;exact⟨List.mem_append.2 (.inr q1),q2⟩
     ·simp only[eZ,bz.cells,nz];cases hn:fR [fm] with
      |true=>exact dS
      |false=>
       have e_:fm.q8=false:=by simpa[fR] using hn
       simp only[cond_false,Cs (ZC e_ g1)];refine hF.append (by simp) ?_ dS
       simp only[List.map_cons,List.map_nil];cases aD:kX st l with
       |none=>trivial
       |some p=>exact⟨(cJ p.1 p.2 aD).1,trivial⟩
     ·simp only[nz] at hm;rcases List.mem_append.1 hm with hm|hm
      ·cases hn:fR [fm] with
       |true=>rw[hn] at hm;simp at hm
       |false=>
        rw[hn] at hm;simp only[cond_false,List.map_cons,List.map_nil,List.mem_singleton] at hm;exact List.mem_append.2 (.inl (cJ F am hm.symm).2)
      ·exact List.mem_append.2 (.inr (gM F am hm))
    ·cases h
   ·rename_i U cq bU;cases bU;split at h
    ·rename_i dl gs us bs r h1 hr;cases h;obtain⟨aB,ao,bu,b',dS,gM⟩:=ih hr fv hvs (fun p aj=>dN p (List.mem_append.2 (.inr aj))) (fun p aj=>df p (List.mem_append.2 (.inr aj)))
     obtain⟨jc,e1,e2,bK⟩:=k8;obtain⟨g1,g2,g3,eH⟩:=XX ar h1 (fun p aj=>dN p (List.mem_append.2 (.inl aj))) (fun p aj=>df p (List.mem_append.2 (.inl aj))) ⟨e2,bK⟩
     subst e1;refine⟨⟨_,_,by rw[gd,jU],⟨jc,rfl,g1⟩,aB⟩,g2.append ao,?_,fun F am hm=>?_,?_,fun F am hm=>?_⟩
     ·simp[di,bu]
     ·obtain⟨q1,q2⟩:=b' F am hm;exact⟨List.mem_append.2 (.inr q1),q2⟩
     ·simp only[eZ,bz.cells,nz];cases hn:fR dl with
      |true=>exact dS
      |false=>
       simp only[cond_false,hR];exact hF.append (by simp[e2]) g3 dS
     ·simp only[nz] at hm;rcases List.mem_append.1 hm with hm|hm
      ·cases hn:fR dl with
       |true=>rw[hn] at hm;simp at hm
       |false=>
        rw[hn] at hm;exact List.mem_append.2 (.inl (eH F am hm))
      ·exact List.mem_append.2 (.inr (gM F am hm))
    ·cases h
   ·cases h
theorem Kg{b:Bool}(ar:eR L J X B st tm w cL eh av){cA:List aK}{a:jH}{vs:List Value}(h:q_ b st cA=some a)(hl:cA.length=vs.length)
  (hv:∀i (h:i<cA.length) (ab:i<vs.length),b_ B st.sites w (an X B st.sites) (cA[i]) (vs[i])) (h1:∀p,p∈a.er->p∈cL) (h2:∀o,o∈a.fr->o∈eh):
  h3 w av a.as vs (cp B (keys a.gone))/\eP st.sites a.gone/\di a.as vs=cp B (keys a.boxes)/\(∀o s,(o,s)∈a.boxes->(o,.dead s)∈a.gone/\∃b,B o=.pointer (some ⟨b,0,none⟩))/\
   hF B a.rows (eZ a.as vs)/\∀o s,some (o,s)∈a.rows->(o,.dead s)∈a.gone:=by
 cases b
 ·obtain⟨aB,ao,bu,b',dS⟩:=Zn ar h hl hv h1 h2;exact⟨aB,ao,bu,b',by rw[dS];trivial,by rw[dS];intro o s h;simp at h⟩
 ·exact XN ar h hl hv h1 h2
end
theorem Le(l m:List Nat):eO l m=true <-> ∀n,n∈l->n∉m:=by
 induction l with
 |nil=>simp[eO]
 |cons n l ih=>
  simp only[eO,Bool.and_eq_true,ih,Bool.not_eq_true',List.mem_cons];constructor
  ·rintro⟨h1,h2⟩ k (rfl|ag)
   ·intro h;rw[(tJ k m).2 h] at h1;cases h1
   ·exact h2 k ag
  ·intro h;refine⟨?_,fun k ag=>h k (.inr ag)⟩
   cases ab:fF n m with
   |false=>rfl
   |true=>exact absurd ((tJ n m).1 ab) (h n (.inl rfl))
section
variable {L:World}{J:List Nat}{X:Nat->Prop}{B:Nat->Value}{st:ad}{tm:Array Value}{w:World}
theorem ah.adQ:∀{us:List (Nat×Site)} {st:ad} {X:Nat->Prop},ah L J X B st tm w->eP st.sites us->(keys us).Nodup->
  ah L J (fun b=>X b\/b∈cp B (keys us)) B {st with sites:=aW st.sites us} tm w:=by
 intro us;induction us with
 |nil=>intro st X S _ _;exact S.shrink fun b h=>by rcases h with h|h;exact h;simp[keys,cp] at h
 |cons p us ih=>
  obtain⟨o,am⟩:=p;intro st X S hg hn;obtain⟨O,h1,h2,rfl⟩:=hg o am List.mem_cons_self;simp only[keys,List.nodup_cons] at hn;have c4:=S.kill h1 h2;have fP:=ih c4 (fun F s hm=>by
   obtain⟨t,aB,ao,bu⟩:=hg F s (List.mem_cons_of_mem _ hm);have:¬o=F:=fun e=>hn.1 (by rw[e];exact CJ hm)
   exact⟨t,by simp[cn,this,aB],ao,bu⟩) hn.2
  refine fP.shrink fun b h=>?_
  rcases h with h|h
  ·exact .inl (.inl h)
  ·simp only[keys,cp,List.flatMap_cons,List.mem_append] at h;rcases h with h|h
   ·exact .inl (.inr h)
   ·exact .inr h
structure fu(L:World)(J:List Nat)(X X':Nat->Prop)(B aA:Nat->Value)(st:ad)(tm:Array Value)(w:World)(us:List (Nat×Site)):Prop where
 fY:ah L J X' aA {st with sites:=aW st.sites us} tm w
 le:∀c,an X' aA (aW st.sites us) c->an X B st.sites c
 go:∀{a v},b_ B st.sites w (an X B st.sites) a v->b_ aA (aW st.sites us) w (an X' aA (aW st.sites us)) a v
 same:∀o,o∉keys us->aA o=B o
theorem fu.nil{X':Nat->Prop}(S:ah L J X B st tm w)(h:∀b,X' b->X b):fu L J X X' B B st tm w []:=
 ⟨S.shrink h,fun c hc=>by
  rcases hc with hc|hc
  ·exact .inl (h c hc)
  ·exact .inr hc,fun k=>k.ft (fun c hc=>by
   rcases hc with hc|hc
   ·exact .inl (h c hc)
   ·exact .inr hc) (fun c hc=>(S.shrink h).lt hc),fun _ _=>rfl⟩
theorem fu.trans{cQ cx:Nat->Prop}{fJ fI:Nat->Value}{us vs:List (Nat×Site)}(A:fu L J X cQ B fJ st tm w us)(bA:fu L J cQ cx fJ fI {st with sites:=aW st.sites us} tm w vs):
  fu L J X cx B fI st tm w (us++vs):=by
 refine⟨?_,?_,?_,fun o h=>?_⟩
 ·rw[hZ];exact bA.fY
 ·rw[hZ];exact fun c hc=>A.le c (bA.le c hc)
 ·rw[hZ];exact fun h=>bA.go (A.go h)
 ·rw[gd,List.mem_append,not_or] at h;rw[bA.same o h.2,A.same o h.1]
theorem fu.one{X':Nat->Prop}{n:Nat}{bI:Site}{nv:Value}(S:ah L J X B st tm w)(gO:∀b,X' b->X b)
  (c9:(∀O,look st.sites n=some O->O.b1<bI.b1)\/(bY (B n)=bY nv/\∀O,look st.sites n=some O->O.b1=bI.b1/\O.live=false))
  (hb:∀b,b∈bJ nv->X b/\¬X' b/\(b∈J\/L.heap.size<=b))
  (ff:∀{bo:List (Nat×Site)} {aA:Nat->Value},bo=b8 st.sites n bI->aA n=nv->(∀{a v},b_ B st.sites w (an X B st.sites) a v->b_ aA bo w (an X' aA bo) a v)->
   (∀b,an X' aA bo b->an X B st.sites b)->it aA bo w (an X' aA bo) n bI):
  fu L J X X' B (fun F=>if F=n then nv else B F) st tm w [(n,bI)]:=by
 obtain⟨h1,h2,aa⟩:=S.uK gO c9 hb ff;exact⟨h1,h2,aa,fun o h=>by
  simp only[keys,List.mem_singleton] at h;simp[h]⟩
theorem BO{av bS:Nat->Prop}{l:aw}{v:Value}{sites:List (Nat×Site)}(hf:∀t xs,l≠.fresh t xs)(AS:∀t xs,l≠.eK t xs)(h:dj lC [] w av l v)(cY:∀b,bS b->av b)(a3:∀b,bS b->b<w.heap.size):dj B sites w bS l v:=by
 have ft:∀{d:aL} {v:Value},bi w av d v->bi w bS d v:=fun h=>b_.ft (B:=B) (sites:=[]) (a:=one _) cY a3 h
 cases l with
 |d x=>exact ft h
 |nil t=>exact h
 |own o s=>obtain⟨_,_,h,_⟩:=h;cases h
 |ptr o s off=>obtain⟨_,_,_,h,_⟩:=h;cases h
 |ee cells off=>
  obtain⟨b,D,h1,h2,aa,cs,aI,bD,dh⟩:=h;exact⟨b,D,h1,fun hx=>h2 (cY b hx),aa,cs,aI,bD,fun j g1 g2=>ft (dh j g1 g2)⟩
 |ej o s t k off=>obtain⟨_,_,_,h,_⟩:=h;cases h
 |clo g bE=>
  obtain⟨vs,h1,h2,aa⟩:=h;match bE,vs,h2 with
  |[],[],_=>exact⟨[],h1,rfl,fun i h=>by simp at h⟩
  |c::bE,v::vs,_=>obtain⟨_,h,_⟩:=aa 0 (by simp) (by simp);cases h
 |cB u=>exact h
 |fresh t xs=>exact absurd rfl (hf t xs)
 |eK t xs=>exact absurd rfl (AS t xs)
 |ev=>trivial
 |any=>trivial
theorem ck.go{aA:Nat->Value}{sites bo:List (Nat×Site)}{w':World}{av bS:Nat->Prop}(go:∀{a:aK} {v:Value},b_ B sites w av a v->b_ aA bo w' bS a v){U:List aw}{vs:List Value}
  (h:ck B sites w av U vs):ck aA bo w' bS U vs:=y1 go h
structure Left(L:World)(J:List Nat)(X:Nat->Prop)(B:Nat->Value)(st:ad)(av:Nat->Prop)(bs:List Nat):Prop where
 nodup:bs.Nodup
 b7:∀b,b∈bs->¬X b/\(b∈J\/L.heap.size<=b)
 le:∀c,an (fun b=>X b\/b∈bs) B st.sites c->av c
def iY(bm:ad)(sites:List (Nat×Site))(ks:List Nat):Prop:=∀m,m∈ks->∀O,look sites m=some O->O.b1<aY bm m
theorem iY.step{bm:ad}{sites us:List (Nat×Site)}{ks:List Nat}(h:iY bm sites ks)(Y:∀n,n∈keys us->n∉ks):iY bm (aW sites us) ks:=by
 intro m hm O M;rw[kH (fun ab=>Y m ab hm)] at M
 exact h m hm O M
theorem BE{u:Bool}{e:TypeId}{s:Nat}{v:Value}{n:Nat}{cs:List Value}(h:rowAt w u e s v n cs):v.oneCell'=true:=by
 rcases h.2 with⟨h,_⟩|⟨g,cap,cur,bG,h,_⟩<;>rw[h]<;>rfl
theorem Mh{av:Nat->Prop}(bm:ad):∀(U:List aw) (n:Nat) {B:Nat->Value} {st:ad} {vs:List Value} {bs rest:List Nat},ah L J (fun b=>X b\/b∈bs++rest) B st tm w->fU w av U vs bs->
  Left L J X B st av (bs++rest)->iY bm st.sites (keys (take bm n U).2)->(keys (take bm n U).2).Nodup->
  ∃aA,fu L J (fun b=>X b\/b∈bs++rest) (fun b=>X b\/b∈rest) B aA st tm w (take bm n U).2/\ck aA (aW st.sites (take bm n U).2) w (an (fun b=>X b\/b∈rest) aA (aW st.sites (take bm n U).2)) (take bm n U).1 vs/\
   Left L J X aA {st with sites:=aW st.sites (take bm n U).2} av rest:=by
 intro U;induction U with
 |nil=>
  intro n B st vs bs rest S h ar fo Y;match vs,h with
  |[],h=>
   have h:bs=[]:=h;subst h;exact⟨B,.nil S (fun b hb=>hb),.nil,ar⟩
 |cons l U ih=>
  intro n B st vs bs rest S h ar fo Y;match vs,h with
  |v::vs,⟨aU,aJ,df,h1,h2⟩=>
   subst df;by_cases hf:∃t xs,l=.fresh t xs
   ·obtain⟨t,xs,rfl⟩:=hf;obtain⟨hb1,e,cs,au,hr⟩:=h1;simp only[take,keys,List.nodup_cons] at Y fo;have dm:=ar.nodup;rw[List.append_assoc,hb1] at dm;have cH:fu L J (fun b=>X b\/b∈aU++aJ++rest) (fun b=>X b\/b∈aJ++rest) B (fun F=>if F=n then v else B F) st tm w [(n,.row (aY bm n) t xs)]:=by
     refine .one S (fun b hb=>?_) (.inl fun O M=>fo n List.mem_cons_self O M) (fun b hb=>?_) (fun eT dJ go le=>?_)
     ·rcases hb with hb|hb
      ·exact .inl hb
      ·exact .inr (by rw[List.append_assoc];exact List.mem_append.2 (.inr hb))
     ·have hb:a6 v=some b:=tR au hb;have hm:b∈aU:=by rw[hb1,hb];simp
      have gH:b∈aU++aJ++rest:=by rw[List.append_assoc];exact List.mem_append.2 (.inl hm)
      refine⟨.inr gH,?_,(ar.b7 b gH).2⟩;rintro(hx|hx)
      ·exact(ar.b7 b gH).1 hx
      ·rw[hb] at dm;simp only[Option.toList_some,List.singleton_append,List.nodup_cons] at dm;exact dm.1 hx
     ·refine⟨e,cs,by rw[dJ];exact au,fun j g1 g2=>?_⟩
      have k:=hr.2 j g1 g2;have cY:∀b,an (fun b=>X b\/b∈aJ++rest) _ _ b->av b:=fun b hb=>ar.le b (le b hb)
      exact b_.ft (B:=B) (sites:=[]) (a:=one _) cY (fun b hb=>S.lt (le b hb)) k
    have kE:Left L J X (fun F=>if F=n then v else B F) {st with sites:=aW st.sites [(n,.row (aY bm n) t xs)]} av (aJ++rest):=by
     refine⟨(List.nodup_append.1 (by rw[List.append_assoc] at ar;exact ar.nodup)).2.1,fun b hb=>ar.b7 b (by rw[List.append_assoc];exact List.mem_append.2 (.inr hb)),fun c hc=>ar.le c (cH.le c hc)⟩
    obtain⟨aA,dz,aa,aI⟩:=ih (n+1) (st:={st with sites:=aW st.sites [(n,.row (aY bm n) t xs)]}) cH.fY h2 kE
     (iY.step (us:=[(n,.row (aY bm n) t xs)]) (fun m hm=>fo m (List.mem_cons_of_mem _ hm)) (fun m hm=>by simp only[keys,List.mem_singleton] at hm;subst hm;exact Y.1)) Y.2
    refine⟨aA,cH.trans dz,?_,aI⟩;refine ck.cons ?_ aa;have:dj (fun F=>if F=n then v else B F) (aW st.sites [(n,.row (aY bm n) t xs)]) w (an (fun b=>X b\/b∈aJ++rest) (fun F=>if F=n then v else B F) (aW st.sites [(n,.row (aY bm n) t xs)])) (.own n (aY bm n)) v:=
     ⟨BE au,Ref.mk (O:=.row (aY bm n) t xs) (by simp[aW,cn]) rfl (by simp[(is au).1])⟩
    exact dz.go (a:=bP (.own n (aY bm n))) (v:=v) this
   ·by_cases AS:∃t xs,l=.eK t xs
    ·obtain⟨t,xs,rfl⟩:=AS;obtain⟨e,cs,az,hb1,au,hr⟩:=h1;simp only[take,keys,List.nodup_cons] at Y fo;have dm:=ar.nodup;rw[List.append_assoc,hb1] at dm;have cH:fu L J (fun b=>X b\/b∈aU++aJ++rest) (fun b=>X b\/b∈aJ++rest) B (fun F=>if F=n then .tuple (v::az).toArray else B F) st tm w [(n,.deep (aY bm n) t xs)]:=by
      refine .one S (fun b hb=>?_) (.inl fun O M=>fo n List.mem_cons_self O M) (fun b hb=>?_) (fun eT dJ go le=>?_)
      ·rcases hb with hb|hb
       ·exact .inl hb
       ·exact .inr (by rw[List.append_assoc];exact List.mem_append.2 (.inr hb))
      ·have hm:b∈aU:=by rw[hb1];exact hb
       have gH:b∈aU++aJ++rest:=by rw[List.append_assoc];exact List.mem_append.2 (.inl hm)
       refine⟨.inr gH,?_,(ar.b7 b gH).2⟩;rintro(hx|hx)
       ·exact(ar.b7 b gH).1 hx
       ·exact(List.nodup_append.1 dm).2.2 b hb b hx rfl
      ·have cY:∀b,an (fun b=>X b\/b∈aJ++rest) _ _ b->av b:=fun b hb=>ar.le b (le b hb)
       exact⟨e,v,az,cs,dJ,by rw[dJ];exact(List.nodup_append.1 dm).1,au,hr.map (fun k=>b_.ft (B:=B) (sites:=[]) (a:=one _) cY (fun b hb=>S.lt (le b hb)) k) fun _ _ _ _=>rfl⟩
     have kE:Left L J X (fun F=>if F=n then .tuple (v::az).toArray else B F) {st with sites:=aW st.sites [(n,.deep (aY bm n) t xs)]} av (aJ++rest):=by
      refine⟨(List.nodup_append.1 (by rw[List.append_assoc] at ar;exact ar.nodup)).2.1,fun b hb=>ar.b7 b (by rw[List.append_assoc];exact List.mem_append.2 (.inr hb)),fun c hc=>ar.le c (cH.le c hc)⟩
     obtain⟨aA,dz,aa,aI⟩:=ih (n+1) (st:={st with sites:=aW st.sites [(n,.deep (aY bm n) t xs)]}) cH.fY h2 kE
      (iY.step (us:=[(n,.deep (aY bm n) t xs)]) (fun m hm=>fo m (List.mem_cons_of_mem _ hm)) (fun m hm=>by simp only[keys,List.mem_singleton] at hm;subst hm;exact Y.1)) Y.2
     refine⟨aA,cH.trans dz,?_,aI⟩;refine ck.cons ?_ aa;have:dj (fun F=>if F=n then .tuple (v::az).toArray else B F) (aW st.sites [(n,.deep (aY bm n) t xs)]) w (an (fun b=>X b\/b∈aJ++rest) (fun F=>if F=n then .tuple (v::az).toArray else B F) (aW st.sites [(n,.deep (aY bm n) t xs)])) (.own n (aY bm n)) v:=
      ⟨BE au,Ref.mk (O:=.deep (aY bm n) t xs) (by simp[aW,cn]) rfl (by simp[bY])⟩
     exact dz.go (a:=bP (.own n (aY bm n))) (v:=v) this
    ·have HJ:∀t xs,l≠.fresh t xs:=fun t xs h=>hf ⟨t,xs,h⟩
     have Gc:∀t xs,l≠.eK t xs:=fun t xs h=>AS ⟨t,xs,h⟩
     have aed:take bm n (l::U)=(l::(take bm (n+1) U).1,(take bm (n+1) U).2):=by
      cases l<;>first|rfl|exact absurd rfl (HJ _ _)|exact absurd rfl (Gc _ _)
     have h1':aU=[]/\dj lC [] w av l v:=by
      cases l<;>first|exact h1|exact absurd rfl (HJ _ _)|exact absurd rfl (Gc _ _)
     obtain⟨rfl,h1'⟩:=h1';rw[aed] at Y fo ⊢;simp only[List.nil_append] at S ar ⊢;obtain⟨aA,dz,aa,aI⟩:=ih (n+1) S h2 ar fo Y;refine⟨aA,dz,?_,aI⟩;refine ck.cons ?_ aa;exact BO HJ Gc h1' (fun b hb=>ar.le b (dz.le b hb)) (fun b hb=>dz.fY.lt hb)
end
section
variable {L:World}{J:List Nat}{X:Nat->Prop}{B:Nat->Value}{st:ad}{tm:Array Value}{w:World}
def nC(B:Nat->Value)(sites:List (Nat×Site))(w:World)(av:Nat->Prop)(as:List bz)(vs:List Value):Prop:=
 vs.length=as.length/\∀j (h:j<as.length) (ab:j<vs.length),fW B sites w av (as[j]) (vs[j])
theorem nC.cons{sites:List (Nat×Site)}{av:Nat->Prop}{a:bz}{as:List bz}{v:Value}{vs:List Value}(h:fW B sites w av a v)(M:nC B sites w av as vs):nC B sites w av (a::as) (v::vs):=
 ⟨by simp[M.1],fun j h1 h2=>by
  cases j with
  |zero=>exact h
  |succ j=>exact M.2 j (by simpa using h1) (by simpa using h2)⟩
theorem Left.rest{av:Nat->Prop}{a b:List Nat}(ar:Left L J X B st av (a++b)){aA:Nat->Value}{af:ad}(h:∀c,an (fun c=>X c\/c∈b) aA af.sites c->an (fun c=>X c\/c∈a++b) B st.sites c):Left L J X aA af av b:=
 ⟨(List.nodup_append.1 ar.nodup).2.1,fun c hc=>ar.b7 c (List.mem_append.2 (.inr hc)),fun c hc=>ar.le c (h c hc)⟩
theorem YO{bm:ad}{n:Nat}{U:List aw}(h:(take bm n U).1.head?=some .ev):U.head?=some .ev:=by
 cases U with
 |nil=>cases h
 |cons l U=>cases l<;>first|exact h|cases h
theorem take_one(bm:ad)(n:Nat)(l:aw):∃fm,(take bm n [l]).1=[fm]:=by cases l<;>exact⟨_,rfl⟩
theorem LB{av:Nat->Prop}(bm:ad):∀(as:List bz) (n:Nat) {B:Nat->Value} {st:ad} {vs:List Value} {bs rest:List Nat},ah L J (fun b=>X b\/b∈bs++rest) B st tm w->j1 w av as vs bs->
  Left L J X B st av (bs++rest)->iY bm st.sites (keys (dE bm n as).2)->(keys (dE bm n as).2).Nodup->
  ∃aA,fu L J (fun b=>X b\/b∈bs++rest) (fun b=>X b\/b∈rest) B aA st tm w (dE bm n as).2/\nC aA (aW st.sites (dE bm n as).2) w (an (fun b=>X b\/b∈rest) aA (aW st.sites (dE bm n as).2)) (dE bm n as).1 vs/\
   Left L J X aA {st with sites:=aW st.sites (dE bm n as).2} av rest:=by
 intro as;induction as with
 |nil=>
  intro n B st vs bs rest S h ar fo Y;match vs,h with
  |[],h=>
   have h:bs=[]:=h;subst h;exact⟨B,.nil S (fun b hb=>hb),⟨rfl,fun j h=>by simp[dE] at h⟩,ar⟩
 |cons a as ih=>
  intro n B st vs bs rest S h ar fo Y;match vs,h with
  |v::vs,⟨aU,aJ,df,h1,h2⟩=>
   subst df;have go:∀(U:List aw) (us:List Value),fU w av U us aU->(dE bm n (a::as)).2=(take bm n U).2++(dE bm (n+100) as).2->
     ∃aA,fu L J (fun b=>X b\/b∈aU++aJ++rest) (fun b=>X b\/b∈rest) B aA st tm w (dE bm n (a::as)).2/\ck aA (aW st.sites (dE bm n (a::as)).2) w (an (fun b=>X b\/b∈rest) aA (aW st.sites (dE bm n (a::as)).2)) (take bm n U).1 us/\
      nC aA (aW st.sites (dE bm n (a::as)).2) w (an (fun b=>X b\/b∈rest) aA (aW st.sites (dE bm n (a::as)).2)) (dE bm (n+100) as).1 vs/\Left L J X aA {st with sites:=aW st.sites (dE bm n (a::as)).2} av rest:=by
    intro U us bR e;rw[e] at fo Y ⊢;rw[gd] at fo Y;obtain⟨d1,d2,d3⟩:=List.nodup_append.1 Y;rw[List.append_assoc] at S ar ⊢;obtain⟨fJ,cH,aB,kE⟩:=Mh bm U n S bR ar (fun m hm=>fo m (List.mem_append.2 (.inl hm))) d1
    obtain⟨fI,dz,ao,pi⟩:=ih (n+100) (st:={st with sites:=aW st.sites (take bm n U).2}) cH.fY h2 kE
     (iY.step (fun m hm=>fo m (List.mem_append.2 (.inr hm))) (fun m hm gH=>d3 m hm m gH rfl)) d2
    refine⟨fI,cH.trans dz,?_,?_,?_⟩
    ·rw[hZ];exact aB.go dz.go
    ·rw[hZ];exact ao
    ·rw[hZ];exact pi
   cases a with
   |ai l=>
    have h1:lB w av l v aU:=h1;obtain⟨aA,T,aB,ao,bu⟩:=go [l] [v] ⟨aU,[],by simp,h1,rfl⟩ rfl
    refine⟨aA,T,?_,bu⟩;obtain⟨fm,fv⟩:=take_one bm n l;have:(dE bm n (bz.ai l::as)).1=bz.ai fm::(dE bm (n+100) as).1:=by simp only[dE,fv]
    rw[this];refine nC.cons ?_ ao;rw[fv] at aB;exact aB.2 0 (by simp) (by simp)
   |agg U=>
    obtain⟨us,e,h1⟩:=h1;obtain⟨aA,T,aB,ao,bu⟩:=go U us h1 rfl;refine⟨aA,T,?_,bu⟩;have:(dE bm n (bz.agg U::as)).1=bz.agg (take bm n U).1::(dE bm (n+100) as).1:=rfl;rw[this];exact nC.cons ⟨us,e,aB.1,aB.2⟩ ao
def mV(B:Nat->Value):List (Nat×Nat)->List Nat->Prop
 |[],[]=>True
 |p::r,b::c8=>B p.1=.pointer (some ⟨b,0,none⟩)/\mV B r c8
 |_,_=>False
theorem mV.of:∀{boxes:List (Nat×Nat)},(∀o s,(o,s)∈boxes->∃b,B o=.pointer (some ⟨b,0,none⟩))->mV B boxes (cp B (keys boxes)):=by
 intro boxes;induction boxes with
 |nil=>intro _;trivial
 |cons q boxes ih=>
  obtain⟨aO,r⟩:=q;intro h;obtain⟨c,hc⟩:=h aO r List.mem_cons_self;have:=ih fun o s hm=>h o s (List.mem_cons_of_mem _ hm)
  have e:cp B (keys ((aO,r)::boxes))=c::cp B (keys boxes):=by simp[cp,keys,hc,a6,bJ]
  rw[e];exact⟨hc,this⟩
theorem mV.congr{aA:Nat->Value}:∀{boxes:List (Nat×Nat)} {c8:List Nat},mV B boxes c8->(∀F,F∈keys boxes->aA F=B F)->mV aA boxes c8:=by
 intro boxes;induction boxes with
 |nil=>
  intro c8 h _;match c8,h with
  |[],_=>trivial
 |cons q boxes ih=>
  intro c8 h ab;match c8,h with
  |b::c8,⟨h1,h2⟩=>exact⟨by rw[ab q.1 List.mem_cons_self];exact h1,ih h2 fun F bB=>ab F (List.mem_cons_of_mem _ bB)⟩
theorem J'{av:Nat->Prop}{bm:ad}{F:Nat}:∀{boxes:List (Nat×Nat)} {ct:List (List aw)} {c8 bs:List Nat},mV B boxes c8->lv w av c8 ct bs->F∈keys boxes->F∈keys (eY bm boxes ct):=by
 intro boxes;induction boxes with
 |nil=>intro ct c8 bs _ _ h;simp[keys] at h
 |cons q boxes ih=>
  obtain⟨aO,r⟩:=q;intro ct c8 bs hl bR hm;match c8,ct,hl,bR with
  |c::c8,cs::ct,⟨_,hl⟩,⟨_,_,_,_,bR⟩=>
   simp only[eY,gd,keys,List.mem_append,List.mem_cons];rcases List.mem_cons.1 hm with rfl|hm
   ·exact .inr (.inl rfl)
   ·exact .inr (.inr (ih hl bR hm))
theorem LA{av:Nat->Prop}(bm:ad):∀(boxes:List (Nat×Nat)) {ct:List (List aw)} {B:Nat->Value} {st:ad} {c8 bs rest:List Nat},ah L J (fun b=>X b\/b∈bs++rest) B st tm w->mV B boxes c8->lv w av c8 ct bs->
  (∀o s,(o,s)∈boxes->look st.sites o=some (.dead s))->
  Left L J X B st av (bs++rest)->iY bm st.sites (keys (eY bm boxes ct))->(keys (eY bm boxes ct)).Nodup->
  ∃aA,fu L J (fun b=>X b\/b∈bs++rest) (fun b=>X b\/b∈rest) B aA st tm w (eY bm boxes ct)/\Left L J X aA {st with sites:=aW st.sites (eY bm boxes ct)} av rest:=by
 intro boxes;induction boxes with
 |nil=>
  intro ct B st c8 bs rest S eg h gr ar fo Y;match c8,ct,eg,h with
  |[],[],_,h=>
   have h:bs=[]:=h;subst h;exact⟨B,.nil S (fun b hb=>hb),ar⟩
 |cons p boxes ih=>
  obtain⟨o,s⟩:=p;intro ct B st c8 bs rest S eg h gr ar fo Y;have bg:=gr o s List.mem_cons_self;match c8,ct,eg,h with
  |b::c8,cs::ct,⟨hb,eg⟩,⟨aU,aJ,df,⟨T,cur,pd,e1,e2,bK,c_⟩,h2⟩=>
   subst df e1;have hb:B o=.pointer (some ⟨b,0,none⟩):=hb;have qE:eY bm ((o,s)::boxes) (cs::ct)=(take bm (1000000+o*100) cs).2++([(o,Site.box s (take bm (1000000+o*100) cs).1)]++eY bm boxes ct):=rfl;rw[qE] at fo Y ⊢;rw[gd,gd] at fo Y;obtain⟨d1,d2,d3⟩:=List.nodup_append.1 Y;obtain⟨d4,d5,d6⟩:=List.nodup_append.1 d2;have zD:∀c,c∈b::pd++aJ++rest <-> c∈pd++(b::(aJ++rest)):=by intro c;simp[or_assoc,or_left_comm]
   have ak5:=ar.nodup;have c4:ah L J (fun c=>X c\/c∈pd++(b::(aJ++rest))) B st tm w:=S.shrink fun c hc=>hc.imp id (zD c).2
   have kE:Left L J X B st av (pd++(b::(aJ++rest))):=by
    refine⟨?_,fun c hc=>ar.b7 c ((zD c).2 hc),fun c hc=>ar.le c ?_⟩
    ·have:List.Perm (b::pd++aJ++rest) (pd++(b::(aJ++rest))):=by
      simp only[List.cons_append,List.append_assoc];exact List.perm_middle.symm
     exact this.nodup_iff.1 ak5
    ·rcases hc with hc|hc
     ·exact .inl (hc.imp id (zD c).2)
     ·exact .inr hc
   obtain⟨fJ,cH,aB,pi⟩:=Mh bm cs (1000000+o*100) c4 c_.2 kE (fun m hm=>fo m (List.mem_append.2 (.inl hm))) d1
   have Qw:o∉keys (take bm (1000000+o*100) cs).2:=fun h=>d3 o h o (by simp[keys]) rfl
   have F5:fJ o=B o:=cH.same o Qw;have hl1:look (aW st.sites (take bm (1000000+o*100) cs).2) o=some (.dead s):=by rw[kH Qw,bg]
   have Ty:=pi.nodup;simp only[List.nodup_cons] at Ty;have dz:fu L J (fun c=>X c\/c∈b::(aJ++rest)) (fun c=>X c\/c∈aJ++rest) fJ (fun F=>if F=o then B o else fJ F) {st with sites:=aW st.sites (take bm (1000000+o*100) cs).2} tm w [(o,Site.box s (take bm (1000000+o*100) cs).1)]:=by
    refine .one cH.fY (fun c hc=>hc.imp id (List.mem_cons_of_mem _)) (.inr ⟨by rw[F5],fun O M=>?_⟩) (fun c hc=>?_) (fun eT dJ go le=>?_)
    ·have M:look (aW st.sites (take bm (1000000+o*100) cs).2) o=some O:=M;rw[hl1] at M;cases M;exact⟨rfl,rfl⟩
    ·rw[hb] at hc;have hc:c=b:=List.mem_singleton.1 hc;rw[hc];refine⟨.inr List.mem_cons_self,?_,(pi.b7 b List.mem_cons_self).2⟩;rintro(hx|hx)
     ·exact(pi.b7 b List.mem_cons_self).1 hx
     ·exact Ty.1 hx
    ·have:=y1 go aB;exact⟨b,T,cur,by rw[dJ,hb],e2,this.1,bK,fun bR=>c_.1 (YO bR),this.2⟩
   have anb:Left L J X (fun F=>if F=o then B o else fJ F) {st with sites:=aW (aW st.sites (take bm (1000000+o*100) cs).2) [(o,Site.box s (take bm (1000000+o*100) cs).1)]} av (aJ++rest):=
    Left.rest (a:=[b]) (st:={st with sites:=aW st.sites (take bm (1000000+o*100) cs).2}) pi dz.le
   have vW:∀F,F∈keys boxes->(fun F=>if F=o then B o else fJ F) F=B F:=by
    intro F bB;have ag:=J' (bm:=bm) eg h2 bB;by_cases e:F=o
    ·subst e;simp
    ·simp only[e,if_false];exact cH.same F fun hm=>d3 F hm F (List.mem_append.2 (.inr ag)) rfl
   obtain⟨aA,fz,ana⟩:=ih (st:={st with sites:=aW (aW st.sites (take bm (1000000+o*100) cs).2) [(o,Site.box s (take bm (1000000+o*100) cs).1)]}) dz.fY (eg.congr vW) h2
    (fun F r hm=>by
     have ag:=J' (bm:=bm) eg h2 (CJ hm);show look (aW (aW st.sites _) _) F=_;rw[kH (fun h=>d6 F h F ag rfl),kH (fun h=>d3 F h F (List.mem_append.2 (.inr ag)) rfl)]
     exact gr F r (List.mem_cons_of_mem _ hm))
    anb
    (iY.step (iY.step (fun m hm=>fo m (List.mem_append.2 (.inr (List.mem_append.2 (.inr hm))))) (fun m hm gH=>d3 m hm m (List.mem_append.2 (.inr gH)) rfl)) (fun m hm gH=>d6 m hm m gH rfl)) d5
   refine⟨aA,?_,?_⟩
   ·have akT:=cH.trans dz;have mb:fu L J (fun c=>X c\/c∈b::pd++aJ++rest) (fun c=>X c\/c∈pd++(b::(aJ++rest))) B B st tm w []:=.nil S fun c hc=>hc.imp id (zD c).2
    have agF:=mb.trans (vs:=(take bm (1000000+o*100) cs).2++[(o,Site.box s (take bm (1000000+o*100) cs).1)]) akT;have:=agF.trans (vs:=eY bm boxes ct) (by simpa only[List.nil_append,hZ] using fz)
    simpa only[List.nil_append,List.append_assoc] using this
   ·simpa only[hZ] using ana
theorem hF.congr{aA:Nat->Value}:∀{rows:List (Option (Nat×Nat))} {vs:List Value},hF B rows vs->(∀o s,some (o,s)∈rows->bY (aA o)=bY (B o))->hF aA rows vs:=by
 intro rows;induction rows with
 |nil=>intro vs h _;trivial
 |cons D r ih=>
  intro vs h hc;match D,vs,h with
  |none,v::vs,h=>exact ih h fun o s hm=>hc o s (List.mem_cons_of_mem _ hm)
  |some p,v::vs,h=>exact⟨h.1.trans (hc p.1 p.2 List.mem_cons_self).symm,ih h.2 fun o s hm=>hc o s (List.mem_cons_of_mem _ hm)⟩
  |none,[],h=>exact h.elim
  |some p,[],h=>exact h.elim
theorem YP{U:List aw}:eL [] U=[]:=by cases U<;>rfl
theorem J_{rows:List (Option (Nat×Nat))}:eL rows []=[]:=by
 cases rows with
 |nil=>rfl
 |cons D r=>cases D<;>rfl
theorem Xl{r:List (Option (Nat×Nat))}{l:aw}{U:List aw}:eL (none::r) (l::U)=eL r U:=by cases l<;>rfl
theorem wH{o s:Nat}:∀{rows:List (Option (Nat×Nat))},some (o,s)∈rows->o∈oq rows
 |[],h=>by cases h
 |none::r,h=>by
  rcases List.mem_cons.1 h with h|h
  ·cases h
  ·exact wH (rows:=r) h
 |some p::r,h=>by
  rcases List.mem_cons.1 h with h|h
  ·cases h;exact List.mem_cons_self
  ·exact List.mem_cons_of_mem _ (wH h)
theorem V9{D:Option (Nat×Nat)}{rows:List (Option (Nat×Nat))}(h:(oq (D::rows)).Nodup):(oq rows).Nodup:=by
 cases D with
 |none=>exact h
 |some p=>exact(List.nodup_cons.1 h).2
theorem _f{av:Nat->Prop}:∀(rows:List (Option (Nat×Nat))) {U:List aw} {B:Nat->Value} {st:ad} {vs:List Value} {bs rest:List Nat},ah L J (fun b=>X b\/b∈bs++rest) B st tm w->fU w av U vs bs->hF B rows vs->
  (∀o s,some (o,s)∈rows->look st.sites o=some (.dead s))->(oq rows).Nodup->Left L J X B st av (bs++rest)->(keys (eL rows U)).Nodup->
  ∃aA,fu L J (fun b=>X b\/b∈bs++rest) (fun b=>X b\/b∈rest) B aA st tm w (eL rows U)/\Left L J X aA {st with sites:=aW st.sites (eL rows U)} av rest:=by
 intro rows;have skip:∀{B:Nat->Value} {st:ad} {bs rest:List Nat},ah L J (fun b=>X b\/b∈bs++rest) B st tm w->Left L J X B st av (bs++rest)->
   fu L J (fun b=>X b\/b∈bs++rest) (fun b=>X b\/b∈rest) B B st tm w []/\Left L J X B st av rest:=by
  intro B st bs rest S ar;have T:fu L J (fun b=>X b\/b∈bs++rest) (fun b=>X b\/b∈rest) B B st tm w []:=.nil S fun b hb=>hb.imp id fun h=>List.mem_append.2 (.inr h)
  exact⟨T,ar.rest (fun c hc=>T.le c hc)⟩
 induction rows with
 |nil=>
  intro U B st vs bs rest S h hr ez fo ar Y;obtain⟨T,L'⟩:=skip S ar;rw[YP];exact⟨B,T,L'⟩
 |cons D r ih=>
  intro U B st vs bs rest S h hr ez fo ar Y;match U,vs,h with
  |[],[],h=>
   obtain⟨T,L'⟩:=skip S ar;rw[J_];exact⟨B,T,L'⟩
  |l::U,v::vs,⟨aU,aJ,df,h1,h2⟩=>
   subst df;have pass:hF B r vs->eL (D::r) (l::U)=eL r U->∃aA,fu L J (fun b=>X b\/b∈aU++aJ++rest) (fun b=>X b\/b∈rest) B aA st tm w (eL (D::r) (l::U))/\Left L J X aA {st with sites:=aW st.sites (eL (D::r) (l::U))} av rest:=by
    intro cN e;rw[e] at Y ⊢;have mb:fu L J (fun b=>X b\/b∈aU++aJ++rest) (fun b=>X b\/b∈aJ++rest) B B st tm w []:=.nil S fun b hb=>hb.imp id fun h=>by rw[List.append_assoc];exact List.mem_append.2 (.inr h)
    have wz:Left L J X B st av (aJ++rest):=Left.rest (a:=aU) (by rw[<-List.append_assoc];exact ar) fun c hc=>(mb.le c hc).imp (fun h=>h.imp id fun h=>by rwa[<-List.append_assoc]) id
    obtain⟨aA,T,L'⟩:=ih mb.fY h2 cN (fun o s hm=>ez o s (List.mem_cons_of_mem _ hm)) (V9 fo) wz Y
    exact⟨aA,mb.trans (vs:=eL r U) T,L'⟩
   have back:∀(o s:Nat) (bI:Site) (nv:Value),D=some (o,s)->bI.b1=s->eL (D::r) (l::U)=(o,bI)::eL r U->bY nv=v->(∀b,b∈bJ nv->b∈aU)->
     (∀{bo:List (Nat×Site)} {aA:Nat->Value},aA o=nv->(∀b,an (fun b=>X b\/b∈aJ++rest) aA bo b->av b)->(∀b,an (fun b=>X b\/b∈aJ++rest) aA bo b->b<w.heap.size)->it aA bo w (an (fun b=>X b\/b∈aJ++rest) aA bo) o bI)->
     ∃aA,fu L J (fun b=>X b\/b∈aU++aJ++rest) (fun b=>X b\/b∈rest) B aA st tm w (eL (D::r) (l::U))/\Left L J X aA {st with sites:=aW st.sites (eL (D::r) (l::U))} av rest:=by
    intro o s bI nv au c9 e vK o8 ff;subst au;rw[e] at Y ⊢;simp only[keys,List.nodup_cons] at Y;have bg:=ez o s List.mem_cons_self;have dm:=ar.nodup;rw[List.append_assoc] at dm;have cH:fu L J (fun b=>X b\/b∈aU++aJ++rest) (fun b=>X b\/b∈aJ++rest) B (fun F=>if F=o then nv else B F) st tm w [(o,bI)]:=by
     refine .one S (fun b hb=>hb.imp id fun h=>by rw[List.append_assoc];exact List.mem_append.2 (.inr h)) (.inr ⟨?_,fun O M=>?_⟩) (fun b hb=>?_) (fun eT dJ go le=>?_)
     ·rw[vK];exact hr.1.symm
     ·rw[bg] at M;cases M;exact⟨c9.symm,rfl⟩
     ·have hm:=o8 b hb;have gH:b∈aU++aJ++rest:=by rw[List.append_assoc];exact List.mem_append.2 (.inl hm)
      refine⟨.inr gH,?_,(ar.b7 b gH).2⟩;rintro(hx|hx)
      ·exact(ar.b7 b gH).1 hx
      ·exact(List.nodup_append.1 dm).2.2 b hm b hx rfl
     ·exact ff dJ (fun b hb=>ar.le b (le b hb)) (fun b hb=>S.lt (le b hb))
    have kE:Left L J X (fun F=>if F=o then nv else B F) {st with sites:=aW st.sites [(o,bI)]} av (aJ++rest):=
     ⟨(List.nodup_append.1 dm).2.1,fun b hb=>ar.b7 b (by rw[List.append_assoc];exact List.mem_append.2 (.inr hb)),fun c hc=>ar.le c (cH.le c hc)⟩
    have vH:hF (fun F=>if F=o then nv else B F) r vs:=hr.2.congr fun F t hm=>by
     by_cases e:F=o
     ·subst e;have:=hr.1;simp only[if_true,vK];exact this
     ·simp[e]
    obtain⟨aA,dz,pi⟩:=ih (st:={st with sites:=aW st.sites [(o,bI)]}) cH.fY h2 vH (fun F t hm=>by
     have b3:¬o=F:=fun e=>(List.nodup_cons.1 fo).1 (by subst e;exact wH hm)
     simp only[aW,cn,b3,if_false];exact ez F t (List.mem_cons_of_mem _ hm)) (List.nodup_cons.1 fo).2 kE Y.2
    exact⟨aA,cH.trans dz,pi⟩
   match D,hr with
   |none,hr=>exact pass hr Xl
   |some (o,s),hr=>
    cases l with
    |fresh t xs=>
     obtain⟨hb1,e,cs,au,dF⟩:=h1;refine back o s (.row s t xs) v rfl rfl rfl (is au).1 (fun b hb=>by rw[hb1,tR au hb];simp) fun dJ cY a3=>⟨e,cs,by rw[dJ];exact au,fun j g1 g2=>?_⟩
     exact b_.ft (B:=B) (sites:=[]) (a:=one _) cY a3 (dF.2 j g1 g2)
    |eK t xs=>
     obtain⟨e,cs,az,hb1,au,dF⟩:=h1;refine back o s (.deep s t xs) (.tuple (v::az).toArray) rfl rfl rfl rfl (fun b hb=>by rw[hb1];exact hb) fun dJ cY a3=>⟨e,v,az,cs,dJ,?_,au,dF.map (fun k=>b_.ft (B:=B) (sites:=[]) (a:=one _) cY a3 k) fun _ _ _ _=>rfl⟩
     rw[dJ,<-hb1];have:=ar.nodup;rw[List.append_assoc] at this;exact(List.nodup_append.1 this).1
    |_=>exact pass hr.2 rfl
end
theorem wE{us:List (Nat×Site)}:∀{sites:List (Nat×Site)} {o:Nat} {s:Site},(keys us).Nodup->(o,s)∈us->look (aW sites us) o=some s:=by
 induction us with
 |nil=>intro sites o s _ h;simp at h
 |cons p us ih=>
  obtain⟨n,am⟩:=p;intro sites o s hn hm;simp only[keys,List.nodup_cons] at hn;simp only[aW];rcases List.mem_cons.1 hm with hm|hm
  ·cases hm;rw[kH hn.1,cn];simp
  ·exact ih hn.2 hm
section plain
variable {w:World}{av bS:Nat->Prop}
theorem tH{d:aL}{v:Value}(h:aw.gU (.d d)=false)(r:bi w av d v):bi w bS d v:=by
 cases r with
 |int k n=>exact .int k n
 |bool b=>exact .bool b
 |str l s M=>exact .str l s M
 |nil t=>cases h
 |sl=>cases h
 |fn=>cases h
 |sn=>cases h
 |map=>cases h
 |pY T=>exact .pY T
 |err T n=>exact .err T n
theorem ZI{t:aF}(h:t.gU=false)(x:den t):∀d,d∈enc t x->aw.gU (.d d)=false:=by
 cases t<;>first|(cases h;done)|(intro d Y;simp only[enc,List.mem_cons,List.not_mem_nil,or_false] at Y;(rcases Y with rfl|rfl|rfl|rfl|rfl);all_goals rfl)|skip
 all_goals(intro d Y;simp only[enc,List.mem_cons,List.not_mem_nil,or_false] at Y)
 all_goals first|(subst Y;rfl)|(rcases Y with rfl|rfl<;>rfl)|(rcases Y with rfl|rfl|rfl<;>rfl)|(rcases Y with rfl|rfl|rfl|rfl<;>rfl)
theorem Y3{t:aF}{xs:List (den t)}{cs:List Value}(h:t.gU=false)(r:ch w av (flat t xs) cs):ch w bS (flat t xs) cs:=by
 refine⟨r.1,fun j g1 g2=>tH ?_ (r.2 j g1 g2)⟩
 have hm:(flat t xs)[j]∈flat t xs:=List.getElem_mem g1;simp only[flat,List.mem_flatMap] at hm;obtain⟨x,_,hx⟩:=hm;exact ZI h x _ hx
theorem X9{ds:List aL}{cs az:List Value}(k:Deep w av ds cs az):Deep w bS ds cs az:=by
 have pl:∀{d:aL} {v:Value},d.plain=true->bi w av d v->bi w bS d v:=fun {d v} aj r=>tH (by cases d<;>first|rfl|cases aj) r
 induction k with
 |nil=>exact .nil
 |row u ys e U aj h hr _ ih=>exact .row u ys e U aj h ⟨hr.1,fun j g1 g2=>pl (aj _ (List.getElem_mem g1)) (hr.2 j g1 g2)⟩ ih
 |leaf aj h _ ih=>exact .leaf aj (pl aj h) ih
theorem JR{l:aw}{v:Value}{bs:List Nat}(h:l.gU=false)(k:lB w av l v bs):lB w bS l v bs:=by
 cases l with
 |d x=>exact⟨k.1,tH h k.2⟩
 |fresh t xs=>
  obtain⟨h1,e,cs,h2,aa⟩:=k;exact⟨h1,e,cs,h2,Y3 h aa⟩
 |eK t xs=>
  obtain⟨e,cs,az,h1,h2,aa⟩:=k;exact⟨e,cs,az,h1,h2,X9 aa⟩
 |cB v=>exact k
 |ev=>exact k
 |_=>cases h
theorem BG:∀{U:List aw} {vs:List Value} {bs:List Nat},nj U=false->fU w av U vs bs->fU w bS U vs bs:=by
 intro U;induction U with
 |nil=>
  intro vs bs _ k;match vs,k with
  |[],k=>exact k
 |cons l U ih=>
  intro vs bs h k;simp only[nj,Bool.or_eq_false_iff] at h;match vs,k with
  |v::vs,⟨aU,aJ,aB,ao,bu⟩=>exact⟨aU,aJ,aB,JR h.1 ao,ih h.2 bu⟩
theorem Wn:∀{as:List bz} {vs:List Value} {bs:List Nat},qS as=false->j1 w av as vs bs->j1 w bS as vs bs:=by
 intro as;induction as with
 |nil=>
  intro vs bs _ k;match vs,k with
  |[],k=>exact k
 |cons a as ih=>
  intro vs bs h k;simp only[qS,Bool.or_eq_false_iff] at h;match vs,k with
  |v::vs,⟨aU,aJ,aB,ao,bu⟩=>
   refine⟨aU,aJ,aB,?_,ih h.2 bu⟩;cases a with
   |ai l=>
    have h1:=h.1;simp only[bz.cells,nj,Bool.or_false] at h1;exact JR h1 ao
   |agg U=>
    obtain⟨us,e,ao⟩:=ao;exact⟨us,e,BG h.1 ao⟩
theorem Wm:∀{ct:List (List aw)} {c8 bs:List Nat},qR ct=false->lv w av c8 ct bs->lv w bS c8 ct bs:=by
 intro ct;induction ct with
 |nil=>
  intro c8 bs _ k;match c8,k with
  |[],k=>exact k
 |cons a as ih=>
  intro c8 bs h k;simp only[qR,Bool.or_eq_false_iff] at h;match c8,k with
  |b::c8,⟨aU,aJ,aB,⟨T,cur,n4,e1,e2,bK,c_,fy⟩,bu⟩=>
   exact⟨aU,aJ,aB,⟨T,cur,n4,e1,e2,bK,c_,BG h.1 fy⟩,ih h.2 bu⟩
theorem L4{l:aw}{v:Value}{bs:List Nat}(k:lB w av l v bs):∀b,b∈bs->b<w.heap.size:=by
 cases l with
 |fresh t xs=>
  obtain⟨h1,e,cs,h2,aa⟩:=k;intro b hb;rw[h1] at hb;exact tG h2 (Option.mem_toList.1 hb)
 |eK t xs=>
  obtain⟨e,cs,az,h1,h2,aa⟩:=k;intro b hb;rw[h1] at hb;rcases im.1 hb with hb|⟨n,hn,hb⟩
  ·exact tG h2 hb
  ·exact aa.lt n hn b hb
 |_=>intro b hb;rw[k.1] at hb;simp at hb
theorem CT:∀{U:List aw} {vs:List Value} {bs:List Nat},fU w av U vs bs->∀b,b∈bs->b<w.heap.size:=by
 intro U;induction U with
 |nil=>
  intro vs bs k;match vs,k with
  |[],k=>have k:bs=[]:=k;intro b hb;rw[k] at hb;simp at hb
 |cons l U ih=>
  intro vs bs k;match vs,k with
  |v::vs,⟨aU,aJ,aB,ao,bu⟩=>
   intro b hb;rw[aB] at hb;rcases List.mem_append.1 hb with hb|hb
   ·exact L4 ao b hb
   ·exact ih bu b hb
theorem K8:∀{as:List bz} {vs:List Value} {bs:List Nat},j1 w av as vs bs->∀b,b∈bs->b<w.heap.size:=by
 intro as;induction as with
 |nil=>
  intro vs bs k;match vs,k with
  |[],k=>have k:bs=[]:=k;intro b hb;rw[k] at hb;simp at hb
 |cons a as ih=>
  intro vs bs k;match vs,k with
  |v::vs,⟨aU,aJ,aB,ao,bu⟩=>
   intro b hb;rw[aB] at hb;rcases List.mem_append.1 hb with hb|hb
   ·cases a with
    |ai l=>exact L4 (show lB w av l v aU from ao) b hb
    |agg U=>obtain⟨us,e,ao⟩:=ao;exact CT ao b hb
   ·exact ih bu b hb
theorem K7:∀{ct:List (List aw)} {c8 bs:List Nat},lv w av c8 ct bs->∀b,b∈bs->b<w.heap.size:=by
 intro ct;induction ct with
 |nil=>
  intro c8 bs k;match c8,k with
  |[],k=>have k:bs=[]:=k;intro b hb;rw[k] at hb;simp at hb
 |cons a as ih=>
  intro c8 bs k;match c8,k with
  |c::c8,⟨aU,aJ,aB,⟨T,cur,n4,e1,e2,bK,_,c_⟩,bu⟩=>
   intro b hb;rw[aB] at hb;rcases List.mem_append.1 hb with hb|hb
   ·rw[e1] at hb;rcases List.mem_cons.1 hb with rfl|hb
    ·exact(Array.getElem?_eq_some_iff.1 e2).1
    ·exact CT c_ b hb
   ·exact ih bu b hb
end plain
section
variable {P:Program}{L:World}{J:List Nat}{X:Nat->Prop}{B:Nat->Value}{st:ad}{tm:Array Value}{w:World}{D:Oper}
theorem nb{ks:List Nat}{b:Nat}:b∈cp B ks <-> ∃o,o∈ks/\b∈bJ (B o):=by simp[cp]
theorem JC(S:ah L J X B st tm w):∀{ks:List Nat},ks.Nodup->(∀o,o∈ks->bX st.sites o)->(cp B ks).Nodup:=by
 intro ks;induction ks with
 |nil=>intro _ _;exact List.nodup_nil
 |cons o ks ih=>
  intro hn hl;rw[List.nodup_cons] at hn;have:=ih hn.2 fun F bB=>hl F (List.mem_cons_of_mem _ bB)
  simp only[cp,List.flatMap_cons] at this ⊢;refine List.nodup_append.2 ⟨S.Nw (hl o List.mem_cons_self),this,fun b hb c hc e=>?_⟩
  subst e;obtain⟨F,h1,h2⟩:=nb.1 hc;have:=S.de o F b (hl o List.mem_cons_self) (hl F (List.mem_cons_of_mem _ h1)) hb h2;subst this;exact hn.1 h1
structure agG(L:World)(J:List Nat)(X:Nat->Prop)(B:Nat->Value)(st:ad)(tm:Array Value)(w:World)(a:jH)(vs:List Value):Prop where
 bG:dp st.sites a.er
 lb:∀o,o∈a.fr->bX st.sites o
 m_:eP st.sites a.gone
 arg:∀av,eR L J X B st tm w a.er a.fr av->h3 w av a.as vs (cp B (keys a.gone))
 c8:di a.as vs=cp B (keys a.boxes)
 dH:∀o s,(o,s)∈a.boxes->(o,.dead s)∈a.gone/\∃b,B o=.pointer (some ⟨b,0,none⟩)
 jP:hF B a.rows (eZ a.as vs)
 rg:∀o s,some (o,s)∈a.rows->(o,.dead s)∈a.gone
theorem JT{us:List (Nat×Site)}{sites:List (Nat×Site)}(aR:dp sites us){o:Nat}(h:bX (aW sites us) o):bX sites o:=by
 obtain⟨O,h1,h2⟩:=h;rcases ll aR o with h|⟨s,t,xs,aI,bD⟩
 ·exact⟨O,h▸h1,h2⟩
 ·rw[bD] at h1;cases h1;cases h2
theorem aam(S:ah L J X B st tm w){g:FuncId}{aE:aT}(gP:a0 P g aE){a:jH}{vs:List Value}(A:agG L J X B st tm w a vs){d:Nat}(Y:b6 st D.dst=true)
  (cI:(execOp (Act.eval ⟨tm,[]⟩) D).run P w=(callFunc g vs.toArray).run P w):Holds (oH d st aE a) (cz P L J X st tm w D):=by
 intro y ak hc;simp only[oH] at y ak hc ⊢;simp only[Bool.and_eq_true] at hc;obtain⟨⟨⟨⟨⟨c1,c2⟩,c3⟩,dU⟩,jp⟩,c6,U2⟩:=hc;rw[oh] at c1 c3 c6;rw[Le] at c2 dU U2;have qU:∀o,o∈keys a.gone->bX st.sites o:=fun o bg=>by
  obtain⟨s,M⟩:=ol bg;obtain⟨O,h1,h2,_⟩:=A.m_ o s M;exact⟨O,h1,h2⟩
 have K4:∀o,o∈keys a.gone->o∉keys a.er:=fun o h1 h2=>c2 o (List.mem_append.2 (.inl h2)) h1
 have amU:∃X':Nat->Prop,∀b,X' b <-> (an X B (aW st.sites a.er) b/\b∉cp B (keys a.gone)/\∀o,o∈a.fr->b∉bJ (B o)):=⟨_,fun b=>Iff.rfl⟩
 obtain⟨X',mT⟩:=amU;have eb:eR L J X B st tm w a.er a.fr (fun b=>X' b\/b∈cp B (keys a.gone)):=by
  refine⟨⟨S,A.bG⟩,fun b hb=>?_,fun o bg b hb hx=>?_⟩
  ·rcases hb with hb|hb
   ·exact((mT b).1 hb).1
   ·obtain⟨o,h1,h2⟩:=nb.1 hb;obtain⟨O,aa,aI⟩:=qU o h1;exact .inr ⟨o,⟨O,by rw[kH (K4 o h1)];exact aa,aI⟩,h2⟩
  ·rcases hx with hx|hx
   ·exact((mT b).1 hx).2.2 o bg (fS hb)
   ·obtain⟨F,h1,h2⟩:=nb.1 hx;have:=S.de o F b (A.lb o bg) (qU F h1) (fS hb) h2;subst this;exact c2 o (List.mem_append.2 (.inr bg)) h1
 have o_:(cp B (keys a.gone)).Nodup:=JC S c1 qU;have CU:∀b,b∈cp B (keys a.gone)->¬X b/\(b∈J\/L.heap.size<=b):=fun b hb=>by
  obtain⟨o,h1,h2⟩:=nb.1 hb;exact S.b7 o b (qU o h1) h2
 have TM:∀b,X b->X' b:=fun b hb=>(mT b).2 ⟨.inl hb,fun h=>(CU b h).1 hb,fun o bg h=>(S.b7 o b (A.lb o bg) h).1 hb⟩
 have hG:hO w (cp B (keys a.gone)) X':=by
  obtain⟨g1,g2⟩:=S.jR;refine⟨g1,fun b hb h=>?_,fun b hb h=>?_,fun b hb=>(g2 b hb).2⟩
  ·obtain⟨o,h1,h2⟩:=nb.1 h;exact(g2 b hb).1 (.inr ⟨o,qU o h1,h2⟩)
  ·rcases((mT b).1 h).1 with h|⟨o,h1,h2⟩
   ·exact(g2 b hb).1 (.inl h)
   ·exact(g2 b hb).1 (.inr ⟨o,JT A.bG h1,h2⟩)
 have E:=gP a.as y ak w X' vs (cp B (keys a.gone)) (A.arg _ eb) o_ (fun b hb hx=>((mT b).1 hx).2.1 hb) (fun b hb=>eb.lt (.inl hb)) hG
 intro K Q bC;have lK:∀v w',(∃dR dt rv,Fr (cp B (keys a.gone)) w w'/\oD w' (fun b=>X' b\/b∈dR++dt) (di a.as vs) ((aE a.as).dH y) (eZ a.as vs) ((aE a.as).ew y) dR/\j1 w' (fun b=>X' b\/b∈dR++dt) ((aE a.as).eQ y) rv dt/\
   v=nx rv/\(dR++dt).Nodup/\∀b,b∈dR++dt->¬X' b/\(b∈cp B (keys a.gone)\/w.heap.size<=b))->K ⟨cl tm D.dst v,[]⟩ w':=by
  rintro v w' ⟨dR,dt,rv,aR,gr,hA,rfl,dm,hm⟩;obtain⟨sl,fZ⟩:∃sl,(qS ((aE a.as).eQ y)||qR ((aE a.as).dH y)||nj ((aE a.as).ew y))=sl:=⟨_,rfl⟩;rw[fZ] at jp bC;obtain⟨cL,AY⟩:∃cL,(bif sl then a.er else [])=cL:=⟨_,rfl⟩
  rw[AY] at bC;have QQ:dp st.sites cL:=by rw[<-AY];cases sl;exact .nil;exact A.bG
  have adR:∀o,o∈keys cL->o∈keys a.er:=by rw[<-AY];cases sl;intro o h;simp[keys] at h;exact fun o h=>h
  have c4:ah L J X B {st with sites:=aW st.sites cL} tm w:=S.yA QQ
  have AZ:eP (aW st.sites cL) a.gone:=fun o s M=>by
   obtain⟨O,h1,h2,aa⟩:=A.m_ o s M;exact⟨O,by rw[kH (fun h=>K4 o (CJ M) (adR o h))];exact h1,h2,aa⟩
  have fP:=c4.adQ AZ c1;have ik:=fP.jump (w':=w') (fun b hb a3=>aR.block b a3 (fun h=>hb (.inr h))) aR.size
   ⟨aR.os.trans S.frame.os,aR.tape.trans S.frame.tape,aR.output.trans S.frame.output,Nat.le_trans S.frame.size aR.size,fun b a3 hb=>by
    rw[aR.block b (Nat.lt_of_lt_of_le a3 S.frame.size) (fun h=>by rcases(CU b h).2 with ab|ab;exact hb ab;omega)]
    exact S.frame.block b a3 hb⟩
  have ai8:∀b,b∈dR++dt->b<w'.heap.size:=fun b hb=>by
   rcases List.mem_append.1 hb with hb|hb
   ·obtain⟨d1,d2,e1,e2,bK⟩:=gr;rw[e1] at hb;rcases List.mem_append.1 hb with hb|hb
    ·exact K7 e2 b hb
    ·rcases bK with⟨_,bK⟩|bK
     ·rw[bK] at hb;simp at hb
     ·exact CT bK b hb
   ·exact K8 hA b hb
  have mc:ah L J (fun b=>X b\/b∈dR++(dt++[])) B {st with sites:=aW (aW st.sites cL) a.gone} tm w':=ik.shrink fun b hb=>by
   rcases hb with hb|hb
   ·exact .inl (.inl hb)
   ·rw[List.append_nil] at hb;rcases(hm b hb).2 with h|h
    ·exact .inl (.inr h)
    ·exact .inr ⟨h,ai8 b hb⟩
  obtain⟨av,QN,ago,agn⟩:∃av:Nat->Prop,oD w' av (di a.as vs) ((aE a.as).dH y) (eZ a.as vs) ((aE a.as).ew y) dR/\j1 w' av ((aE a.as).eQ y) rv dt/\
    ∀c,an (fun b=>X b\/b∈dR++(dt++[])) B (aW (aW st.sites cL) a.gone) c->av c:=by
   cases sl with
   |false=>
    rw[Bool.or_eq_false_iff,Bool.or_eq_false_iff] at fZ;obtain⟨d1,d2,e1,e2,bK⟩:=gr;exact⟨_,⟨d1,d2,e1,Wm fZ.1.2 e2,bK.imp id (BG fZ.2)⟩,Wn fZ.1.1 hA,fun c hc=>hc⟩
   |true=>
    refine⟨_,gr,hA,fun c hc=>?_⟩
    rcases hc with(hc|hc)|⟨o,⟨O,h1,h2⟩,aa⟩
    ·exact .inl (TM c hc)
    ·rw[List.append_nil] at hc;exact .inr hc
    ·refine .inl ((mT c).2 ?_);have bg:o∉keys a.gone:=fun h=>by
      obtain⟨s,M⟩:=ol h;rw[wE c1 M] at h1;obtain⟨_,_,_,e⟩:=A.m_ o s M;cases h1;rw[e] at h2;cases h2
     rw[kH bg] at h1;have agr:a.er=cL:=AY;rw[<-agr] at h1;have live:bX st.sites o:=JT A.bG ⟨O,h1,h2⟩;refine⟨.inr ⟨o,⟨O,h1,h2⟩,aa⟩,fun h=>?_,fun F bB h=>?_⟩
     ·obtain⟨F,aB,ao⟩:=nb.1 h;have:=S.de o F c live (qU F aB) aa ao;subst this;exact bg aB
     ·simp only[Bool.not_true,Bool.false_or,List.isEmpty_iff] at jp;rw[jp] at bB;simp at bB
  have ar:Left L J X B {st with sites:=aW (aW st.sites cL) a.gone} av (dR++(dt++[])):=by
   refine⟨by simpa using dm,fun b hb=>?_,agn⟩
   rw[List.append_nil] at hb;obtain⟨h1,h2⟩:=hm b hb;refine⟨fun hx=>h1 (TM b hx),?_⟩
   rcases h2 with h2|h2
   ·exact(CU b h2).2
   ·exact .inr (Nat.le_trans S.frame.size h2)
  have uy:∀ks,iY st (aW (aW st.sites cL) a.gone) ks:=fun ks m _ O M=>by
   have h1:∀O,look (aW st.sites cL) m=some O->O.b1<aY st m:=fun O M=>by
    rcases ll QQ m with h|⟨s,t,xs,aI,bD⟩
    ·rw[h] at M;exact js M
    ·rw[bD] at M;cases M;rcases aI with aI|aI|aI<;>(have q:=js aI;exact q)
   by_cases ag:m∈keys a.gone
   ·obtain⟨s,eT⟩:=ol ag;rw[wE c1 eT] at M;obtain⟨bI,e1,_,bK⟩:=AZ m s eT;rw[bK] at M;cases M;exact h1 bI e1
   ·rw[kH ag] at M;exact h1 O M
  rw[gd,gd] at c3;obtain⟨d12,d2,d3⟩:=List.nodup_append.1 c3;obtain⟨d1,amZ,d4⟩:=List.nodup_append.1 d12;rw[A.c8] at QN;obtain⟨e1,e2,rfl,agm,Gk⟩:=QN;simp only[List.append_assoc] at mc ar;obtain⟨h9,mb,wz⟩:=LA st a.boxes (st:={st with sites:=aW (aW st.sites cL) a.gone}) mc (mV.of fun o s M=>(A.dH o s M).2) agm
   (fun o s M=>wE c1 (A.dH o s M).1) ar (uy _) d1
  obtain⟨fJ,akU,kE⟩:∃fJ,fu L J (fun b=>X b\/b∈e2++(dt++[])) (fun b=>X b\/b∈dt++[]) h9 fJ {st with sites:=aW (aW (aW st.sites cL) a.gone) (eY st a.boxes ((aE a.as).dH y))} tm w' (eL a.rows ((aE a.as).ew y))/\
    Left L J X fJ {st with sites:=aW (aW (aW (aW st.sites cL) a.gone) (eY st a.boxes ((aE a.as).dH y))) (eL a.rows ((aE a.as).ew y))} av (dt++[]):=by
   rcases Gk with⟨q1,q2⟩|Gk
   ·have e:eL a.rows ((aE a.as).ew y)=[]:=by rw[q1];exact J_
    subst q2;rw[e];exact⟨h9,.nil mb.fY fun b hb=>hb,wz⟩
   ·by_cases hne:eL a.rows ((aE a.as).ew y)=[]
    ·rw[hne];have T:fu L J (fun b=>X b\/b∈e2++(dt++[])) (fun b=>X b\/b∈dt++[]) h9 h9 {st with sites:=aW (aW (aW st.sites cL) a.gone) (eY st a.boxes ((aE a.as).dH y))} tm w' []:=.nil mb.fY fun b hb=>hb.imp id fun h=>List.mem_append.2 (.inr h)
     exact⟨h9,T,wz.rest fun c hc=>T.le c hc⟩
    have UN:∀o s,some (o,s)∈a.rows->o∉keys (eY st a.boxes ((aE a.as).dH y)):=fun o s hm ag=>U2 o (wH hm) ag
    exact _f a.rows mb.fY Gk (A.jP.congr fun o s hm=>by rw[mb.same o (UN o s hm)]) (fun o s hm=>by
     rw[kH (UN o s hm)];exact wE c1 (A.rg o s hm)) c6 wz amZ
  have cH:=mb.trans akU;obtain⟨fI,dz,h8,_⟩:=LB st ((aE a.as).eQ y) (2000000+d*10000) (st:={st with sites:=aW (aW (aW st.sites cL) a.gone) (eY st a.boxes ((aE a.as).dH y)++eL a.rows ((aE a.as).ew y))}) cH.fY ago (by rw[hZ];exact kE)
   (iY.step (uy _) (fun n h1 h2=>d3 n (by rw[gd] at h1;exact h1) n h2 rfl)) d2
  have Bs:ah L J X fI {st with sites:=aW st.sites (cL++a.gone++(eY st a.boxes ((aE a.as).dH y)++eL a.rows ((aE a.as).ew y))++(dE st (2000000+d*10000) ((aE a.as).eQ y)).2)} tm w':=by
   have:=dz.fY.shrink (X':=X) fun b hb=>.inl hb
   simpa only[hZ] using this
  refine bC fI _ w' (ah.cu Bs Y (v:=Om (dE st (2000000+d*10000) ((aE a.as).eQ y)).1) ?_);have OP:nC fI (aW st.sites (cL++a.gone++(eY st a.boxes ((aE a.as).dH y)++eL a.rows ((aE a.as).ew y))++(dE st (2000000+d*10000) ((aE a.as).eQ y)).2)) w'
    (an X fI (aW st.sites (cL++a.gone++(eY st a.boxes ((aE a.as).dH y)++eL a.rows ((aE a.as).ew y))++(dE st (2000000+d*10000) ((aE a.as).eQ y)).2))) (dE st (2000000+d*10000) ((aE a.as).eQ y)).1 rv:=by
   have e:(fun b=>X b\/b∈([]:List Nat))=X:=by funext b;simp
   rw[e] at h8;simpa only[hZ] using h8
  generalize(dE st (2000000+d*10000) ((aE a.as).eQ y)).1=aja at OP;match aja,rv,OP with
  |[],[],h=>exact⟨[],rfl,rfl,fun j h=>by simp at h⟩
  |[l],[v],h=>exact h.2 0 (by simp) (by simp)
  |l::ga::U,v::v2::cq,h=>exact⟨v::v2::cq,rfl,h.1,h.2⟩
 rcases E with⟨h1,h2⟩|⟨v,w',h1,h2⟩
 ·unfold Oper.wp;rw[cI,h1,Oper.upon_enter];refine h2.mono fun e w' he=>?_
  cases e with
  |returned v=>
   have:=lK v w' he;cases da:D.dst with
   |none=>rw[da] at this;simpa[Act.put,cl] using this
   |some t=>rw[da] at this;simpa[Act.put,cl] using this
  |panicked c=>exact he.elim
  |outgrown=>exact he.elim
 ·exact mm (cI.trans h1) (lK v w' h2)
end
def E9(P:Program)(g:FuncId):Prop:=
 ∀(b:Nat) (p v:Value) (w:World),w.heap[b]? =some (.cells #[p,v] qp (0,0))->(p=.pointer none\/p=.pointer (some ⟨b,0,none⟩))->
  Enters P g #[.pointer (some ⟨b,0,none⟩)] w fun r w'=>r=.tuple #[]/\w'=w.setRow b #[.pointer (some ⟨b,0,none⟩),v]
def Fy(P:Program)(g:FuncId):Prop:=
 ∀(b:Nat) (p v:Value) (T:TypeId) (xs:List Int) (w:World),w.heap[b]? =some (.cells #[p,v] T (0,0))->rowAt w true lc 1 v xs.length (xs.map (Value.int .u8))->
  Enters P g #[.pointer (some ⟨b,0,none⟩)] w fun r w'=>r=.string ⟨(strOf xs).toArray⟩/\w'.os=w.os/\w'.tape=w.tape/\w'.output=w.output/\w.heap.size<=w'.heap.size/\
   (∀c,c<w.heap.size->a6 v≠some c->w'.heap[c]? =w.heap[c]?)/\∀c cur e bG,a6 v=some c->w.heap[c]? =some (.cells cur e bG)->∃sV,w'.heap[c]? =some (.cells cur e sV)
section
variable {P:Program}{L:World}{J:List Nat}{X:Nat->Prop}{B:Nat->Value}{st:ad}{tm:Array Value}{w:World}{D:Oper}
theorem ah._7(S:ah L J X B st tm w){o s:Nat}{t:aF}{xs:List (den t)}(hl:look st.sites o=some (.row s t xs)){w':World}(h1:w'.os=w.os)(h2:w'.tape=w.tape)(aa:w'.output=w.output)(aI:w.heap.size<=w'.heap.size)
  (bD:∀c,c<w.heap.size->a6 (B o)≠some c->w'.heap[c]? =w.heap[c]?) (dh:∀c cur e bG,a6 (B o)=some c->w.heap[c]? =some (.cells cur e bG)->∃sV,w'.heap[c]? =some (.cells cur e sV)):
  ah L J X B {st with sites:=b8 st.sites o (.cR s t xs)} tm w':=by
 have cr:bX st.sites o:=⟨_,hl,rfl⟩;have dA:∀F,bX (b8 st.sites o (.cR s t xs)) F->bX st.sites F/\F≠o:=by
  rintro F ⟨O,h1,h2⟩;rw[cn] at h1;by_cases e:o=F
  ·subst e;simp at h1;subst h1;cases h2
  ·simp only[e,if_false] at h1;exact⟨⟨O,h1,h2⟩,fun h=>e h.symm⟩
 have b0:∀a_,an X B (b8 st.sites o (.cR s t xs)) a_->an X B st.sites a_:=by
  rintro a_ (h|⟨F,h1,h2⟩)
  ·exact .inl h
  ·exact .inr ⟨F,(dA F h1).1,h2⟩
 have aR:=S.frame;refine S.oJ (fun F O bB=>?_) (fun a_ h hb=>bD a_ hb (fun ab=>h (.inr ⟨o,cr,fS ab⟩))) (fun a_ h _ ab=>h (b0 a_ ab)) (fun go F O bB=>?_) (fun F aO a_ h1 h2=>S.de F aO a_ (dA F h1).1 (dA aO h2).1)
  (fun F a_ h=>S.b7 F a_ (dA F h).1) (fun F a_ h hb=>Nat.lt_of_lt_of_le (S.dX (dA F h).1 hb) aI)
  ⟨h1.trans aR.os,h2.trans aR.tape,aa.trans aR.output,Nat.le_trans aR.size aI,fun b hb hn=>by
   have M:=aR.size;rw[bD b (by omega) (fun ab=>by
    rcases(S.b7 o b cr (fS ab)).2 with ab|ab
    ·exact hn ab
    ·omega)]
   exact aR.block b hb hn⟩ aI
 ·rw[cn];by_cases e:o=F
  ·subst e;rw[hl] at bB;cases bB;exact⟨.cR s t xs,by simp,Nat.le_refl _,fun _=>rfl⟩
  ·exact⟨O,by simp[e,bB],Nat.le_refl _,fun _=>rfl⟩
 ·rw[cn] at bB;by_cases e:o=F
  ·subst e;simp only[if_true,Option.some.injEq] at bB;subst bB;refine .inr ?_
   show bi _ _ (.sl t xs) (bY (B o))/\u_ (bY (B o));obtain⟨b3,cs,aB,ao⟩:=S.sites o _ hl;rw[(is aB).1];rcases aB.2 with⟨hn,h0⟩|⟨g,cap,cur,bG,hv,_,hg,hnc,_,_,jK⟩
   ·have:xs=[]:=List.eq_nil_of_length_eq_zero h0;subst this;rw[hn];exact⟨.nil t,.inl rfl⟩
   ·obtain⟨sV,kk⟩:=dh g cur b3 bG (by rw[hv];rfl) hg
    rw[hv];refine⟨?_,.inr ⟨_,_,_,rfl⟩⟩;have hlen:cs.length=(flat t xs).length:=by rw[dQ];exact aB.1
    refine .sl t xs _ cap cs xs.length rfl hnc (fun _=>?_) hlen (fun j u hu=>?_) (fun j g1 g2=>jy go (ao j g1 g2))
    ·rintro(hx|⟨F,g1,g2⟩)
     ·exact(S.b7 o g cr (fS (by rw[hv];rfl))).1 hx
     ·obtain⟨g3,eH⟩:=dA F g1;exact eH (S.de F o g g3 cr g2 (fS (by rw[hv];rfl)))
    ·rw[gh,Nat.zero_add,cell_of_row w' g j cur b3 sV kk];rw[<-jK,List.getElem?_take] at hu;split at hu
     ·simpa using hu
     ·cases hu
  ·simp only[e,if_false] at bB;refine .inl ⟨bB,rfl,fun sr b hb=>bD b (S.dX ⟨_,bB,sr⟩ hb) fun h=>e (S.de o F b cr ⟨_,bB,sr⟩ (fS h) hb)⟩
theorem xd{g:FuncId}{vs:List Value}{post:Value->World->Prop}(cI:(execOp (Act.eval ⟨tm,[]⟩) D).run P w=(callFunc g vs.toArray).run P w)(gP:Enters P g vs.toArray w post){K:Act->World->Prop}{Q:Exit->Act->World->Prop}
  (lK:∀v w',post v w'->K ⟨cl tm D.dst v,[]⟩ w'):D.wp P ⟨tm,[]⟩ w K Q:=by
 rcases gP with⟨h1,h2⟩|⟨v,w',h1,h2⟩
 ·unfold Oper.wp;rw[cI,h1,Oper.upon_enter];refine h2.mono fun e w' he=>?_
  cases e with
  |returned v=>
   have:=lK v w' he;cases da:D.dst with
   |none=>rw[da] at this;simpa[Act.put,cl] using this
   |some t=>rw[da] at this;simpa[Act.put,cl] using this
  |panicked c=>exact he.elim
  |outgrown=>exact he.elim
 ·exact mm (cI.trans h1) (lK v w' h2)
theorem aaj(S:ah L J X B st tm w){g:FuncId}(gP:E9 P g){cA:List aK}{vs:List Value}(hl:cA.length=vs.length)
  (hv:∀i (h:i<cA.length) (ab:i<vs.length),b_ B st.sites w (an X B st.sites) (cA[i]) (vs[i])) (Y:b6 st D.dst=true) (cI:(execOp (Act.eval ⟨tm,[]⟩) D).run P w=(callFunc g vs.toArray).run P w):
  Holds (copyV st cA) (cz P L J X st tm w D):=by
 unfold copyV;split
 ·rename_i o s;split
  ·rename_i am l fi;have fi:look st.sites o=some (.box am [.ev,l]):=fi;cases jL:am.beq s with
   |false=>exact .fail
   |true=>
    have:=Nat.eq_of_beq_eq_true jL;subst this;refine Holds.e8 ?_
    intro K Q bC;match vs,hl,hv,cI with
    |[qz],_,hv,cI=>
    obtain⟨qG,aka,iH⟩:dj B st.sites w (an X B st.sites) (.ptr o am 0) qz:=hv 0 (by simp) (by simp)
    have iH:=Ref.at iH fi rfl;obtain⟨b,T,cur,e1,e2,bK,c_,fy,s'⟩:=S.sites o _ fi;rw[e1] at iH;have iH:b=qG:=by cases iH;rfl
    subst iH;subst aka;match cur,e2,bK,c_,fy,s' with
    |[p,v],e2,_,c_,fy,s'=>
     obtain⟨rfl,aj⟩:=fy rfl;have aj:p=.pointer none\/p=.pointer (some ⟨b,0,none⟩):=by simpa using aj
     refine xd cI (gP b p v w e2 aj) ?_
     rintro r w' ⟨rfl,rfl⟩;have bZ:ah L J X B {st with sites:=b8 st.sites o (.box am [.ev,l])} tm (w.setRow b #[.pointer (some ⟨b,0,none⟩),v]):=by
      refine S.write fi rfl rfl rfl (fS (by rw[e1];rfl)) e2 (fun M hw kk go=>⟨b,qp,[.pointer (some ⟨b,0,none⟩),v],e1,kk,rfl,fun u hu=>?_,fun _=>⟨rfl,.inr rfl⟩,fun j h ab=>?_⟩)
      ·rcases List.mem_cons.1 hu with rfl|hu
       ·rfl
       ·exact c_ u (List.mem_cons_of_mem _ hu)
      ·match j,h,ab with
       |0,_,_=>trivial
       |1,_,_=>exact go (a:=bP l) (s' 1 (by simp) (by simp))
     exact bC _ _ _ (ah.cu (us:=[(o,.box am [.ev,l])]) bZ Y (v:=.jd []) ⟨[],rfl,rfl,fun j h=>by simp at h⟩)
  ·exact .fail
 ·exact .fail
theorem _e{av:Nat->Prop}{xs:List Int}{cs:List Value}(h0:cs.length=xs.length)(h:∀j (h:j<(flat .u8 (xs:List (den .u8))).length) (ab:j<cs.length),bi w av ((flat .u8 (xs:List (den .u8)))[j]) (cs[j])):cs=xs.map (Value.int .u8):=by
 refine List.ext_getElem (by rw[List.length_map];exact h0) fun j g1 g2=>?_
 have TG:j<xs.length:=by simpa using g2
 have:=h j (by rw[dQ];simpa[ax] using TG) g1
 rw[List.getElem_map];generalize Y:(flat .u8 (xs:List (den .u8)))[j]'(by rw[dQ];simpa[ax] using TG)=d at this
 have ql:d=.int .u8 xs[j]:=by
  rw[<-Y];simp only[re,List.getElem_map]
 subst ql;generalize cs[j]=v at this;cases this;rfl
theorem Xn(S:ah L J X B st tm w){g:FuncId}(gP:Fy P g){cA:List aK}{vs:List Value}(hl:cA.length=vs.length)
  (hv:∀i (h:i<cA.length) (ab:i<vs.length),b_ B st.sites w (an X B st.sites) (cA[i]) (vs[i])) (Y:b6 st D.dst=true) (cI:(execOp (Act.eval ⟨tm,[]⟩) D).run P w=(callFunc g vs.toArray).run P w):
  Holds (q6 st cA) (cz P L J X st tm w D):=by
 unfold q6;split
 ·rename_i o s;match vs,hl,hv,cI with
  |[qz],_,hv,cI=>
  have k8:dj B st.sites w (an X B st.sites) (.ptr o s 0) qz:=hv 0 (by simp) (by simp)
  split
  ·rename_i UQ lH;have fi:=gw lH;obtain⟨b,T,cur,bW,rfl,hg,_,hc⟩:=S.box fi k8;refine Holds.ok ?_
   intro K Q bC;obtain⟨p,r1,rfl,_,hc⟩:=hc.inv;obtain⟨v,r2,rfl,vz,hc⟩:=hc.inv;have:r2=[]:=List.eq_nil_of_length_eq_zero hc.1;subst this;have vz:v=.slice none 0 0:=vz;subst vz;refine xd cI (gP b p _ T [] w hg (tw w true lc 1)) ?_
   rintro r w' ⟨rfl,aB,ao,bu,b',dS,gM⟩;have c4:=S.jump (w':=w') (fun c _ hc=>dS c hc (by simp[a6])) b' ⟨aB.trans S.frame.os,ao.trans S.frame.tape,bu.trans S.frame.output,Nat.le_trans S.frame.size b',fun c hc hn=>by
    rw[dS c (Nat.lt_of_lt_of_le hc S.frame.size) (by simp[a6])]
    exact S.frame.block c hc hn⟩
   have fP:ah L J X B {st with sites:=aW st.sites []} tm w':=c4.shrink fun b hb=>.inl hb
   exact bC _ _ _ (ah.cu (us:=[]) fP Y (v:=one (.str [])) (bi.str _ _ rfl))
  ·rename_i UQ F u lH;have fi:=gw lH;obtain⟨b,T,cur,bW,rfl,hg,_,hc⟩:=S.box fi k8;split
   ·rename_i bF xs cJ;have cJ:look st.sites F=some (.row bF .u8 xs):=cJ;cases ajx:bF.beq u with
    |false=>exact .fail
    |true=>
     have:=Nat.eq_of_beq_eq_true ajx;subst this;refine Holds.e8 ?_
     intro K Q bC;obtain⟨p,r1,rfl,_,hc⟩:=hc.inv;obtain⟨v,r2,rfl,vz,hc⟩:=hc.inv;have:r2=[]:=List.eq_nil_of_length_eq_zero hc.1;subst this;obtain⟨e,cs,h1,h2⟩:=S.sites F _ cJ;have QA:v=B F:=(Ref.at vz.2 cJ rfl:v=bY (B F)).trans (is h1).1;have hlen:cs.length=xs.length:=by have:=h1.1;simpa[ax] using this
     have hcs:cs=List.map (Value.int .u8) xs:=_e hlen h2;have iy:rowAt w true lc 1 v xs.length (List.map (Value.int .u8) xs):=by
      rw[<-hcs,QA];refine⟨h1.1,?_⟩;rcases h1.2 with h|⟨cv,cap,sx,bG,q1,q2,dB⟩
      ·exact .inl h
      ·have:=q2.1 rfl;subst this;exact .inr ⟨cv,cap,sx,bG,q1,q2,dB⟩
     refine xd cI (gP b p v T xs w hg iy) ?_
     rintro r w' ⟨rfl,aB,ao,bu,b',dS,gM⟩;rw[QA] at dS gM;have fP:=S._7 cJ aB ao bu b' dS gM;exact bC _ _ _ (ah.cu (us:=[(F,.cR bF .u8 xs)]) fP Y (v:=one (.str (strOf xs))) (bi.str _ _ (by simp)))
   ·exact .fail
  ·exact .fail
 ·exact .fail
end
def yF(P:Program)(g cv:FuncId):Prop:=
 ∀(a b:ByteArray) (w:World),Enters P g #[.string a,.string b] w fun v w'=>∃cH dz,v=.func (.func cv) #[] #[.pointer (some ⟨w.heap.size+1,0,none⟩),.pointer (some ⟨w.heap.size,0,none⟩),.pointer (some ⟨w.heap.size+2,0,none⟩)]/\
  w'=((w.alloc (.cells #[.string a] cH)).alloc (.cells #[.string b] cH)).alloc (.cells #[.int .i64 0] dz)
def zv(P:Program)(g:FuncId):Prop:=
 ∀(xs:List Int) (v:Value) (w:World) (av:Nat->Prop),bi w av (.sl .u8 xs) v->Enters P g #[v] w fun v' w'=>∃u T,bi w av (.sl .u8 (xs.take 2000)) u/\v'=.pointer (some ⟨w.heap.size,0,none⟩)/\w'=w.alloc (.cells #[u,.int .i64 0] T)
structure a7(P:Program)(C:Ctx):Prop extends CtxOk P C where
 bN:∀g S,C.bN g=some S->a0 P g S
 Bl:P.follows .mixedOrders=true
 kt:∀g cv,C.kt g=some cv->yF P g cv
 op:∀g,C.op g=true->zv P g
 ha:∀g,C.ha g=true->E9 P g
 bs:∀g,C.bs g=true->Fy P g
section
variable {P:Program}{L:World}{J:List Nat}{X:Nat->Prop}{B:Nat->Value}{st:ad}{tm:Array Value}{w:World}{D:Oper}
theorem Li:∀{bE:List (Nat×Nat)} {cs:List (List aL)} {us:List (Nat×Site)} {bs:List Nat},kS st bE=some (cs,us,bs)->dp st.sites us/\∀o,o∈bs->bX st.sites o:=by
 intro bE;induction bE with
 |nil=>intro cs us bs h;simp only[kS] at h;cases h;exact⟨.nil,fun o h=>by simp at h⟩
 |cons c bE ih=>
  obtain⟨o,s⟩:=c;intro cs us bs h;simp only[kS] at h;split at h
  ·rename_i cells lH;split at h
   ·rename_i ds u1 rest u2 aJ ef mA;cases h;obtain⟨aB,ao⟩:=ih mA;refine⟨(Eh ef).append aB,fun F bB=>?_⟩
    rcases List.mem_cons.1 bB with rfl|bB
    ·exact⟨_,gw lH,rfl⟩
    ·exact ao F bB
   ·cases h
  ·cases h
theorem DJ{l fm:aw}{us:List (Nat×Site)}{bs:List Nat}(h:mF st l=some (fm,us,bs)):dp st.sites us/\∀o,o∈bs->bX st.sites o:=by
 unfold mF at h;split at h
 ·cases h;exact⟨.nil,fun o h=>by simp at h⟩
 ·split at h
  ·rename_i hc;cases h;exact Li hc
  ·cases h
 ·split at h
  ·rename_i Y;cases h;exact⟨NU Y,fun o h=>by simp at h⟩
  ·cases h
theorem _0:∀{U dl:List aw} {us:List (Nat×Site)} {bs:List Nat},lw st U=some (dl,us,bs)->dp st.sites us/\∀o,o∈bs->bX st.sites o:=by
 intro U;induction U with
 |nil=>intro dl us bs h;simp only[lw] at h;cases h;exact⟨.nil,fun o h=>by simp at h⟩
 |cons l U ih=>
  intro dl us bs h;simp only[lw] at h;split at h
  ·rename_i a u1 aU as u2 aJ h1 h2;cases h;obtain⟨aB,ao⟩:=DJ h1;obtain⟨bu,b'⟩:=ih h2;refine⟨aB.append bu,fun o bg=>?_⟩
   rcases List.mem_append.1 bg with h|h
   ·exact ao o h
   ·exact b' o h
  ·cases h
theorem Zo:∀{cA:List aK} {a:jH},ir st cA=some a->dp st.sites a.er/\∀o,o∈a.fr->bX st.sites o:=by
 intro cA;induction cA with
 |nil=>intro a h;simp only[ir] at h;cases h;exact⟨.nil,fun o h=>by simp at h⟩
 |cons qA cA ih=>
  intro a h;unfold ir at h;split at h
  ·cases ‹qA::cA=[]›
  ·rename_i bU;cases bU;split at h
   ·rename_i hr;split at h
    ·cases h;have q:=ih hr;exact q
    ·cases h
   ·cases h
  ·rename_i bU;cases bU;split at h
   ·rename_i h1 hr;cases h;obtain⟨aB,ao⟩:=DJ h1;obtain⟨bu,b'⟩:=ih hr;refine⟨aB.append bu,fun o bg=>?_⟩
    rcases List.mem_append.1 bg with h|h
    ·exact ao o h
    ·exact b' o h
   ·cases h
  ·rename_i bU;cases bU;split at h
   ·rename_i h1 hr;cases h;obtain⟨aB,ao⟩:=_0 h1;obtain⟨bu,b'⟩:=ih hr;refine⟨aB.append bu,fun o bg=>?_⟩
    rcases List.mem_append.1 bg with h|h
    ·exact ao o h
    ·exact b' o h
   ·cases h
  ·cases h
theorem K'{l fm:aw}{gs us:List (Nat×Site)}{bs:List Nat}(h:lr st l=some (fm,gs,us,bs)):dp st.sites us/\∀o,o∈bs->bX st.sites o:=by
 unfold lr at h;split at h
 ·split at h
  ·cases h;exact⟨.nil,fun o h=>by simp at h⟩
  ·cases h
 ·cases h;exact⟨.nil,fun o h=>by simp at h⟩
 ·split at h
  ·rename_i hl;cases h;exact DJ hl
  ·cases h
theorem XY:∀{U dl:List aw} {gs us:List (Nat×Site)} {bs:List Nat},lp st U=some (dl,gs,us,bs)->dp st.sites us/\∀o,o∈bs->bX st.sites o:=by
 intro U;induction U with
 |nil=>intro dl gs us bs h;simp only[lp] at h;cases h;exact⟨.nil,fun o h=>by simp at h⟩
 |cons l U ih=>
  intro dl gs us bs h;simp only[lp] at h;split at h
  ·rename_i h1 h2;cases h;obtain⟨aB,ao⟩:=K' h1;obtain⟨bu,b'⟩:=ih h2;refine⟨aB.append bu,fun o bg=>?_⟩
   rcases List.mem_append.1 bg with h|h
   ·exact ao o h
   ·exact b' o h
  ·cases h
theorem XO:∀{cA:List aK} {a:jH},jV st cA=some a->dp st.sites a.er/\∀o,o∈a.fr->bX st.sites o:=by
 intro cA;induction cA with
 |nil=>intro a h;simp only[jV] at h;cases h;exact⟨.nil,fun o h=>by simp at h⟩
 |cons qA cA ih=>
  intro a h;unfold jV at h;split at h
  ·cases ‹qA::cA=[]›
  ·rename_i bU;cases bU;split at h
   ·rename_i h1 hr;cases h;obtain⟨aB,ao⟩:=K' h1;obtain⟨bu,b'⟩:=ih hr;refine⟨aB.append bu,fun o bg=>?_⟩
    rcases List.mem_append.1 bg with h|h
    ·exact ao o h
    ·exact b' o h
   ·cases h
  ·rename_i bU;cases bU;split at h
   ·rename_i h1 hr;cases h;obtain⟨aB,ao⟩:=XY h1;obtain⟨bu,b'⟩:=ih hr;refine⟨aB.append bu,fun o bg=>?_⟩
    rcases List.mem_append.1 bg with h|h
    ·exact ao o h
    ·exact b' o h
   ·cases h
  ·cases h
theorem XM{b:Bool}{cA:List aK}{a:jH}(h:q_ b st cA=some a):dp st.sites a.er/\∀o,o∈a.fr->bX st.sites o:=by
 cases b
 ·exact Zo h
 ·exact XO h
theorem acY(S:ah L J X B st tm w)(C:Ctx):∀(xs:List Operand) (cK:List TypeId),(f_ C st xs cK).length=(xs.map (Act.eval ⟨tm,[]⟩)).length/\
  ∀i (h:i<(f_ C st xs cK).length) (ab:i<(xs.map (Act.eval ⟨tm,[]⟩)).length),b_ B st.sites w (an X B st.sites) ((f_ C st xs cK)[i]) ((xs.map (Act.eval ⟨tm,[]⟩))[i]):=by
 intro xs;induction xs with
 |nil=>intro cK;cases cK<;>exact⟨rfl,fun i h=>by simp[f_] at h⟩
 |cons x xs ih=>
  intro cK;have key:∀(T:TypeId) (H':List TypeId),f_ C st (x::xs) cK=aP C st T x::f_ C st xs H'->(f_ C st (x::xs) cK).length=((x::xs).map (Act.eval ⟨tm,[]⟩)).length/\
    ∀i (h:i<(f_ C st (x::xs) cK).length) (ab:i<((x::xs).map (Act.eval ⟨tm,[]⟩)).length),b_ B st.sites w (an X B st.sites) ((f_ C st (x::xs) cK)[i]) (((x::xs).map (Act.eval ⟨tm,[]⟩))[i]):=by
   intro T H' e;obtain⟨aB,ao⟩:=ih H';refine⟨by rw[e];simp[aB],fun i h ab=>?_⟩
   simp only[e];cases i with
   |zero=>exact cT S C T x
   |succ i=>
    simp only[List.getElem_cons_succ,List.map_cons];exact ao i (by simpa[e] using h) (by simpa using ab)
  cases cK with
  |nil=>exact key 0 [] rfl
  |cons T cK=>exact key T cK rfl
theorem YT(S:ah L J X B st tm w){g cv:FuncId}(gP:yF P g cv){n:Nat}{cA:List aK}{vs:List Value}(hl:cA.length=vs.length)
  (hv:∀i (h:i<cA.length) (ab:i<vs.length),b_ B st.sites w (an X B st.sites) (cA[i]) (vs[i])) (Y:b6 st D.dst=true) (cI:(execOp (Act.eval ⟨tm,[]⟩) D).run P w=(callFunc g vs.toArray).run P w):
  Holds (rq cv n st cA) (cz P L J X st tm w D):=by
 unfold rq;split
 ·rename_i s p;refine Holds.e8 ?_
  intro K Q bC;match vs,hl,hv,cI with
  |[qz,vb],_,hv,cI=>
  obtain⟨a,a9,sT⟩:=hp (hv 0 (by simp) (by simp))
  obtain⟨b,hb,b9⟩:=hp (hv 1 (by simp) (by simp))
  simp only[List.getElem_cons_zero,List.getElem_cons_succ] at a9 hb;subst a9 hb;have lK:∀v w',(∃cH dz,v=.func (.func cv) #[] #[.pointer (some ⟨w.heap.size+1,0,none⟩),.pointer (some ⟨w.heap.size,0,none⟩),.pointer (some ⟨w.heap.size+2,0,none⟩)]/\
    w'=((w.alloc (.cells #[.string a] cH)).alloc (.cells #[.string b] cH)).alloc (.cells #[.int .i64 0] dz))->K ⟨cl tm D.dst v,[]⟩ w':=by
   rintro v w' ⟨cH,dz,rfl,hw⟩;have hsz:w'.heap.size=w.heap.size+3:=by rw[hw];simp
   have hold:∀b,b<w.heap.size->w'.heap[b]? =w.heap[b]? :=fun b hb=>by
    rw[hw];rw[RowKit.Below.heap_alloc _ _ _ (by simp;omega),RowKit.Below.heap_alloc _ _ _ (by simp;omega),RowKit.Below.heap_alloc _ _ _ hb]
   have h0:w'.heap[w.heap.size]? =some (.cells #[.string a] cH):=by
    rw[hw,RowKit.Below.heap_alloc _ _ _ (by simp only[World.size_alloc];omega),RowKit.Below.heap_alloc _ _ _ (by simp only[World.size_alloc];omega)];exact World.alloc_heap_new w _
   have h1:w'.heap[w.heap.size+1]? =some (.cells #[.string b] cH):=by
    rw[hw,RowKit.Below.heap_alloc _ _ _ (by simp only[World.size_alloc];omega)]
    have:=World.alloc_heap_new (w.alloc (.cells #[.string a] cH)) (.cells #[.string b] cH);rwa[World.size_alloc] at this
   have h2:w'.heap[w.heap.size+2]? =some (.cells #[.int .i64 0] dz):=by
    rw[hw];have:=World.alloc_heap_new ((w.alloc (.cells #[.string a] cH)).alloc (.cells #[.string b] cH)) (.cells #[.int .i64 0] dz);rwa[World.size_alloc,World.size_alloc] at this
   have HP:Fr J L w':=⟨by rw[hw];exact S.frame.os,by rw[hw];exact S.frame.tape,by rw[hw];exact S.frame.output,by have:=S.frame.size;omega,fun b hb hn=>by
    have:=S.frame.size;rw[hold b (by omega)];exact S.frame.block b hb hn⟩
   have kV:=S.frame.size;have c4:=S.jump (w':=w') (fun b _ hb=>hold b hb) (by omega) HP
   have mk:∀{B:Nat->Value} {sites:List (Nat×Site)} {av:Nat->Prop} {m k:Nat} {T:TypeId} {x:Value} {d:aL},B m=.pointer (some ⟨k,0,none⟩)->w'.heap[k]? =some (.cells #[x] T)->bi w' av d x->
     it B sites w' av m (.box (aY st m) [.d d]):=by
    intro B sites av m k T x d e1 e2 bK;refine⟨k,T,[x],e1,e2,rfl,fun u hu=>?_,(fun h=>by cases h),fun j h ab=>?_⟩
    ·rw[List.mem_singleton.1 hu];exact bK.h4
    ·match j,h,ab with
     |0,_,_=>exact bK
   obtain⟨I',_,_⟩:=c4.uK (X':=fun b=>(X b\/(w.heap.size<=b/\b<w'.heap.size))/\b≠w.heap.size+1) (n:=n) (bI:=.box (aY st n) [.d (.str p)]) (nv:=.pointer (some ⟨w.heap.size+1,0,none⟩)) (fun b h=>h.1)
    (.inl fun O h=>js h) (fun b h=>by have h:=List.mem_singleton.1 h;simp only at h;subst h;exact⟨.inr ⟨by omega,by omega⟩,fun h=>h.2 rfl,.inr (by omega)⟩) (fun _ e _ _=>mk e h1 (.str _ _ b9))
   obtain⟨I_,_,_⟩:=I'.uK (X':=fun b=>((X b\/(w.heap.size<=b/\b<w'.heap.size))/\b≠w.heap.size+1)/\b≠w.heap.size) (n:=n+1) (bI:=.box (aY st (n+1)) [.d (.str s)]) (nv:=.pointer (some ⟨w.heap.size,0,none⟩)) (fun b h=>h.1)
    (.inl fun O h=>by
     have h:look (b8 st.sites n _) (n+1)=some O:=h;rw[cn,if_neg (by omega)] at h
     exact js h) (fun b h=>by have h:=List.mem_singleton.1 h;simp only at h;subst h;exact⟨⟨.inr ⟨by omega,by omega⟩,by omega⟩,fun h=>h.2 rfl,.inr (by omega)⟩) (fun _ e _ _=>mk e h0 (.str _ _ sT))
   obtain⟨I9,_,_⟩:=I_.uK (X':=X) (n:=n+2) (bI:=.box (aY st (n+2)) [.d (.int .i64 0)]) (nv:=.pointer (some ⟨w.heap.size+2,0,none⟩)) (fun b h=>by have:=S.old b h;exact⟨⟨.inl h,by omega⟩,by omega⟩)
    (.inl fun O h=>by
     have h:look (b8 (b8 st.sites n _) (n+1) _) (n+2)=some O:=h;rw[cn,if_neg (by omega),cn,if_neg (by omega)] at h
     exact js h) (fun b h=>by have h:=List.mem_singleton.1 h;simp only at h;subst h;exact⟨⟨⟨.inr ⟨by omega,by omega⟩,by omega⟩,by omega⟩,fun h=>by have:=S.old _ h;omega,.inr (by omega)⟩) (fun _ e _ _=>mk e h2 (.int _ _))
   refine bC _ _ w' (ah.cu (us:=[(n,.box (aY st n) [.d (.str p)]),(n+1,.box (aY st (n+1)) [.d (.str s)]),(n+2,.box (aY st (n+2)) [.d (.int .i64 0)])]) I9 Y (v:=bP (.clo cv _)) ?_);refine⟨[.pointer (some ⟨w.heap.size+1,0,none⟩),.pointer (some ⟨w.heap.size,0,none⟩),.pointer (some ⟨w.heap.size+2,0,none⟩)],rfl,rfl,fun i hi hV=>?_⟩
   match i,hi,hV with
   |0,_,_=>exact⟨.box (aY st n) [.d (.str p)],by simp[aW,cn],Nat.le_refl _,fun _=>by simp[bY]⟩
   |1,_,_=>exact⟨.box (aY st (n+1)) [.d (.str s)],by simp[aW,cn],Nat.le_refl _,fun _=>by simp[bY]⟩
   |2,_,_=>exact⟨.box (aY st (n+2)) [.d (.int .i64 0)],by simp[aW,cn],Nat.le_refl _,fun _=>by simp[bY]⟩
  rcases gP a b w with⟨h1,h2⟩|⟨v,w',h1,h2⟩
  ·unfold Oper.wp;rw[cI,h1,Oper.upon_enter];refine h2.mono fun e w' he=>?_
   cases e with
   |returned v=>
    have:=lK v w' he;cases da:D.dst with
    |none=>rw[da] at this;simpa[Act.put,cl] using this
    |some t=>rw[da] at this;simpa[Act.put,cl] using this
   |panicked c=>exact he.elim
   |outgrown=>exact he.elim
  ·exact mm (cI.trans h1) (lK v w' h2)
 ·exact .fail
theorem _N(S:ah L J X B st tm w){g:FuncId}(gP:zv P g){n:Nat}{cA:List aK}{vs:List Value}(hl:cA.length=vs.length)
  (hv:∀i (h:i<cA.length) (ab:i<vs.length),b_ B st.sites w (an X B st.sites) (cA[i]) (vs[i])) (Y:b6 st D.dst=true) (cI:(execOp (Act.eval ⟨tm,[]⟩) D).run P w=(callFunc g vs.toArray).run P w):
  Holds (rP n st cA) (cz P L J X st tm w D):=by
 unfold rP;split
 ·rename_i xs;refine Holds.e8 ?_
  intro K Q bC;match vs,hl,hv,cI with
  |[qz],_,hv,cI=>
  have dF:bi w (an X B st.sites) (.sl .u8 xs) qz:=hv 0 (by simp) (by simp)
  have lK:∀v w',(∃u T,bi w (an X B st.sites) (.sl .u8 (xs.take 2000)) u/\v=.pointer (some ⟨w.heap.size,0,none⟩)/\w'=w.alloc (.cells #[u,.int .i64 0] T))->K ⟨cl tm D.dst v,[]⟩ w':=by
   rintro v w' ⟨u,T,hu,rfl,hw⟩;have hsz:w'.heap.size=w.heap.size+1:=by rw[hw];simp
   have hold:∀b,b<w.heap.size->w'.heap[b]? =w.heap[b]? :=fun b hb=>by
    rw[hw,RowKit.Below.heap_alloc _ _ _ hb]
   have h0:w'.heap[w.heap.size]? =some (.cells #[u,.int .i64 0] T):=by rw[hw];exact World.alloc_heap_new w _
   have HP:Fr J L w':=⟨by rw[hw];exact S.frame.os,by rw[hw];exact S.frame.tape,by rw[hw];exact S.frame.output,by have:=S.frame.size;omega,fun b hb hn=>by
    have:=S.frame.size;rw[hold b (by omega)];exact S.frame.block b hb hn⟩
   have kV:=S.frame.size;have c4:=S.jump (w':=w') (fun b _ hb=>hold b hb) (by omega) HP
   have gO:∀b,X b->b<w.heap.size:=S.old;have af7:∀b,an (fun b=>X b\/(w.heap.size<=b/\b<w'.heap.size)) B st.sites b->b<w'.heap.size:=fun b hb=>c4.lt hb
   have sJ:b_ B st.sites w' (an (fun b=>X b\/(w.heap.size<=b/\b<w'.heap.size)) B st.sites) (one (.sl .u8 (xs.take 2000))) u:=by
    have G:gD B B st.sites st.sites w w' (an X B st.sites) (an (fun b=>X b\/(w.heap.size<=b/\b<w'.heap.size)) B st.sites):=
     ⟨fun F s h=>⟨s,h,Nat.le_refl _,fun _=>rfl⟩,fun b _ b9=>hold b b9,fun b hb b9 ab=>by
      rcases ab with(ab|ab)|ab
      ·exact hb (.inl ab)
      ·omega
      ·exact hb (.inr ab)⟩
    exact b_.goes (a:=one (.sl .u8 (xs.take 2000))) G (by omega) af7 hu
   obtain⟨I',Hj,aoC⟩:=c4.uK (X':=X) (n:=n) (bI:=.box (aY st n) [.d (.sl .u8 (xs.take 2000)),.d (.int .i64 0)]) (nv:=.pointer (some ⟨w.heap.size,0,none⟩)) (fun b h=>.inl h)
    (.inl fun O h=>js h) (fun b h=>by have h:=List.mem_singleton.1 h;simp only at h;subst h;exact⟨.inr ⟨by omega,by omega⟩,fun h=>by have:=gO _ h;omega,.inr (by omega)⟩) (fun M e go _=>by
     have vA:=go sJ;refine⟨w.heap.size,T,[u,.int .i64 0],e,h0,rfl,fun x hx=>?_,(fun h=>by cases h),fun j h ab=>?_⟩
     ·rcases List.mem_cons.1 hx with rfl|hx
      ·exact bi.h4 hu
      ·rw[List.mem_singleton.1 hx];rfl
     ·match j,h,ab with
      |0,_,_=>exact vA
      |1,_,_=>exact bi.int .i64 0)
   refine bC _ _ w' (ah.cu (us:=[(n,.box (aY st n) [.d (.sl .u8 (xs.take 2000)),.d (.int .i64 0)])]) I' Y (v:=bP (.ptr n (aY st n) 0)) ?_);exact⟨w.heap.size,rfl,.box (aY st n) [.d (.sl .u8 (xs.take 2000)),.d (.int .i64 0)],by simp[aW,cn],Nat.le_refl _,fun _=>by simp[bY]⟩
  rcases gP xs qz w _ dF with⟨h1,h2⟩|⟨v,w',h1,h2⟩
  ·unfold Oper.wp;rw[cI,h1,Oper.upon_enter];refine h2.mono fun e w' he=>?_
   cases e with
   |returned v=>
    have:=lK v w' he;cases da:D.dst with
    |none=>rw[da] at this;simpa[Act.put,cl] using this
    |some t=>rw[da] at this;simpa[Act.put,cl] using this
   |panicked c=>exact he.elim
   |outgrown=>exact he.elim
  ·exact mm (cI.trans h1) (lK v w' h2)
 ·exact .fail
theorem JY(S:ah L J X B st tm w){C:Ctx}(ay:a7 P C){c:Go.Call}{f:Operand}(au:D.op=.call c)(hf:c.callee=.value f)(Y:b6 st D.dst=true)(d:Nat)(T:TypeId):
  Holds (ln C d st (aP C st T f) (f_ C st c.args.toList c.argTypes.toList)) (cz P L J X st tm w D):=by
 have bn:=cT S C T f;obtain⟨e1,e2⟩:=acY S C c.args.toList c.argTypes.toList;have run:∀{g:FuncId} {eU:List Value},Act.eval ⟨tm,[]⟩ f=.func (.func g) #[] eU.toArray->
   (execOp (Act.eval ⟨tm,[]⟩) D).run P w=(callFunc g (c.args.toList.map (Act.eval ⟨tm,[]⟩)++eU).toArray).run P w:=by
  intro g eU hv;have qF:(#[]++c.args.map (Act.eval ⟨tm,[]⟩))++eU.toArray=(c.args.toList.map (Act.eval ⟨tm,[]⟩)++eU).toArray:=by apply Array.ext';simp
  unfold execOp;simp only[au,resolve,hf,hv,Deferred.ofValue,Sem.run_bind,Sem.run_pure,Result.andThen_ok,invoke,qF]
 have go:∀{g:FuncId} {aE:aT} {a:jH} {cs:List (List aL)} {us:List (Nat×Site)} {bs:List Nat} {eU:List Value} {gb:Bool},C.bN g=some aE->q_ gb st (f_ C st c.args.toList c.argTypes.toList)=some a->
   Act.eval ⟨tm,[]⟩ f=.func (.func g) #[] eU.toArray->(dp st.sites us/\∀o,o∈bs->bX st.sites o)->
   (∀{cL eh av},eR L J X B st tm w cL eh av->(∀p,p∈us->p∈cL)->(∀o,o∈bs->o∈eh)->j2 w av cs eU)->
   Holds (oH d st aE {a with as:=a.as++kP cs,er:=a.er++us,fr:=a.fr++bs}) (cz P L J X st tm w D):=by
  intro g aE a cs us bs eU gb hg a9 hv hz hcap;obtain⟨fO,gK⟩:=XM a9;have hD:dp st.sites (a.er++us):=fO.append hz.1;have v4:eR L J X B st tm w (a.er++us) (a.fr++bs) (fun _=>False):=⟨⟨S,hD⟩,fun b h=>h.elim,fun _ _ _ _ h=>h⟩
  obtain⟨m1,m2,m3,m4,m5,UP⟩:=Kg v4 a9 e1 e2 (fun p aj=>List.mem_append.2 (.inl aj)) (fun p aj=>List.mem_append.2 (.inl aj))
  refine aam (a:={a with as:=a.as++kP cs,er:=a.er++us,fr:=a.fr++bs}) S (ay.bN g aE hg) (vs:=c.args.toList.map (Act.eval ⟨tm,[]⟩)++eU) ⟨hD,fun o bg=>?_,m2,fun av eb=>?_,?_,m4,?_,UP⟩ Y (run hv)
  ·rcases List.mem_append.1 bg with h|h
   ·exact gK o h
   ·exact hz.2 o h
  ·obtain⟨n1,_,_,_,_,_⟩:=Kg eb a9 e1 e2 (fun p aj=>List.mem_append.2 (.inl aj)) (fun p aj=>List.mem_append.2 (.inl aj))
   have n2:=Ya (hcap eb (fun p aj=>List.mem_append.2 (.inr aj)) (fun p aj=>List.mem_append.2 (.inr aj)))
   have:=n1.append n2;rwa[List.append_nil] at this
  ·show di (a.as++kP cs) _=_;rw[JB m1.length,m3,Yc,List.append_nil]
  ·show hF B a.rows (eZ (a.as++kP cs) _);rw[V8 m1.length,Xx,List.append_nil];exact m5
 unfold ln;split
 ·rename_i g bE HQ;rw[HQ] at bn;obtain⟨eU,h1,h2,aa⟩:=bn;split
  ·rename_i cv lT;split
   ·have hcv:eU=[]:=List.eq_nil_of_length_eq_zero (by simpa using h2)
    subst hcv;have r:=run h1;rw[List.append_nil] at r;exact YT S (ay.kt g cv lT) e1 e2 Y r
   ·exact .fail
  ·cases vI:C.op g with
   |true=>
    simp only[cond_true];split
    ·have hcv:eU=[]:=List.eq_nil_of_length_eq_zero (by simpa using h2)
     subst hcv;have r:=run h1;rw[List.append_nil] at r;exact _N S (ay.op g vI) e1 e2 Y r
    ·exact .fail
   |false=>
    simp only[cond_false];have Oy:bE=[]->(execOp (Act.eval ⟨tm,[]⟩) D).run P w=(callFunc g (c.args.toList.map (Act.eval ⟨tm,[]⟩)).toArray).run P w:=by
     rintro rfl;have hcv:eU=[]:=List.eq_nil_of_length_eq_zero (by simpa using h2)
     subst hcv;have r:=run h1;rwa[List.append_nil] at r
    cases vU:C.ha g with
    |true=>
     simp only[cond_true];split
     ·exact aaj S (ay.ha g vU) e1 e2 Y (Oy rfl)
     ·exact .fail
    |false=>
     simp only[cond_false];cases df:C.bs g with
     |true=>
      simp only[cond_true];split
      ·exact Xn S (ay.bs g df) e1 e2 Y (Oy rfl)
      ·exact .fail
     |false=>
      simp only[cond_false];split
      ·rename_i aE a cs us bs hg a9 hc;exact go hg a9 h1 (Li hc) (fun eb hu hb=>Lh eb hc hu hb h2 aa)
      ·exact .fail
 ·rename_i g bE HQ;rw[HQ] at bn;obtain⟨eU,h1,_⟩:=j2.Oo bn;split
  ·rename_i aE a hg a9;have:=go (us:=[]) (bs:=[]) (cs:=bE) (gb:=false) hg a9 h1 ⟨.nil,fun o h=>by simp at h⟩ (fun {cL eh av} eb _ _=>by
    obtain⟨aof,aB,ao⟩:=j2.Oo (eb.sF (bn:bi w (an X B st.sites) (.fn g bE) _));rw[h1] at aB;simp only[Value.func.injEq,Fn.func.injEq,true_and] at aB;have e:=congrArg Array.toList aB;simp only at e;rw[e];exact ao)
   simpa only[List.append_nil] using this
  ·exact .fail
 ·exact .fail
theorem aaC(S:ah L J X B st tm w){C:Ctx}(ay:a7 P C)(Y:b6 st D.dst=true):Holds (step C st D) (cz P L J X st tm w D):=by
 unfold step;split
 ·rename_i x au;exact Holds.ok (MK S (.inl au) Y _)
 ·rename_i x au;exact Holds.ok (MK S (.inr au) Y _)
 ·rename_i c a b au;split
  ·rename_i hc;exact Holds.ok (MC S au Y hc)
  ·rename_i hc;exact Holds.ok (MC S au Y hc)
  ·exact .fail
 ·rename_i elem au;split
  ·rename_i o e t n da aZ;exact ZQ S ay.toCtxOk aZ au Y
  ·rename_i o da _;split
   ·rename_i z hz;exact Holds.e8 (aar S ay.toCtxOk au da hz Y)
   ·exact .fail
  ·exact .fail
 ·rename_i elem x au;split
  ·rename_i o e t n da aZ;exact abL S ay.toCtxOk aZ au Y
  ·rename_i o da _;split
   ·rename_i a a9;cases c9:gf a.cells with
    |false=>exact .fail
    |true=>
     have bn:=cT S C elem x;rw[pn a9] at bn;exact Holds.e8 (ac3 S au da bn c9 Y)
   ·exact .fail
  ·exact .fail
 ·rename_i t parts au;split
  ·rename_i bN n z eq aZ;exact aan S ay.toCtxOk aZ au Y
  ·rename_i e ty n aZ;split
   ·rename_i z hz;exact ZN S ay.toCtxOk aZ hz au Y
   ·exact .fail
  ·exact .fail
 ·rename_i t len parts au;split
  ·rename_i o e ty bytes da aZ;cases hb:(parts.toList.length.beq len&&ow 0 parts.toList&&Nat.ble (len*ax ty) 1000) with
   |false=>exact .fail
   |true=>
    simp only[Bool.and_eq_true] at hb;obtain⟨⟨aU,aJ⟩,bQ⟩:=hb;simp only[cond_true];split
    ·rename_i as has;split
     ·rename_i xs us d_;have d_:mn ty st as=some (xs,us):=by
       cases aD:(C.dP&&ty.gU) with
       |false=>rw[aD] at d_;cases d_
       |true=>rw[aD] at d_;exact d_
      cases aD:(eJ (keys us)&&(look us o).isNone) with
      |false=>exact .fail
      |true=>
       simp only[Bool.and_eq_true] at aD;exact Holds.e8 (Vs S ay.toCtxOk aZ au Y (Nat.eq_of_beq_eq_true aU) aJ (Nat.le_of_ble_eq_true bQ) has d_ ((oh _).1 aD.1) (JP aD.2))
     ·split
      ·rename_i xs us d_;exact Holds.e8 (VP S ay.toCtxOk aZ au da Y (Nat.eq_of_beq_eq_true aU) aJ (Nat.le_of_ble_eq_true bQ) has d_)
      ·exact .fail
    ·exact .fail
  ·exact .fail
 ·rename_i t a au;split
  ·rename_i e ty n aZ;exact _Y S ay.toCtxOk aZ au Y
  ·cases ag:(C.tt t).known with
   |false=>exact .fail
   |true=>exact abr S ay.toCtxOk au Y ag
 ·rename_i t a x au;split
  ·rename_i v hv;split
   ·rename_i e ty n aZ;exact YR S ay.toCtxOk aZ au Y hv
   ·cases ag:(C.tt t).known with
    |false=>exact .fail
    |true=>exact _i S ay.toCtxOk au Y ag hv
  ·exact .fail
 ·rename_i x au;split
  ·rename_i hx;exact Holds.ok (BF S au Y hx fun vv h=>by obtain⟨b,h,_⟩:=h;exact⟨_,h⟩)
  ·rename_i hx;exact Holds.ok (BF S au Y hx fun vv h=>by obtain⟨b,D,h,_⟩:=h;exact⟨_,h⟩)
  ·rename_i hx;exact Holds.ok (BF S au Y hx fun vv h=>by obtain⟨b,h,_⟩:=h;exact⟨_,h⟩)
  ·exact .fail
 ·rename_i op t x y mW au;cases hn:y4 y with
  |true=>exact ZG S ay.toCtxOk au Y hn
  |false=>exact abO S ay.toCtxOk au Y
 ·rename_i op t x au;split
  ·rename_i b hx;exact Holds.ok (WC S au Y hx)
  ·rename_i k n hx;exact Holds.ok (WD S au Y hx)
  ·rename_i k n hx;exact Holds.ok (WB (T:=D.type) S au Y hx)
  ·exact .fail
 ·rename_i src dst x au;split
  ·rename_i o da;exact aak S ay.toCtxOk au da Y
  ·exact .fail
 ·rename_i fn first captured au
  split
  ·rename_i g;cases hf:first.toList.isEmpty with
   |false=>exact .fail
   |true=>
    simp only[cond_true];split
    ·rename_i bE hc;exact Holds.ok (WW S au Y hf hc)
    ·exact .fail
  ·exact .fail
 ·rename_i t l c au;split
  ·rename_i o e ty bytes kn n km m da aZ hl hc;split
   ·rename_i z hz;unfold pT;split
    ·rename_i ds us ef;have ef:sinks st z=some (ds,us):=by
      cases aD:(C.dP&&ty.gU) with
      |false=>rw[aD] at ef;cases ef
      |true=>rw[aD] at ef;exact ef
     split
     ·rename_i ea k6;cases aD:us.isEmpty with
      |false=>exact .fail
      |true=>exact Holds.e3 fun r hr=>VF S ay.toCtxOk aZ au Y hl hc hz ef aD k6 r hr
     ·exact .fail
    ·split
     ·rename_i ds us ef;split
      ·rename_i ea k6;exact Holds.e3 fun r hr=>Wc S ay.toCtxOk aZ au da Y hl hc hz ef k6 r hr
      ·exact .fail
     ·exact .fail
   ·exact .fail
  ·exact .fail
 ·rename_i t x cG hi Bk au;split
  ·split
   ·rename_i e ty n aZ;exact YV S ay.toCtxOk aZ au Y
   ·exact _o S ay.toCtxOk au Y
  ·exact .fail
 ·rename_i s x f au;split
  ·rename_i bN n z eq aZ;split
   ·rename_i off IB hf;exact Wo S ay.toCtxOk aZ au Y hf
   ·exact .fail
  ·exact .fail
 ·rename_i t x i au;split
  ·rename_i e ty bytes k n aZ hi;exact Wl S ay.toCtxOk aZ hi au Y
  ·rename_i e ty m k n aZ hi;exact VK S ay.toCtxOk aZ hi au Y
  ·exact .fail
 ·rename_i t x i au;split
  ·rename_i s k n aZ hx hi;exact _5 S ay.toCtxOk au Y aZ hx hi
  ·rename_i e ty m k n aZ hi;exact ZB S ay.toCtxOk aZ hi au Y
  ·exact .fail
 ·rename_i t i au;split
  ·rename_i as hx;split
   ·rename_i a a9;exact Holds.ok (X0 S au Y hx a9)
   ·exact .fail
  ·exact .fail
 ·rename_i c au;split
  ·rename_i f hf;split
   ·exact JY S ay au hf Y _ _
   ·exact JY S ay au hf Y _ _
  ·rename_i b hb;obtain⟨callee,args,argTypes⟩:=c;simp only at hb au ⊢;subst hb;split
   ·rename_i x t jB F7;have e1:args=#[x]:=Array.ext' jB;have e2:argTypes=#[t]:=Array.ext' F7;subst e1 e2;exact acL S ay.toCtxOk au Y
   ·rename_i o s x t u da jB F7;have e1:args=#[s,x]:=Array.ext' jB;have e2:argTypes=#[t,u]:=Array.ext' F7;subst e1 e2;split
    ·rename_i aZ ey;cases aD:uk st (aP C st u x) with
     |true=>exact Yg S ay.toCtxOk aZ ey au da Y
     |false=>exact ZP S ay.toCtxOk aZ ey au da Y
    ·rename_i aZ ey;exact Yf S ay.toCtxOk aZ ey au da Y
    ·exact .fail
   ·rename_i x y jB;have e1:args=#[x,y]:=Array.ext' jB;subst e1;split
    ·rename_i hx ak;exact Holds.ok (K1 (rX:=true) S au Y hx ak)
    ·exact .fail
   ·rename_i x y z u v jB;have e1:args=#[x,y,z,u,v]:=Array.ext' jB;subst e1;split
    ·rename_i hx ak hz hu hv;exact Holds.ok (abp S au Y hx ak hz hu hv)
    ·exact .fail
   ·rename_i x y jB;have e1:args=#[x,y]:=Array.ext' jB;subst e1;split
    ·rename_i hx ak;exact Holds.ok (K1 (rX:=false) S au Y hx ak)
    ·exact .fail
   ·exact .fail
  ·exact .fail
 ·exact XP S ay.toCtxOk Y
end
section
variable {st af:ad}
theorem nf{o:Nat}(h:st.O o=af.O o)(s:Nat):rowOf st o s=rowOf af o s:=by unfold rowOf;rw[h]
theorem tl{o:Nat}(h:st.O o=af.O o)(s:Nat):ls st o s=ls af o s:=by unfold ls;rw[h]
theorem J2{o:Nat}(h:st.O o=af.O o)(s:Nat):oI st o s=oI af o s:=by unfold oI;rw[nf h,tl h]
theorem tp{o:Nat}(h:st.O o=af.O o)(s:Nat):fs st o s=fs af o s:=by unfold fs;rw[h]
theorem lk{o:Nat}(h:st.O o=af.O o):aY st o=aY af o:=by unfold aY;rw[h]
abbrev cc(st af:ad)(N:List Nat):Prop:=∀o,o∈N->st.O o=af.O o
theorem cc.left{N jT:List Nat}(h:cc st af (N++jT)):cc st af N:=fun o bg=>h o (List.mem_append.2 (.inl bg))
theorem cc.right{N jT:List Nat}(h:cc st af (N++jT)):cc st af jT:=fun o bg=>h o (List.mem_append.2 (.inr bg))
theorem cc.head{n:Nat}{jT:List Nat}(h:cc st af (n::jT)):st.O n=af.O n:=h n List.mem_cons_self
theorem cc.tail{n:Nat}{jT:List Nat}(h:cc st af (n::jT)):cc st af jT:=fun o bg=>h o (List.mem_cons_of_mem _ bg)
theorem oj{N:List Nat}(h:cc st af (ep st N)):cc st af N:=by
 induction N with
 |nil=>intro o bg;cases bg
 |cons n N ih=>
  intro o bg;rcases List.mem_cons.1 bg with rfl|bg
  ·exact h.head
  ·exact ih h.tail.right o bg
theorem L_{N:List Nat}(h:cc st af (ep st N)){o:Nat}(bg:o∈N):cc st af (wS st o):=by
 induction N with
 |nil=>cases bg
 |cons n N ih=>
  rcases List.mem_cons.1 bg with rfl|bg
  ·exact h.tail.left
  ·exact ih h.tail.right bg
theorem xe{N jT:List Nat}:ep st (N++jT)=ep st N++ep st jT:=by
 induction N with
 |nil=>rfl
 |cons n N ih=>simp[ep,ih]
theorem Lf{l:aw}(h:cc st af l.names):jj st l=jj af l:=by
 cases l<;>try rfl
 case own o s=>simp only[jj,lJ];rw[nf (h.head) s,tl h.head s,h.head]
 case clo g bE=>cases bE<;>rfl
theorem wM{U:List aw}(h:cc st af (cP U)):g4 st U=g4 af U:=by
 induction U with
 |nil=>rfl
 |cons l U ih=>
  simp only[cP] at h;simp only[g4,Lf h.left,ih h.right]
theorem Xs{l:aw}(h:cc st af l.names):sink st l=sink af l:=by
 cases l<;>try rfl
 case own o s=>simp only[sink];rw[h.head]
 case d v=>cases v<;>rfl
theorem BC{U:List aw}(h:cc st af (cP U)):sinks st U=sinks af U:=by
 induction U with
 |nil=>rfl
 |cons l U ih=>
  simp only[cP] at h;simp only[sinks,Xs h.left,ih h.right]
theorem BI{o s:Nat}{cells:List aw}(h:fs st o s=some cells):wS st o=cP cells:=by
 unfold fs at h;cases M:st.O o with
 |none=>rw[M] at h;cases h
 |some x=>
  rw[M] at h;cases x with
  |box am cs=>
   have h:(bif am.beq s then some cs else none)=some cells:=h
   unfold wS;rw[M];cases hb:am.beq s with
   |true=>simp only[hb,cond_true,Option.some.injEq] at h;subst h;rfl
   |false=>simp[hb] at h
  |row _ _ _=>cases h
  |cR _ _ _=>cases h
  |deep _ _ _=>cases h
  |map _ _ _=>cases h
  |dead _=>cases h
theorem WX{agg:Bool}{n:Nat}{a:aK}(h:cc st af a.names):rV agg n st a=rV agg n af a:=by
 unfold rV;split
 ·rename_i o s off;rw[tp (show st.O o=af.O o from h o (by simp[aK.names,bz.cells,cP,aw.names]))]
 ·rfl
 ·rename_i o s u k off;rw[nf (show st.O o=af.O o from h o (by simp[aK.names,bz.cells,cP,aw.names]))]
 ·rfl
theorem VZ{n:Nat}{a:aK}{v:bz}(h:cc st af a.names)(hv:cc st af (cP v.cells)):rm n st a v=rm n af a v:=by
 unfold rm;congr 1
 split
 ·rename_i o s off;rw[tp (show st.O o=af.O o from h o (by simp[aK.names,bz.cells,cP,aw.names]))]
 ·rename_i o s u k off;rw[show st.O o=af.O o from h o (by simp[aK.names,bz.cells,cP,aw.names]),wM hv,BC hv]
 ·rfl
theorem Vi{u:aF}{x:aK}{i:Int}(h:cc st af x.names):qO u st x i=qO u af x i:=by
 unfold qO;split
 ·rfl
 ·rename_i o s;rw[J2 (show st.O o=af.O o from h o (by simp[aK.names,bz.cells,cP,aw.names]))]
 ·rfl
theorem V3{ti:cd}{x:aK}{cG hi:Option aK}(h:cc st af x.names):rr ti st x cG hi=rr ti af x cG hi:=by
 unfold rr;split
 ·rfl
 ·rfl
 ·rfl
 ·rename_i o s;simp only[lJ];rw[nf (show st.O o=af.O o from h o (by simp[aK.names,bz.cells,cP,aw.names])),show st.O o=af.O o from h o (by simp[aK.names,bz.cells,cP,aw.names])]
 ·rfl
theorem JO{l:aw}(h:cc st af l.names):mapOf st l=mapOf af l:=by
 cases l<;>try rfl
 case own o s=>simp only[mapOf];rw[h.head]
 case d v=>cases v<;>rfl
theorem XR{ti:cd}{x:aK}(h:cc st af x.names):so ti st x=so ti af x:=by
 unfold so;split<;>try rfl
 rotate_left
 ·rename_i l;rw[JO (l:=l) (fun o bg=>h o (by simp[aK.names,bz.cells,cP,bg]))]
 rename_i o s;rw[J2 (show st.O o=af.O o from h o (by simp[aK.names,bz.cells,cP,aw.names]))]
theorem WH{x:aK}(h:cc st af x.names):rM st x=rM af x:=by
 unfold rM;split<;>try rfl
 rename_i o s;rw[nf (show st.O o=af.O o from h o (by simp[aK.names,bz.cells,cP,aw.names]))]
theorem Ja{o dst s:Nat}(Y:st.O dst=af.O dst):aY (st.dn o (.dead s)) dst=aY (af.dn o (.dead s)) dst:=by
 apply lk;rw[ad.mf,ad.mf,Y]
theorem Jj{bytes:Nat}{t:aF}{dst:Nat}{s:aK}{ys:List (den t)}(h:cc st af s.names)(Y:st.O dst=af.O dst):px bytes t dst st s ys=px bytes t dst af s ys:=by
 unfold px;split
 ·simp only[lk Y]
 ·rename_i o s;simp only[show st.O o=af.O o from h o (by simp[aK.names,bz.cells,cP,aw.names]),Ja Y]
 ·rfl
theorem VQ{bytes:Nat}{t:aF}{dst:Nat}{s x:aK}(h:cc st af s.names)(hx:cc st af x.names)(Y:st.O dst=af.O dst):ri bytes t dst st s x=ri bytes t dst af s x:=by
 unfold ri;rw[WH hx];split
 ·rfl
 ·split
  ·split
   ·exact Jj h Y
   ·rfl
  ·rfl
theorem Wf{x:aK}(h:cc st af x.names):uk st x=uk af x:=by
 unfold uk;split
 ·rename_i o s;rw[tl (show st.O o=af.O o from h o (by simp[aK.names,bz.cells,cP,aw.names]))]
 ·rfl
theorem VS{bytes:Nat}{t:aF}{dst:Nat}{s x:aK}(h:cc st af s.names)(hx:cc st af x.names)(Y:st.O dst=af.O dst):rk bytes t dst st s x=rk bytes t dst af s x:=by
 have e2:∀F u o v,aY ((st.dn F (.dead u)).dn o (.dead v)) dst=aY ((af.dn F (.dead u)).dn o (.dead v)) dst:=fun F u o v=>by
  apply lk;rw[ad.mf,ad.mf,ad.mf,ad.mf,Y]
 unfold rk;split
 ·rename_i F u;rw[tl (show st.O F=af.O F from hx F (by simp[aK.names,bz.cells,cP,aw.names]))]
  split
  ·split
   ·split
    ·simp only[Ja Y]
    ·rename_i _ o s;rw[tl (show st.O o=af.O o from h o (by simp[aK.names,bz.cells,cP,aw.names]))]
     simp only[e2]
    ·rfl
   ·rfl
  ·rfl
 ·rfl
theorem VR{bytes:Nat}{t:aF}{dst:Nat}{s x:aK}(h:cc st af s.names)(Y:st.O dst=af.O dst):rj bytes t dst st s x=rj bytes t dst af s x:=by
 unfold rj;split
 ·split
  ·exact Jj h Y
  ·rfl
 ·rfl
theorem Kf{o:Nat}{t:aF}{n:Nat}{xs:List (den t)}(Y:st.O o=af.O o):pS o st t n xs=pS o af t n xs:=by
 unfold pS;rw[lk Y]
theorem Wr{o:Nat}{t:aF}{n:Nat}(Y:st.O o=af.O o):rJ o st t n=rJ o af t n:=by
 unfold rJ;split<;>first|exact Kf Y|rfl
theorem Yd{o:Nat}{t:aF}{n:Nat}{v:aK}(Y:st.O o=af.O o):sy o st t n v=sy o af t n v:=by
 unfold sy;split
 ·split<;>first|exact Kf Y|rfl
 ·rfl
theorem WY{t:aF}{n:Nat}{a:aK}(h:cc st af a.names):rW st t n a=rW af t n a:=by
 unfold rW;split
 ·rename_i o s u;rw[nf (show st.O o=af.O o from h o (by simp[aK.names,bz.cells,cP,aw.names]))]
 ·rfl
theorem V0{t:aF}{n:Nat}{a:aK}{v:bz}(h:cc st af a.names):rp st t n a v=rp af t n a v:=by
 unfold rp;split
 ·rename_i o s u U;rw[show st.O o=af.O o from h o (by simp[aK.names,bz.cells,cP,aw.names])]
 ·rfl
theorem Vj{C:Ctx}{t:aF}{n:Nat}{x:aK}{i:Int}(h:cc st af x.names):qP C st t n x i=qP C af t n x i:=by
 unfold qP;split
 ·rename_i o s u;rw[nf (show st.O o=af.O o from h o (by simp[aK.names,bz.cells,cP,aw.names]))]
 ·rfl
 ·rfl
theorem V4{t:aF}{n:Nat}{x:aK}{cG hi:Option aK}(h:cc st af x.names):rs st t n x cG hi=rs af t n x cG hi:=by
 unfold rs;split
 ·rename_i o s u;simp only[lJ];rw[nf (show st.O o=af.O o from h o (by simp[aK.names,bz.cells,cP,aw.names])),show st.O o=af.O o from h o (by simp[aK.names,bz.cells,cP,aw.names])]
 ·rfl
theorem X_{t:aF}{as:List bz}(h:cc st af (om as)):k2 t st as=k2 t af as:=by
 induction as with
 |nil=>rfl
 |cons a as ih=>
  simp only[om] at h;simp only[k2,wM h.left,ih h.right]
theorem V5{t:aF}{as:List bz}(h:cc st af (om as)):mn t st as=mn t af as:=by
 induction as with
 |nil=>rfl
 |cons a as ih=>
  simp only[om] at h;simp only[mn,BC h.left,ih h.right]
theorem W_{C:Ctx}{src dst:TypeId}{o:Nat}{x:aK}(h:cc st af x.names)(Y:st.O o=af.O o):r_ C src dst o st x=r_ C src dst o af x:=by
 unfold r_;split<;>try rfl
 ·rename_i F s _ _;rw[nf (show st.O F=af.O F from h F (by simp[aK.names,bz.cells,cP,aw.names]))]
 ·rw[lk Y]
theorem JA{bE:List (Nat×Nat)}(h:cc st af (ep st (keys bE))):kS st bE=kS af bE:=by
 induction bE with
 |nil=>rfl
 |cons p bE ih=>
  obtain⟨o,s⟩:=p;simp only[keys,ep] at h;simp only[kS];rw[<-tp h.head,<-ih h.tail.right];cases hb:fs st o s with
  |none=>rfl
  |some cells=>
   have:=h.tail.left;rw[BI hb] at this;simp only[wM this]
theorem BM{l:aw}(h:cc st af (ep st l.names)):mF st l=mF af l:=by
 have Y:=Lf (oj h);unfold mF;split
 ·rfl
 ·rename_i g c cs;simp only[aw.names] at h;rw[JA h]
 ·rw[Y]
theorem WZ{U:List aw}(h:cc st af (ep st (cP U))):lw st U=lw af U:=by
 induction U with
 |nil=>rfl
 |cons l U ih=>
  simp only[cP,xe] at h;simp only[lw,BM h.left,ih h.right]
theorem JS{l:aw}(h:cc st af l.names):mB st l=mB af l:=by
 unfold mB;split<;>try rfl
 rename_i o s;rw[show st.O o=af.O o from h.head]
theorem XW{U:List aw}(h:cc st af (cP U)):jE st U=jE af U:=by
 induction U with
 |nil=>rfl
 |cons l U ih=>
  simp only[cP] at h;simp only[jE,JS h.left,ih h.right]
def gx:List aK->List Nat
 |[]=>[]
 |v::vs=>v.names++gx vs
theorem Jv{vs:List aK}(h:cc st af (ep st (gx vs))):ir st vs=ir af vs:=by
 induction vs with
 |nil=>rfl
 |cons v vs ih=>
  simp only[gx,xe] at h;have ih:=ih h.right;have h:=h.left;cases v with
  |jd as=>rfl
  |av a=>
   cases a with
   |agg U=>
    simp only[ir];rw[WZ (by simpa[aK.names,bz.cells] using h),ih]
   |ai l=>
    have hl:cc st af (ep st l.names):=by simpa[aK.names,bz.cells,cP] using h
    unfold ir;split
    ·rfl
    ·rename_i o s aiy bU;cases bU;have hl:cc st af (ep st [o]):=by simpa[aK.names,bz.cells,cP,aw.names] using h
     simp only[ep] at hl;rw[<-tp hl.head,<-ih];cases hb:fs st o s with
     |none=>rfl
     |some cells=>
      have:=hl.tail.left;rw[BI hb] at this;cases ir st vs with
      |none=>rfl
      |some r=>simp only[XW this]
    ·rename_i fm aiy _ bU;cases bU;rw[BM hl,ih]
    ·rename_i bU;cases bU
    ·rfl
theorem Jy{l:aw}(h:cc st af (ep st l.names)):lr st l=lr af l:=by
 unfold lr;split
 ·rw[JS (oj h)]
 ·rfl
 ·rw[BM h]
theorem VN{U:List aw}(h:cc st af (ep st (cP U))):lp st U=lp af U:=by
 induction U with
 |nil=>rfl
 |cons l U ih=>
  simp only[cP,xe] at h;simp only[lp,Jy h.left,ih h.right]
theorem W3{l:aw}(h:cc st af l.names):kX st l=kX af l:=by
 unfold kX;split<;>try rfl
 rename_i o s;rw[show st.O o=af.O o from h.head]
theorem JM{U dl:List aw}(h:cc st af (cP U)):nz st U dl=nz af U dl:=by
 unfold nz;have:U.map (kX st)=U.map (kX af):=by
  induction U with
  |nil=>rfl
  |cons l U ih=>
   simp only[cP] at h;simp only[List.map_cons,W3 h.left,ih h.right]
 rw[this]
theorem VE{vs:List aK}(h:cc st af (ep st (gx vs))):jV st vs=jV af vs:=by
 induction vs with
 |nil=>rfl
 |cons v vs ih=>
  simp only[gx,xe] at h;have ih:=ih h.right;have h:=h.left;cases v with
  |jd as=>rfl
  |av a=>
   cases a with
   |agg U=>
    have hl:cc st af (ep st (cP U)):=by simpa[aK.names,bz.cells] using h
    simp only[jV,VN hl,ih,JM (oj hl)]
   |ai l=>
    have hl:cc st af (ep st l.names):=by simpa[aK.names,bz.cells,cP] using h
    have lW:cc st af (cP [l]):=by simpa[cP] using oj hl
    simp only[jV,Jy hl,ih,JM lW]
theorem VD{b:Bool}{vs:List aK}(h:cc st af (ep st (gx vs))):q_ b st vs=q_ b af vs:=by
 cases b
 ·exact Jv h
 ·exact VE h
theorem tn(hb:∀o,1000000<=o->st.O o=af.O o){o:Nat}(h:1000000<=o):aY st o=aY af o:=lk (hb o h)
theorem BK(hb:∀o,1000000<=o->st.O o=af.O o):∀{U:List aw} {n:Nat},1000000<=n->take st n U=take af n U:=by
 intro U;induction U with
 |nil=>intro n _;rfl
 |cons l U ih=>
  intro n hn;cases l<;>simp only[take,ih (show 1000000<=n+1 by omega),tn hb hn]
theorem WF(hb:∀o,1000000<=o->st.O o=af.O o):∀{as:List bz} {n:Nat},1000000<=n->dE st n as=dE af n as:=by
 intro as;induction as with
 |nil=>intro n _;rfl
 |cons a as ih=>
  intro n hn;cases a with
  |ai l=>simp only[dE];rw[BK hb hn,ih (show 1000000<=n+100 by omega)]
  |agg U=>simp only[dE];rw[BK hb hn,ih (show 1000000<=n+100 by omega)]
theorem WE(hb:∀o,1000000<=o->st.O o=af.O o):∀{bs:List (Nat×Nat)} {ct:List (List aw)},eY st bs ct=eY af bs ct:=by
 intro bs;induction bs with
 |nil=>intro ct;cases ct<;>rfl
 |cons p bs ih=>
  obtain⟨o,s⟩:=p;intro ct;cases ct with
  |nil=>rfl
  |cons cs ct=>simp only[eY];rw[BK hb (by omega),ih]
theorem JX(hb:∀o,1000000<=o->st.O o=af.O o){dst:Nat}{S:aT}{a:jH}:oH dst st S a=oH dst af S a:=by
 unfold oH;simp only[WE hb,WF hb (show 1000000<=2000000+dst*10000 by omega)]
theorem V1{g:FuncId}{n:Nat}{vs:List aK}(hb:∀o,1000000<=o->st.O o=af.O o)(hn:1000000<=n):rq g n st vs=rq g n af vs:=by
 unfold rq;rw[tn hb hn,tn hb (show 1000000<=n+1 by omega),tn hb (show 1000000<=n+2 by omega)]
theorem WR{n:Nat}{vs:List aK}(hb:∀o,1000000<=o->st.O o=af.O o)(hn:1000000<=n):rP n st vs=rP n af vs:=by
 unfold rP;rw[tn hb hn]
theorem W9{vs:List aK}(h:cc st af (ep st (gx vs))):copyV st vs=copyV af vs:=by
 unfold copyV;split
 ·rename_i o s;rw[show st.O o=af.O o from oj h o (by simp[gx,aK.names,bz.cells,cP,aw.names])]
 ·rfl
theorem Vy{vs:List aK}(h:cc st af (ep st (gx vs))):q6 st vs=q6 af vs:=by
 unfold q6;split
 ·rename_i o s;have h0:o∈gx [aK.av (.ai (.ptr o s 0))]:=by simp[gx,aK.names,bz.cells,cP,aw.names]
  rw[<-tp (oj h o h0)];split
  ·rfl
  ·rename_i UQ F u hb;have:=L_ h h0;rw[BI hb] at this;rw[show st.O F=af.O F from this F (by simp[cP,aw.names])]
  ·rfl
 ·rfl
theorem Je{C:Ctx}(hb:∀o,1000000<=o->st.O o=af.O o){dst:Nat}{f:aK}{vs:List aK}(hf:cc st af (ep st f.names))(h:cc st af (ep st (gx vs))):ln C dst st f vs=ln C dst af f vs:=by
 unfold ln;split
 ·rename_i g bE;have:cc st af (ep st (keys bE)):=by simpa[aK.names,bz.cells,cP,aw.names] using hf
  simp only[VD h,JA this,JX hb,V1 hb (show 1000000<=3000000+dst*10 by omega),WR hb (show 1000000<=4000000+dst by omega),W9 h,Vy h]
 ·simp only[Jv h,JX hb]
 ·rfl
theorem aaa{C:Ctx}{x:Operand}{T:TypeId}(h:∀t,x=.tmp t->st.get t=af.get t):aP C st T x=aP C af T x:=by
 cases x with
 |tmp t=>exact h t rfl
 |_=>rfl
theorem VO{ti:cd}{v:Value}:(uc ti v).names=[]:=by
 unfold uc;split<;>try rfl
 all_goals(split<;>rfl)
theorem xw{C:Ctx}{x:Operand}{T:TypeId}:∀{xs:List Operand},x∈xs->∀o,o∈(aP C st T x).names->o∈nq st xs:=by
 intro xs;induction xs with
 |nil=>intro h;cases h
 |cons y xs ih=>
  intro h o bg;rcases List.mem_cons.1 h with rfl|h
  ·cases x with
   |tmp t=>simp only[nq];exact List.mem_append.2 (.inl bg)
   |const v=>simp only[aP,VO] at bg;cases bg
   |global g=>simp[aP,aK.names,bz.cells,cP,aw.names,bP] at bg
   |func g=>simp[aP,aK.names,bz.cells,cP,aw.names,bP,keys] at bg
  ·have:=ih h o bg;cases y<;>simp only[nq]<;>first|exact List.mem_append.2 (.inr this)|exact this
theorem WS{t:Nat}:∀{xs:List Operand},.tmp t∈xs->t∈ot xs:=by
 intro xs;induction xs with
 |nil=>intro h;cases h
 |cons y xs ih=>
  intro h;rcases List.mem_cons.1 h with h|h
  ·subst h;simp only[ot];exact List.mem_cons_self
  ·have:=ih h;cases y<;>simp only[ot]<;>first|exact List.mem_cons_of_mem _ this|exact this
theorem Kr{v:aK}{a:bz}(h:lM v=some a):cP a.cells=v.names:=by
 cases v with
 |av b=>simp only[lM,Option.some.injEq] at h;subst h;rfl
 |jd _=>cases h
theorem J0{vs:List aK}:∀{as:List bz},mC vs=some as->∀o,o∈om as->o∈gx vs:=by
 induction vs with
 |nil=>intro as h;simp only[mC,Option.some.injEq] at h;subst h;intro o bg;cases bg
 |cons v vs ih=>
  intro as h o bg;simp only[mC] at h;split at h
  ·rename_i a jl h1 h2;simp only[Option.some.injEq] at h;subst h;simp only[om,List.mem_append] at bg;simp only[gx,List.mem_append];rcases bg with bg|bg
   ·exact .inl (by rw[Kr h1] at bg;exact bg)
   ·exact .inr (ih h2 o bg)
  ·cases h
end
theorem Xp{C:Ctx}{st af:ad}{D:Oper}(M:∀t,t∈ot (kT D.op)->st.get t=af.get t)(hn:cc st af (Fs C st D))(hb:y5 D.op=true->∀o,1000000<=o->st.O o=af.O o):
  step C st D=step C af D:=by
 have he:∀x,x∈kT D.op->∀T,aP C st T x=aP C af T x:=fun x hx T=>aaa fun t aC=>M t (WS (aC▸hx))
 have QL:looks D.op=true->cc st af (ep st (nq st (kT D.op))):=fun h=>by have:=hn.left.left;rw[h] at this;exact this
 have QE:looks D.op=true->∀x,x∈kT D.op->∀T,cc st af (aP C st T x).names:=fun hl x hx T o bg=>oj (QL hl) o (xw hx o bg)
 have NN:looks D.op=true->∀N:List Nat,(∀o,o∈N->o∈nq st (kT D.op))->cc st af (ep st N):=by
  intro hl N;have vT:=QL hl;induction N with
  |nil=>intro _ o bg;cases bg
  |cons n N ih=>
   intro h o bg;simp only[ep,List.mem_cons,List.mem_append] at bg;rcases bg with rfl|bg|bg
   ·exact oj vT o (h o List.mem_cons_self)
   ·exact L_ vT (h n List.mem_cons_self) o bg
   ·exact ih (fun F bB=>h F (List.mem_cons_of_mem _ bB)) o bg
 have Y:∀d,D.dst=some d->st.O d=af.O d:=fun d h=>hn.left.right d (by simp[h])
 have hz:cc st af (E_ C D.op):=hn.right;obtain⟨dst,op,type,pos,after,guard⟩:=D;simp only at he QE NN Y hb hz;cases op<;>(try have fK:=QE rfl)<;>(try have kW:=NN rfl)<;>(try simp only[kT,List.mem_cons,List.not_mem_nil,or_false,forall_eq_or_imp,forall_eq] at he)<;>
  (try simp only[kT,List.mem_cons,List.not_mem_nil,or_false,forall_eq_or_imp,forall_eq] at fK)<;>simp only[step]<;>try rfl
 case move x=>rw[he]
 case assign x=>rw[he]
 case makeMap t r=>
  simp only[kN];cases dst with
  |none=>rfl
  |some o=>
   have e:=lk (Y o rfl);cases C.tt t<;>try rfl
   cases r with
   |none=>simp only[e]
   |some x=>simp only[he x (by simp[kT]),e]
 case lookup t m k c=>
  simp only[kN];rw[he.1,he.2];have h1:=fK.1 t;rw[he.1] at h1;generalize aP C af t m=UJ at h1 ⊢;split
  ·rename_i l n _ _;rw[JO (l:=l) (fun o bg=>h1 o (by simp[aK.names,bz.cells,cP,bg]))]
  ·rfl
 case mapUpdate t m k x=>
  simp only[kN,kN.rA];rw[he.1,he.2.1,he.2.2];have h1:=fK.1 t;rw[he.1] at h1;generalize aP C af t m=UJ at h1 ⊢;split
  ·rename_i o s n d _ _ _;rw[show st.O o=af.O o from h1 o (by simp[aK.names,bz.cells,cP,aw.names])]
  ·rfl
 case insert t m k x=>
  simp only[kN,kN.rA];rw[he.1,he.2.1,he.2.2];have h1:=fK.1 t;rw[he.1] at h1;generalize aP C af t m=UJ at h1 ⊢;split
  ·rename_i o s n d _ _ _;rw[show st.O o=af.O o from h1 o (by simp[aK.names,bz.cells,cP,aw.names])]
  ·rfl
 case pick c a b=>rw[he.1,he.2.1,he.2.2]
 case alloc elem=>
  cases dst with
  |none=>rfl
  |some o=>
   have e:=lk (Y o rfl);cases aZ:C.tt elem with
   |arr _ t n=>exact Wr (Y o rfl)
   |_=>simp only[e]
 case box elem x=>
  rw[he];cases dst with
  |none=>rfl
  |some o=>
   have e:=lk (Y o rfl);cases aZ:C.tt elem with
   |arr _ t n=>exact Yd (Y o rfl)
   |_=>simp only[e]
 case build t ps=>
  have go:∀(bN:List (Nat×Nat)) (r:List (Nat×Operand)) (z:List aw),(∀x,x∈r.map (·.2)->∀T,aP C st T x=aP C af T x)->step.mw C st bN z r=step.mw C af bN z r:=by
    intro bN r;induction r with
    |nil=>intro z _;rfl
    |cons p r ih=>
     obtain⟨i,x⟩:=p;intro z h;simp only[step.mw];rw[h x (by simp)]
     split
     ·rw[ih _ fun x hx=>h x (by simp only[List.map_cons,List.mem_cons];exact .inr hx)]
     ·rfl
  split
  ·exact go _ _ _ he
  ·split
   ·exact go _ _ _ he
   ·rfl
  ·rfl
 case buildSlice t len ps=>
  cases dst with
  |none=>rfl
  |some o=>
   cases h2:C.tt t<;>try rfl
   rename_i e ty bytes;simp only;have h1:some o=some o:=rfl;have em:(ps.toList.map fun p=>aP C st e p.2)=ps.toList.map fun p=>aP C af e p.2:=by
    apply List.map_congr_left;intro p aj;exact he _ (List.mem_map.2 ⟨p,aj,rfl⟩) e
   have hT:cc st af (gx (ps.toList.map fun p=>aP C st e p.2)):=by
    have:∀l:List (Nat×Operand),(∀p,p∈l->p∈ps.toList)->cc st af (gx (l.map fun p=>aP C st e p.2)):=by
     intro l;induction l with
     |nil=>intro _ o bg;cases bg
     |cons p l ih=>
      intro h o bg;simp only[List.map_cons,gx,List.mem_append] at bg;rcases bg with bg|bg
      ·exact fK _ (List.mem_map.2 ⟨p,h p List.mem_cons_self,rfl⟩) e o bg
      ·exact ih (fun q aD=>h q (List.mem_cons_of_mem _ aD)) o bg
    exact this _ fun _ h=>h
   rw[<-em,lk (Y o h1)];congr 1
   split
   ·rename_i as has;rw[X_ fun F bB=>hT F (J0 has F bB),V5 fun F bB=>hT F (J0 has F bB)]
   ·rfl
 case load t a=>
  rw[<-he];split
  ·exact WY (fK _)
  ·rw[WX (fK _)]
 case store t a x=>
  rw[<-he.1,<-he.2];split
  ·rename_i v hv;split
   ·exact V0 (fK.1 _)
   ·rw[VZ (fK.1 _) (by rw[Kr hv];exact fK.2 _)]
  ·rfl
 case nilCheck x=>rw[he]
 case makeInterface t x=>simp only[kN];rw[he]
 case binOp op t x y ty=>rw[he.1,he.2]
 case unOp op t x=>rw[he]
 case convert src ao1 x=>
  cases dst with
  |none=>rfl
  |some o=>simp only;rw[<-he,W_ (fK _) (Y o rfl)]
 case makeFunc fn first captured=>
  split
  ·rename_i g;have go:∀(r:List Operand),(∀x,x∈r->∀T,aP C st T x=aP C af T x)->step.nB C st r=step.nB C af r:=by
    intro r;induction r with
    |nil=>intro _;rfl
    |cons x r ih=>
     intro h;simp only[step.nB];rw[h x (by simp),ih fun x hx=>h x (List.mem_cons_of_mem _ hx)]
   rw[go _ he]
  ·rfl
 case makeSlice t l c=>
  rw[<-he.1,<-he.2];cases dst with
  |none=>rfl
  |some o=>
   cases h2:C.tt t<;>try rfl
   rename_i e ty bytes;simp only[E_,h2] at hz;have e1:=lk (Y o rfl);have e2:∀z n m,(C.tt e).zero=some z->pT C.dP bytes o st ty n m z=pT C.dP bytes o af ty n m z:=fun z n m hzz=>by
    simp only[hzz] at hz;unfold pT;rw[wM hz,BC hz,e1]
   generalize aP C st 0 l=qy;generalize aP C st 0 c=jO;have c_:∀n m:Int,(match(C.tt e).zero with
      |some z=>pT C.dP bytes o st ty n m z
      |none=>.fail)=(match(C.tt e).zero with
      |some z=>pT C.dP bytes o af ty n m z
      |none=>.fail):=by
    intro n m;cases hzz:(C.tt e).zero with
    |none=>rfl
    |some z=>exact e2 z n m hzz
   rcases qy with(cW|_)|_<;>try rfl
   cases cW<;>try rfl
   rename_i d1;cases d1<;>try rfl
   rcases jO with(ga|_)|_<;>try rfl
   cases ga<;>try rfl
   rename_i d2;cases d2<;>try rfl
   exact c_ _ _
 case slice t x cG hi Bk=>
  cases Bk with
  |some _=>rfl
  |none=>
   simp only;have e1:cG.map (aP C st 0)=cG.map (aP C af 0):=by
    cases cG with
    |none=>rfl
    |some y=>simp only[Option.map_some];rw[he.2 y (by simp)]
   have e2:hi.map (aP C st 0)=hi.map (aP C af 0):=by
    cases hi with
    |none=>rfl
    |some y=>simp only[Option.map_some];rw[he.2 y (by simp)]
   rw[<-he.1,e1,e2];split
   ·exact V4 (fK.1 _)
   ·exact V3 (fK.1 _)
 case fieldAddr s x f=>rw[he]
 case indexAddr t x i=>
  rw[<-he.1,<-he.2];split
  ·rw[Vi (fK.1 _)]
  ·rw[Vj (fK.1 _)]
  ·rfl
 case index t x i=>rw[he.1,he.2]
 case extract t i=>rw[he]
 case call c=>
  obtain⟨akM,args,Hb⟩:=c;simp only;cases akM with
  |invoke r m=>rfl
  |value f=>
   simp only[kT,List.mem_append,List.mem_cons,List.not_mem_nil,or_false] at kW;simp only[y5,forall_const] at hb;simp only[List.mem_append,List.mem_cons,List.not_mem_nil,or_false] at he;have em:∀(xs:List Operand) (cK:List TypeId),(∀x,x∈xs->∀T,aP C st T x=aP C af T x)->f_ C st xs cK=f_ C af xs cK:=by
    intro xs;induction xs with
    |nil=>intro cK _;cases cK<;>rfl
    |cons x xs ih=>
     intro cK h;cases cK with
     |nil=>simp only[f_];rw[h x (by simp),ih [] fun y ak=>h y (List.mem_cons_of_mem _ ak)]
     |cons T cK=>simp only[f_];rw[h x (by simp),ih cK fun y ak=>h y (List.mem_cons_of_mem _ ak)]
   have IN:∀(xs ys:List Operand) (cK:List TypeId),(∀x,x∈xs->x∈ys)->∀o,o∈gx (f_ C st xs cK)->o∈nq st ys:=by
    intro xs ys;induction xs with
    |nil=>intro cK _ o bg;cases cK<;>cases bg
    |cons x xs ih=>
     intro cK h o bg;cases cK with
     |nil=>
      simp only[f_,gx,List.mem_append] at bg;rcases bg with bg|bg
      ·exact xw (h x List.mem_cons_self) o bg
      ·exact ih [] (fun y ak=>h y (List.mem_cons_of_mem _ ak)) o bg
     |cons T cK=>
      simp only[f_,gx,List.mem_append] at bg;rcases bg with bg|bg
      ·exact xw (h x List.mem_cons_self) o bg
      ·exact ih cK (fun y ak=>h y (List.mem_cons_of_mem _ ak)) o bg
   have h1:cc st af (ep st (aP C st 0 f).names):=kW _ fun o bg=>xw (List.mem_append.2 (.inl (by simp))) o bg
   have h2:cc st af (ep st (gx (f_ C st args.toList Hb.toList))):=kW _ fun o bg=>IN _ _ _ (fun x hx=>List.mem_append.2 (.inr hx)) o bg
   have aa:=he f (.inl rfl) 0;have aI:=em args.toList Hb.toList fun x hx=>he x (.inr hx)
   cases dst with
   |none=>show ln C 0 st _ _=ln C 0 af _ _;rw[<-aa,<-aI];exact Je hb h1 h2
   |some d=>show ln C d st _ _=ln C d af _ _;rw[<-aa,<-aI];exact Je hb h1 h2
  |builtin b=>
   simp only[List.nil_append] at he fK;generalize args.toList=xs at he fK;generalize Hb.toList=cV;cases b<;>try rfl
   case append=>
    rcases dst with _|o
    ·rfl
    rcases xs with _|⟨s,_|⟨x,_|_⟩⟩<;>try rfl
    rcases cV with _|⟨t,_|⟨u,_|_⟩⟩<;>try rfl
    have e1:=he s (by simp) t
    have e2:=he x (by simp) u
    dsimp only;cases C.tt t<;>try rfl
    cases C.tt u<;>try rfl
    all_goals dsimp only
    all_goals rw[<-e1,<-e2]
    all_goals first|(rw[Wf (fK x (by simp) _),VS (fK s (by simp) _) (fK x (by simp) _) (Y o rfl),VQ (fK s (by simp) _) (fK x (by simp) _) (Y o rfl)];done)|exact VR (fK s (by simp) _) (Y o rfl)
   case len=>
    rcases xs with _|⟨s,_|⟨x,_|_⟩⟩<;>try rfl
    rcases cV with _|⟨t,_|⟨u,_|_⟩⟩<;>try rfl
    have e1:=he s (by simp) t
    dsimp only;rw[<-e1];exact XR (fK s (by simp) _)
   case max=>
    rcases xs with _|⟨s,_|⟨x,_|⟨z,_|⟨u,_|⟨v,_|_⟩⟩⟩⟩⟩<;>try rfl
    ·have e1:=he s (by simp) type
     have e2:=he x (by simp) type
     dsimp only;rw[<-e1,<-e2]
    ·have e1:=he s (by simp) type
     have e2:=he x (by simp) type
     have bK:=he z (by simp) type
     have c_:=he u (by simp) type
     have fy:=he v (by simp) type
     dsimp only;rw[<-e1,<-e2,<-bK,<-c_,<-fy]
   case min=>
    rcases xs with _|⟨s,_|⟨x,_|_⟩⟩<;>try rfl
    have e1:=he s (by simp) type
    have e2:=he x (by simp) type
    dsimp only;rw[<-e1,<-e2]
section
variable {P:Program}{L:World}{J:List Nat}{X:Nat->Prop}{B:Nat->Value}{st:ad}{tm:Array Value}{w:World}{D:Oper}
structure pF(w:World)(av:Nat->Prop)(B:Nat->Value)(o:Nat)(t:aF)(xs:List (den t))(k off:Nat)(x:den t)(u:aF)(ys:List (den u))(e:TypeId)(v0 nv:Value)(n1 n2 c1 c2:List Value):Prop where
 s_:B o=.tuple (v0::(n1++nv::n2)).toArray
 ID:(bJ (B o)).Nodup
 row:rowAt w t.ek e (ax t) v0 xs.length (c1++nv::c2)
 len:c1.length=k*ax t+off
 d1:Deep w av (flat t (xs.take k)++(enc t x).take off) c1 n1
 mid:∃b3 U,(∀d,d∈flat u ys->d.plain=true)/\rowAt w u.ek b3 (ax u) nv ys.length U/\ch w av (flat u ys) U
 d2:Deep w av ((enc t x).drop (off+1)++flat t (xs.drop (k+1))) c2 n2
theorem ah.acK(S:ah L J X B st tm w){o s k off:Nat}{t u:aF}{xs:List (den t)}{x:den t}{ys:List (den u)}(hl:look st.sites o=some (.deep s t xs))(hx:xs[k]? =some x)(hu:(enc t x)[off]? =some (.sl u ys)):
  ∃e v0 nv n1 n2 c1 c2,pF w (an X B st.sites) B o t xs k off x u ys e v0 nv n1 n2 c1 c2:=by
 obtain⟨e,v0,az,cs,h0,dm,cJ,kW⟩:=S.sites o _ hl;have ag:k<xs.length:=(List.getElem?_eq_some_iff.1 hx).1;have au:off<(enc t x).length:=(List.getElem?_eq_some_iff.1 hu).1;rw[fc] at au;obtain⟨d0,AT,nK⟩:=NS (x:=x) au;rw[hu] at AT;cases AT;have mS:flat t xs=(flat t (xs.take k)++(enc t x).take off)++(.sl u ys::((enc t x).drop (off+1)++flat t (xs.drop (k+1)))):=by
  rw[C4 t hx];conv=>lhs;rw[nK]
  simp only[List.append_assoc,List.cons_append]
 rw[mS] at kW;obtain⟨c1,TK,n1,g6,rfl,rfl,d1,d23⟩:=kW.inv;have cW:c1.length=k*ax t+off:=by
  rw[d1.len,List.length_append,dQ,List.length_take,List.length_take,fc,Nat.min_eq_left (Nat.le_of_lt ag),Nat.min_eq_left (Nat.le_of_lt au)]
 cases d23 with
 |row bF mK b3 U aj h hr k'=>exact⟨e,v0,_,n1,_,c1,_,h0,dm,cJ,cW,d1,⟨b3,U,aj,h,hr⟩,k'⟩
 |leaf aj h k'=>cases aj
theorem pF.agD{av:Nat->Prop}{o:Nat}{t:aF}{xs:List (den t)}{k off:Nat}{x:den t}{u:aF}{ys:List (den u)}{e:TypeId}{v0 nv:Value}{n1 n2 c1 c2:List Value}(N:pF w av B o t xs k off x u ys e v0 nv n1 n2 c1 c2):
  (∀b,a6 nv=some b->b∈bJ (B o))/\(∀b,a6 v0=some b->a6 nv≠some b)/\(∀n,n∈n1->∀b,a6 n=some b->a6 nv≠some b)/\∀n,n∈n2->∀b,a6 n=some b->a6 nv≠some b:=by
 have dm:=N.ID;rw[N.s_] at dm;simp only[bJ,List.flatMap_cons,List.flatMap_append] at dm;obtain⟨a1,a2,gQ⟩:=List.nodup_append.1 dm;obtain⟨aU,aJ,bQ⟩:=List.nodup_append.1 a2;obtain⟨aoH,aoG,c3⟩:=List.nodup_append.1 aJ;refine⟨fun b hb=>by rw[N.s_];exact im.2 (.inr ⟨nv,by simp,hb⟩),fun b hb hn=>?_,fun n hn b hb hv=>?_,fun n hn b hb hv=>?_⟩
 ·exact gQ b (by rw[hb];simp) b (List.mem_append.2 (.inr (List.mem_append.2 (.inl (by rw[hn];simp))))) rfl
 ·exact bQ b (List.mem_flatMap.2 ⟨n,hn,by rw[hb];simp⟩) b (List.mem_append.2 (.inl (by rw[hv];simp))) rfl
 ·exact c3 b (by rw[hv];simp) b (List.mem_flatMap.2 ⟨n,hn,by rw[hb];simp⟩) rfl
theorem Kj{C:Ctx}{D:Oper}{dP:Nat}{v:aK}(h:uj C st D=some (dP,v)):∃x,D.op=.move x/\D.dst=some dP/\D.guard=none/\Nat.blt dP st.nt=true/\v=aP C st D.type x:=by
 unfold uj at h;split at h
 ·rename_i x d au Y hg;cases hb:Nat.blt d st.nt with
  |false=>rw[hb] at h;cases h
  |true=>
   rw[hb] at h;cases h;exact⟨x,au,Y,hg,hb,rfl⟩
 ·cases h
theorem B9{C:Ctx}{o1 fg o2:Oper}{q:pP}(h:rS C st o1 fg o2=some q):∃T a e iK aU c g x,o1.op=.load T a/\o1.dst=some q.d1/\o1.guard=none/\o2.op=.call c/\o2.guard=none/\C.tt T=.slice e iK aU/\aP C st T a=.av (.ai (.ej q.o q.s q.t q.k q.off))/\
  st.O q.o=some (.deep q.s q.t q.xs)/\c.callee=.value (.func g)/\c.args.toList=[.tmp q.d1,x]/\C.bN g=some q.S/\aP C (st.nE q) 0 x=.av (.ai (.d (.int q.i q.n)))/\Nat.blt q.d1 st.nt=true/\
  uj C (st.set q.d1 (bP .any)) fg=some (q.dP,q.v)/\q.dP≠q.d1:=by
 unfold rS at h;split at h
 ·rename_i T a d1 c AJ jh gp kg o6;split at h
  ·rename_i o s u k off a9;split at h
   ·rename_i am t xs g d2 x M hc jB;split at h
    ·rename_i dP v hm;split at h
     ·rename_i e iK aU i n S aZ hx gP;cases hb:(d2.beq d1&&am.beq s&&decide (t=u)&&Nat.blt d1 st.nt&&!dP.beq d1) with
      |false=>rw[hb] at h;cases h
      |true=>
       rw[hb] at h;simp only[cond_true,Option.some.injEq] at h;simp only[Bool.and_eq_true,decide_eq_true_eq,Bool.not_eq_true'] at hb;obtain⟨⟨⟨⟨q1,q2⟩,dB⟩,l8⟩,qB⟩:=hb;have q1:=Nat.eq_of_beq_eq_true q1;have q2:=Nat.eq_of_beq_eq_true q2;subst q1 q2 dB h;exact⟨T,a,e,iK,aU,c,g,x,AJ,jh,gp,kg,o6,aZ,a9,M,hc,jB,gP,hx,l8,hm,fun e=>by
        have e:dP=_:=e;subst e;rw[Nat.beq_refl] at qB;cases qB⟩
     ·cases h
    ·cases h
   ·cases h
  ·cases h
 ·cases h
theorem abo(S:ah L J X B st tm w){C:Ctx}{fg:Oper}{dP:Nat}{v:aK}(h:uj C st fg=some (dP,v)){K:Act->World->Prop}{Q:Exit->Act->World->Prop}
  (bC:∀dk,ah L J X B (st.set dP v) dk w->(∀t,t≠dP->dk.getD t undef=tm.getD t undef)->K ⟨dk,[]⟩ w):fg.wp P ⟨tm,[]⟩ w K Q:=by
 obtain⟨x,au,Y,hg,a3,rfl⟩:=Kj h;refine mm (vv:=Act.eval ⟨tm,[]⟩ x) ?_ (bC _ ?_ fun t aC=>?_)
 ·unfold execOp;simp only[au,Sem.run_bind,Sem.run_pure]
 ·have l2:b6 st fg.dst=true:=by rw[Y];exact a3
  have:=ah.cu (us:=[]) S l2 (cT S C fg.type x);rw[Y] at this ⊢;exact this
 ·rw[Y];have:dP≠t:=fun e=>aC e.symm
  simp[cl,Array.getD_eq_getD_getElem?,Array.getElem?_setIfInBounds_ne this]
theorem _P(S:ah L J X B st tm w){C:Ctx}(ay:a7 P C){o1 fg o2:Oper}{q:pP}(aD:rS C st o1 fg o2=some q){x:den q.t}(hx:q.xs[q.k]? =some x){u:aF}{ys:List (den u)}(hu:(enc q.t x)[q.off]? =some (.sl u ys))
  {K:Act->World->Prop} {Q:Exit->Act->World->Prop}
  (bC:∀dk,ah L J X B (st.set q.d1 (bP .any)) dk w->(∀t,t≠q.d1->dk.getD t undef=tm.getD t undef)->(∃e v0 n1 n2 c1 c2,pF w (an X B st.sites) B q.o q.t q.xs q.k q.off x u ys e v0 (dk.getD q.d1 undef) n1 n2 c1 c2)->K ⟨dk,[]⟩ w):o1.wp P ⟨tm,[]⟩ w K Q:=by
 obtain⟨T,a,l',iK,aU,c,g,jO,AJ,jh,gp,kg,o6,aZ,a9,M,hc,jB,gP,Ht,a3,qi,hne⟩:=B9 aD;have hl:look st.sites q.o=some (.deep q.s q.t q.xs):=M;obtain⟨e,v0,nv,n1,n2,c1,c2,N⟩:=S.acK hl hx hu;have bn:=cT S C T a;rw[a9] at bn;obtain⟨b,hv,hr⟩:=bn;obtain⟨n,am0,bW⟩:=Ref.at hr hl rfl;rw[N.s_] at bW;replace bW:v0=.slice (some ⟨b,0,none⟩) n am0:=bW
 have iX:w.cell? ⟨b,q.k*ax q.t+q.off,none⟩=some nv:=by
  rcases N.row.2 with⟨h,_⟩|⟨cv,cap,cur,bG,h1,_,h2,_,_,_,aa⟩
  ·rw[h] at bW;cases bW
  ·rw[h1] at bW;cases bW;rw[cell_of_row w b _ cur e bG h2];have:(cur.toList.take (q.xs.length*ax q.t))[q.k*ax q.t+q.off]? =some nv:=by
    rw[aa,List.getElem?_append_right (by rw[N.len];exact Nat.le_refl _),N.len,Nat.sub_self]
    rfl
   rw[List.getElem?_take] at this;split at this
   ·simpa using this
   ·cases this
 have bM:=ay.tt T;rw[aZ] at bM;have cI:=qK (P:=P) (w:=w) bM (by rintro h;cases h) ⟨b,q.k*ax q.t+q.off,none⟩ [nv] rfl (fun j y ak=>by
  match j,ak with
  |0,ak=>
   simp only[List.getElem?_cons_zero,Option.some.injEq] at ak;subst ak;rw[gh,Nat.add_zero];exact iX)
 have afY:(cl tm o1.dst nv).getD q.d1 undef=nv:=by
  rw[jh];have:q.d1<tm.size:=by rw[S.nt];exact Nat.le_of_ble_eq_true a3
  simp[cl,Array.getD_eq_getD_getElem?,this]
 refine mm (vv:=nv) ?_ (bC _ ?_ (fun t aC=>?_) ?_)
 ·unfold execOp;simp only[AJ,Instr.loadAt,Instr.sureAddr,hv,Sem.run_bind,Sem.run_pure,Result.andThen_ok,cI];rfl
 ·have Y:b6 st o1.dst=true:=by rw[jh];exact a3
  have:=ah.cu (us:=[]) (v:=bP .any) (vv:=nv) S Y trivial;rw[jh] at this ⊢;exact this
 ·rw[jh];have:q.d1≠t:=fun e=>aC e.symm
  simp[cl,Array.getD_eq_getD_getElem?,Array.getElem?_setIfInBounds_ne this]
 ·rw[afY];exact⟨e,v0,n1,n2,c1,c2,N⟩
theorem _O{dk:Array Value}{C:Ctx}(ay:a7 P C){o1 fg o2:Oper}{q:pP}(aD:rS C st o1 fg o2=some q)(S:ah L J X B (st.nE q) dk w){x:den q.t}(hx:q.xs[q.k]? =some x){u:aF}{ys:List (den u)}(hu:(enc q.t x)[q.off]? =some (.sl u ys))
  {e:TypeId} {v0:Value} {n1 n2 c1 c2:List Value} (N:pF w (an X B st.sites) B q.o q.t q.xs q.k q.off x u ys e v0 (dk.getD q.d1 undef) n1 n2 c1 c2) {y:(q.S [.av (.ai (.fresh u ys)),.av (.ai (.d (.int q.i q.n)))]).H}
  (ak:(q.S [.av (.ai (.fresh u ys)),.av (.ai (.d (.int q.i q.n)))]).comp=some y) {d:aL} {bF:aF} {mK:List (den bF)} (h1:(q.S [.av (.ai (.fresh u ys)),.av (.ai (.d (.int q.i q.n)))]).eQ y=[.ai (.d d)]) (h2:(q.S [.av (.ai (.fresh u ys)),.av (.ai (.d (.int q.i q.n)))]).dH y=[])
  (aa:(q.S [.av (.ai (.fresh u ys)),.av (.ai (.d (.int q.i q.n)))]).ew y=[.fresh bF mK]) {cU:den q.t} (d_:dec q.t (a8 (enc q.t x) q.off [.sl bF mK])=some cU) (mS:d.hR=true) (fZ:bF.gU=false) (Y:b6 st o2.dst=true)
  {K:Act->World->Prop} {Q:Exit->Act->World->Prop}
  (bC:∀aA bT w',ah L J X aA (((st.nE q).cu o2.dst (one d) [(q.o,.deep q.s q.t (q.xs.set q.k cU))])) bT w'->K ⟨bT,[]⟩ w'):o2.wp P ⟨dk,[]⟩ w K Q:=by
 obtain⟨T,a,l',iK,aU,c,g,jO,AJ,jh,gp,kg,o6,aZ,a9,M,hc,jB,gP,Ht,a3,qi,hne⟩:=B9 aD;have hl:look (st.nE q).sites q.o=some (.deep q.s q.t q.xs):=M;obtain⟨nv,vK⟩:∃nv,dk.getD q.d1 undef=nv:=⟨_,rfl⟩;rw[vK] at N;have N:pF w (an X B (st.nE q).sites) B q.o q.t q.xs q.k q.off x u ys e v0 nv n1 n2 c1 c2:=N;generalize z5:st.nE q=dL at S hl Ht N bC;have l2:b6 dL o2.dst=true:=by rw[<-z5];exact Y
 obtain⟨aB,ao,bu,b'⟩:=N.agD;have fD:bX dL.sites q.o:=⟨_,hl,rfl⟩;have ag:q.k<q.xs.length:=(List.getElem?_eq_some_iff.1 hx).1;have au:q.off<ax q.t:=by
  have:=(List.getElem?_eq_some_iff.1 hu).1;rwa[fc] at this
 have oP:=cT S C 0 jO;rw[Ht] at oP;have agc:Act.eval ⟨dk,[]⟩ jO=.int q.i q.n:=by
  have oP:bi w _ (.int q.i q.n) (Act.eval ⟨dk,[]⟩ jO):=oP;generalize Act.eval ⟨dk,[]⟩ jO=v at oP;cases oP;rfl
 have hvs:c.args.toList.map (Act.eval ⟨dk,[]⟩)=[nv,.int q.i q.n]:=by
  rw[jB];simp only[List.map_cons,List.map_nil,agc];have:Act.eval ⟨dk,[]⟩ (.tmp q.d1)=nv:=vK;rw[this]
 have cI:(execOp (Act.eval ⟨dk,[]⟩) o2).run P w=(callFunc g #[nv,.int q.i q.n]).run P w:=by
  have hf:Act.eval ⟨dk,[]⟩ (.func g)=.func (.func g) #[] #[]:=rfl;have qF:(#[]++c.args.map (Act.eval ⟨dk,[]⟩))++#[]=#[nv,.int q.i q.n]:=by
   apply Array.ext';simpa using hvs
  unfold execOp;simp only[kg,resolve,hc,hf,Deferred.ofValue,Sem.run_bind,Sem.run_pure,Result.andThen_ok,invoke,qF]
 obtain⟨b3,U,kf,cJ,dF⟩:=N.mid;obtain⟨cE,o_⟩:∃cE,(a6 nv).toList=cE:=⟨_,rfl⟩;have Qr:∀b,b∈cE <-> a6 nv=some b:=fun b=>by rw[<-o_];simp
 obtain⟨X',mT⟩:∃X':Nat->Prop,∀b,X' b <-> (an X B dL.sites b/\b∉cE):=⟨_,fun b=>Iff.rfl⟩
 have Nh:∀{av bS:Nat->Prop} {w:World} {t:aF} {fN:List (den t)} {vs:List Value},(∀d,d∈flat t fN->d.plain=true)->ch w av (flat t fN) vs->ch w bS (flat t fN) vs:=fun aj hr=>⟨hr.1,fun j g1 g2=>by
  have nV:=aj _ (List.getElem_mem g1);refine tH ?_ (hr.2 j g1 g2);generalize(flat _ _)[j]=wu at nV ⊢;cases wu<;>first|rfl|cases nV⟩
 have abz:h3 w (fun b=>X' b\/b∈cE) [.av (.ai (.fresh u ys)),.av (.ai (.d (.int q.i q.n)))] [nv,.int q.i q.n] cE:=
  ⟨cE,[],by simp,⟨o_.symm,b3,U,cJ,Nh kf dF⟩,[],[],rfl,⟨rfl,.int _ _⟩,rfl⟩
 have agq:∀b,X' b->b<w.heap.size:=fun b hb=>S.lt ((mT b).1 hb).1
 have hG:hO w cE X':=by
  obtain⟨g1,g2⟩:=S.jR;refine⟨g1,fun b hb h=>?_,fun b hb h=>(g2 b hb).1 ((mT b).1 h).1,fun b hb=>(g2 b hb).2⟩
  exact(g2 b hb).1 (.inr ⟨q.o,fD,aB b ((Qr b).1 h)⟩)
 have E:=ay.bN g q.S gP _ y ak w X' [nv,.int q.i q.n] cE abz (by rw[<-o_];cases a6 nv<;>simp) (fun b hb hx=>((mT b).1 hx).2 hb) agq hG
 refine xd (vs:=[nv,.int q.i q.n]) cI E ?_
 rintro v w' ⟨dR,dt,rv,aR,gr,hA,rfl,aob,hm⟩;obtain⟨fO,gK,rfl,hb1,hb2⟩:=gr;rw[h2] at hb1;rw[h1] at hA;rw[aa] at hb2;have mQ:eZ [.av (.ai (.fresh u ys)),.av (.ai (.d (.int q.i q.n)))] [nv,.int q.i q.n]=[nv]:=by
  simp only[eZ,bz.cells,fR,aw.q8,Bool.and_true,cond_false,cond_true,List.append_nil,Bool.true_and];exact Cs (BE cJ)
 rw[mQ] at hb2;have hb2:fU w' (fun b=>X' b\/b∈fO++gK++dt) [.fresh bF mK] [nv] gK:=hb2.resolve_left fun h=>by cases h.1
 obtain⟨ic,eX,hz,⟨vr,e2,ai9,adZ,afV⟩,aov⟩:=hb2;match rv,hA with
 |[v1],⟨a1,a2,aoe,jf,HU⟩=>
 have jf:a1=[]/\bi w' _ d v1:=jf;have aj5:aw.gU (.d d)=false:=by cases d<;>first|rfl|cases mS
 have qf:∀av,bi w' av d v1:=fun av=>tH aj5 jf.2
 have zF:enc q.t cU=(enc q.t x).take q.off++.sl bF mK::(enc q.t x).drop (q.off+1):=by rw[nw _ _ _ d_,Kc]
 have mH:flat q.t (q.xs.set q.k cU)=(flat q.t (q.xs.take q.k)++(enc q.t x).take q.off)++(.sl bF mK::((enc q.t x).drop (q.off+1)++flat q.t (q.xs.drop (q.k+1)))):=by
  rw[xc q.t ag,zF];simp only[List.append_assoc,List.cons_append]
 have zB:∀b,b<w.heap.size->a6 nv≠some b->w'.heap[b]? =w.heap[b]? :=fun b hb hn=>aR.block b hb fun h=>hn ((Qr b).1 h)
 have zZ:∀b,b∈bJ (B q.o)->b<w.heap.size:=fun b hb=>S.dX fD hb
 have vo:∀n,n∈n1\/n∈n2->∀b,a6 n=some b->b∈bJ (B q.o):=fun n hn b hb=>by
  rw[N.s_];exact im.2 (.inr ⟨n,by simp only[List.mem_append,List.mem_cons];exact hn.imp id .inr,hb⟩)
 have G:=S.u3 (o:=q.o) (bI:=.deep q.s q.t (q.xs.set q.k cU)) (nv:=B q.o) (w':=w') (ks:=[]) (K:=[q.o]) .nil (fun F=>by simp[keys];intro e;subst e;exact fD)
  (fun b hb hne=>zB b hb fun h=>hne q.o (by simp) (aB b h)) aR.os aR.tape aR.output aR.size rfl (fun O M=>by rw[hl] at M;cases M;exact .inr ⟨rfl,rfl⟩)
  (fun b hb=>⟨Nat.lt_of_lt_of_le (zZ b hb) aR.size,.inl ⟨q.o,by simp,hb⟩⟩) (fun {bo aA} dJ go=>?_)
 ·have Fk:(fun F=>if F=q.o then B q.o else B F)=B:=by funext F;by_cases e:F=q.o<;>simp[e]
  rw[Fk] at G;exact bC B _ w' (ah.cu (us:=[(q.o,.deep q.s q.t (q.xs.set q.k cU))]) G l2 (v:=one d) (qf _))
 ·have ji:∀{d v},bi w (an X B dL.sites) d v->bi _ (an X aA bo) d v:=jy go;refine⟨e,v0,n1++nv::n2,c1++nv::c2,dJ.trans N.s_,by rw[dJ];exact N.ID,?_,?_⟩
  ·rw[List.length_set];refine pm N.row fun b hb=>zB b (zZ b ?_) (ao b hb)
   rw[N.s_];exact im.2 (.inl hb)
  ·rw[mH];refine(N.d1.map ji fun n hn b hb=>zB b (zZ b (vo n (.inl hn) b hb)) (bu n hn b hb)).cu (.row bF mK e2 ai9 (BS fZ) adZ (Nh (BS fZ) afV) (N.d2.map ji fun n hn b hb=>zB b (zZ b (vo n (.inr hn) b hb)) (b' n hn b hb)))
end
def eo(r:Option Nat):Fence:={Fence.wide with round:=r}
abbrev fQ(r:Option Nat)(P:Program)(c:Code)(Q:Exit->Act->World->Prop)(a:Act)(w:World):Prop:=c.wpIn (eo r) 0 P Q a w
theorem zR(r:Option Nat)(f:FuncId):(eo r).fn f:=trivial
theorem M3(r:Option Nat)(n:Nat):(eo r).room n:=fun _ h=>by simp[eo,Fence.wide] at h
theorem fQ.any{r:Option Nat}{P:Program}{c:Code}{Q:Exit->Act->World->Prop}{a:Act}{w:World}(h:fQ r P c Q a w)(n:Nat):c.wpIn (eo r) n P Q a w:=
 fun b k cs HF hb _=>h b k cs HF hb (M3 r _)
theorem fQ.of{r:Option Nat}{P:Program}{c:Code}{Q:Exit->Act->World->Prop}{a:Act}{w:World}{n:Nat}(h:c.wpIn (eo r) n P Q a w):fQ r P c Q a w:=
 fun b k cs HF hb _=>h b k cs HF hb (M3 r _)
theorem fQ.wp{P:Program}{c:Code}{Q:Exit->Act->World->Prop}{a:Act}{w:World}(h:fQ none P c Q a w):c.wp P Q a w:=(wpIn_wide (n:=0)).1 h
theorem Yb{r:Option Nat}{n:Nat}{P:Program}{f:FuncId}{args:Array Value}{w:World}{R:Ending->World->Prop}(h:Calls P f args w R):CallsIn (eo r) n P f args w R:=by
 cases r with
 |none=>exact callsIn_wide.2 h
 |some l=>exact CallsIn.inRound l (callsIn_wide.2 h)
theorem Y2{r:Option Nat}{n:Nat}{P:Program}{row:String}{args:Array Value}{w:World}{R:Value->World->Prop}(h:Rows P row args w R):RowsIn (eo r) n P row args w R:=by
 intro c cs _;obtain⟨v,w',hr,M⟩:=h c cs;exact⟨v,w',hr,stepsIn_wide.2 M⟩
theorem tI(tm:Array Value)(ds:List Deferred)(dst:Option Nat)(v:Value):(⟨tm,ds⟩:Act).put dst v=⟨cl tm dst v,ds⟩:=by cases dst<;>rfl
theorem rQ{P:Program}{D:Oper}{tm:Array Value}{w:World}{K:Act->World->Prop}(bC:∀a w,K a w->a.defers=[])(h:D.wp P ⟨tm,[]⟩ w K (fun _ _ _=>False))(r:Option Nat)(ds:List Deferred){Q:Exit->Act->World->Prop}:
  D.wpIn (eo r) 0 P ⟨tm,ds⟩ w (fun fh w'=>∃v,fh=⟨cl tm D.dst v,ds⟩/\K ⟨cl tm D.dst v,[]⟩ w') Q:=by
 refine⟨fun f _=>zR r f,?_⟩
 have bn:(⟨tm,ds⟩:Act).eval=(⟨tm,[]⟩:Act).eval:=by funext x;cases x<;>rfl
 rw[bn];unfold Oper.wp at h;have Y:∀c,D.op≠.defer c:=by
  intro c au;have:(execOp (Act.eval ⟨tm,[]⟩) D)=(do let d <-resolve (Act.eval ⟨tm,[]⟩) c D.type;pure (.defer d)):=by
   unfold execOp;simp only[au]
  rw[this] at h;simp only[Sem.run_bind] at h;cases hr:(resolve (Act.eval ⟨tm,[]⟩) c D.type).run P w with
  |ok d w'=>
   rw[hr] at h;simp only[Result.andThen_ok,Sem.run_pure,Oper.upon] at h;have:=bC _ _ h;cases da:D.dst<;>rw[da] at this<;>simp[Act.put] at this
  |halt x w'=>
   rw[hr] at h;cases x<;>simp[Result.andThen,Oper.upon] at h
 rw[Oper.semAt_eq _ _ _ Y];generalize(execOp (Act.eval ⟨tm,[]⟩) D).run P w=eQ at h;have aj:∀v,(⟨tm,ds⟩:Act).put D.dst v=⟨cl tm D.dst v,ds⟩:=tI tm ds D.dst;have nU:∀v,(⟨tm,[]⟩:Act).put D.dst v=⟨cl tm D.dst v,[]⟩:=tI tm [] D.dst;cases eQ with
 |ok x w'=>
  cases x with
  |value v=>simp only[Oper.upon,Oper.uponIn,nU] at h ⊢;exact⟨v,aj v,h⟩
  |skip=>simp only[Oper.upon,Oper.uponIn,nU] at h ⊢;exact⟨undef,aj _,h⟩
  |defer d=>
   simp only[Oper.upon] at h;have:=bC _ _ h;cases da:D.dst<;>rw[da] at this<;>simp[Act.put] at this
  |enter f args=>
   simp only[Oper.upon,Oper.uponIn] at h ⊢;refine⟨fun h=>by simp[eo,Fence.wide] at h,(Yb h).mono fun e An he=>?_⟩
   cases e with
   |returned v=>simp only[nU] at he;exact⟨v,aj v,he⟩
   |panicked c=>exact he.elim
   |outgrown=>obtain⟨ao6,L,aD⟩:=he;exact aD.elim
  |row row args=>
   simp only[Oper.upon,Oper.uponIn] at h ⊢;refine⟨fun h=>by simp[eo,Fence.wide] at h,(Y2 h).mono fun v An he=>?_⟩
   simp only[nU] at he;exact⟨v,aj v,he⟩
  |_=>simp only[Oper.upon] at h
 |halt x w'=>
  cases x<;>simp only[Oper.upon] at h
def hS:List Oper->List Nat
 |[]=>[]
 |D::r=>D.dst.toList++hS r
def gR:Nat:=1000000000
def cm:Code->List Nat
 |.region _ ops _=>hS ops.toList
 |.seq a b|.cond _ a b=>cm a++cm b
 |.block _ a|.loop a=>cm a
 |.rangeFunc _ ps a b=>gR::(ps.toList++(cm a++cm b))
 |_=>[]
def gz:Code->Bool
 |.seq a b|.cond _ a b=>gz a&&gz b
 |.block _ a|.loop a=>gz a
 |.rangeFunc _ _ _ _=>false
 |_=>true
def mark(aL:Nat):Deferred:={target:=.collected aL,args:=#[]}
structure hy(L:World)(J:List Nat)(X:Nat->Prop)(b5:World)(dr:List Nat)(cQ:Nat->Prop):Prop where
 cw:∀w,Fr dr b5 w->Fr J L w
 b7:∀b,(b∈dr\/b5.heap.size<=b)->(b∈J\/L.heap.size<=b)
 x:∀b,X b->cQ b
structure Marks(L:World)(du:List Nat)(b5:World)(dr:List Nat)(cQ:Nat->Prop):Prop where
 nodup:du.Nodup
 new:∀aL,aL∈du->L.heap.size<=aL
 gN:∀aL,aL∈du->b5.heap[aL]? =some (.deferred (some []))/\aL∉dr/\cQ aL
def ec(L:World)(J:List Nat)(X:Nat->Prop)(ds:List Deferred)(eu:Array Value)(W:List Nat)(st:ad)(a:Act)(w:World):Prop:=
 ∃b5 dr cQ B du,hy L J X b5 dr cQ/\Marks L du b5 dr cQ/\(a.defers=du.map mark++ds/\(gR∉W->du=[]))/\ah b5 dr cQ B st a.tmps w/\∀t,t∉W->a.tmps.getD t undef=eu.getD t undef
def e0(L:World)(J:List Nat)(X:Nat->Prop)(ds:List Deferred)(eu:Array Value)(W:List Nat):Out->Exit->Act->World->Prop
 |.norm st,.normal,a,w=>ec L J X ds eu W st a w
 |.exit id st,.exit ia,a,w=>id=ia/\ec L J X ds eu W st a w
 |.ret st,.ret,a,w=>ec L J X ds eu W st a w
 |_,_,_,_=>False
theorem hy.refl(L:World)(J:List Nat)(X:Nat->Prop):hy L J X L J X:=⟨fun _ h=>h,fun _ h=>h,fun _ h=>h⟩
theorem hy.trans{L b5 w2:World}{J dr eG:List Nat}{X cQ cx:Nat->Prop}(h:hy L J X b5 dr cQ)(k:hy b5 dr cQ w2 eG cx):hy L J X w2 eG cx:=
 ⟨fun w hw=>h.cw w (k.cw w hw),fun b hb=>h.b7 b (k.b7 b hb),fun b hb=>k.x b (h.x b hb)⟩
theorem Marks.nil(L b5:World)(J:List Nat)(X:Nat->Prop):Marks L [] b5 J X:=⟨List.nodup_nil,fun _ h=>by simp at h,fun _ h=>by simp at h⟩
theorem Marks.lt{L b5:World}{J:List Nat}{X:Nat->Prop}{du:List Nat}(h:Marks L du b5 J X){aL:Nat}(ez:aL∈du):aL<b5.heap.size:=by
 have:=(h.gN aL ez).1;exact(Array.getElem?_eq_some_iff.1 this).1
theorem Marks.trans{L b5 w2:World}{J dr eG:List Nat}{X cQ cx:Nat->Prop}{du Be:List Nat}(hb:hy L J X b5 dr cQ)(h:Marks L du b5 dr cQ)(k:hy b5 dr cQ w2 eG cx)(m:Marks b5 Be w2 eG cx):
  Marks L (Be++du) w2 eG cx:=by
 have hf:Fr dr b5 w2:=k.cw w2 (Fr.refl _ _);refine⟨List.nodup_append.2 ⟨m.nodup,h.nodup,fun a a9 b hb e=>?_⟩,fun aL ez=>?_,fun aL ez=>?_⟩
 ·subst e;have h1:=m.new a a9;have h2:=h.lt hb;omega
 ·rcases List.mem_append.1 ez with ez|ez
  ·have h1:=m.new aL ez;have h2:Fr J L b5:=hb.cw b5 (Fr.refl _ _);have:=h2.size;omega
  ·exact h.new aL ez
 ·rcases List.mem_append.1 ez with ez|ez
  ·exact m.gN aL ez
  ·obtain⟨h1,h2,aa⟩:=h.gN aL ez;have a3:=h.lt ez;refine⟨(hf.block aL a3 h2).trans h1,fun aI=>?_,k.x aL aa⟩
   rcases k.b7 aL (.inl aI) with bD|bD
   ·exact h2 bD
   ·omega
section
variable {L:World}{J:List Nat}{X:Nat->Prop}{ds:List Deferred}{eu:Array Value}{W:List Nat}
theorem ec.of{B:Nat->Value}{st:ad}{tm:Array Value}{w:World}(S:ah L J X B st tm w)(aC:∀t,t∉W->tm.getD t undef=eu.getD t undef):ec L J X ds eu W st ⟨tm,ds⟩ w:=
 ⟨L,J,X,B,[],hy.refl _ _ _,Marks.nil _ _ _ _,⟨rfl,fun _=>rfl⟩,S,aC⟩
theorem ec.mono{cS:List Nat}(h:∀t,t∈W->t∈cS){st:ad}{a:Act}{w:World}(k:ec L J X ds eu W st a w):ec L J X ds eu cS st a w:=by
 obtain⟨b5,dr,cQ,B,du,h1,h2,aa,aI,bD⟩:=k;exact⟨b5,dr,cQ,B,du,h1,h2,⟨aa.1,fun hn=>aa.2 fun ab=>hn (h _ ab)⟩,aI,fun t aC=>bD t fun ab=>aC (h t ab)⟩
theorem e0.mono{cS:List Nat}(h:∀t,t∈W->t∈cS):∀{D:Out} {e:Exit} {a:Act} {w:World},e0 L J X ds eu W D e a w->e0 L J X ds eu cS D e a w:=by
 intro D e a w k;cases D<;>cases e<;>first|exact ec.mono h k|exact⟨k.1,ec.mono h k.2⟩|exact k.elim
theorem ec.trans{b5:World}{dr:List Nat}{cQ:Nat->Prop}{du:List Nat}{W1 iM:List Nat}{dk:Array Value}(hb:hy L J X b5 dr cQ)(hm:Marks L du b5 dr cQ)(hr:gR∉W1->du=[])(aC:∀t,t∉W1->dk.getD t undef=eu.getD t undef)
  {st:ad} {a:Act} {w:World} (k:ec b5 dr cQ (du.map mark++ds) dk iM st a w):ec L J X ds eu (W1++iM) st a w:=by
 obtain⟨w2,eG,cx,B,Be,h1,h2,aa,aI,bD⟩:=k;refine⟨w2,eG,cx,B,Be++du,hb.trans h1,hm.trans hb h1 h2,⟨by rw[aa.1,List.map_append,List.append_assoc],fun hn=>by
  simp only[List.mem_append,not_or] at hn;rw[aa.2 hn.2,hr hn.1];rfl⟩,aI,fun t Hz=>?_⟩
 simp only[List.mem_append,not_or] at Hz;rw[bD t Hz.2,aC t Hz.1]
theorem e0.trans{b5:World}{dr:List Nat}{cQ:Nat->Prop}{du:List Nat}{W1 iM:List Nat}{dk:Array Value}(hb:hy L J X b5 dr cQ)(hm:Marks L du b5 dr cQ)(hr:gR∉W1->du=[])(aC:∀t,t∉W1->dk.getD t undef=eu.getD t undef)
  {D:Out} {e:Exit} {a:Act} {w:World} (k:e0 b5 dr cQ (du.map mark++ds) dk iM D e a w):e0 L J X ds eu (W1++iM) D e a w:=by
 cases D<;>cases e<;>first|exact ec.trans hb hm hr aC k|exact⟨k.1,ec.trans hb hm hr aC k.2⟩|exact k.elim
end
def bp(P:Program)(c:Code)(f:gJ):Prop:=
 ∀r,r=none\/gz c=true->∀L J X st y,(f st).comp=some y->∀B tm w ds,ah L J X B st tm w->fQ r P c (e0 L J X ds tm (cm c) ((f st).out y)) ⟨tm,ds⟩ w
def fV(P:Program)(C:g5):Code->Nat->Prop
 |.seq a b,p=>(∀f,C.nP p=some f->bp P (.seq a b) f)/\fV P C a (2*p)/\fV P C b (2*p+1)
 |.cond c a b,p=>(∀f,C.nP p=some f->bp P (.cond c a b) f)/\fV P C a (2*p)/\fV P C b (2*p+1)
 |.block id a,p=>(∀f,C.nP p=some f->bp P (.block id a) f)/\fV P C a (2*p)
 |c,p=>∀f,C.nP p=some f->bp P c f
def fE:Code->Nat->List (Nat×Code)
 |.seq a b,p=>(p,.seq a b)::(fE a (2*p)++fE b (2*p+1))
 |.cond c a b,p=>(p,.cond c a b)::(fE a (2*p)++fE b (2*p+1))
 |.block id a,p=>(p,.block id a)::fE a (2*p)
 |c,p=>[(p,c)]
theorem MG{P:Program}{C:g5}:∀(c:Code) (p:Nat),(∀q fp,(q,fp)∈fE c p->∀f,C.nP q=some f->bp P fp f)->fV P C c p:=by
 intro c;induction c with
 |seq a b lQ p4=>
  intro p h;simp only[fE] at h;exact⟨h p _ List.mem_cons_self,lQ _ fun q fp hm=>h q fp (List.mem_cons_of_mem _ (List.mem_append.2 (.inl hm))),p4 _ fun q fp hm=>h q fp (List.mem_cons_of_mem _ (List.mem_append.2 (.inr hm)))⟩
 |cond D a b lQ p4=>
  intro p h;simp only[fE] at h;exact⟨h p _ List.mem_cons_self,lQ _ fun q fp hm=>h q fp (List.mem_cons_of_mem _ (List.mem_append.2 (.inl hm))),p4 _ fun q fp hm=>h q fp (List.mem_cons_of_mem _ (List.mem_append.2 (.inr hm)))⟩
 |block id a lQ=>
  intro p h;simp only[fE] at h;exact⟨h p _ List.mem_cons_self,lQ _ fun q fp hm=>h q fp (List.mem_cons_of_mem _ hm)⟩
 |_=>intro p h;exact h p _ (by simp[fE])
section
variable {P:Program}{L:World}{J:List Nat}{X:Nat->Prop}{B:Nat->Value}{st:ad}{tm:Array Value}{w:World}
theorem ah.lq(S:ah L J X B st tm w){t:Nat}{v:aK}(hv:b_ B st.sites w (an X B st.sites) v (tm.getD t undef)):ah L J X B (st.set t v) tm w:=by
 refine⟨S.nt,fun u=>?_,S.sites,S.de,S.b7,S.frame,S.old,S.eS⟩
 rw[ad.D6];by_cases h:t=u
 ·subst h;simp only[if_true];exact hv
 ·simp only[h,if_false];exact S.cF u
variable {R:Type}{C:Ctx}{ops:Array Oper}
theorem KX(S:ah L J X B st tm w)(ay:a7 P C){D:Oper}{K:ad->Option R}{r:R}(h:jY C st D K=some r){N:Act->World->Prop}{Q:Exit->Act->World->Prop}
  (bC:∀af aA bT w',K af=some r->ah L J X aA af bT w'->N ⟨bT,[]⟩ w'):D.wp P ⟨tm,[]⟩ w N Q:=by
 unfold jY at h;cases Y:b6 st D.dst with
 |false=>simp[Y] at h
 |true=>
  simp only[Y,cond_true] at h;have M:=aaC S ay Y;cases hc:(step C st D).comp with
  |none=>simp[hc] at h
  |some y=>
   simp only[hc,Option.bind_some] at h;cases ag:(step C st D).qt y with
   |false=>simp[ag] at h
   |true=>
    simp only[ag,cond_true] at h;exact M y hc ag N Q fun aA bT w' bZ=>bC _ aA bT w' h bZ
theorem Xv{T e:TypeId}(h:P.underlying T=some (.slice e))(a:Option Addr)(n c:Nat)(neg:Bool):
  (binOp (if neg then .neq else .eql) T (.slice a n c) (.slice none 0 0)).run P w=.ok (.bool (if neg then !a.isNone else a.isNone)) w:=by
 have e:(Op.equal T (.slice a n c) (.slice none 0 0)).run P w=.ok a.isNone w:=by
  have key:∀d:Nat,(Op.equalIn (d+1) T (.slice a n c) (.slice none 0 0)).run P w=.ok a.isNone w:=fun d=>by cases a<;>simp[Op.equalIn,run_underlying h]
  exact key 9999
 cases neg
 ·show((do pure (.bool (<-Op.equal T (.slice a n c) (.slice none 0 0)))):Sem Value).run P w=_
  simp only[Sem.run_bind,e,Result.andThen_ok,Sem.run_pure];rfl
 ·show((do pure (.bool (!(<-Op.equal T (.slice a n c) (.slice none 0 0))))):Sem Value).run P w=_
  simp only[Sem.run_bind,e,Result.andThen_ok,Sem.run_pure];rfl
theorem Vf{op:BinOp}{T:TypeId}{x y:Operand}{a b:Option Addr}{n c lh fp:Nat}:(eqGuard op T x y (.slice a n c) (.slice b lh fp)).run P w=.ok () w:=by
 unfold eqGuard;cases op<;>rfl
theorem XJ{D:Oper}{t:aF}{xs:List (den t)}{neg:Bool}(h:EE C st D=some (⟨t,xs⟩,neg)):∃T x mW e ty bytes,D.op=.binOp (if neg then .neq else .eql) T x (.const (.slice none 0 0)) mW/\C.tt T=.slice e ty bytes/\aP C st T x=.av (.ai (.d (.sl t xs))):=by
 unfold EE at h;split at h
 ·rename_i op T x mW au;split at h
  ·rename_i e ty bytes aZ;split at h
   ·split at h
    ·rename_i bj hB hx;cases h;exact⟨T,x,mW,e,ty,bytes,au,aZ,hx⟩
    ·cases h
   ·split at h
    ·rename_i bj hB hx;cases h;exact⟨T,x,mW,e,ty,bytes,au,aZ,hx⟩
    ·cases h
   ·cases h
  ·cases h
 ·cases h
theorem Vw{t:aF}{xs:List (den t)}{a b:Option R}{r:R}(h:nk xs a b=some r):b=some r/\(xs=[]->a=some r):=by
 unfold nk at h;split at h
 ·rename_i Tv;exact⟨h,fun he=>(Tv he).trans h⟩
 ·cases h
theorem _t(S:ah L J X B st tm w)(ay:a7 P C){D:Oper}{K:ad->Option R}{r:R}(h:uw C st D K=some r){N:Act->World->Prop}{Q:Exit->Act->World->Prop}
  (bC:∀af aA bT w',K af=some r->ah L J X aA af bT w'->N ⟨bT,[]⟩ w'):D.wp P ⟨tm,[]⟩ w N Q:=by
 unfold uw at h;split at h
 ·rename_i t xs neg hn;cases Y:b6 st D.dst with
  |false=>simp[Y] at h
  |true=>
   simp only[Y,cond_true] at h;obtain⟨h2,h1⟩:=Vw h;obtain⟨T,x,mW,e,ty,bytes,au,aZ,hx⟩:=XJ hn;have M:=cT S C T x;rw[hx] at M;have bM:=ay.tt T;rw[aZ] at bM;have run:∀{a:Option Addr} {n c:Nat},Act.eval ⟨tm,[]⟩ x=.slice a n c->(execOp (Act.eval ⟨tm,[]⟩) D).run P w=.ok (.value (.bool (if neg then !a.isNone else a.isNone))) w:=by
    intro a n c hv;unfold execOp;have hc:Act.eval ⟨tm,[]⟩ (.const (.slice none 0 0))=.slice none 0 0:=rfl;simp only[au,hv,hc,Sem.run_bind,Vf,Xv bM.1.1,Result.andThen_ok,Sem.run_pure]
   have fin:∀b:Bool,(execOp (Act.eval ⟨tm,[]⟩) D).run P w=.ok (.value (.bool b)) w->K (st.cu D.dst (one (.bool b)) [])=some r->D.wp P ⟨tm,[]⟩ w N Q:=by
    intro b hr ag;refine mm hr (bC _ _ _ _ ag (ah.cu (us:=[]) S Y ?_));exact bi.bool b
   have M:bi w (an X B st.sites) (.sl t xs) (Act.eval ⟨tm,[]⟩ x):=M;generalize h7:Act.eval ⟨tm,[]⟩ x=v at M;cases M with
   |nil=>
    have:=run h7;cases neg
    ·exact fin true this (h1 rfl)
    ·exact fin false this (h1 rfl)
   |sl t xs a cap cs n e_ hcap hb hl hc hr=>
    have:=run h7;cases neg
    ·exact fin false this h2
    ·exact fin true this h2
 ·exact KX S ay h bC
theorem YW(S:ah L J X B st tm w){D:Oper}{K:ad->Option R}{r:R}(h:ru st D K=some r){N:Act->World->Prop}
  (bC:∀af aA bT w',K af=some r->ah L J X aA af bT w'->N ⟨bT,[]⟩ w'):N ((⟨tm,[]⟩:Act).put D.dst undef) w:=by
 unfold ru at h;cases Y:b6 st D.dst with
 |false=>simp[Y] at h
 |true=>
  simp only[Y,cond_true] at h;have:(⟨tm,[]⟩:Act).put D.dst undef=⟨cl tm D.dst undef,[]⟩:=by cases D.dst<;>rfl
  rw[this];exact bC _ _ _ _ h (ah.cu (us:=[]) S Y rfl)
theorem hh{tm:Array Value}{dst:Option Nat}{v:Value}{t:Nat}(h:t∉dst.toList):(cl tm dst v).getD t undef=tm.getD t undef:=by
 cases dst with
 |none=>rfl
 |some d=>
  have:d≠t:=fun e=>h (by simp[e])
  simp[cl,Array.getD_eq_getD_getElem?,Array.getElem?_setIfInBounds_ne this]
variable {rn:Option Nat}{ds:List Deferred}
theorem CI(S:ah L J X B st tm w)(ay:a7 P C){D:Oper}{K:ad->Option R}{r:R}(h:uw C st D K=some r){N:Act->World->Prop}{Q:Exit->Act->World->Prop}
  (bC:∀af aA bT w',K af=some r->ah L J X aA af bT w'->(∀t,t∉D.dst.toList->bT.getD t undef=tm.getD t undef)->N ⟨bT,ds⟩ w'):D.wpIn (eo rn) 0 P ⟨tm,ds⟩ w N Q:=by
 refine Oper.wpIn_mono ?_ (rQ (K:=fun a w=>a.defers=[]/\∃af aA,K af=some r/\ah L J X aA af a.tmps w) (fun _ _ h=>h.1) (_t S ay h fun af aA bT w' ag bZ=>⟨rfl,af,aA,ag,bZ⟩) rn ds)
 rintro a w' ⟨v,rfl,_,af,aA,ag,bZ⟩;exact bC af aA _ w' ag bZ fun t aC=>hh aC
theorem nh(S:ah L J X B st tm w)(ay:a7 P C){D:Oper}{K:ad->Option R}{r:R}(h:jY C st D K=some r){N:Act->World->Prop}{Q:Exit->Act->World->Prop}
  (bC:∀af aA bT w',K af=some r->ah L J X aA af bT w'->(∀t,t∉D.dst.toList->bT.getD t undef=tm.getD t undef)->N ⟨bT,ds⟩ w'):D.wpIn (eo rn) 0 P ⟨tm,ds⟩ w N Q:=by
 refine Oper.wpIn_mono ?_ (rQ (K:=fun a w=>a.defers=[]/\∃af aA,K af=some r/\ah L J X aA af a.tmps w) (fun _ _ h=>h.1) (KX S ay h fun af aA bT w' ag bZ=>⟨rfl,af,aA,ag,bZ⟩) rn ds)
 rintro a w' ⟨v,rfl,_,af,aA,ag,bZ⟩;exact bC af aA _ w' ag bZ fun t aC=>hh aC
theorem wR(S:ah L J X B st tm w){D:Oper}{K:ad->Option R}{r:R}(h:ru st D K=some r){N:Act->World->Prop}
  (bC:∀af aA bT w',K af=some r->ah L J X aA af bT w'->(∀t,t∉D.dst.toList->bT.getD t undef=tm.getD t undef)->N ⟨bT,ds⟩ w'):N ((⟨tm,ds⟩:Act).put D.dst undef) w:=by
 rw[tI];refine YW (N:=fun a w=>∀t0,a.tmps=t0->t0=cl tm D.dst undef->N ⟨t0,ds⟩ w) S h (fun af aA bT w' ag bZ t0 e1 e2=>?_) (cl tm D.dst undef) (by rw[tI]) rfl
 subst e1;exact bC af aA _ w' ag bZ fun t aC=>by have e2:bT=cl tm D.dst undef:=e2;rw[e2];exact hh aC
theorem WM{D:Oper}{r:List Oper}{K:ad->Option R}{y:R}(h:mq C ops (D::r) st K=some y):t_ C ops st D (fun af=>mq C ops r af K)=some y\/
  ∃fg o2 r2 q,r=fg::o2::r2/\rS C st D fg o2=some q/\MJ st o2 q (fun af=>mq C ops r2 af K)=some y:=by
 match r,h with
 |[],h=>exact .inl h
 |[o2],h=>exact .inl h
 |fg::o2::r2,h=>
  simp only[mq] at h;split at h
  ·rename_i q aD;exact .inr ⟨fg,o2,r2,q,rfl,aD,h⟩
  ·exact .inl h
theorem Y1(ay:a7 P C){r:R}{W:List Nat}:∀(n k:Nat),ops.size=k+n->(∀D,D∈ops.toList.drop k->∀t,t∈D.dst.toList->t∈W)->∀(st:ad) (B:Nat->Value) (tm:Array Value) (w:World) (K:ad->Option R) (Q:Exit->Act->World->Prop),ah L J X B st tm w->
  mq C ops (ops.toList.drop k) st K=some r->(∀af aA bT w',K af=some r->ah L J X aA af bT w'->(∀t,t∉W->bT.getD t undef=tm.getD t undef)->Q .normal ⟨bT,ds⟩ w')->wpOpsIn (eo rn) 0 P ops Q (List.range' k n) ⟨tm,ds⟩ w:=by
 intro n;induction n using Nat.strongRecOn with
 |ind n ih=>
 intro k ag hW st B tm w K Q S h bC;match n,ih,ag with
 |0,ih,ag=>
  rw[List.drop_eq_nil_of_le (by simp;omega)] at h
  exact bC st B tm w h S fun _ _=>rfl
 |n+1,ih,ag=>
  have a3:k<ops.size:=by omega
  have au:ops[k]? =some ops[k]:=Array.getElem?_eq_getElem a3;have Fo:ops.toList.drop k=ops[k]::ops.toList.drop (k+1):=by
   rw[List.drop_eq_getElem_cons (by simpa using a3)];simp
  rw[Fo] at h hW;rw[show List.range' k (n+1)=k::List.range' (k+1) n from rfl]
  simp only[wpOpsIn,au];rcases WM h with h|⟨fg,o2,r2,q,vH,aD,h⟩
  rotate_left
  ·-- three at an1
   have i':k+1<ops.size/\k+2<ops.size:=by
    have:=congrArg List.length vH;simp at this;omega
   have kg:ops[k+1]? =some (ops[k+1]'i'.1):=Array.getElem?_eq_getElem i'.1;have Th:ops[k+2]? =some (ops[k+2]'i'.2):=Array.getElem?_eq_getElem i'.2;have acU:ops.toList.drop (k+1)=(ops[k+1]'i'.1)::(ops[k+2]'i'.2)::ops.toList.drop (k+3):=by
    rw[List.drop_eq_getElem_cons (by simpa using i'.1),List.drop_eq_getElem_cons (by simpa using i'.2)];simp
   rw[acU] at vH hW;obtain⟨e1,ajE⟩:=List.cons.inj vH;obtain⟨e2,bK⟩:=List.cons.inj ajE;subst e1 e2 bK;obtain⟨lh,rfl⟩:∃lh,n=lh+2:=⟨n-2,by omega⟩
   have AX:=hW _ List.mem_cons_self;have Tw:=hW _ (List.mem_cons_of_mem _ List.mem_cons_self);have QP:=hW _ (List.mem_cons_of_mem _ (List.mem_cons_of_mem _ List.mem_cons_self));have vZ:=fun D au=>hW D (List.mem_cons_of_mem _ (List.mem_cons_of_mem _ (List.mem_cons_of_mem _ au)))
   generalize(ops[k+1]'i'.1)=fg at aD Tw kg;generalize(ops[k+2]'i'.2)=o2 at h aD QP Th;generalize ops[k]=D at aD AX ⊢;obtain⟨_,_,_,_,_,_,_,_,_,jh,gp,_,o6,_,_,_,_,_,_,_,_,qi,hne⟩:=B9 aD;obtain⟨_,_,aoy,aj0,_,_⟩:=Kj qi;rw[if_pos (by simp[Region.wanted,gp])]
   obtain⟨x,hx,h⟩:=Option.bind_eq_some_iff.1 h;split at h
   ·rename_i u ys hu;obtain⟨y,ak,h⟩:=Option.bind_eq_some_iff.1 h;unfold Oz at h;split at h
    ·rename_i d bF mK h1 h2 aa;split at h
     ·rename_i cU d_;cases hb:(d.hR&&!bF.gU&&b6 st o2.dst) with
      |false=>rw[hb] at h;cases h
      |true=>
       rw[hb] at h;simp only[cond_true] at h;simp only[Bool.and_eq_true,Bool.not_eq_true'] at hb;obtain⟨⟨aU,aJ⟩,bQ⟩:=hb;refine Oper.wpIn_mono ?_ (rQ (K:=fun a b5=>a.defers=[]/\b5=w/\ah L J X B (st.set q.d1 (bP .any)) a.tmps w/\(∀t,t≠q.d1->a.tmps.getD t undef=tm.getD t undef)/\
        ∃e v0 n1 n2 c1 c2,pF w (an X B st.sites) B q.o q.t q.xs q.k q.off x u ys e v0 (a.tmps.getD q.d1 undef) n1 n2 c1 c2) (fun _ _ h=>h.1) (_P S ay aD hx hu fun dk q1 q2 dB=>⟨rfl,rfl,q1,q2,dB⟩) rn ds)
       rintro a b5 ⟨v,rfl,_,rfl,c4,kept,e,v0,n1,n2,c1,c2,N⟩;rw[show List.range' (k+1) (lh+2)=(k+1)::(k+2)::List.range' (k+3) lh from rfl]
       simp only[wpOpsIn,kg,Th];rw[if_pos (by simp[Region.wanted,aj0])]
       refine Oper.wpIn_mono ?_ (rQ (K:=fun a w2=>a.defers=[]/\w2=b5/\ah L J X B (st.nE q) a.tmps b5/\(∀t,t≠q.dP->a.tmps.getD t undef=(cl tm D.dst v).getD t undef)) (fun _ _ h=>h.1) (abo c4 qi fun dk q1 q2=>⟨rfl,rfl,q1,q2⟩) rn ds)
       rintro a w2 ⟨v1,rfl,_,rfl,ak3,adU⟩;rw[if_pos (by simp[Region.wanted,o6])]
       rw[<-adU q.d1 (fun e=>hne e.symm)] at N
       refine Oper.wpIn_mono ?_ (rQ (K:=fun a b5=>a.defers=[]/\∃aA,ah L J X aA (((st.nE q).cu o2.dst (one d) [(q.o,.deep q.s q.t (q.xs.set q.k cU))])) a.tmps b5) (fun _ _ h=>h.1)
        (_O ay aD ak3 hx hu N ak h1 h2 aa d_ aU aJ bQ fun aA bT w' bZ=>⟨rfl,aA,bZ⟩) rn ds)
       rintro a ig ⟨v2,rfl,_,aA,fP⟩;refine ih lh (by omega) (k+3) (by omega) vZ _ aA _ ig K Q fP h fun p1 fI mL amy hU ik vD=>bC p1 fI mL amy hU ik fun t qb=>?_
       rw[vD t qb,hh fun ab=>qb (QP t ab),hh fun ab=>qb (Tw t ab)]
       exact hh fun ab=>qb (AX t ab)
     ·cases h
    ·cases h
   ·cases h
  have AX:=hW _ List.mem_cons_self;have vZ:=fun D au=>hW D (List.mem_cons_of_mem _ au)
  have next:∀af aA bT w',mq C ops (ops.toList.drop (k+1)) af K=some r->ah L J X aA af bT w'->(∀t,t∉(ops[k]).dst.toList->bT.getD t undef=tm.getD t undef)->wpOpsIn (eo rn) 0 P ops Q (List.range' (k+1) n) ⟨bT,ds⟩ w':=
   fun af aA bT w' ab bZ aC=>ih n (by omega) (k+1) (by omega) vZ af aA bT w' K Q bZ ab fun p1 fI mL w2 hU fP vD=>bC p1 fI mL w2 hU fP fun t qb=>(vD t qb).trans (aC t fun ab=>qb (AX t ab))
  generalize ops[k]=D at h next ⊢
  have oa:∀f,D.about P w (Act.eval ⟨tm,ds⟩)=some f->(eo rn).fn f:=fun f _=>zR rn f
  unfold t_ at h;cases hg:D.guard with
  |none=>
   simp only[hg] at h;rw[if_pos (by simp[Region.wanted,hg])]
   exact CI S ay h next
  |some IH=>
   obtain⟨j,want⟩:=IH;simp only[hg] at h;have hw:Region.wanted D (yielded ops tm)=(yielded ops tm j==some want):=by simp[Region.wanted,hg]
   cases hj:(ops[j]?).bind (·.dst) with
   |none=>simp[hj] at h
   |some t=>
    simp only[hj] at h;have iv:=S.cF t;split at h
    ·rename_i b hb;rw[hb] at iv;have hv:=iR iv;have ak:yielded ops tm j=some b:=by
      have aC:t<tm.size:=by
       rcases Nat.lt_or_ge t tm.size with ab|ab
       ·exact ab
       ·simp[Array.getD,Nat.not_lt.2 ab,undef] at hv
      have:tm[t]? =some (.bool b):=by
       rw[Array.getElem?_eq_getElem aC];simpa[Array.getD,aC] using hv
      simp[yielded,hj,this]
     rw[ak] at hw;have go:∀a_,b=a_->ah L J X B (st.set t (one (.bool a_))) tm w:=fun a_ e=>S.lq (by rw[hv,e];exact .bool _)
     cases b<;>cases want<;>simp only[cond_true,cond_false,Bool.not_true,Bool.not_false] at h
     ·rw[if_pos (by rw[hw];rfl)];exact CI (go false rfl) ay h next
     ·rw[if_neg (by rw[hw];decide)];exact⟨oa,wR (go false rfl) h next⟩
     ·rw[if_neg (by rw[hw];decide)];exact⟨oa,wR (go true rfl) h next⟩
     ·rw[if_pos (by rw[hw];rfl)];exact CI (go true rfl) ay h next
    ·rename_i x hb;rw[hb] at iv;have hv:tm.getD t undef=.tuple x:=iv;have ak:yielded ops tm j=none:=by
      simp only[yielded,hj,Option.bind_some];cases aC:tm[t]? with
      |none=>rfl
      |some v=>
       have:tm.getD t undef=v:=by simp[Array.getD_eq_getD_getElem?,aC]
       rw[this] at hv;rw[hv]
     rw[ak] at hw;rw[if_neg (by rw[hw];simp)]
     exact⟨oa,wR S h next⟩
    ·cases h
end
abbrev od:=Nat⊕Nat
def dd(st:ad):od->aK⊕Option Site
 |.inl t=>.inl (st.get t)
 |.inr o=>.inr (st.O o)
def nm{aH:Type}:List (Nat×aH)->Nat->Option aH
 |[],_=>none
 |(k,v)::r,n=>match nm r n with
  |some x=>some x
  |none=>bif k.beq n then some v else none
def Rec.wr(x:Rec):od->Option (aK⊕Option Site)
 |.inl t=>match x.D.dst with
  |some d=>bif d.beq t then some (.inl x.v) else none
  |none=>none
 |.inr o=>(nm x.us o).map fun s=>.inr (some s)
theorem YK:∀(us:List (Nat×Site)) (st:ad) (o:Nat),(st.hs us).O o=match nm us o with|some s=>some s|none=>st.O o:=by
 intro us;induction us with
 |nil=>intro st o;rfl
 |cons p us ih=>
  obtain⟨k,s⟩:=p;intro st o;simp only[ad.hs,ih,nm];cases nm us o with
  |some x=>rfl
  |none=>
   simp only[ad.mf];by_cases h:k=o
   ·subst h;simp
   ·simp[h,jb h]
theorem Ly:∀(us:List (Nat×Site)) (st:ad) (t:Nat),(st.hs us).get t=st.get t:=by
 intro us;induction us with
 |nil=>intro st t;rfl
 |cons p us ih=>intro st t;simp only[ad.hs,ih,ad.W4]
theorem Mf:∀(us:List (Nat×Site)) (st:ad),(st.hs us).nt=st.nt:=by
 intro us;induction us with
 |nil=>intro st;rfl
 |cons p us ih=>intro st;simp only[ad.hs,ih,ad.XI]
theorem E8(st:ad)(d:Option Nat)(v:aK)(us:List (Nat×Site)):(st.cu d v us).nt=st.nt:=by
 cases d<;>simp only[ad.cu,ad.acJ,Mf]
theorem xf(st:ad)(x:Rec)(l:od):dd (st.cu x.D.dst x.v x.us) l=match x.wr l with|some u=>u|none=>dd st l:=by
 cases l with
 |inl t=>
  simp only[dd,Rec.wr];cases x.D.dst with
  |none=>simp only[ad.cu,Ly]
  |some d=>
   simp only[ad.cu,ad.D6,Ly];by_cases h:d=t
   ·subst h;simp
   ·simp[h,jb h]
 |inr o=>
  simp only[dd,Rec.wr];have:(st.cu x.D.dst x.v x.us).O o=(st.hs x.us).O o:=by cases x.D.dst<;>simp only[ad.cu,ad._p]
  rw[this,YK];cases nm x.us o<;>rfl
def dY(ar:Nat->Bool):Nat->List Rec->ad->ad
 |_,[],st=>st
 |k,x::r,st=>dY ar (k+1) r (bif ar k then st.cu x.D.dst x.v x.us else st)
theorem C8{ar:Nat->Bool}:∀{xs:List Rec} {k:Nat} {st:ad},(dY ar k xs st).nt=st.nt:=by
 intro xs;induction xs with
 |nil=>intro k st;rfl
 |cons x xs ih=>intro k st;simp only[dY,ih];cases ar k<;>simp[E8]
theorem BU{ar L':Nat->Bool}:∀{xs:List Rec} {k:Nat} {st af:ad} {l:od},dd st l=dd af l->(∀j x,xs[j]? =some x->x.wr l≠none->ar (k+j)=L' (k+j))->dd (dY ar k xs st) l=dd (dY L' k xs af) l:=by
 intro xs;induction xs with
 |nil=>intro k st af l h _;exact h
 |cons x xs ih=>
  intro k st af l h eb;simp only[dY];refine ih ?_ fun j y ak hw=>?_
  ·cases hw:x.wr l with
   |none=>
    have e1:∀s:ad,dd (s.cu x.D.dst x.v x.us) l=dd s l:=fun s=>by rw[xf,hw]
    cases ar k<;>cases L' k<;>simp only[cond_true,cond_false,e1,h]
   |some u=>
    have:=eb 0 x rfl (by rw[hw];intro h;cases h)
    simp only[Nat.add_zero] at this;rw[this];cases L' k with
    |true=>simp only[cond_true,xf,hw]
    |false=>simp only[cond_false,h]
  ·have:=eb (j+1) y (by simpa using ak) hw
   rw[show k+(j+1)=k+1+j from by omega] at this
   exact this
theorem BV{xs:List Rec}:∀{k:Nat} {st:ad} {ar:Nat->Bool},(∀j,k<=j->ar j=false)->dY ar k xs st=st:=by
 induction xs with
 |nil=>intro k st ar _;rfl
 |cons x xs ih=>
  intro k st ar h;simp only[dY,h k (Nat.le_refl _),cond_false];exact ih fun j hj=>h j (by omega)
theorem J1{ar L':Nat->Bool}:∀{xs:List Rec} {k k':Nat} {st:ad},(∀j,j<xs.length->ar (k+j)=L' (k'+j))->dY ar k xs st=dY L' k' xs st:=by
 intro xs;induction xs with
 |nil=>intro k k' st _;rfl
 |cons x xs ih=>
  intro k k' st h;simp only[dY];have h0:=h 0 (by simp)
  simp only[Nat.add_zero] at h0;rw[h0];exact ih fun j hj=>by have:=h (j+1) (by simpa using hj);rw[show k+(j+1)=k+1+j from by omega,show k'+(j+1)=k'+1+j from by omega] at this;exact this
theorem Ye{ar:Nat->Bool}:∀{xs:List Rec} {k i:Nat} {st:ad} {l:od} {x:Rec} {u:aK⊕Option Site},xs[i]? =some x->ar (k+i)=true->x.wr l=some u->
  (∀j y,i<j->xs[j]? =some y->y.wr l≠none->ar (k+j)=false)->dd (dY ar k xs st) l=u:=by
 intro xs;induction xs with
 |nil=>intro k i st l x u h;cases h
 |cons y xs ih=>
  intro k i st l x u h eb hw hj;simp only[dY];cases i with
  |zero=>
   simp only[List.getElem?_cons_zero,Option.some.injEq] at h;subst h;simp only[Nat.add_zero] at eb;rw[eb];simp only[cond_true];have e:dd (st.cu y.D.dst y.v y.us) l=u:=by rw[xf,hw]
   rw[<-e];have e2:st.cu y.D.dst y.v y.us=dY (fun _=>false) (k+1) xs (st.cu y.D.dst y.v y.us):=(BV fun _ _=>rfl).symm
   conv=>rhs;rw[e2]
   refine BU rfl fun j z hz Hu=>?_
   have:=hj (j+1) z (by omega) (by simpa using hz) Hu
   rw[show k+(j+1)=k+1+j from by omega] at this
   exact this
  |succ i=>
   refine ih (by simpa using h) (by rw[show k+1+i=k+(i+1) from by omega];exact eb) hw fun j z hij hz Hu=>?_
   have:=hj (j+1) z (by omega) (by simpa using hz) Hu
   rw[show k+(j+1)=k+1+j from by omega] at this
   exact this
section
variable {P:Program}{ops:Array Oper}
def Ai(ops:Array Oper)(ar:Nat->Bool)(i:Nat):Prop:=∀D,ops[i]? =some D->∀e,e∈D.after.toList->Region.binds .any e=true->ar e.on=true
def zw(ops:Array Oper)(ar:Nat->Bool):Prop:=∀j,ar j=true->Ai ops ar j
def s3(ops:Array Oper)(k i:Nat):Prop:=∀ar,zw ops ar->Ai ops ar i->ar k=true
theorem MO{aH:Type}{l:List (Nat×aH)}{n:Nat}{v:aH}(h:look l n=some v):(n,v)∈l:=by
 induction l with
 |nil=>cases h
 |cons p l ih=>
  obtain⟨m,u⟩:=p;simp only[look] at h;cases hb:m.beq n with
  |true=>
   simp only[hb,cond_true,Option.some.injEq] at h;rw[<-Nat.eq_of_beq_eq_true hb,h];exact List.mem_cons_self
  |false=>simp only[hb,cond_false] at h;exact List.mem_cons_of_mem _ (ih h)
theorem aao{bv:List (Nat×Rec×List Nat)}(a9:∀k x b,(k,x,b)∈bv->∀m,m∈b->s3 ops m k){i:Nat}:∀{es:List Edge} {m:Nat},m∈ly bv es->∀ar,zw ops ar->
  (∀e,e∈es->Region.binds .any e=true->ar e.on=true)->ar m=true:=by
 intro es;induction es with
 |nil=>intro m h;cases h
 |cons e es ih=>
  intro m h ar hc hf;simp only[ly] at h;cases hb:Region.binds .any e with
  |false=>
   simp only[hb,cond_false] at h;exact ih h ar hc fun b3 l1=>hf b3 (List.mem_cons_of_mem _ l1)
  |true=>
   simp only[hb,cond_true] at h;have h0:=hf e List.mem_cons_self hb;split at h
   ·rename_i x hx;rcases List.mem_cons.1 h with rfl|h
    ·exact h0
    ·rcases List.mem_append.1 h with h|h
     ·have hm:(e.on,x)∈bv:=MO hx;obtain⟨qy,jO⟩:=x;exact a9 _ _ _ hm m h ar hc (hc _ h0)
     ·exact ih h ar hc fun b3 l1=>hf b3 (List.mem_cons_of_mem _ l1)
   ·exact ih h ar hc fun b3 l1=>hf b3 (List.mem_cons_of_mem _ l1)
structure sd(C:Ctx)(ops:Array Oper)(st:ad)(D:Oper)(x:Rec):Prop where
 gN:x.D=D
 guard:∀j want,D.guard=some (j,want)->∃t,(ops[j]?).bind (·.dst)=some t/\t∈x.kv/\((∃b,st.get t=one (.bool b)/\(x.go=(b==want)))\/((∃u,st.get t=bP (.cB (.tuple u)))/\x.go=false))
 free:D.guard=none->x.go=true
 skip:x.go=false->x.v=yI/\x.us=[]
 run:x.go=true->∃y,(step C st D).comp=some y/\(step C st D).qt y=true/\x.v=(step C st D).val y/\x.us=(step C st D).us y/\(∀t,t∈ot (kT D.op)->t∈x.kv)/\(∀o,o∈Fs C st D->o∈x.rn)/\(y5 D.op=true->x.A1=true)
inductive kC(C:Ctx)(ops:Array Oper):List Oper->Nat->List (Nat×Rec×List Nat)->ad->List Rec->ad->Prop where
 |nil {i bv st}:kC C ops [] i bv st [] st
 |cons {D r i bv st x xs af} (Y:b6 st D.dst=true) (he:rh i D.after.toList=true) (hx:sd C ops st D x) (ag:rz (ly bv D.after.toList) x bv=true)
   (h:kC C ops r (i+1) ((i,x,ly bv D.after.toList)::bv) (st.cu D.dst x.v x.us) xs af):kC C ops (D::r) i bv st (x::xs) af
theorem Zw{R:Type}{g:Bool}{v:aK}{K:aK->Option R}{r:R}(h:F0 g v K=some r):K v=some r:=by
 unfold F0 at h;cases g with
 |false=>exact h
 |true=>
  simp only[cond_true] at h;split at h
  ·rename_i b;cases b<;>exact h
  ·exact h
theorem W8{R:Type}{C:Ctx}{g:Bool}{st:ad}{D:Oper}{K:Rec->Option R}{r:R}(h:E6 C ops g st D K=some r):∃x,sd C ops st D x/\K x=some r:=by
 have run:∀gs,yD C g st D gs K=some r->(∀j want,D.guard=some (j,want)->∃t,(ops[j]?).bind (·.dst)=some t/\t∈gs/\∃b,st.get t=one (.bool b)/\(b==want)=true)->∃x,sd C ops st D x/\K x=some r:=by
  intro gs h hg;unfold yD at h;obtain⟨y,ak,h⟩:=Option.bind_eq_some_iff.1 h;cases hc:(step C st D).qt y with
  |false=>simp[hc] at h
  |true=>
   simp only[hc,cond_true] at h;refine⟨_,⟨rfl,fun j want hj=>?_,fun _=>rfl,fun h=>(by cases h),fun _=>⟨y,ak,hc,rfl,rfl,fun t aC=>List.mem_append.2 (.inr aC),fun _ h=>h,fun h=>h⟩⟩,Zw h⟩
   obtain⟨t,h1,h2,b,aa,aI⟩:=hg j want hj;exact⟨t,h1,List.mem_append.2 (.inl h2),.inl ⟨b,aa,aI.symm⟩⟩
 have skip:∀gs,C6 D gs K=some r->(∃j want,D.guard=some (j,want)/\∃t,(ops[j]?).bind (·.dst)=some t/\t∈gs/\((∃b,st.get t=one (.bool b)/\(b==want)=false)\/∃u,st.get t=bP (.cB (.tuple u))))->∃x,sd C ops st D x/\K x=some r:=by
  intro gs h hg;obtain⟨j,want,hj,t,h1,h2,aa⟩:=hg;refine⟨_,⟨rfl,fun US anJ jg=>?_,fun h=>(by rw[hj] at h;cases h),fun _=>⟨rfl,rfl⟩,fun h=>(by cases h)⟩,h⟩
  rw[hj] at jg;cases jg;refine⟨t,h1,h2,?_⟩;rcases aa with⟨b,aa,aI⟩|aa
  ·exact .inl ⟨b,aa,aI.symm⟩
  ·exact .inr ⟨aa,rfl⟩
 unfold E6 at h;split at h
 ·rename_i hg;exact run [] h fun j want hj=>by rw[hg] at hj;cases hj
 ·rename_i j want hg;split at h
  ·rename_i t aC;split at h
   ·rename_i b hb;cases b<;>cases want<;>simp only[cond_true,cond_false,Bool.not_true,Bool.not_false] at h
    ·exact run [t] h fun US w' jg=>by rw[hg] at jg;cases jg;exact⟨t,aC,List.mem_singleton.2 rfl,false,hb,rfl⟩
    ·exact skip [t] h ⟨j,true,hg,t,aC,List.mem_singleton.2 rfl,.inl ⟨false,hb,rfl⟩⟩
    ·exact skip [t] h ⟨j,false,hg,t,aC,List.mem_singleton.2 rfl,.inl ⟨true,hb,rfl⟩⟩
    ·exact run [t] h fun US w' jg=>by rw[hg] at jg;cases jg;exact⟨t,aC,List.mem_singleton.2 rfl,true,hb,rfl⟩
   ·rename_i u hu;exact skip [t] h ⟨j,want,hg,t,aC,List.mem_singleton.2 rfl,.inr ⟨u,hu⟩⟩
   ·cases h
  ·cases h
theorem ZL{R:Type}{C:Ctx}{K:ad->Option R}{r:R}:∀{os:List Oper} {i:Nat} {bv:List (Nat×Rec×List Nat)} {st:ad},zt C ops os i bv st K=some r->∃xs af,kC C ops os i bv st xs af/\K af=some r:=by
 intro os;induction os with
 |nil=>intro i bv st h;exact⟨[],st,.nil,h⟩
 |cons D os ih=>
  intro i bv st h;simp only[zt] at h;cases Y:b6 st D.dst&&rh i D.after.toList with
  |false=>simp[Y] at h
  |true=>
   simp only[Y,cond_true] at h;obtain⟨x,hx,h⟩:=W8 h;cases ag:rz (ly bv D.after.toList) x bv with
   |false=>simp[ag] at h
   |true=>
    simp only[ag,cond_true] at h;obtain⟨xs,af,h1,h2⟩:=ih h;simp only[Bool.and_eq_true] at Y;exact⟨x::xs,af,.cons Y.1 Y.2 hx ag h1,h2⟩
theorem kC.length{C:Ctx}{os:List Oper}{i:Nat}{bv:List (Nat×Rec×List Nat)}{st af:ad}{xs:List Rec}(h:kC C ops os i bv st xs af):xs.length=os.length:=by
 induction h with
 |nil=>rfl
 |cons _ _ _ _ _ ih=>simp[ih]
theorem kC.agv{C:Ctx}{os:List Oper}{i:Nat}{bv:List (Nat×Rec×List Nat)}{st af:ad}{xs:List Rec}(h:kC C ops os i bv st xs af):∀k,dY (fun _=>true) k xs st=af:=by
 induction h with
 |nil=>intro k;rfl
 |cons _ _ hx _ _ ih=>intro k;simp only[dY,cond_true,hx.gN];exact ih _
theorem kC.at_{C:Ctx}{os:List Oper}{i:Nat}{bv:List (Nat×Rec×List Nat)}{st af:ad}{xs:List Rec}(h:kC C ops os i bv st xs af):∀j x,xs[j]? =some x->
  ∃D,os[j]? =some D/\b6 st D.dst=true/\rh (i+j) D.after.toList=true/\sd C ops (dY (fun k=>decide (k<j)) 0 xs st) D x:=by
 induction h with
 |nil=>intro j x h;cases h
 |@cons D r i bv st x xs af Y he hx ag h ih=>
  intro j y ak;cases j with
  |zero=>
   simp only[List.getElem?_cons_zero,Option.some.injEq] at ak;subst ak;refine⟨D,rfl,Y,he,?_⟩;rw[BV fun j _=>by simp[Nat.blt]]
   exact hx
  |succ j=>
   obtain⟨cZ,h1,h2,aa,aI⟩:=ih j y (by simpa using ak)
   refine⟨cZ,by simpa using h1,?_,by rw[show i+(j+1)=i+1+j from by omega];exact aa,?_⟩
   ·revert h2;cases cZ.dst<;>simp[b6,E8]
   ·simp only[dY];have l':decide (0<j+1)=true:=by simp
    rw[l',cond_true,hx.gN];rw[J1 (L':=fun k=>decide (k<j)) (k':=0) fun m _=>by simp only[decide_eq_decide];omega]
    exact aI
theorem K0{n:Nat}{l:List Nat}:fF n l=true <-> n∈l:=by
 induction l with
 |nil=>simp[fF]
 |cons m l ih=>
  simp only[fF,Bool.or_eq_true,ih,List.mem_cons];constructor
  ·rintro(h|h)
   ·exact .inl (Nat.eq_of_beq_eq_true h)
   ·exact .inr h
  ·rintro(h|h)
   ·exact .inl (by rw[h];exact Nat.beq_refl m)
   ·exact .inr h
theorem XH{v9:List Nat}{x:Rec}:∀{bv:List (Nat×Rec×List Nat)},rz v9 x bv=true->∀k y b,(k,y,b)∈bv->k∈v9\/lE y x=false:=by
 intro bv;induction bv with
 |nil=>intro _ k y b h;cases h
 |cons p bv ih=>
  obtain⟨j,z,ao3⟩:=p;intro h k y b hm;simp only[rz,Bool.and_eq_true,Bool.or_eq_true] at h;rcases List.mem_cons.1 hm with hm|hm
  ·cases hm;rcases h.1 with h1|h1
   ·exact .inl (K0.1 h1)
   ·exact .inr (by simpa using h1)
  ·exact ih h.2 k y b hm
theorem kC.aiU{C:Ctx}{os:List Oper}{i:Nat}{bv:List (Nat×Rec×List Nat)}{st af:ad}{xs:List Rec}(h:kC C ops os i bv st xs af):∀(pre:List Rec),pre.length=i->(∀j,ops[i+j]? =os[j]?)->
  (∀k y,pre[k]? =some y->∃b,(k,y,b)∈bv)->(∀k x b,(k,x,b)∈bv->∀m,m∈b->s3 ops m k)->∀j x,xs[j]? =some x->∀k y,k<i+j->(pre++xs)[k]? =some y->s3 ops k (i+j)\/lE y x=false:=by
 induction h with
 |nil=>intro pre _ _ _ _ j x h;cases h
 |@cons D r i bv st x xs af Y he hx ag h ih=>
  intro pre hlen QD QC QO j y ak k z ajT hz;have QM:∀m,m∈ly bv D.after.toList->s3 ops m i:=fun m hm ar hc hf=>by
   refine aao QO (i:=i) hm ar hc fun e he hb=>hf D ?_ e he hb
   have:=QD 0;simpa using this
  cases j with
  |zero=>
   simp only[List.getElem?_cons_zero,Option.some.injEq] at ak;subst ak;simp only[Nat.add_zero] at ajT ⊢;rw[List.getElem?_append_left (by omega)] at hz
   obtain⟨b,hb⟩:=QC k z hz;rcases XH ag k z b hb with h1|h1
   ·exact .inl (QM k h1)
   ·exact .inr h1
  |succ j=>
   have:=ih (pre++[x]) (by simp[hlen]) (fun j=>by have:=QD (j+1);rw[show i+1+j=i+(j+1) from by omega];simpa using this)
    (fun k y ak=>?_) (fun k cU b hm m Ti=>?_) j y (by simpa using ak) k z (by omega) (by simpa using hz)
   ·rw[show i+(j+1)=i+1+j from by omega];exact this
   ·rcases Nat.lt_or_ge k pre.length with ab|ab
    ·rw[List.getElem?_append_left ab] at ak;obtain⟨b,hb⟩:=QC k y ak;exact⟨b,List.mem_cons_of_mem _ hb⟩
    ·rw[List.getElem?_append_right ab] at ak;have h0:k-pre.length=0:=by
      rcases Nat.eq_zero_or_pos (k-pre.length) with h0|h0
      ·exact h0
      ·rw[List.getElem?_eq_none (by simp;omega)] at ak;cases ak
     rw[h0] at ak;simp only[List.getElem?_cons_zero,Option.some.injEq] at ak;subst ak;have:k=i:=by omega
     subst this;exact⟨_,List.mem_cons_self⟩
   ·rcases List.mem_cons.1 hm with hm|hm
    ·cases hm;exact QM m Ti
    ·exact QO k cU b hm m Ti
end
section
variable {P:Program}{L:World}{J:List Nat}{X:Nat->Prop}{B:Nat->Value}{st af:ad}{tm:Array Value}{w:World}
theorem ah.same(S:ah L J X B st tm w)(hv:∀l,dd st l=dd af l)(hn:st.nt=af.nt):ah L J X B af tm w:=by
 have M:∀o,look st.sites o=look af.sites o:=fun o=>by have:=hv (.inr o);simpa[dd,ad.O] using this
 have hg:∀t,st.get t=af.get t:=fun t=>by have:=hv (.inl t);simpa[dd] using this
 have hl:∀o,bX st.sites o <-> bX af.sites o:=fun o=>by unfold bX;rw[M]
 have a9:an X B af.sites=an X B st.sites:=by
  funext b
  unfold an;simp only[hl]
 have G:gD B B st.sites af.sites w w (an X B st.sites) (an X B af.sites):=by
  rw[a9];exact⟨fun o O h=>⟨O,by rw[<-M];exact h,Nat.le_refl _,fun _=>rfl⟩,fun _ _ _=>rfl,fun _ h _=>h⟩
 have a3:∀b,an X B af.sites b->b<w.heap.size:=fun b hb=>S.lt (by rw[<-a9];exact hb)
 refine⟨S.nt.trans hn,fun t=>?_,fun o O h=>?_,fun o F b h1 h2=>S.de o F b ((hl o).2 h1) ((hl F).2 h2),fun o b h=>S.b7 o b ((hl o).2 h),S.frame,S.old,S.eS⟩
 ·rw[<-hg];exact(S.cF t).goes G (Nat.le_refl _) a3
 ·exact(S.sites o O (by rw[M];exact h)).goes G (Nat.le_refl _) a3 rfl (fun _ _ _=>rfl)
theorem ah.drawn(S:ah L J X B st tm w)(n:Nat):ah L J X B st tm {w with drawn:=n}:=by
 have G:gD B B st.sites st.sites w {w with drawn:=n} (an X B st.sites) (an X B st.sites):=
  ⟨fun o O h=>⟨O,h,Nat.le_refl _,fun _=>rfl⟩,fun _ _ _=>rfl,fun _ h _=>h⟩
 refine⟨S.nt,fun t=>(S.cF t).goes G (Nat.le_refl _) fun b hb=>S.lt hb,fun o O h=>(S.sites o O h).goes G (Nat.le_refl _) (fun b hb=>S.lt hb) rfl (fun _ _ _=>rfl),S.de,S.b7,⟨S.frame.os,S.frame.tape,S.frame.output,S.frame.size,S.frame.block⟩,S.old,S.eS⟩
theorem VG{aH:Type}:∀{us:List (Nat×aH)} {o:Nat} {s:aH},nm us o=some s->o∈keys us:=by
 intro us;induction us with
 |nil=>intro o s h;cases h
 |cons p us ih=>
  obtain⟨k,v⟩:=p;intro o s h;simp only[nm] at h;split at h
  ·rename_i x hx;exact List.mem_cons_of_mem _ (ih hx)
  ·cases hb:k.beq o with
   |true=>rw[<-Nat.eq_of_beq_eq_true hb];exact List.mem_cons_self
   |false=>simp[hb] at h
theorem B_{n:Nat}{l:List Nat}:fF n l=true <-> n∈l:=K0
theorem qW{l m:List Nat}{n:Nat}(h1:n∈l)(h2:n∈m):eO l m=false:=by
 induction l with
 |nil=>cases h1
 |cons k l ih=>
  simp only[eO];rcases List.mem_cons.1 h1 with rfl|h1
  ·rw[B_.2 h2];rfl
  ·rw[ih h1,Bool.and_false]
theorem Kv{l:List Nat}{n:Nat}(h1:n∈l)(h2:1000000<=n):uo l=true:=by
 induction l with
 |nil=>cases h1
 |cons k l ih=>
  simp only[uo,Bool.or_eq_true];rcases List.mem_cons.1 h1 with rfl|h1
  ·exact .inl (Nat.ble_eq_true_of_le h2)
  ·exact .inr (ih h1)
def Rec.at_(x:Rec):od->Prop
 |.inl t=>t∈x.kv
 |.inr o=>o∈x.rn\/(x.A1=true/\1000000<=o)
theorem yH{x:Rec}{t:Nat}(h:x.wr (.inl t)≠none):x.D.dst=some t:=by
 simp only[Rec.wr] at h;split at h
 ·rename_i d Y;cases hb:d.beq t with
  |true=>rw[Y,Nat.eq_of_beq_eq_true hb]
  |false=>simp[hb] at h
 ·exact absurd rfl h
theorem yG{x:Rec}{o:Nat}(h:x.wr (.inr o)≠none):o∈keys x.us:=by
 simp only[Rec.wr] at h;cases hl:nm x.us o with
 |none=>simp[hl] at h
 |some s=>exact VG hl
theorem abx{a b:Rec}{l:od}(h1:a.wr l≠none)(h2:b.at_ l):lE a b=true:=by
 unfold lE;cases l with
 |inl t=>
  have:=yH h1;have h2:t∈b.kv:=h2;simp[this,sk,B_.2 h2]
 |inr o=>
  have:=yG h1;rcases h2 with h2|⟨h2,aa⟩
  ·have:eO (keys a.us) (b.rn++keys b.us)=false:=qW this (List.mem_append.2 (.inl h2));simp[this]
  ·have:=Kv this aa;simp[this,h2]
theorem aby{a b:Rec}{l:od}(h1:a.at_ l)(h2:b.wr l≠none):lE a b=true:=by
 unfold lE;cases l with
 |inl t=>
  have:=yH h2;have h1:t∈a.kv:=h1;simp[this,sk,B_.2 h1]
 |inr o=>
  have:=yG h2;rcases h1 with h2|⟨h2,aa⟩
  ·have:eO (keys b.us) a.rn=false:=qW this h2;simp[this]
  ·have:=Kv this aa;simp[this,h2]
theorem abw{a b:Rec}{l:od}(h1:a.wr l≠none)(h2:b.wr l≠none):lE a b=true:=by
 unfold lE;cases l with
 |inl t=>
  have e1:=yH h1;have e2:=yH h2;simp[e1,e2,sk,fF]
 |inr o=>
  have e1:=yG h1;have e2:=yG h2;have:eO (keys a.us) (b.rn++keys b.us)=false:=qW e1 (List.mem_append.2 (.inr e2));simp[this]
variable {C:Ctx}{ops:Array Oper}{rn:Option Nat}{ds:List Deferred}
def nL(ar:Nat->Bool)(i:Nat):Nat->Bool:=fun j=>ar j||decide (j=i)
theorem ZK(ay:a7 P C){xs:List Rec}{bm:ad}{i:Nat}{D:Oper}{x:Rec}(hx:xs[i]? =some x)(Y:b6 bm D.dst=true)(hr:sd C ops (dY (fun k=>decide (k<i)) 0 xs bm) D x)
  (lD:∀j y,xs[j]? =some y->∀k z,k<j->xs[k]? =some z->s3 ops k j\/lE z y=false) {ar:Nat->Bool} (hc:zw ops ar) (hi:ar i=false) (hf:Ai ops ar i) (ajJ:ops[i]? =some D)
  (S:ah L J X B (dY ar 0 xs bm) tm w) {Q:Exit->Act->World->Prop} {K:Act->World->Prop} (bC:∀aA bT w',ah L J X aA (dY (nL ar i) 0 xs bm) bT w'->(∀t,t∉D.dst.toList->bT.getD t undef=tm.getD t undef)->K ⟨bT,ds⟩ w'):wpOpIn (eo rn) 0 P ops Q i K ⟨tm,ds⟩ w:=by
 have He:∀l,x.at_ l->dd (dY (fun k=>decide (k<i)) 0 xs bm) l=dd (dY ar 0 xs bm) l:=fun l hl=>by
  refine(BU rfl fun j y ak hw=>?_).symm
  simp only[Nat.zero_add];rcases Nat.lt_trichotomy j i with h|h|h
  ·rcases lD i x hx j y h ak with h1|h1
   ·rw[h1 ar hc hf];simp[h]
   ·rw[abx hw hl] at h1;cases h1
  ·subst h;rw[hi];simp
  ·have:ar j=false:=by
    cases qn:ar j with
    |false=>rfl
    |true=>
     rcases lD j y ak i x h hx with h1|h1
     ·have:=h1 ar hc (hc j qn);rw[hi] at this;cases this
     ·rw[aby hl hw] at h1;cases h1
   rw[this];simp;omega
 have Pn:∀t,t∈x.kv->(dY (fun k=>decide (k<i)) 0 xs bm).get t=(dY ar 0 xs bm).get t:=fun t aC=>by
  have:=He (.inl t) aC;simpa[dd] using this
 have zA:∀l,dd ((dY ar 0 xs bm).cu x.D.dst x.v x.us) l=dd (dY (nL ar i) 0 xs bm) l:=fun l=>by
  rw[xf];cases hw:x.wr l with
  |none=>
   simp only;refine BU rfl fun j y ak Hv=>?_
   simp only[Nat.zero_add,nL];by_cases h:j=i
   ·subst h;rw[hx] at ak;cases ak;exact absurd hw Hv
   ·simp[h]
  |some u=>
   simp only;refine(Ye hx (by simp[nL]) hw fun j y hij ak Hv=>?_).symm
   simp only[Nat.zero_add,nL];have:ar j=false:=by
    cases qn:ar j with
    |false=>rfl
    |true=>
     rcases lD j y ak i x hij hx with h1|h1
     ·have:=h1 ar hc (hc j qn);rw[hi] at this;cases this
     ·rw[abw (by rw[hw];intro h;cases h) Hv] at h1;cases h1
   rw[this];simp;omega
 have Tt:b6 (dY ar 0 xs bm) D.dst=true:=by revert Y;cases D.dst<;>simp[b6,C8]
 have fin:∀aA bT w',ah L J X aA ((dY ar 0 xs bm).cu x.D.dst x.v x.us) bT w'->(∀t,t∉D.dst.toList->bT.getD t undef=tm.getD t undef)->K ⟨bT,ds⟩ w':=fun aA bT w' bZ=>bC aA bT w' (bZ.same zA (by rw[E8,C8,C8]))
 unfold wpOpIn;rw[ajJ];simp only;have zC:Region.wanted D (yielded ops tm)=x.go:=by
  cases hg:D.guard with
  |none=>rw[hr.free hg];simp[Region.wanted,hg]
  |some IH=>
   obtain⟨j,want⟩:=IH;obtain⟨t,h1,h2,aa⟩:=hr.guard j want hg;rw[show Region.wanted D (yielded ops tm)=(yielded ops tm j==some want) by simp[Region.wanted,hg]]
   have iv:=S.cF t;rw[<-Pn t h2] at iv;rcases aa with⟨b,aa,aI⟩|⟨⟨u,aa⟩,aI⟩
   ·rw[aa] at iv;have hv:=iR iv;have ak:yielded ops tm j=some b:=by
     have aC:t<tm.size:=by
      rcases Nat.lt_or_ge t tm.size with ab|ab
      ·exact ab
      ·simp[Array.getD,Nat.not_lt.2 ab,undef] at hv
     have:tm[t]? =some (.bool b):=by
      rw[Array.getElem?_eq_getElem aC];simpa[Array.getD,aC] using hv
     simp[yielded,h1,this]
    rw[ak,aI];cases b<;>cases want<;>rfl
   ·rw[aa] at iv;have hv:tm.getD t undef=.tuple u:=iv;have ak:yielded ops tm j=none:=by
     simp only[yielded,h1,Option.bind_some];cases aC:tm[t]? with
     |none=>rfl
     |some v=>
      have:tm.getD t undef=v:=by simp[Array.getD_eq_getD_getElem?,aC]
      rw[this] at hv;rw[hv]
    rw[ak,aI];rfl
 cases sR:x.go with
 |false=>
  rw[sR] at zC;rw[if_neg (by rw[zC];decide)]
  obtain⟨e1,e2⟩:=hr.skip sR;refine⟨fun f _=>zR rn f,wR (R:=ad) (r:=(dY ar 0 xs bm).cu D.dst yI []) S (K:=some) (by simp[ru,Tt]) fun dL fJ dk b5 h1 c4=>?_⟩
  cases h1;refine fin fJ dk b5 ?_
  rw[hr.gN,e1,e2];exact c4
 |true=>
  rw[sR] at zC;rw[if_pos zC];obtain⟨y,g1,g2,g3,eH,n9,wo,wm⟩:=hr.run sR;have c9:step C (dY (fun k=>decide (k<i)) 0 xs bm) D=step C (dY ar 0 xs bm) D:=by
   refine Xp (fun t aC=>Pn t (n9 t aC)) (fun o bg=>?_) fun ad7 o bg=>?_
   ·have:=He (.inr o) (.inl (wo o bg));simpa[dd] using this
   ·have:=He (.inr o) (.inr ⟨wm ad7,bg⟩);simpa[dd] using this
  revert y
  rw[c9];intro y g1 g2 g3 eH;refine nh (R:=ad) (r:=(dY ar 0 xs bm).cu D.dst x.v x.us) S ay (K:=some) ?_ fun dL fJ dk b5 h1 c4=>?_
  ·unfold jY;rw[Tt,cond_true,g1];simp only[Option.bind_some,g2,cond_true,g3,eH]
  ·cases h1;refine fin fJ dk b5 ?_
   rw[hr.gN];exact c4
def vg(listed:Array Bool):Nat:=listed.toList.count false
def gi(listed:Array Bool):Nat->Bool:=fun j=>listed.getD j false
theorem aay{listed:Array Bool}{i:Nat}(h:listed.getD i true=false):vg (listed.setIfInBounds i true)+1=vg listed:=by
 unfold vg;have a3:i<listed.size:=by
  rcases Nat.lt_or_ge i listed.size with ab|ab
  ·exact ab
  ·simp[Array.getD,Nat.not_lt.2 ab] at h
 have hv:listed.toList[i]'(by simpa using a3)=false:=by simpa[Array.getD,a3] using h
 rw[Array.toList_setIfInBounds,List.count_set (by simpa using a3)]
 rw[hv];have:0<listed.toList.count false:=List.count_pos_iff.2 (by rw[<-hv];exact List.getElem_mem _)
 have e1:(if(false==false)=true then 1 else 0)=1:=rfl
 have e2:(if(true==false)=true then 1 else 0)=0:=rfl
 rw[e1,e2];omega
theorem Ld{D:Oper}{t:Nat}:∀{l:List Oper},D∈l->t∈D.dst.toList->t∈hS l:=by
 intro l;induction l with
 |nil=>intro h;cases h
 |cons p l ih=>
  intro h aC;simp only[hS,List.mem_append];rcases List.mem_cons.1 h with rfl|h
  ·exact .inl aC
  ·exact .inr (ih h aC)
theorem aae(ay:a7 P C){bm Ar:ad}{xs:List Rec}(aZ:kC C ops ops.toList 0 [] bm xs Ar){Q:Exit->Act->World->Prop}{eu:Array Value}(Bm:∀B tm w,ah L J X B Ar tm w->(∀t,t∉hS ops.toList->tm.getD t undef=eu.getD t undef)->Q .normal ⟨tm,ds⟩ w):
  ∀(oQ:Nat) (listed:Array Bool) (B:Nat->Value) (tm:Array Value) (w:World),listed.size=ops.size->vg listed<=oQ->zw ops (gi listed)->ah L J X B (dY (gi listed) 0 xs bm) tm w->
   (∀t,t∉hS ops.toList->tm.getD t undef=eu.getD t undef)->wpAnyIn (eo rn) 0 P .any ops Q oQ listed ⟨tm,ds⟩ w:=by
 have hlen:xs.length=ops.size:=by rw[aZ.length];simp
 have lD:∀j y,xs[j]? =some y->∀k z,k<j->xs[k]? =some z->s3 ops k j\/lE z y=false:=fun j y ak k z ag hz=>by
  have:=aZ.aiU [] rfl (fun j=>by simp) (fun k y h=>by simp at h) (fun k x b h=>by simp at h) j y ak k z (by omega) (by simpa using hz)
  simpa using this
 have all:∀listed:Array Bool,listed.size=ops.size->(∀j,j<ops.size->gi listed j=true)->∀B tm w,ah L J X B (dY (gi listed) 0 xs bm) tm w->(∀t,t∉hS ops.toList->tm.getD t undef=eu.getD t undef)->Q .normal ⟨tm,ds⟩ w:=fun listed M hl B tm w S aC=>by
  refine Bm B tm w ?_ aC;rw[<-aZ.agv 0];rw[J1 (L':=gi listed) (k':=0) fun j hj=>by simp only[Nat.zero_add];rw[hl j (by omega)]]
  exact S
 have done:∀listed:Array Bool,listed.size=ops.size->Region.ready .any ops listed=[]->∀j,j<ops.size->gi listed j=true:=fun listed M hr j=>by
  induction j using Nat.strongRecOn with
  |_ j ih=>
   intro hj;cases qn:gi listed j with
   |true=>rfl
   |false=>
    exfalso
    have hx:xs[j]? =some (xs[j]'(by omega)):=List.getElem?_eq_getElem _
    obtain⟨D,h1,_,aa,_⟩:=aZ.at_ j _ hx;have h1:ops[j]? =some D:=by simpa using h1
    have hm:j∈Region.ready .any ops listed:=by
     rw[mem_ready];refine⟨?_,D,h1,fun e he hb=>?_⟩
     ·have a3:j<listed.size:=by omega
      simpa[gi,Array.getD,a3] using qn
     ·have:e.on<j:=by
       have l1:e∈D.after.toList:=by simpa using he
       clear he hr;revert aa
       simp only[Nat.zero_add];generalize D.after.toList=es at l1;induction es with
       |nil=>cases l1
       |cons b3 es ajm=>
        intro aa;simp only[rh,Bool.and_eq_true] at aa;rcases List.mem_cons.1 l1 with rfl|l1
        ·rw[hb] at aa;simpa using aa.1
        ·exact ajm l1 aa.2
      have:=ih e.on this (by omega)
      simpa[gi] using this
    rw[hr] at hm;cases hm
 intro oQ;induction oQ with
 |zero=>
  intro listed B tm w M hu hc S aC;have mI:∀j,j<ops.size->gi listed j=true:=fun j hj=>by
   have h0:listed.toList.count false=0:=Nat.le_zero.1 hu;rw[List.count_eq_zero] at h0;cases qn:gi listed j with
   |true=>rfl
   |false=>
    exfalso
    have a3:j<listed.size:=by omega
    apply h0;have:listed.toList[j]'(by simpa using a3)=false:=by simpa[gi,Array.getD,a3] using qn
    rw[<-this];exact List.getElem_mem _
  refine⟨?_,all listed M mI B tm w S aC⟩;rw[List.eq_nil_iff_forall_not_mem];intro j hj;rw[mem_ready] at hj;obtain⟨h1,D,h2,_⟩:=hj;have hj:j<ops.size:=(Array.getElem?_eq_some_iff.1 h2).1;have:=mI j hj;have a3:j<listed.size:=by omega
  simp[gi,Array.getD,a3] at this h1;rw[h1] at this;cases this
 |succ oQ ih=>
  intro listed B tm w M hu hc S aC;refine⟨fun hr=>all listed M (done listed M hr) B tm w S aC,fun i hi=>?_⟩
  have hV:=mem_ready.1 hi;obtain⟨h1,D,h2,aa⟩:=hV;have kj:i<ops.size:=(Array.getElem?_eq_some_iff.1 h2).1;have hx:xs[i]? =some (xs[i]'(by omega)):=List.getElem?_eq_getElem _
  obtain⟨cZ,g1,g2,g3,eH⟩:=aZ.at_ i _ hx;have g1:ops[i]? =some cZ:=by simpa using g1
  rw[h2] at g1;cases g1;have a3:i<listed.size:=by omega
  have akh:gi listed i=false:=by simpa[gi,Array.getD,a3] using h1
  have hf:Ai ops (gi listed) i:=fun o2 kg e he hb=>by
   rw[h2] at kg;cases kg;have:=aa e (by simpa using he) hb
   simpa[gi] using this
  have mH:gi (listed.setIfInBounds i true)=nL (gi listed) i:=by
   funext j
   simp only[gi,nL];by_cases h:j=i
   ·subst h;simp[a3]
   ·simp[h,Array.getElem?_setIfInBounds_ne (show i≠j from fun e=>h e.symm)]
  refine ZK ay hx g2 eH lD hc akh hf h2 S fun aA bT w' bZ vE=>ih _ aA bT w' (by simpa using M) (by have:=aay h1;omega) ?_ (by rw[mH];exact bZ) fun t htn=>(vE t fun ab=>htn (Ld (l:=ops.toList) (by simpa using Array.mem_of_getElem? h2) ab)).trans (aC t htn)
  rw[mH];intro j hj o2 kg e he hb;simp only[nL,Bool.or_eq_true,decide_eq_true_eq] at hj;simp only[nL,Bool.or_eq_true,decide_eq_true_eq];rcases hj with hj|hj
  ·exact .inl (hc j hj o2 kg e he hb)
  ·subst hj;exact .inl (hf o2 kg e he hb)
theorem ZD:∀l:List Nat,dp st.sites (zk st l):=by
 intro l;induction l with
 |nil=>exact .nil
 |cons t l ih=>
  refine dp.append ?_ ih;unfold OV;split
  ·rename_i o s _;split
   ·rename_i am t xs M;cases hb:am.beq s with
    |false=>exact .nil
    |true=>
     intro F O hm;simp only[cond_true,List.mem_singleton,Prod.mk.injEq] at hm;obtain⟨rfl,rfl⟩:=hm;exact⟨am,t,xs,rfl,.inl M⟩
   ·exact .nil
  ·exact .nil
theorem X5(ay:a7 P C)(hm:P.follows .mixedOrders=true){R:Type}{r:R}{K:ad->Option R}{id:Nat}{Q:Exit->Act->World->Prop}(S:ah L J X B st tm w)(h:MY C ops st K=some r)
  (bC:∀af aA bT w',K af=some r->ah L J X aA af bT w'->(∀t,t∉hS ops.toList->bT.getD t undef=tm.getD t undef)->Q .normal ⟨bT,ds⟩ w'):fQ rn P (Code.region id ops true) Q ⟨tm,ds⟩ w:=by
 obtain⟨xs,Ar,aZ,ag⟩:=ZL h;have S:ah L J X B (st.hs (zk st (CG ops.toList ops.toList))) tm w:=by rw[ad.tO];exact S.yA (ZD _)
 refine wpIn_region_any hm (aae ay aZ (fun B tm w S=>bC Ar B tm w ag S) _ _ B tm _ (by simp) ?_ ?_ ?_ (fun _ _=>rfl))
 ·unfold vg;simp
 ·intro j hj;simp only[gi] at hj;exfalso
  rw[Array.getD_eq_getD_getElem?,Array.getElem?_replicate] at hj;split at hj<;>cases hj
 ·rw[BV fun j _=>by
   simp only[gi];rw[Array.getD_eq_getD_getElem?,Array.getElem?_replicate];split<;>rfl]
  exact S.drawn _
end
def sh(r:Option Nat)(c:Code):Prop:=r=none\/gz c=true
theorem sh.left{r:Option Nat}{a b:Bool}(h:r=none\/(a&&b)=true):r=none\/a=true:=by
 rcases h with h|h
 ·exact .inl h
 ·simp only[Bool.and_eq_true] at h;exact .inr h.1
theorem sh.right{r:Option Nat}{a b:Bool}(h:r=none\/(a&&b)=true):r=none\/b=true:=by
 rcases h with h|h
 ·exact .inl h
 ·simp only[Bool.and_eq_true] at h;exact .inr h.2
theorem iP{P:Program}{C:g5}(ay:a7 P C.toCtx){R:Type}{r:R}{rn:Option Nat}:∀(c:Code) (p:Nat),(rn=none\/gz c=true)->fV P C c p->∀(L:World) (J:List Nat) (X:Nat->Prop) (st:ad) (B:Nat->Value) (tm:Array Value) (w:World)
  (ds:List Deferred) (K:Out->Option R)
  (Q:Exit->Act->World->Prop),exec C c p st K=some r->ah L J X B st tm w->(∀D e a w',K D=some r->e0 L J X ds tm (cm c) D e a w'->Q e a w')->fQ rn P c Q ⟨tm,ds⟩ w:=by
 have piece:∀(c:Code) (p:Nat),(rn=none\/gz c=true)->(∀f,C.nP p=some f->bp P c f)->∀(L:World) (J:List Nat) (X:Nat->Prop) (st:ad) (B:Nat->Value) (tm:Array Value) (w:World) (ds:List Deferred) (K:Out->Option R) (Q:Exit->Act->World->Prop) (x:Option R),
   wrap C p st K x=some r->ah L J X B st tm w->(∀D e a w',K D=some r->e0 L J X ds tm (cm c) D e a w'->Q e a w')->(x=some r->fQ rn P c Q ⟨tm,ds⟩ w)->fQ rn P c Q ⟨tm,ds⟩ w:=by
  intro c p hn hf L J X st B tm w ds K Q x h S bC hx;unfold wrap at h;cases au:C.nP p with
  |none=>simp only[au] at h;exact hx h
  |some f=>
   simp only[au] at h;cases hc:(f st).comp with
   |none=>simp[hc] at h
   |some y=>
    simp only[hc,Option.bind_some,(f st).run_eq] at h;exact wpIn_mono (hf f au rn hn L J X st y hc B tm w ds S) fun e a w' hl=>bC _ e a w' h hl
 intro c;induction c with
 |skip=>
  intro p _ _ L J X st B tm w ds K Q h S bC;exact wpIn_skip (bC (.norm st) .normal _ _ h (ec.of S fun _ _=>rfl))
 |region id ops draw=>
  intro p hn dT L J X st B tm w ds K Q h S bC;cases draw with
  |false=>
   simp only[exec] at h;refine piece _ p hn dT L J X st B tm w ds K Q _ h S bC fun ab=>?_
   refine wpIn_region ?_
   rw[List.range_eq_range'];refine Y1 ay (W:=hS ops.toList) ops.size 0 (by omega) (fun D au t aC=>Ld (by simpa using au) aC) st B tm w _ Q S ab ?_
   intro af aA bT w' ag bZ aC;exact bC (.norm af) .normal _ _ ag (ec.of bZ aC)
  |true=>
   simp only[exec] at h;refine piece _ p hn dT L J X st B tm w ds K Q _ h S bC fun ab=>?_
   exact X5 ay ay.Bl S ab fun af aA bT w' ag bZ aC=>bC (.norm af) .normal _ _ ag (ec.of bZ aC)
 |seq a b lQ p4=>
  intro p hn dT L J X st B tm w ds K Q h S bC;simp only[exec] at h;refine piece _ p hn dT.1 L J X st B tm w ds K Q _ h S bC fun ab=>?_
  refine wpIn_seq (lQ _ (sh.left hn) dT.2.1 L J X st B tm w ds _ _ ab S ?_);intro D e fh w' ag hl;have up:∀{D e fh w'},e0 L J X ds tm (cm a) D e fh w'->e0 L J X ds tm (cm (.seq a b)) D e fh w':=fun hl=>hl.mono fun t aC=>List.mem_append.2 (.inl aC)
  cases D with
  |norm af=>
   cases e<;>try exact hl.elim
   obtain⟨b5,dr,cQ,aA,du,h1,h2,aa,bZ,bD⟩:=hl;obtain⟨bT,IS⟩:=fh;obtain⟨aa,aks⟩:=aa;have aa:IS=du.map mark++ds:=aa;subst aa;exact p4 _ (sh.right hn) dT.2.2 b5 dr cQ af aA bT w' _ K Q ag bZ fun D e a2 w2 hU lW=>bC D e a2 w2 hU (e0.trans h1 h2 aks bD lW)
  |exit id af=>
   cases e<;>try exact hl.elim
   exact bC _ _ _ _ ag (up hl)
  |ret af=>
   cases e<;>try exact hl.elim
   exact bC _ _ _ _ ag (up hl)
 |cond D a b lQ p4=>
  intro p hn dT L J X st B tm w ds K Q h S bC;simp only[exec] at h;refine piece _ p hn dT.1 L J X st B tm w ds K Q _ h S bC fun ab=>?_
  split at ab
  ·rename_i t aC;have hv:=Ef S aC;have hv:Act.eval ⟨tm,ds⟩ D=.bool t:=by cases D<;>exact hv
   cases t with
   |true=>exact wpIn_cond hv (lQ _ (sh.left hn) dT.2.1 L J X st B tm w ds K Q ab S fun D e a2 w2 hU lW=>bC D e a2 w2 hU (lW.mono fun t aC=>List.mem_append.2 (.inl aC)))
   |false=>exact wpIn_cond hv (p4 _ (sh.right hn) dT.2.2 L J X st B tm w ds K Q ab S fun D e a2 w2 hU lW=>bC D e a2 w2 hU (lW.mono fun t aC=>List.mem_append.2 (.inr aC)))
  ·cases ab
 |block id a lQ=>
  intro p hn dT L J X st B tm w ds K Q h S bC;simp only[exec] at h;refine piece _ p hn dT.1 L J X st B tm w ds K Q _ h S bC fun ab=>?_
  refine wpIn_block (lQ _ hn dT.2 L J X st B tm w ds _ _ ab S ?_);intro D e fh w' ag hl;cases D with
  |norm af=>
   cases e<;>try exact hl.elim
   exact bC _ _ _ _ ag hl
  |exit ia af=>
   cases e<;>try exact hl.elim
   rename_i aou;obtain⟨rfl,hl⟩:=hl;simp only[Exit.inBlock];cases hb:ia.beq id with
   |true=>
    simp only[hb,cond_true] at ag;have:=Nat.eq_of_beq_eq_true hb;subst this;simp only[if_true];exact bC _ _ _ _ ag hl
   |false=>
    simp only[hb,cond_false] at ag;have:ia≠id:=by rintro rfl;rw[Nat.beq_refl] at hb;cases hb
    simp only[this,if_false];exact bC _ _ _ _ ag ⟨rfl,hl⟩
  |ret af=>
   cases e<;>try exact hl.elim
   exact bC _ _ _ _ ag hl
 |loop a _=>
  intro p hn dT L J X st B tm w ds K Q h S bC;simp only[exec] at h;exact piece _ p hn dT L J X st B tm w ds K Q _ h S bC fun ab=>by cases ab
 |rangeFunc=>
  intro p hn dT L J X st B tm w ds K Q h S bC;simp only[exec] at h;exact piece _ p hn dT L J X st B tm w ds K Q _ h S bC fun ab=>by cases ab
 |exit id=>
  intro p _ _ L J X st B tm w ds K Q h S bC;exact wpIn_exit (bC (.exit id st) (.exit id) _ _ h ⟨rfl,ec.of S fun _ _=>rfl⟩)
 |ret=>
  intro p _ _ L J X st B tm w ds K Q h S bC;exact wpIn_ret (bC (.ret st) .ret _ _ h (ec.of S fun _ _=>rfl))
 |_=>
  intro p _ _ L J X st B tm w ds K Q h S bC;simp only[exec] at h;cases h
inductive c':Type where
 |int (k:IntKind)
 |bool
 |str
 |sl (t:aF)
 |map (t:aF)
 |err (T:Nat)
@[reducible] def c'.H:c'->Type
 |.int _=>Int
 |.bool=>Bool
 |.str=>al
 |.sl t=>List (den t)
 |.map t=>List (al×den t)
 |.err _=>Option Int
def c'.mk:(s:c')->s.H->aL
 |.int k,n=>.int k n
 |.bool,b=>.bool b
 |.str,s=>.str s
 |.sl t,xs=>.sl t xs
 |.map t,es=>.map t es
 |.err T,D=>.err T D
def c'.ex:(s:c')->aL->Option s.H
 |.int k,.int k' n=>if k=k' then some n else none
 |.bool,.bool b=>some b
 |.str,.str s=>some s
 |.sl t,.sl bj xs=>if h:bj=t then some (h▸xs) else none
 |.map t,.map bj es=>if h:bj=t then some (h▸es) else none
 |.err T,.err fA D=>if fA=T then some D else none
 |_,_=>none
theorem c'.OB{s:c'}{d:aL}{y:s.H}(h:s.ex d=some y):s.mk y=d:=by
 unfold c'.ex at h;split at h
 ·split at h
  ·rename_i e;cases h;subst e;rfl
  ·cases h
 ·cases h;rfl
 ·cases h;rfl
 ·split at h
  ·rename_i e;cases h;subst e;rfl
  ·cases h
 ·split at h
  ·rename_i e;cases h;subst e;rfl
  ·cases h
 ·split at h
  ·rename_i e;cases h;subst e;rfl
  ·cases h
 ·cases h
@[reducible] def kp:List c'->Type
 |[]=>Unit
 |s::r=>s.H×kp r
def eE:(aS:List c')->kp aS->List aL
 |[],_=>[]
 |s::r,(y,z)=>s.mk y::eE r z
def u4:(aS:List c')->List aL->Option (kp aS)
 |[],[]=>some ()
 |s::r,d::ds=>match s.ex d,u4 r ds with
  |some y,some z=>some (y,z)
  |_,_=>none
 |_,_=>none
theorem ML:∀{aS:List c'} {ds:List aL} {y:kp aS},u4 aS ds=some y->eE aS y=ds:=by
 intro aS;induction aS with
 |nil=>intro ds y h;cases ds with
  |nil=>rfl
  |cons=>cases h
 |cons s aS ih=>
  intro ds y h;cases ds with
  |nil=>cases h
  |cons d ds=>
   simp only[u4] at h;split at h
   ·rename_i a b h1 h2;cases h;simp only[eE,c'.OB h1,ih h2]
   ·cases h
@[reducible] def u5:List (List c')->Type
 |[]=>Unit
 |s::r=>kp s×u5 r
def uz:(aS:List (List c'))->u5 aS->List (List aL)
 |[],_=>[]
 |s::r,(y,z)=>eE s y::uz r z
def zJ:(aS:List (List c'))->List (List aL)->Option (u5 aS)
 |[],[]=>some ()
 |s::r,d::ds=>match u4 s d,zJ r ds with
  |some y,some z=>some (y,z)
  |_,_=>none
 |_,_=>none
theorem _U:∀{aS:List (List c')} {ds:List (List aL)} {y:u5 aS},zJ aS ds=some y->uz aS y=ds:=by
 intro aS;induction aS with
 |nil=>intro ds y h;cases ds with
  |nil=>rfl
  |cons=>cases h
 |cons s aS ih=>
  intro ds y h;cases ds with
  |nil=>cases h
  |cons d ds=>
   simp only[zJ] at h;split at h
   ·rename_i a b h1 h2;cases h;simp only[uz,ML h1,ih h2]
   ·cases h
inductive dV:Type where
 |any
 |d (s:c')
 |fn (g:FuncId) (ct:List (List c'))
 |ee (aS:List c') (off:Nat)
 |own (n:Nat)
 |ptr (n off:Nat)
 |clo (g:FuncId) (az:List Nat)
 |ev
 |Qo -- mM nil interface
 |ej (n:Nat) (t:aF)
@[reducible] def dV.H:dV->Type
 |.d s=>s.H
 |.fn _ ct=>u5 ct
 |.ee aS _=>kp aS
 |_=>Unit
def dV.mk:(s:dV)->s.H->aw
 |.any,_=>.any
 |.d s,y=>.d (s.mk y)
 |.fn g ct,y=>.d (.fn g (uz ct y))
 |.ee aS off,y=>.ee (eE aS y) off
 |.own n,_=>.own n 0
 |.ptr n off,_=>.ptr n 0 off
 |.clo g az,_=>.clo g (az.map fun n=>(n,0))
 |.ev,_=>.ev
 |.Qo,_=>.cB .nilIface
 |.ej n t,_=>.ej n 0 t 0 0
abbrev Ren:=List (Nat×Option (Nat×Nat))
def mx(aO:Ren)(n o s:Nat):Bool:=match look aO n with
 |some (some (GY,am))=>GY.beq o&&am.beq s
 |_=>false
def tS(aO:Ren):List Nat->List (Nat×Nat)->Bool
 |[],[]=>true
 |n::az,(o,s)::cs=>mx aO n o s&&tS aO az cs
 |_,_=>false
def ml(aO:Ren):List Nat
 :=match aO with
 |[]=>[]
 |(_,some (o,_))::r=>o::ml r
 |(_,none)::r=>ml r
def dV.ex(st:ad)(aO:Ren):(s:dV)->aw->Option s.H
 |.any,_=>some ()
 |.d s,.d v=>s.ex v
 |.d (.sl t),.nil _=>some ([]:List (den t))
 |.d (.err _),.cB .nilIface=>some (none:Option Int)
 |.d (.sl t),.own o s=>match st.O o with
  |some (.cR am bj xs)=>bif am.beq s then(if h:bj=t then some (h▸xs:List (den t)) else none) else none
  |_=>none
 |.d (.map t),.own o s=>match st.O o with
  |some (.map am bj es)=>bif am.beq s&&!fF o (ml aO) then(if h:bj=t then some (h▸es:List (al×den t)) else none) else none
  |_=>none
 |.fn g ct,.d (.fn cv cs)=>bif Nat.beq g cv then zJ ct cs else none
 |.fn g [],.clo cv []=>bif Nat.beq g cv then some () else none
 |.ee aS off,.ee ds oL=>bif Nat.beq off oL then u4 aS ds else none
 |.own n,.own o s=>bif mx aO n o s then some () else none
 |.own n,.nil _=>match look aO n with|some none=>some ()|_=>none
 |.ptr n off,.ptr o s oL=>bif mx aO n o s&&Nat.beq off oL then some () else none
 |.clo g az,.clo cv cs=>bif Nat.beq g cv&&tS aO az cs then some () else none
 |.ev,.ev=>some ()
 |.Qo,.cB .nilIface=>some ()
 |.ej n t,.ej o s bj 0 0=>bif mx aO n o s then(if bj=t then some () else none) else none
 |_,_=>none
@[reducible] def pZ:List dV->Type
 |[]=>Unit
 |s::r=>s.H×pZ r
def rT:(aS:List dV)->pZ aS->List aw
 |[],_=>[]
 |s::r,(y,z)=>s.mk y::rT r z
def pO(st:ad)(aO:Ren):(aS:List dV)->List aw->Option (pZ aS)
 |[],[]=>some ()
 |s::r,l::U=>match s.ex st aO l,pO st aO r U with
  |some y,some z=>some (y,z)
  |_,_=>none
 |_,_=>none
inductive fa:Type where
 |ai (s:dV)
 |agg (aS:List dV)
@[reducible] def fa.H:fa->Type
 |.ai s=>s.H
 |.agg aS=>pZ aS
def fa.mk:(s:fa)->s.H->aK
 |.ai s,y=>bP (s.mk y)
 |.agg aS,y=>.av (.agg (rT aS y))
def fa.ex(st:ad)(aO:Ren):(s:fa)->aK->Option s.H
 |.ai s,.av (.ai l)=>s.ex st aO l
 |.agg aS,.av (.agg U)=>pO st aO aS U
 |_,_=>none
@[reducible] def uq:List (Nat×fa)->Type
 |[]=>Unit
 |s::r=>s.2.H×uq r
def tX:(aS:List (Nat×fa))->uq aS->List (Nat×aK)
 |[],_=>[]
 |s::r,(y,z)=>(s.1,s.2.mk y)::tX r z
def yB(st:ad)(aO:Ren):(aS:List (Nat×fa))->Option (uq aS)
 |[]=>some ()
 |s::r=>match s.2.ex st aO (st.get s.1),yB st aO r with
  |some y,some z=>some (y,z)
  |_,_=>none
inductive dO:Type where
 |row (t:aF)
 |sf (t:aF) (n:Nat) -- ao5 anz row,anI length gN told
 |deep (t:aF)
 |box (aS:List dV)
 |map (t:aF)
@[reducible] def dO.H:dO->Type
 |.row t=>List (den t)
 |.sf t _=>List (den t)
 |.deep t=>List (den t)
 |.box aS=>pZ aS
 |.map t=>List (al×den t)
def zW{aH:Type}(z:aH):Nat->List aH->List aH
 |0,_=>[]
 |n+1,xs=>xs.headD z::zW z n xs.tail
theorem ME{aH:Type}(z:aH):∀(xs:List aH),zW z xs.length xs=xs
 |[]=>rfl
 |x::xs=>by simp only[List.length_cons,zW,List.headD_cons,List.tail_cons,ME z xs]
def pad{t:aF}(n:Nat)(xs:List (den t)):List (den t):=match we t with
 |some z=>zW z n xs
 |none=>xs
theorem acG{t:aF}{n:Nat}{xs:List (den t)}(h:xs.length=n):pad n xs=xs:=by
 subst h;unfold pad;split
 ·exact ME _ _
 ·rfl
def dO.mk:(s:dO)->s.H->Site
 |.row t,xs=>.row 0 t xs
 |.sf t n,xs=>.row 0 t (pad n xs)
 |.deep t,xs=>.deep 0 t xs
 |.box aS,y=>.box 0 (rT aS y)
 |.map t,es=>.map 0 t es
def dO.ex(st:ad)(aO:Ren):(s:dO)->Option (Nat×Nat)->Option s.H
 |.row t,none=>some ([]:List (den t))
 |.row t,some (o,s)=>match st.O o with
  |some (.row am bj xs)=>bif am.beq s then(if h:bj=t then some (h▸xs:List (den t)) else none) else none
  |_=>none
 |.deep t,none=>some ([]:List (den t))
 |.deep t,some (o,s)=>match st.O o with
  |some (.deep am bj xs)=>bif am.beq s then(if h:bj=t then some (h▸xs:List (den t)) else none) else none
  |_=>none
 |.sf _ _,none=>none
 |.sf t n,some (o,s)=>match st.O o with
  |some (.row am bj xs)=>bif am.beq s then(if h:bj=t then(if xs.length=n then some (h▸xs:List (den t)) else none) else none) else none
  |_=>none
 |.box aS,some (o,s)=>match fs st o s with
  |some cells=>pO st aO aS cells
  |none=>none
 |.box _,none=>none
 |.map t,some (o,s)=>match st.O o with
  |some (.map am bj es)=>bif am.beq s then(if h:bj=t then some (h▸es:List (al×den t)) else none) else none
  |_=>none
 |.map _,none=>none
inductive Loc:Type where
 |same
 |slot (t j:Nat)
 |cell (o j:Nat)
def adO(st:ad):Loc->Option aw
 |.same=>none
 |.slot t j=>match st.get t with
  |.av (.ai l)=>bif Nat.beq j 0 then some l else none
  |.av (.agg U)=>U[j]?
  |_=>none
 |.cell o j=>match st.O o with
  |some (.box _ cells)=>cells[j]?
  |_=>none
def Fi(st:ad)(n:Nat)(l:Loc):Option (Option (Nat×Nat)):=
 match l with
 |.same=>match st.O n with|some s=>some (some (n,s.b1))|none=>none
 |l=>match adO st l with
  |some (.own o s)=>some (some (o,s))
  |some (.ptr o s _)=>some (some (o,s))
  |some (.ej o s _ _ _)=>some (some (o,s))
  |some (.nil _)=>some none
  |_=>none
@[reducible] def rK:List (Nat×dO×Loc)->Type
 |[]=>Unit
 |s::r=>s.2.1.H×rK r
def fC:(aS:List (Nat×dO×Loc))->rK aS->List (Nat×Site)
 |[],_=>[]
 |s::r,(y,z)=>(s.1,s.2.1.mk y)::fC r z
def yC(st:ad)(aO:Ren):(aS:List (Nat×dO×Loc))->Option (rK aS)
 |[]=>some ()
 |s::r=>match(look aO s.1).bind fun D=>s.2.1.ex st aO D,yC st aO r with
  |some y,some z=>some (y,z)
  |_,_=>none
def pI(st:ad):List (Nat×dO×Loc)->Option Ren
 |[]=>some []
 |s::r=>match Fi st s.1 s.2.2,pI st r with
  |some D,some aO=>some ((s.1,D)::aO)
  |_,_=>none
structure Shape where
 cF:List (Nat×fa)
 sites:List (Nat×dO×Loc)
 nt:Nat
@[reducible] def Shape.H(aN:Shape):Type:=uq aN.cF×rK aN.sites
def Shape.st(aN:Shape)(y:aN.H):ad:=⟨tX aN.cF y.1,fC aN.sites y.2,aN.nt⟩
def z8(st:ad):dV->aw->List (Nat×Site)
 |.d (.sl _),.own o s=>match st.O o with
  |some (.row am t xs)=>bif am.beq s then [(o,.cR s t xs)] else []
  |some (.deep am t xs)=>bif am.beq s then [(o,.cR s t xs)] else []
  |_=>[]
 |_,_=>[]
def z7(st:ad):List dV->List aw->List (Nat×Site)
 |s::aS,l::U=>z8 st s l++z7 st aS U
 |_,_=>[]
def QS(st:ad):fa->aK->List (Nat×Site)
 |.ai s,.av (.ai l)=>z8 st s l
 |.agg aS,.av (.agg U)=>z7 st aS U
 |_,_=>[]
def pq(st:ad):List (Nat×fa)->List (Nat×Site)
 |[]=>[]
 |s::r=>QS st s.2 (st.get s.1)++pq st r
def QR(st:ad):dO->Option (Option (Nat×Nat))->List (Nat×Site)
 |.box aS,some (some (o,s))=>match fs st o s with
  |some cells=>z7 st aS cells
  |none=>[]
 |_,_=>[]
def pr(st:ad):List (Nat×dO×Loc)->List (Nat×Site)
 |[]=>[]
 |s::r=>QR st s.2.1 (Fi st s.1 s.2.2)++pr st r
def Shape.ex(aN:Shape)(bm:ad):Option aN.H:=
 let st:=bm.hs (pq bm aN.cF++pr bm aN.sites)
 bif st.nt.beq aN.nt then
  match pI st aN.sites with
  |some aO=>bif eJ (keys aO)&&eJ (ml aO) then
    match yB st aO aN.cF,yC st aO aN.sites with
    |some y,some z=>some (y,z)
    |_,_=>none
   else none
  |none=>none
 else none
theorem MU{st:ad}{s:dV}{l:aw}:dp st.sites (z8 st s l):=by
 unfold z8;split
 ·rename_i o s;split
  ·rename_i am t xs hl;cases hb:am.beq s with
   |false=>exact .nil
   |true=>
    have:=Nat.eq_of_beq_eq_true hb;subst this;intro F O hm;simp only[cond_true,List.mem_singleton,Prod.mk.injEq] at hm;obtain⟨rfl,rfl⟩:=hm;exact⟨_,_,_,rfl,.inl hl⟩
  ·rename_i am t xs hl;cases hb:am.beq s with
   |false=>exact .nil
   |true=>
    have:=Nat.eq_of_beq_eq_true hb;subst this;intro F O hm;simp only[cond_true,List.mem_singleton,Prod.mk.injEq] at hm;obtain⟨rfl,rfl⟩:=hm;exact⟨_,_,_,rfl,.inr (.inr hl)⟩
  ·exact .nil
 ·exact .nil
theorem MT{st:ad}:∀{aS:List dV} {U:List aw},dp st.sites (z7 st aS U):=by
 intro aS;induction aS with
 |nil=>intro U;cases U<;>exact .nil
 |cons s aS ih=>
  intro U;cases U with
  |nil=>exact .nil
  |cons l U=>exact MU.append ih
theorem W5{st:ad}:∀{aS:List (Nat×fa)},dp st.sites (pq st aS):=by
 intro aS;induction aS with
 |nil=>exact .nil
 |cons s aS ih=>
  refine dp.append ?_ ih;unfold QS;split
  ·exact MU
  ·exact MT
  ·exact .nil
theorem W6{st:ad}:∀{aS:List (Nat×dO×Loc)},dp st.sites (pr st aS):=by
 intro aS;induction aS with
 |nil=>exact .nil
 |cons s aS ih=>
  refine dp.append ?_ ih;unfold QR;split
  ·split
   ·exact MT
   ·exact .nil
  ·exact .nil
def sb(st:ad)(aO:Ren)(bo:List (Nat×Site)):Prop:=
 ∀n D,look aO n=some D->(∃am,look bo n=some am/\am.b1=0)/\∀o s,D=some (o,s)->∃O,look st.sites o=some O/\O.b1=s/\O.live=true
def eN(B:Nat->Value)(aO:Ren)(bo:List (Nat×Site))(n:Nat):Value:=
 match look aO n with
 |some (some (o,_))=>B o
 |some none=>match look bo n with
  |some (.deep _ _ _)=>.tuple #[.slice none 0 0]
  |_=>.slice none 0 0
 |none=>undef
theorem KZ{B:Nat->Value}{aO:Ren}{bo:List (Nat×Site)}{n:Nat}(h:look aO n=some none):bY (eN B aO bo n)=.slice none 0 0/\bJ (eN B aO bo n)=[]:=by
 unfold eN;rw[h];simp only;split<;>exact⟨rfl,rfl⟩
theorem XA{aO:Ren}{n o s:Nat}(h:mx aO n o s=true):look aO n=some (some (o,s)):=by
 unfold mx at h;split at h
 ·rename_i GY am hl;simp only[Bool.and_eq_true] at h;rw[hl,Nat.eq_of_beq_eq_true h.1,Nat.eq_of_beq_eq_true h.2]
 ·cases h
section
variable {L:World}{J:List Nat}{X:Nat->Prop}{B:Nat->Value}{st:ad}{tm:Array Value}{w:World}{aO:Ren}{bo:List (Nat×Site)}{bS:Nat->Prop}
theorem x4(S:ah L J X B st tm w)(dy:sb st aO bo){n o s:Nat}(h:mx aO n o s=true){p qC:Prop}(hr:Ref st.sites o s p)(aj:eN B aO bo n=B o->p->qC):Ref bo n 0 qC:=by
 have hl:=XA h;obtain⟨⟨am,h1,h2⟩,aa⟩:=dy n _ hl;obtain⟨O,aI,bD,_⟩:=aa o s rfl;exact Ref.mk h1 h2 (aj (by simp[eN,hl]) (Ref.at hr aI bD))
theorem XB(S:ah L J X B st tm w)(dy:sb st aO bo):∀{az:List Nat} {cs:List (Nat×Nat)} {vs:List Value},tS aO az cs=true->vs.length=cs.length->
  (∀i (h:i<cs.length) (ab:i<vs.length),Ref st.sites (cs[i]).1 (cs[i]).2 (vs[i]=bY (B (cs[i]).1)))->
  vs.length=(az.map fun n=>(n,0)).length/\∀i (h:i<(az.map fun n=>((n,0):Nat×Nat)).length) (ab:i<vs.length),Ref bo ((az.map fun n=>((n,0):Nat×Nat))[i]).1 ((az.map fun n=>((n,0):Nat×Nat))[i]).2 (vs[i]=bY (eN B aO bo ((az.map fun n=>((n,0):Nat×Nat))[i]).1)):=by
 intro az;induction az with
 |nil=>
  intro cs vs h hl _;match cs,h with
  |[],_=>exact⟨by simpa using hl,fun i h=>by simp at h⟩
 |cons n az ih=>
  intro cs vs h hl hr;match cs,h with
  |(o,s)::cs,h=>
   simp only[tS,Bool.and_eq_true] at h;match vs,hl with
   |v::vs,hl=>
    obtain⟨aB,ao⟩:=ih (vs:=vs) h.2 (by simpa using hl) (fun i g1 g2=>hr (i+1) (by simpa using g1) (by simpa using g2))
    refine⟨by simpa using aB,fun i g1 g2=>?_⟩
    cases i with
    |zero=>exact x4 S dy h.1 (hr 0 (by simp) (by simp)) (fun e p=>p.trans (congrArg bY e.symm))
    |succ i=>exact ao i (by simpa using g1) (by simpa using g2)
def zS(B:Nat->Value)(st:ad)(aO:Ren)(bS:Nat->Prop):Prop:=∀o,bX st.sites o->fF o (ml aO)=false->∀b,b∈bJ (B o)->¬bS b
theorem dV.fT(S:ah L J X B st tm w)(dy:sb st aO bo)(b0:∀b,bS b->an X B st.sites b)(dT:zS B st aO bS){s:dV}{l:aw}{y:s.H}{v:Value}(h:s.ex st aO l=some y)(hv:dj B st.sites w (an X B st.sites) l v):
  dj (eN B aO bo) bo w bS (s.mk y) v:=by
 have ft:∀{d:aL} {v:Value},bi w (an X B st.sites) d v->bi w bS d v:=fun h=>b_.ft (B:=B) (sites:=[]) (a:=one _) b0 (fun b hb=>S.lt (b0 b hb)) h
 unfold dV.ex at h;split at h
 ·trivial
 ·rename_i s v';have:s.mk y=v':=c'.OB h;show bi w bS (s.mk y) v;rw[this];exact ft hv
 ·rename_i t u;cases h;have hv:v=.slice none 0 0:=hv;rw[hv];exact bi.nil t
 ·rename_i T;cases h;have hv:v=.nilIface:=hv;rw[hv];exact bi.pY T
 ·rename_i t o s;split at h
  ·rename_i am bj xs hl;cases hb:am.beq s with
   |false=>simp[hb] at h
   |true=>
    simp only[hb,cond_true] at h;split at h
    ·rename_i e;subst e;cases h;have M:=Nat.eq_of_beq_eq_true hb;subst M;have hl:look st.sites o=some (.cR am bj xs):=hl;have iF:v=bY (B o):=Ref.at hv.2 hl rfl;rw[iF];exact ft (S.sites o _ hl).1
    ·cases h
  ·cases h
 ·rename_i t o s;split at h
  ·rename_i am bj es hl;cases hb:(am.beq s&&!fF o (ml aO)) with
   |false=>simp[hb] at h
   |true=>
    simp only[hb,cond_true] at h;simp only[Bool.and_eq_true,Bool.not_eq_true'] at hb;split at h
    ·rename_i e;subst e;cases h;have M:=Nat.eq_of_beq_eq_true hb.1;subst M;have hl:look st.sites o=some (.map am bj es):=hl;have iF:v=bY (B o):=Ref.at hv.2 hl rfl;obtain⟨b,h1,h2⟩:=S.sites o _ hl;rw[iF,h1];exact bi.map bj es b (dT o ⟨_,hl,rfl⟩ hb.2 b (fS (by rw[h1];rfl))) h2
    ·cases h
  ·cases h
 ·rename_i g ct cv cs;cases hb:Nat.beq g cv with
  |false=>simp[hb] at h
  |true=>
   simp only[hb,cond_true] at h;have:=Nat.eq_of_beq_eq_true hb;subst this;show bi w bS (.fn g (uz ct y)) v;rw[_U h];exact ft hv
 ·rename_i g cv;cases hb:Nat.beq g cv with
  |false=>simp[hb] at h
  |true=>
   have:=Nat.eq_of_beq_eq_true hb;subst this;obtain⟨vs,h1,h2,_⟩:=hv;rw[List.eq_nil_of_length_eq_zero h2] at h1;rw[h1];exact j2.fn (bE:=[]) (vs:=[]) trivial
 ·rename_i aS off ds oL;cases hb:Nat.beq off oL with
  |false=>simp[hb] at h
  |true=>
   simp only[hb,cond_true] at h;have:=Nat.eq_of_beq_eq_true hb;subst this;have e:=ML h;obtain⟨b,D,h1,h2,aa,cs,aI,bD,dh⟩:=hv;show dj (eN B aO bo) bo w bS (.ee (eE aS y) off) v;rw[e];exact⟨b,D,h1,fun hx=>h2 (b0 b hx),aa,cs,aI,bD,fun j g1 g2=>ft (dh j g1 g2)⟩
 ·rename_i n o s;cases hb:mx aO n o s with
  |false=>simp[hb] at h
  |true=>exact⟨hv.1,x4 S dy hb hv.2 (fun e p=>p.trans (by rw[e]))⟩
 ·rename_i n t;split at h
  ·rename_i hl;have hv:v=.slice none 0 0:=hv;obtain⟨⟨am,h1,h2⟩,_⟩:=dy n _ hl;exact⟨by rw[hv];rfl,Ref.mk h1 h2 (by rw[(KZ hl).1,hv])⟩
  ·cases h
 ·rename_i n off o s oL;cases hb:(mx aO n o s&&Nat.beq off oL) with
  |false=>simp[hb] at h
  |true=>
   simp only[Bool.and_eq_true] at hb;have:=Nat.eq_of_beq_eq_true hb.2;subst this;obtain⟨b,h1,h2⟩:=hv;exact⟨b,h1,x4 S dy hb.1 h2 (fun e p=>by rw[e];exact p)⟩
 ·rename_i g az cv cs;cases hb:(Nat.beq g cv&&tS aO az cs) with
  |false=>simp[hb] at h
  |true=>
   simp only[Bool.and_eq_true] at hb;have:=Nat.eq_of_beq_eq_true hb.1;subst this;obtain⟨vs,h1,h2,aa⟩:=hv;obtain⟨aB,ao⟩:=XB S dy hb.2 h2 aa;exact⟨vs,h1,aB,ao⟩
 ·trivial
 ·exact hv
 ·rename_i n t o s bj;cases hb:mx aO n o s with
  |false=>simp[hb] at h
  |true=>
   simp only[hb,cond_true] at h;split at h
   ·rename_i e;subst e;obtain⟨b,h1,h2⟩:=hv;exact⟨b,h1,x4 S dy hb h2 (fun e p=>by rw[e];exact p)⟩
   ·cases h
 ·cases h
theorem X3{aS:List dV}{U:List aw}{y:pZ aS}(h:pO st aO aS U=some y)(bR:(rT aS y).head?=some .ev):U.head?=some .ev:=by
 cases aS with
 |nil=>cases bR
 |cons s aS=>
  cases U with
  |nil=>cases h
  |cons l U=>
   simp only[pO] at h;split at h
   ·rename_i a b h1 h2;cases h;simp only[rT,List.head?_cons,Option.some.injEq] at bR ⊢;cases s with
    |ev=>cases l<;>first|rfl|cases h1
    |_=>cases bR
   ·cases h
theorem L8(S:ah L J X B st tm w)(dy:sb st aO bo)(b0:∀b,bS b->an X B st.sites b)(dT:zS B st aO bS):∀{aS:List dV} {U:List aw} {y:pZ aS} {vs:List Value},pO st aO aS U=some y->
  ck B st.sites w (an X B st.sites) U vs->ck (eN B aO bo) bo w bS (rT aS y) vs:=by
 intro aS;induction aS with
 |nil=>
  intro U y vs h hv;match U,h with
  |[],_=>rw[hv.kO];exact .nil
 |cons s aS ih=>
  intro U y vs h hv;match U,h with
  |l::U,h=>
   simp only[pO] at h;split at h
   ·rename_i a b h1 h2;cases h;obtain⟨v,cq,rfl,aB,ao⟩:=hv.inv;exact .cons (dV.fT S dy b0 dT h1 aB) (ih h2 ao)
   ·cases h
theorem fa.fT(S:ah L J X B st tm w)(dy:sb st aO bo)(b0:∀b,bS b->an X B st.sites b)(dT:zS B st aO bS){s:fa}{a:aK}{y:s.H}{v:Value}(h:s.ex st aO a=some y)(hv:b_ B st.sites w (an X B st.sites) a v):
  b_ (eN B aO bo) bo w bS (s.mk y) v:=by
 unfold fa.ex at h;split at h
 ·exact dV.fT S dy b0 dT h hv
 ·obtain⟨vs,h1,h2,aa⟩:=hv;have:=L8 S dy b0 dT h ⟨h2,aa⟩;exact⟨vs,h1,this.1,this.2⟩
 ·cases h
theorem X1:∀{aS:List (Nat×fa)} {y:uq aS},yB st aO aS=some y->∀t v,look (tX aS y) t=some v->∃s:fa,∃y':s.H,s.ex st aO (st.get t)=some y'/\v=s.mk y':=by
 intro aS;induction aS with
 |nil=>intro y h t v hl;cases hl
 |cons s aS ih=>
  intro y h t v hl;simp only[yB] at h;split at h
  ·rename_i a b h1 h2;cases h;simp only[tX,look] at hl;cases hb:s.1.beq t with
   |true=>
    simp only[hb,cond_true,Option.some.injEq] at hl;have:=Nat.eq_of_beq_eq_true hb;subst this;exact⟨s.2,a,h1,hl.symm⟩
   |false=>
    simp only[hb,cond_false] at hl;exact ih h2 t v hl
  ·cases h
theorem X2:∀{aS:List (Nat×dO×Loc)} {y:rK aS},yC st aO aS=some y->∀n bI,look (fC aS y) n=some bI->∃z:dO,∃y':z.H,∃D,look aO n=some D/\z.ex st aO D=some y'/\bI=z.mk y':=by
 intro aS;induction aS with
 |nil=>intro y h n bI hl;cases hl
 |cons s aS ih=>
  intro y h n bI hl;simp only[yC] at h;split at h
  ·rename_i a b h1 h2;cases h;simp only[fC,look] at hl;cases hb:s.1.beq n with
   |true=>
    simp only[hb,cond_true,Option.some.injEq] at hl;have:=Nat.eq_of_beq_eq_true hb;subst this;obtain⟨D,aB,ao⟩:=Option.bind_eq_some_iff.1 h1;exact⟨s.2.1,a,D,aB,ao,hl.symm⟩
   |false=>
    simp only[hb,cond_false] at hl;exact ih h2 n bI hl
  ·cases h
theorem dO.b1(z:dO)(y:z.H):(z.mk y).b1=0:=by cases z<;>rfl
theorem XL{dL:ad}:∀{aS:List (Nat×dO×Loc)} {aO:Ren} {y:rK aS},pI dL aS=some aO->∀n D,look aO n=some D->(∃am,look (fC aS y) n=some am/\am.b1=0):=by
 intro aS;induction aS with
 |nil=>intro aO y h n D hl;simp only[pI] at h;cases h;cases hl
 |cons s aS ih=>
  intro aO y h n D hl;simp only[pI] at h;split at h
  ·rename_i a b h1 h2;cases h;obtain⟨ic,eX⟩:=y;simp only[fC,look] at hl ⊢;cases hb:s.1.beq n with
   |true=>simp only[cond_true];exact⟨_,rfl,dO.b1 _ _⟩
   |false=>
    simp only[hb,cond_false] at hl ⊢;exact ih h2 n D hl
  ·cases h
theorem XK{dL:ad}:∀{aS:List (Nat×dO×Loc)} {aO:Ren},pI dL aS=some aO->(keys aO).Nodup->∀n z,(n,z,Loc.same)∈aS->∃s,look aO n=some (some (n,s)):=by
 intro aS;induction aS with
 |nil=>intro aO h _ n z hm;simp at hm
 |cons s aS ih=>
  intro aO h hn n z hm;simp only[pI] at h;split at h
  ·rename_i a b h1 h2;cases h;simp only[keys,List.nodup_cons] at hn;rcases List.mem_cons.1 hm with hm|hm
   ·subst hm;simp only[Fi] at h1;split at h1
    ·cases h1;exact⟨_,by simp[look];rfl⟩
    ·cases h1
   ·obtain⟨am,eT⟩:=ih h2 hn.2 n z hm;refine⟨am,?_⟩;simp only[look];have:¬s.1=n:=by
     rintro rfl;have key:∀{aO:Ren} {n:Nat} {D},look aO n=some D->n∈keys aO:=by
      intro aO;induction aO with
      |nil=>intro n D h;cases h
      |cons p aO ajn=>
       obtain⟨m,q⟩:=p;intro n D h;simp only[look] at h;cases hb:m.beq n with
       |true=>have:=Nat.eq_of_beq_eq_true hb;subst this;exact List.mem_cons_self
       |false=>simp only[hb,cond_false] at h;exact List.mem_cons_of_mem _ (ajn h)
     exact hn.1 (key eT)
    rw[jb this];exact eT
  ·cases h
theorem BD:∀{aO:Ren} {n o s:Nat},look aO n=some (some (o,s))->o∈ml aO:=by
 intro aO;induction aO with
 |nil=>intro n o s h;cases h
 |cons p aO ih=>
  obtain⟨m,D⟩:=p;intro n o s h;simp only[look] at h;cases hb:m.beq n with
  |true=>
   simp only[hb,cond_true,Option.some.injEq] at h;subst h;exact List.mem_cons_self
  |false=>
   simp only[hb,cond_false] at h;have:=ih h;cases D with
   |none=>exact this
   |some q=>exact List.mem_cons_of_mem _ this
theorem WO:∀{aO:Ren} {n m o s am:Nat},(ml aO).Nodup->look aO n=some (some (o,s))->look aO m=some (some (o,am))->n=m:=by
 intro aO;induction aO with
 |nil=>intro n m o s am _ h;cases h
 |cons p aO ih=>
  obtain⟨k,D⟩:=p;intro n m o s am Y h ab;simp only[look] at h ab;have l2:(ml aO).Nodup:=by
   cases D with
   |none=>exact Y
   |some q=>exact(List.nodup_cons.1 Y).2
  cases hb:k.beq n with
  |true=>
   simp only[hb,cond_true,Option.some.injEq] at h;subst h;cases b9:k.beq m with
   |true=>rw[<-Nat.eq_of_beq_eq_true hb,<-Nat.eq_of_beq_eq_true b9]
   |false=>
    simp only[b9,cond_false] at ab;exact absurd (BD ab) (List.nodup_cons.1 Y).1
  |false=>
   simp only[hb,cond_false] at h;cases b9:k.beq m with
   |true=>
    simp only[b9,cond_true,Option.some.injEq] at ab;subst ab;exact absurd (BD h) (List.nodup_cons.1 Y).1
   |false=>
    simp only[b9,cond_false] at ab;exact ih l2 h ab
theorem Shape.fT(S:ah L J X B st tm w){aN:Shape}{y:aN.H}(h:aN.ex st=some y):∃aA,ah L J X aA (aN.st y) tm w/\∀n z,(n,z,Loc.same)∈aN.sites->aA n=B n:=by
 unfold Shape.ex at h;have fx:dp st.sites (pq st aN.cF++pr st aN.sites):=W5.append W6;have c4:=S.yA fx;rw[<-ad.tO] at c4;generalize st.hs (pq st aN.cF++pr st aN.sites)=dL at h c4;cases qh:dL.nt.beq aN.nt with
 |false=>simp[qh] at h
 |true=>
  simp only[qh,cond_true] at h;split at h
  ·rename_i aO vp;cases hc:(eJ (keys aO)&&eJ (ml aO)) with
   |false=>simp[hc] at h
   |true=>
    simp only[hc,cond_true] at h;simp only[Bool.and_eq_true,oh] at hc;split at h
    ·rename_i ic eX h1 h2;cases h;have facts:=X2 h2;have Of:∀{z:dO} {y':z.H} {o s:Nat},z.ex dL aO (some (o,s))=some y'->∃O,look dL.sites o=some O/\O.b1=s/\O.live=true:=by
      intro z y' o s hz;cases z with
      |row t=>
       simp only[dO.ex] at hz;split at hz
       ·rename_i am bj xs hl;cases hb:am.beq s with
        |false=>simp[hb] at hz
        |true=>exact⟨_,hl,Nat.eq_of_beq_eq_true hb,rfl⟩
       ·cases hz
      |sf t n=>
       simp only[dO.ex] at hz;split at hz
       ·rename_i am bj xs hl;cases hb:am.beq s with
        |false=>simp[hb] at hz
        |true=>exact⟨_,hl,Nat.eq_of_beq_eq_true hb,rfl⟩
       ·cases hz
      |deep t=>
       simp only[dO.ex] at hz;split at hz
       ·rename_i am bj xs hl;cases hb:am.beq s with
        |false=>simp[hb] at hz
        |true=>exact⟨_,hl,Nat.eq_of_beq_eq_true hb,rfl⟩
       ·cases hz
      |box aS=>
       simp only[dO.ex] at hz;split at hz
       ·rename_i hl;exact⟨_,gw hl,rfl,rfl⟩
       ·cases hz
      |map t=>
       simp only[dO.ex] at hz;split at hz
       ·rename_i am bj xs hl;cases hb:am.beq s with
        |false=>simp[hb] at hz
        |true=>exact⟨_,hl,Nat.eq_of_beq_eq_true hb,rfl⟩
       ·cases hz
     have dy:sb dL aO (fC aN.sites eX):=by
      intro n D hn;obtain⟨am,vG,qc⟩:=XL (y:=eX) vp n D hn;refine⟨⟨am,vG,qc⟩,fun o s e=>?_⟩
      obtain⟨z,y',cZ,aB,ao,_⟩:=facts n am vG;rw[hn] at aB;cases aB;subst e;exact Of ao
     have live:∀n,bX (fC aN.sites eX) n->∀b,b∈bJ (eN B aO (fC aN.sites eX) n)->∃o s,look aO n=some (some (o,s))/\bX dL.sites o/\eN B aO (fC aN.sites eX) n=B o:=by
      rintro n ⟨bI,hn,_⟩ b hb;obtain⟨z,y',D,aB,ao,_⟩:=facts n bI hn;cases D with
      |none=>rw[(KZ aB).2] at hb;cases hb
      |some q=>
       obtain⟨o,s⟩:=q;obtain⟨O,q1,_,dB⟩:=Of ao;exact⟨o,s,aB,⟨O,q1,dB⟩,by simp[eN,aB]⟩
     have b0:∀b,an X (eN B aO (fC aN.sites eX)) (fC aN.sites eX) b->an X B dL.sites b:=by
      rintro b (hb|⟨n,hn,hb⟩)
      ·exact .inl hb
      ·obtain⟨o,s,_,q2,dB⟩:=live n hn b hb;exact .inr ⟨o,q2,by rw[<-dB];exact hb⟩
     have ft:∀{d:aL} {v:Value},bi w (an X B dL.sites) d v->bi w (an X (eN B aO (fC aN.sites eX)) (fC aN.sites eX)) d v:=
      fun h=>b_.ft (B:=B) (sites:=[]) (a:=one _) b0 (fun b hb=>c4.lt (b0 b hb)) h
     have dT:zS B dL aO (an X (eN B aO (fC aN.sites eX)) (fC aN.sites eX)):=by
      rintro o cr hm b hb (hx|⟨n,hn,vL⟩)
      ·exact(c4.b7 o b cr hb).1 hx
      ·obtain⟨F,s,q1,q2,dB⟩:=live n hn b vL;rw[dB] at vL;have e:=c4.de o F b cr q2 hb vL;subst e;have hin:=BD q1;rw[<-tJ] at hin;rw[hm] at hin;cases hin
     refine⟨eN B aO (fC aN.sites eX),⟨?_,fun t=>?_,fun n bI hn=>?_,fun n m b cW ga g1 g2=>?_,fun n b cW g1=>?_,c4.frame,c4.old,c4.eS⟩,fun n z hm=>?_⟩
     ·rw[c4.nt];exact Nat.eq_of_beq_eq_true qh
     ·show b_ _ _ _ _ (ad.get _ t) _;unfold ad.get;cases hl:look (tX aN.cF ic) t with
      |none=>simp only[Shape.st,hl];trivial
      |some v=>
       simp only[Shape.st,hl];obtain⟨s,y',aB,ao⟩:=X1 h1 t v hl;rw[ao];exact fa.fT c4 dy b0 dT aB (c4.cF t)
     ·have hn:look (fC aN.sites eX) n=some bI:=hn;obtain⟨z,y',D,aB,ao,bu⟩:=facts n bI hn;rw[bu];cases z with
      |row t=>
       cases D with
       |none=>
        simp only[dO.ex] at ao;cases ao;exact⟨0,[],⟨by simp,.inl ⟨by rw[bu] at hn;unfold eN;rw[aB,hn];rfl,rfl⟩⟩,fun j h=>by simp[flat] at h⟩
       |some q=>
        obtain⟨o,s⟩:=q;simp only[dO.ex] at ao;split at ao
        ·rename_i am bj xs hl;cases hb:am.beq s with
         |false=>simp[hb] at ao
         |true=>
          simp only[hb,cond_true] at ao;split at ao
          ·rename_i e;subst e;cases ao;obtain⟨e,cs,q1,q2⟩:=c4.sites o _ hl;refine⟨e,cs,?_,fun j g1 g2=>ft (q2 j g1 g2)⟩
           have:eN B aO (fC aN.sites eX) n=B o:=by simp[eN,aB]
           rw[this];exact q1
          ·cases ao
        ·cases ao
      |sf t m=>
       cases D with
       |none=>cases ao
       |some q=>
        obtain⟨o,s⟩:=q;simp only[dO.ex] at ao;split at ao
        ·rename_i am bj xs hl;cases hb:am.beq s with
         |false=>simp[hb] at ao
         |true=>
          simp only[hb,cond_true] at ao;split at ao
          ·rename_i e;subst e;split at ao
           ·rename_i hlen;cases ao;obtain⟨e,cs,q1,q2⟩:=c4.sites o _ hl;simp only[dO.mk,acG hlen];refine⟨e,cs,?_,fun j g1 g2=>ft (q2 j g1 g2)⟩
            have:eN B aO (fC aN.sites eX) n=B o:=by simp[eN,aB]
            rw[this];exact q1
           ·cases ao
          ·cases ao
        ·cases ao
      |deep t=>
       cases D with
       |none=>
        simp only[dO.ex] at ao;cases ao;have e:eN B aO (fC aN.sites eX) n=.tuple #[.slice none 0 0]:=by rw[bu] at hn;unfold eN;rw[aB,hn];rfl
        exact⟨0,.slice none 0 0,[],[],e,by rw[e];exact List.nodup_nil,⟨by simp,.inl ⟨rfl,rfl⟩⟩,.nil⟩
       |some q=>
        obtain⟨o,s⟩:=q;simp only[dO.ex] at ao;split at ao
        ·rename_i am bj xs hl;cases hb:am.beq s with
         |false=>simp[hb] at ao
         |true=>
          simp only[hb,cond_true] at ao;split at ao
          ·rename_i e;subst e;cases ao;obtain⟨e,v,az,cs,q1,q2,dB,l8⟩:=c4.sites o _ hl;have:eN B aO (fC aN.sites eX) n=B o:=by simp[eN,aB]
           exact⟨e,v,az,cs,this.trans q1,by rw[this];exact q2,dB,l8.map ft fun _ _ _ _=>rfl⟩
          ·cases ao
        ·cases ao
      |box aS=>
       cases D with
       |none=>cases ao
       |some q=>
        obtain⟨o,s⟩:=q;simp only[dO.ex] at ao;split at ao
        ·rename_i cells hl;obtain⟨b,T,cur,q1,q2,dB,l8,aiR,qB⟩:=c4.sites o _ (gw hl);have:=L8 c4 dy b0 dT ao ⟨dB,qB⟩;exact⟨b,T,cur,by simp[eN,aB,q1],q2,this.1,l8,fun bR=>aiR (X3 ao bR),this.2⟩
        ·cases ao
      |map t=>
       cases D with
       |none=>cases ao
       |some q=>
        obtain⟨o,s⟩:=q;simp only[dO.ex] at ao;split at ao
        ·rename_i am bj es hl;cases hb:am.beq s with
         |false=>simp[hb] at ao
         |true=>
          simp only[hb,cond_true] at ao;split at ao
          ·rename_i e;subst e;cases ao;obtain⟨b,q1,q2⟩:=c4.sites o _ hl;have:eN B aO (fC aN.sites eX) n=B o:=by simp[eN,aB]
           exact⟨b,this.trans q1,q2⟩
          ·cases ao
        ·cases ao
     ·obtain⟨o,s,a1,a2,gQ⟩:=live n cW b g1;obtain⟨F,am,aU,aJ,bQ⟩:=live m ga b g2;rw[gQ] at g1;rw[bQ] at g2;have:=c4.de o F b a2 aJ g1 g2;subst this;exact WO hc.2 a1 aU
     ·obtain⟨o,s,a1,a2,gQ⟩:=live n cW b g1;rw[gQ] at g1;exact c4.b7 o b a2 g1
     ·obtain⟨s,M⟩:=XK vp hc.1 n z hm;simp[eN,M]
    ·cases h
  ·cases h
end
inductive Kind:Type where
 |norm
 |exit (id:Nat)
 |ret
abbrev bf:=Kind×Shape
@[reducible] def aQ:List bf->Type
 |[]=>Empty
 |[D]=>D.2.H
 |D::cZ::r=>Sum D.2.H (aQ (cZ::r))
def Kind.mk:Kind->ad->Out
 |.norm,st=>.norm st
 |.exit id,st=>.exit id st
 |.ret,st=>.ret st
def k5:(os:List bf)->aQ os->Out
 |[D],y=>D.1.mk (D.2.st y)
 |D::cZ::r,y=>match y with
  |.inl y=>D.1.mk (D.2.st y)
  |.inr y=>k5 (cZ::r) y
def Kind.gN:Kind->Out->Option ad
 |.norm,.norm st=>some st
 |.exit id,.exit ia st=>bif Nat.beq id ia then some st else none
 |.ret,.ret st=>some st
 |_,_=>none
def gI:(os:List bf)->Out->Option (aQ os)
 |[],_=>none
 |[D],x=>match D.1.gN x with
  |some st=>D.2.ex st
  |none=>none
 |D::cZ::r,x=>match D.1.gN x with
  |some st=>(D.2.ex st).map Sum.inl
  |none=>(gI (cZ::r) x).map Sum.inr
section
variable {L:World}{J:List Nat}{X:Nat->Prop}{ds:List Deferred}{eu:Array Value}{W:List Nat}
theorem ec.ex{st:ad}{aN:Shape}{y:aN.H}{a:Act}{w:World}(ak:aN.ex st=some y)(h:ec L J X ds eu W st a w):ec L J X ds eu W (aN.st y) a w:=by
 obtain⟨b5,dr,cQ,B,du,h1,h2,aa,S,bD⟩:=h;obtain⟨aA,bZ,_⟩:=Shape.fT S ak;exact⟨b5,dr,cQ,aA,du,h1,h2,aa,bZ,bD⟩
theorem Kind.CR{k:Kind}{x:Out}{st:ad}{aN:Shape}{y:aN.H}{e:Exit}{a:Act}{w:World}(h:k.gN x=some st)(ak:aN.ex st=some y)(hl:e0 L J X ds eu W x e a w):e0 L J X ds eu W (k.mk (aN.st y)) e a w:=by
 cases k<;>cases x<;>simp only[Kind.gN] at h<;>try(cases h;done)
 ·cases h;cases e<;>try exact hl.elim
  exact ec.ex ak hl
 ·rename_i id ia af;cases hb:Nat.beq id ia with
  |false=>simp[hb] at h
  |true=>
   simp only[hb,cond_true,Option.some.injEq] at h;subst h;cases e<;>try exact hl.elim
   exact⟨(Nat.eq_of_beq_eq_true hb).trans hl.1,ec.ex ak hl.2⟩
 ·cases h;cases e<;>try exact hl.elim
  exact ec.ex ak hl
theorem tB:∀{os:List bf} {x:Out} {y:aQ os} {e:Exit} {a:Act} {w:World},gI os x=some y->e0 L J X ds eu W x e a w->e0 L J X ds eu W (k5 os y) e a w:=by
 intro os;induction os with
 |nil=>intro x y;exact y.elim
 |cons D os ih=>
  intro x y e a w h hl;cases os with
  |nil=>
   simp only[gI] at h;split at h
   ·rename_i st ag;exact Kind.CR ag h hl
   ·cases h
  |cons cZ r=>
   simp only[gI] at h;split at h
   ·rename_i st ag;obtain⟨ic,aB,ao⟩:=Option.map_eq_some_iff.1 h;subst ao;exact Kind.CR ag aB hl
   ·obtain⟨ic,aB,ao⟩:=Option.map_eq_some_iff.1 h;subst ao;exact ih aB hl
end
section
variable {H bA:Type}
def iter(f:H->Option (Sum H bA)):Nat->H->Option bA
 |0,_=>none
 |n+1,y=>match f y with
  |none=>none
  |some (.inl y')=>iter f n y'
  |some (.inr b)=>some b
theorem K5{f:H->Option (Sum H bA)}:∀{n m:Nat} {y:H} {b:bA},n<=m->iter f n y=some b->iter f m y=some b:=by
 intro n;induction n with
 |zero=>intro m y b _ h;cases h
 |succ n ih=>
  intro m y b cY h;obtain⟨m,rfl⟩:∃k,m=k+1:=⟨m-1,by omega⟩
  simp only[iter] at h ⊢;split at h
  ·cases h
  ·exact ih (by omega) h
  ·exact h
open Classical in
noncomputable def bO(f:H->Option (Sum H bA))(y:H):Option bA:=
 if h:∃n b,iter f n y=some b then some (Classical.choose (Classical.choose_spec h)) else none
theorem Cb{f:H->Option (Sum H bA)}{y:H}{b:bA}:bO f y=some b <-> ∃n,iter f n y=some b:=by
 unfold bO;constructor
 ·intro h;split at h
  ·rename_i ab;cases h;exact⟨_,Classical.choose_spec (Classical.choose_spec ab)⟩
  ·cases h
 ·rintro⟨n,hn⟩;have h:∃n b,iter f n y=some b:=⟨n,b,hn⟩;rw[dif_pos h];have h1:=Classical.choose_spec (Classical.choose_spec h);have h2:=K5 (Nat.le_max_left (Classical.choose h) n) h1;have aa:=K5 (Nat.le_max_right (Classical.choose h) n) hn;rw[h2] at aa;exact aa
theorem xo(f:H->Option (Sum H bA))(y:H):bO f y=match f y with
  |none=>none
  |some (.inl y')=>bO f y'
  |some (.inr b)=>some b:=by
 apply Option.ext;intro b;rw[Cb];cases hf:f y with
 |none=>
  simp only;constructor
  ·rintro⟨n,hn⟩;cases n with
   |zero=>cases hn
   |succ n=>simp only[iter,hf] at hn;cases hn
  ·intro h;cases h
 |some s=>
  cases s with
  |inl y'=>
   simp only;rw[Cb];constructor
   ·rintro⟨n,hn⟩;cases n with
    |zero=>cases hn
    |succ n=>simp only[iter,hf] at hn;exact⟨n,hn⟩
   ·rintro⟨n,hn⟩;exact⟨n+1,by simp only[iter,hf];exact hn⟩
  |inr a_=>
   simp only;constructor
   ·rintro⟨n,hn⟩;cases n with
    |zero=>cases hn
    |succ n=>simp only[iter,hf] at hn;exact hn
   ·intro h;exact⟨1,by simp only[iter,hf];exact h⟩
theorem least{p:Nat->Prop}(h:∃n,p n):∃n,p n/\∀m,p m->n<=m:=by
 obtain⟨n,hn⟩:=h;induction n using Nat.strongRecOn with
 |_ n ih=>
  by_cases ab:∃m,m<n/\p m
  ·obtain⟨m,h1,h2⟩:=ab;exact ih m h1 h2
  ·exact⟨n,hn,fun m hm=>Nat.le_of_not_lt fun a3=>ab ⟨m,a3,hm⟩⟩
end
noncomputable def ry(C:g5)(c:Code)(p:Nat)(aN:Shape)(os:List bf)(y:aN.H):Option (Sum aN.H (aQ os)):=
 exec C c (2*p) (aN.st y) fun
  |.norm st=>(aN.ex st).map .inl
  |x=>(gI os x).map .inr
def zM:(os:List bf)->(R:Type)->aQ os->(Out->Option R)->Option R
 |[D],R,y,K=>K (D.1.mk (D.2.st y))
 |D::cZ::r,R,y,K=>match y with
  |.inl y=>K (D.1.mk (D.2.st y))
  |.inr y=>zM (cZ::r) R y K
theorem Ma:∀(os:List bf) (R:Type) (y:aQ os) (K:Out->Option R),zM os R y K=K (k5 os y):=by
 intro os;induction os with
 |nil=>intro R y;exact y.elim
 |cons D os ih=>
  intro R y K;cases os with
  |nil=>rfl
  |cons cZ r=>
   cases y with
   |inl y=>rfl
   |inr y=>exact ih R y K
def bH(aN:Shape)(os:List bf)(g:aN.H->Option (aQ os)):gJ:=fun st=>⟨aQ os,(aN.ex st).bind g,k5 os,zM os,Ma os⟩
section
variable {P:Program}{C:g5}
theorem Zu(ay:a7 P C.toCtx){c:Code}{p:Nat}{aN:Shape}{os:List bf}(dT:fV P C c (2*p)){g:aN.H->Option (aQ os)}(hg:∀y,g y=bO (ry C c p aN os) y):
  bp P (.loop c) (bH aN os g):=by
 intro rn hn L J X st y ak B tm w ds S;simp only[bH] at ak y ⊢;obtain⟨hH,h1,h2⟩:=Option.bind_eq_some_iff.1 ak;obtain⟨h9,oc,_⟩:=Shape.fT S h1;rw[hg] at h2;obtain⟨n0,HL⟩:=Cb.1 h2;have amW:∃fq:Nat->Act->World->Prop,∀n a w,fq n a w <-> ∃z,iter (ry C c p aN os) n z=some y/\ec L J X ds tm (cm c) (aN.st z) a w:=⟨_,fun _ _ _=>Iff.rfl⟩
 obtain⟨fq,l9⟩:=amW;classical
 refine wpIn_loop (I:=fun a w=>∃n,fq n a w) (μ:=fun a w=>if h:∃n,fq n a w then Classical.choose (least h) else 0) ⟨n0,(l9 _ _ _).2 ⟨hH,HL,ec.of oc fun _ _=>rfl⟩⟩ ?_
 intro a w' c7;have af2:=(Classical.choose_spec (least c7)).1;obtain⟨z,hz,b5,dr,cQ,fJ,du,aU,aJ,bQ,c4,ww⟩:=(l9 _ _ _).1 af2;obtain⟨dk,IS⟩:=a;obtain⟨bQ,akN⟩:=bQ;have bQ:IS=du.map mark++ds:=bQ;subst bQ;have join:∀{D:Out} {e:Exit} {a2:Act} {w2:World},e0 b5 dr cQ (du.map mark++ds) dk (cm c) D e a2 w2->e0 L J X ds tm (cm c) D e a2 w2:=fun hl=>
  (e0.trans aU aJ akN ww hl).mono fun t aC=>(List.mem_append.1 aC).elim id id
 cases e_:Classical.choose (least c7) with
 |zero=>rw[e_] at hz;cases hz
 |succ n=>
  rw[e_] at hz;simp only[iter] at hz;have go:∀s,ry C c p aN os z=some s->fQ rn P c (fun e a w=>match s with
    |.inl ea=>e0 L J X ds tm (cm c) (.norm (aN.st ea)) e a w
    |.inr b=>e0 L J X ds tm (cm c) (k5 os b) e a w/\e≠.normal) ⟨dk,du.map mark++ds⟩ w':=by
   intro s M;refine iP ay c (2*p) hn dT b5 dr cQ (aN.st z) fJ dk w' _ _ _ M c4 ?_
   intro D e a w2 ag hl;have hl:=join hl;cases D with
   |norm p1=>
    obtain⟨ea,q1,q2⟩:=Option.map_eq_some_iff.1 ag;subst q2;exact Kind.CR (k:=.norm) rfl q1 hl
   |exit id p1=>
    obtain⟨ea,q1,q2⟩:=Option.map_eq_some_iff.1 ag;subst q2;exact⟨tB q1 hl,by rintro rfl;exact hl⟩
   |ret p1=>
    obtain⟨ea,q1,q2⟩:=Option.map_eq_some_iff.1 ag;subst q2;exact⟨tB q1 hl,by rintro rfl;exact hl⟩
  cases hr:ry C c p aN os z with
  |none=>rw[hr] at hz;cases hz
  |some s=>
   cases s with
   |inl ea=>
    rw[hr] at hz;refine wpIn_mono (go _ hr) fun e a2 w2 hl=>?_
    cases e<;>try exact hl.elim
    have HY:fq n a2 w2:=(l9 _ _ _).2 ⟨ea,hz,hl⟩;refine⟨⟨n,HY⟩,?_⟩;have hex:∃n,fq n a2 w2:=⟨n,HY⟩;simp only[dif_pos hex,dif_pos c7,e_];have:Classical.choose (least hex)<=n:=(Classical.choose_spec (least hex)).2 n HY;omega
   |inr b=>
    rw[hr] at hz;simp only[Option.some.injEq] at hz;subst hz;refine wpIn_mono (go _ hr) fun e a2 w2 hl=>?_
    cases e<;>first|exact absurd rfl hl.2|exact hl.1
noncomputable def Ni(C:g5)(c:Code)(p:Nat)(aN:Shape)(os:List bf)(y:aN.H):Option (aQ os):=exec C c p (aN.st y) (gI os)
theorem XG(ay:a7 P C.toCtx){c:Code}{p:Nat}{aN:Shape}{os:List bf}(dT:fV P C c p){g:aN.H->Option (aQ os)}(hg:∀y,g y=Ni C c p aN os y):bp P c (bH aN os g):=by
 intro rn hn L J X st y ak B tm w ds S;simp only[bH] at ak y ⊢;obtain⟨hH,h1,h2⟩:=Option.bind_eq_some_iff.1 ak;obtain⟨h9,oc,_⟩:=Shape.fT S h1;rw[hg] at h2;exact iP ay c p hn dT L J X (aN.st hH) h9 tm w _ _ _ h2 oc fun D e a w' ag hl=>tB ag hl
end
end Go.Jk
