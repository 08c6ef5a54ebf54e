/- FnExactRootOut: the program's RootOut returns what the reference's returns, for all arguments. (part 2 of 6: JnOps17, JnOps18, JnCall1, JnCall2, JnCall3, JnCall4, JnCall5, JnBld, JnCall6, JnDraw1, JnNest, JnLogic, JnWalk0, JnDraw2, JnDraw3, JnWalk1, JnShape, JnShape2, JnWalk2) Conditions: none beyond the statement. -/
import Derived.Test.YthllakklnccioaaGreatDoorZFnExactRootOut0
import Derived.RangeFuncRecord
import Derived.Below
import Derived.RangeFuncSeq
import Derived.Orders
import Derived.OrdersIn
import Derived.ControlIn
import Derived.LoopIn
import Derived.RangeFuncCalls
set_option linter.unusedVariables false
set_option linter.unusedSimpArgs false
namespace Go.Jk
section
variable {P:Program}{L:World}{J:List Nat}{X:Nat->Prop}{B:Nat->Value}{st:ad}{tm:Array Value}{w:World}{D:Oper}
theorem Je(S:af L J X B st tm w){T:TypeId}{g7 kv:TypeId}{t:aG}{r:Option Operand}{o:Nat}(aq:D.op=.makeMap T r)(c_:D.dst=some o)(Y:b1 st D.dst=true)(aY:P.underlying T=some (.map g7 kv))
  (hr:∀x,r=some x->∃k n,Act.eval ⟨tm,[]⟩ x=.int k n):cv P L J X st tm w D (bJ (.own o (aV st o))) [(o,.map (aV st o) t [])]:=by
 have bV:=S.makeMap (o:=o) (t:=t);refine ii (us:=[(o,.map (aV st o) t [])]) bV Y (vv:=.map (some w.heap.size)) ?_ ?_
 ·unfold execOp;cases r with
  |none=>simp[aq,Instr.makeMap]
  |some x=>
   obtain⟨k,n,hx⟩:=hr x rfl;simp[aq,Instr.makeMap,hx,run_underlying aY,asInt,asIntOf,Result.andThen]
 ·refine⟨rfl,Ref.mk (O:=.map (aV st o) t []) ?_ rfl (by simp[bT])⟩
  simp only[aT,ck];simp
theorem JU(S:af L J X B st tm w){C:Ctx}(ay:CtxOk P C){T:TypeId}{m k x:Operand}(aq:D.op=.mapUpdate T m k x\/D.op=.insert T m k x)(Y:b1 st D.dst=true):
  Holds (kI.rj C st T m k x) (cv P L J X st tm w D):=by
 have bE:=ay.tt T;unfold kI.rj;split
 ·rename_i g7 kv t o s n d aY hm ag hx;rw[aY] at bE;split
  ·rename_i am u es hl;cases hb:(am.beq s&&decide (u=t)) with
   |false=>exact .fail
   |true=>
    simp only[cond_true];simp only[Bool.and_eq_true,decide_eq_true_eq] at hb;have M:=Nat.eq_of_beq_eq_true hb.1;subst M;split
    ·rename_i v hv;refine Holds.e3 ?_
     have em:=cS S C T m;rw[hm] at em;have qu:=cS S C 0 k;rw[ag] at qu;have ex:=cS S C 0 x;rw[hx] at ex;have hl:look st.sites o=some (.map am u es):=hl;obtain⟨b,h1,arr,clock,h2,Z⟩:=S.sites o _ hl;have p4:Act.eval ⟨tm,[]⟩ m=B o:=(Ref.at em.2 hl rfl:_=bT (B o)).trans (by rw[h1];rfl)
     obtain⟨bs,oN,k3⟩:=g' (s:=n) qu;have Ao:Act.eval ⟨tm,[]⟩ k=gy n:=by rw[oN];exact Lc k3
     have Ae:Act.eval ⟨tm,[]⟩ x=mR u v:=acg hv (av:=an X B st.sites) ex;obtain⟨oH,ol,r1,r2⟩:=V9 (T:=T) bE.1.1 bE.2.1 h2 Z n v;have bV:=S.aa7 hl h1 h2 (ol:=ol) r2;refine qC (us:=[(o,.map am u (oh es n v))]) bV Y ?_
     unfold execOp;rcases aq with aq|aq
     ·simp only[aq,p4,h1,Ao,Ae,Sem.run_bind,r1,Result.andThen_ok,Sem.run_pure]
     ·simp only[aq,p4,h1,Ao,Ae,Sem.run_bind,r1,Result.andThen_ok,Sem.run_pure]
    ·exact .fail
  ·exact .fail
 ·exact .fail
theorem X6(S:af L J X B st tm w){C:Ctx}(ay:CtxOk P C){T g7 kv:TypeId}{t:aG}{m k:Operand}{c:Bool}{l:au}{n:ak}{es:List (ak×den t)}{d:aL}(aq:D.op=.lookup T m k c)(Y:b1 st D.dst=true)
  (aY:C.tt T=.map g7 kv t) (hm:aO C st T m=.av (.ai l)) (ag:aO C st 0 k=.av (.ai (.d (.str n)))) (GV:mapOf st l=some ⟨t,es⟩) (GW:uo t (jY es n)=some d):
  cv P L J X st tm w D (bif c then .iY [.ai (.d d),.ai (.d (.bool (jY es n).isSome))] else one d) []:=by
 have bE:=ay.tt T;rw[aY] at bE;have em:=cS S C T m;rw[hm] at em;have qu:=cS S C 0 k;rw[ag] at qu;obtain⟨bs,oN,k3⟩:=g' (s:=n) qu;have Ao:Act.eval ⟨tm,[]⟩ k=gy n:=by rw[oN];exact Lc k3
 have hz:∀cY:Option (den t),uo t cY=some d->(∀x,cY=some x->∀av,ba w av d (mR t x))/\(cY=none->∃z,(zeroValue kv).run P w=.ok z w/\∀av,ba w av d z):=by
  intro cY h;have he:=bE.2.2;have key:∀{TJ:TypeDesc} {z:Value},iy P kv TJ z->(zeroValue kv).run P w=.ok z w:=by
   intro TJ z h;obtain⟨_,_,_,h⟩:=h;cases hi:P.info? kv with
   |none=>simp[hi] at h
   |some i=>
    simp only[hi,Option.map_some,Option.some.injEq,Prod.mk.injEq] at h;simp[zeroValue,kC hi,h.2]
  cases t<;>first|(exact he.elim)|skip
  ·simp only[uo,Option.some.injEq] at h;subst h;refine⟨fun x hx av=>by subst hx;exact .int _ _,fun hn=>?_⟩
   subst hn;exact⟨_,key he,fun av=>.int _ _⟩
  ·simp only[uo,Option.some.injEq] at h;subst h;refine⟨fun x hx av=>by subst hx;exact .bool _,fun hn=>?_⟩
   subst hn;exact⟨_,key he,fun av=>.bool _⟩
 obtain⟨hz1,hz2⟩:=hz _ GW;have main:∃v,(Instr.lookup T (Act.eval ⟨tm,[]⟩ m) (Act.eval ⟨tm,[]⟩ k) c).run P w=.ok (if c then .tuple #[v,.bool (jY es n).isSome] else v) w/\∀av,ba w av d v:=by
  rw[Ao];rcases Lw S em GV with⟨h1,rfl⟩|⟨b,h1,arr,clock,h2,Z⟩
  ·obtain⟨z,gI,hq⟩:=hz2 rfl;refine⟨z,?_,hq⟩;have hf:=w5 (w:=w) (t:=t) bE.2.1 (es:=[]) (arr:=#[]) rfl n;have GU:(Instr.findKey g7 (gy n) []).run P w=.ok none w:=hf;simp[Instr.lookup,run_underlying bE.1.1,h1,tb bE.2.1,GU,gI,jY,Result.andThen]
  ·have hf:=w5 (w:=w) bE.2.1 Z n;have hg:=X3 n es 0;cases a5:kP es n 0 with
   |none=>
    rw[a5] at hf hg;have hg:jY es n=none:=hg.symm;obtain⟨z,gI,hq⟩:=hz2 hg;refine⟨z,?_,hq⟩;simp[Instr.lookup,run_underlying bE.1.1,h1,MapKept.run_getObj_map h2,tb bE.2.1,hf,gI,hg,Result.andThen]
   |some p=>
    rw[a5] at hf hg;have hg:jY es n=some p.2:=hg.symm;refine⟨mR t p.2,?_,hz1 p.2 hg⟩;simp[Instr.lookup,run_underlying bE.1.1,h1,MapKept.run_getObj_map h2,tb bE.2.1,hf,hg,Result.andThen]
 obtain⟨v,r1,r2⟩:=main;refine dq S Y (vv:=if c then .tuple #[v,.bool (jY es n).isSome] else v) ?_ ?_
 ·unfold execOp;simp only[aq,Sem.run_bind,r1,Result.andThen_ok,Sem.run_pure]
 ·cases c with
  |true=>
   refine⟨[v,.bool (jY es n).isSome],rfl,rfl,fun j g1 g2=>?_⟩
   match j,g1 with
   |0,_=>exact r2 _
   |1,_=>exact ba.bool _
  |false=>exact r2 _
theorem Wt(S:af L J X B st tm w){C:Ctx}(ay:CtxOk P C)(Y:b1 st D.dst=true):Holds (kI C st D) (cv P L J X st tm w D):=by
 unfold kI;split
 ·rename_i t r aq;split
  ·rename_i o g7 kv ty c_ aY;have bE:=ay.tt t;rw[aY] at bE;split
   ·exact Holds.e3 (Je S aq c_ Y bE.1.1 (fun x h=>by cases h))
   ·rename_i x;split
    ·rename_i k n hx;refine Holds.e3 (Je S aq c_ Y bE.1.1 (fun y h=>?_))
     cases h;have ex:=cS S C 0 x;rw[hx] at ex;exact⟨k,n,hI ex⟩
    ·exact .fail
  ·exact .fail
 ·rename_i t m k x aq;exact JU S ay (.inl aq) Y
 ·rename_i t m k x aq;exact JU S ay (.inr aq) Y
 ·rename_i t m k c aq;split
  ·rename_i g7 kv ty l n aY hm ag;split
   ·rename_i u es GV;cases hu:decide (u=ty) with
    |false=>exact .fail
    |true=>
     have hu:=of_decide_eq_true hu;subst hu;simp only[cond_true];split
     ·rename_i d GW;exact Holds.ok (X6 S ay aq Y aY hm ag GV GW)
     ·exact .fail
   ·exact .fail
  ·exact .fail
 ·rename_i t x aq;split
  ·rename_i bF q z e n aY hx;exact Holds.ok (T3 S ay aq Y aY hx)
  ·exact .fail
 ·exact .fail
end
theorem m7{P:Program}{e:TypeId}{t:aG}(h:DH P e t):ar t=1/\(∃d z,iy P e d z)/\∃l ea,sp t=some l/\vS t=some ea/\cy (enc t ea)=[l]:=by
 cases t<;>first|exact h.elim|exact⟨rfl,⟨_,_,h⟩,_,_,rfl,rfl,rfl⟩
theorem Jp{P:Program}{e:TypeId}{t:aG}{T:TypeId}(h:DH P e t):t.ek=true->T=k6:=by intro ab;cases t<;>first|exact h.elim|cases ab
theorem BS(t:aG)(x:den t)(xs:List (den t)):flat t (x::xs)=enc t x++flat t xs:=by simp[flat]
theorem DG(a b:List aL):cy (a++b)=cy a++cy b:=by simp[cy]
theorem LJ{t:aG}{z:den t}(hz:vS t=some z)(xs:List (den t)):zU t xs xs.length=cy (flat t xs):=by
 unfold zU;rw[hz];suffices h:∀(ys fM:List (den t)),xs=fM++ys->((List.range' fM.length ys.length).flatMap fun j=>cy (enc t (xs.getD j z)))=cy (flat t ys) by
  have:=h xs [] rfl;rw[List.length_nil,<-List.range_eq_range'] at this;exact this
 intro ys;induction ys with
 |nil=>intro fM _;rfl
 |cons y ys ih=>
  intro fM hx;rw[List.length_cons,List.range'_succ,List.flatMap_cons,BS,DG];have e1:xs.getD fM.length z=y:=by rw[hx];simp[List.getD]
  have e2:=ih (fM++[y]) (by rw[hx];simp)
  rw[List.length_append,List.length_singleton] at e2;rw[e1,e2]
theorem DE{t:aG}:∀{U:List au} {xs:List (den t)},sj t U=some xs->U=cy (flat t xs):=by
 intro U;induction U with
 |nil=>intro xs h;cases h;rfl
 |cons l U ih=>
  intro xs h;cases l<;>try(cases h;done)
  rename_i d;simp only[sj] at h;split at h
  ·rename_i x ys h1 h2;cases h;rw[BS,DG,<-ih h2,nl _ _ _ h1];rfl
  ·cases h
theorem td{aE:Type}{n:Nat}{xs ys:List aE}(h:long n xs=some ys):ys=xs/\xs.length=n:=by
 unfold long at h;split at h
 ·cases h;exact⟨rfl,by assumption⟩
 ·cases h
section
variable {P:Program}{L:World}{J:List Nat}{X:Nat->Prop}{B:Nat->Value}{st:ad}{tm:Array Value}{w:World}{D:Oper}
theorem af.jP(S:af L J X B st tm w):oV w/\∀b,b∈nP->¬an X B st.sites b/\b<w.heap.size:=by
 have G:=S.eQ;refine⟨acG (fun b hb=>S.frame.block b (G.lt b hb) (G.J b hb)) G.ok,fun b hb=>⟨?_,Nat.lt_of_lt_of_le (G.lt b hb) S.frame.size⟩⟩
 rintro(h|⟨o,h1,h2⟩)
 ·exact G.X b hb h
 ·rcases(S.b2 o b h1 h2).2 with h|h
  ·exact G.J b hb h
  ·have:=G.lt b hb;omega
theorem abc{ds:List aL}{vs:List Value}{av:Nat->Prop}(h:cf w av ds vs):∀u∈vs,u.oneCell'=true:=by
 intro u hu;obtain⟨j,hj,rfl⟩:=List.getElem_of_mem hu;exact(h.2 j (by rw[<-h.1];exact hj) hj).hY
theorem Ls(S:af L J X B st tm w){T:TypeId}{o n:Nat}{t:aG}{xs:List (den t)}{vs:List Value}(he:ar t=1)(ey:t.ek=true->T=k6)(hv:cf w (an X B st.sites) (flat t xs) vs)(Y:b1 st D.dst=true)
  (cG:(execOp (Act.eval ⟨tm,[]⟩) D).run P w=.ok (.value (.pointer (some ⟨w.heap.size,0,none⟩))) (w.alloc (.cells vs.toArray T (0,0)))):Holds (pH o st t n xs) (cv P L J X st tm w D):=by
 unfold pH;cases hc:(xs.length.beq n&&Nat.ble n 1000) with
 |false=>exact .fail
 |true=>
  simp only[Bool.and_eq_true] at hc;have h1:=Nat.eq_of_beq_eq_true hc.1;have h2:=Nat.le_of_ble_eq_true hc.2;simp only[cond_true];have hl:vs.length=xs.length:=by rw[hv.1,dP,he,Nat.mul_one]
  have bV:=S.C4 (o:=o) (T:=T) (rest:=[]) (cap:=n) hv (by rw[he,hl,h1];simp) (by unfold maxLen;omega) ey
  rw[List.append_nil] at bV;refine Holds.e3 (ii (us:=[(o,.row (aV st o) t xs)]) bV Y cG ?_);refine⟨w.heap.size,by simp,Ref.mk (O:=.row (aV st o) t xs) ?_ rfl ⟨xs.length,n,by simp[bT]⟩⟩
  simp only[aT,ck];simp
theorem Yr(S:af L J X B st tm w){C:Ctx}(ay:CtxOk P C){elem e:TypeId}{t:aG}{n o:Nat}(aY:C.tt elem=.arr e t n)(aq:D.op=.alloc elem)(Y:b1 st D.dst=true):Holds (ru o st t n) (cv P L J X st tm w D):=by
 have bE:=ay.tt elem;rw[aY] at bE;obtain⟨_,_,lQ⟩:=id bE;obtain⟨he,_,l,ea,hzl,k0,hzz⟩:=m7 lQ;unfold ru;rw[k0];obtain⟨v,hv,hzv⟩:=cd.w4 (w:=w) bE (z:=List.replicate n l) (by simp only[cd.zero,hzl,Option.map_some])
 obtain⟨h1,h2,Z⟩:=qB hzv;have hr:cf w (an X B st.sites) (flat t (List.replicate n ea)) v.cells.toList:=by
  have:=Z B st.sites w (an X B st.sites);have e1:∀n,cy (flat t (List.replicate n ea))=List.replicate n l:=by
   intro n;induction n with
   |zero=>rfl
   |succ n ih=>rw[List.replicate_succ,BS,DG,hzz,List.replicate_succ,ih];rfl
  refine ik (B:=B) (sites:=st.sites) ?_
  rw[e1];exact⟨h1,this⟩
 refine Ls (T:=elem) S he (Jp lQ) hr Y ?_
 unfold execOp;simp[aq,Instr.alloc,hv,newVar,newRow]
theorem aah(S:af L J X B st tm w){C:Ctx}(ay:CtxOk P C){elem e:TypeId}{t:aG}{n o:Nat}{x:Operand}(aY:C.tt elem=.arr e t n)(aq:D.op=.box elem x)(Y:b1 st D.dst=true):Holds (sn o st t n (aO C st elem x)) (cv P L J X st tm w D):=by
 have bE:=ay.tt elem;rw[aY] at bE;have he:=(m7 bE.2.2).1;have bh:=cS S C elem x;unfold sn;split
 ·rename_i U hx;rw[hx] at bh;split
  ·rename_i xs nG;obtain⟨vs,hv,hl,hr⟩:∃vs:List Value,Act.eval ⟨tm,[]⟩ x=.agg vs.toArray/\vs.length=U.length/\∀j (h:j<U.length) (ab:j<vs.length),dd B st.sites w (an X B st.sites) (U[j]) (vs[j]):=bh;have oJ:ch B st.sites w (an X B st.sites) U vs:=⟨hl,hr⟩;rw[DE nG] at oJ;refine Ls (T:=elem) S he (Jp bE.2.2) (ik oJ) Y ?_
   unfold execOp;simp[aq,Instr.box,newVar,newRow,hv,Value.cells]
  ·exact .fail
 ·exact .fail
theorem af.arr(S:af L J X B st tm w){o s:Nat}{t:aG}{xs:List (den t)}{v:Value}(hr:rowOf st o s=some ⟨t,xs⟩)(hv:dd B st.sites w (an X B st.sites) (.ej o s t 0 0) v):
  ∃b c,∃cs:List Value,v=.pointer (some ⟨b,0,none⟩)/\bT (B o)=.slice (some ⟨b,0,none⟩) xs.length c/\g_ w b 0 cs/\cf w (an X B st.sites) (flat t xs) cs:=by
 obtain⟨cs,hl,iQ⟩:=S.row hr;obtain⟨O,fZ,jH⟩:∃O,look st.sites o=some O/\O.bX=s:=by
  rcases jn hr with h|h<;>exact⟨_,h,rfl⟩
 obtain⟨b,hv,uH⟩:=hv;obtain⟨n,c,bR⟩:=Ref.at uH fZ jH;rcases iQ with⟨oA,_⟩|⟨a6,fm,dI,hcs,_⟩
 ·rw[oA] at bR;cases bR
 ·have Pa:=bR;rw[dI] at Pa;cases Pa;exact⟨b,c,cs,by simpa using hv,dI,hcs,ik hl⟩
theorem Zz(S:af L J X B st tm w){C:Ctx}(ay:CtxOk P C){T e:TypeId}{t:aG}{n:Nat}{x:Operand}(aY:C.tt T=.arr e t n)(aq:D.op=.load T x)(Y:b1 st D.dst=true):Holds (rK st t n (aO C st T x)) (cv P L J X st tm w D):=by
 have bE:=ay.tt T;rw[aY] at bE;obtain⟨he,_,_,ea,_,k0,_⟩:=m7 bE.2.2;have bh:=cS S C T x;unfold rK;split
 ·rename_i o s u hx;rw[hx] at bh;split
  ·rename_i bc xs cO;split
   ·rename_i g5;obtain⟨rfl,rfl⟩:=g5;refine Holds.d' fun y aj=>?_
    obtain⟨rfl,hlen⟩:=td (aj:long n xs=some y);obtain⟨b,c,cs,hv,_,hc,hr⟩:=S.arr cO bh;have hcl:cs.length=n:=by rw[hr.1,dP,he,hlen,Nat.mul_one]
    refine dq S Y (vv:=.agg cs.toArray) ?_ ?_
    ·have cG:=qA (P:=P) (w:=w) bE (by rintro h;cases h) ⟨b,0,none⟩ cs hcl (fun j u hu=>by rw[gh];exact hc j u hu)
     unfold execOp;simp only[aq,Instr.loadAt,Instr.sureAddr,hv,Sem.run_bind,Sem.run_pure,Result.andThen_ok,cG];rfl
    ·subst hlen;have:=gT (B:=B) (sites:=st.sites) hr.1 hr.2;rw[<-LJ k0] at this;exact⟨cs,rfl,this.1,this.2⟩
   ·exact .fail
  ·exact .fail
 ·exact .fail
theorem Xt(S:af L J X B st tm w){C:Ctx}(ay:CtxOk P C){T e:TypeId}{t:aG}{n:Nat}{a x:Operand}{v:br}(aY:C.tt T=.arr e t n)(aq:D.op=.store T a x)(Y:b1 st D.dst=true)(hv:lC (aO C st T x)=some v):
  Holds (ra st t n (aO C st T a) v) (cv P L J X st tm w D):=by
 have bE:=ay.tt T;rw[aY] at bE;have he:=(m7 bE.2.2).1;have nN:=cS S C T a;have hex:=cS S C T x;rw[pc hv] at hex;unfold ra;split
 ·rename_i o s u U hx;rw[hx] at nN;split
  ·rename_i am bc xs ff;have ff:look st.sites o=some (.row am bc xs):=ff;split
   ·rename_i g5;obtain⟨rfl,rfl,rfl⟩:=g5;split
    ·rename_i ys ah6;cases hc:ys.length.beq n with
     |false=>exact .fail
     |true=>
      have Ad:=Nat.eq_of_beq_eq_true hc;refine Holds.eY fun r hr=>?_
      obtain⟨_,hlen⟩:=td (hr:long n xs=some r);obtain⟨vs,nH,hl,dE⟩:∃vs:List Value,Act.eval ⟨tm,[]⟩ x=.agg vs.toArray/\vs.length=U.length/\∀j (h:j<U.length) (ab:j<vs.length),dd B st.sites w (an X B st.sites) (U[j]) (vs[j]):=hex;have oJ:ch B st.sites w (an X B st.sites) U vs:=⟨hl,dE⟩;rw[DE ah6] at oJ;have mK:=ik oJ;have kb:vs.length=n:=by rw[mK.1,dP,he,Ad,Nat.mul_one]
      obtain⟨b,Aj,uH⟩:=nN;obtain⟨m,c,bR⟩:=Ref.at uH ff rfl;obtain⟨bY,cs,iv,hcs⟩:=S.sites o _ ff;rcases iv.2 with⟨hn,_⟩|⟨g,cap,cur,bv,gn,hz,hg,hnc,gp,hd,jG⟩
      ·rw[hn] at bR;cases bR
      ·have oQ:=bR;rw[gn] at oQ;cases oQ;have aiK:cur.size=c:=by rw[hd,he,Nat.mul_one]
       have ix:0+vs.length<=cur.toList.length:=by
        have:cur.toList.length=cur.size:=Array.length_toList;omega
       have bV:af L J X B {st with sites:=b3 st.sites o (.row am bc ys)} tm (w.setRow b (bd cur.toList 0 vs).toArray):=by
        refine S.write ff rfl rfl rfl (fR (by rw[gn];rfl)) hg (fun M hw kh go=>?_)
        refine⟨bY,vs,⟨by rw[he,Ad,Nat.mul_one];exact kb,.inr ⟨b,c,_,bv,by rw[gn,hlen,Ad],?_,kh,by omega,gp,?_,?_⟩⟩,fun j g1 g2=>js go (mK.2 j g1 g2)⟩
        ·refine⟨hz.1,hz.2.imp id fun h=>⟨h.1,?_⟩⟩
         rw[List.size_toArray,l5 _ _ _ ix];simpa using h.2
        ·rw[List.size_toArray,l5 _ _ _ ix,Array.length_toList,aiK,he,Nat.mul_one]
        ·rw[he,Nat.mul_one,Ad,<-kb];simp[bd]
       refine qC (us:=[(o,.row am bc ys)]) bV Y ?_
       have cG:=If (P:=P) (w:=w) bE (by rintro h;cases h) (vv:=.agg vs.toArray) (cur:=cur.toList) (off:=0) (by simpa using hg) (by simpa using hz) (by simpa[Value.cells,cd.size] using kb) (by simpa[Value.cells] using ix) (by simpa[Value.cells] using abc mK)
       unfold execOp;simp only[aq,Aj,nH,Instr.storeAt,Instr.sureAddr,Sem.run_bind,Sem.run_pure,Result.andThen_ok,Nat.zero_mul,Nat.zero_add,cG];simp[Value.cells]
    ·exact .fail
   ·exact .fail
  ·exact .fail
 ·exact .fail
theorem Uq(S:af L J X B st tm w){C:Ctx}(ay:CtxOk P C){T e:TypeId}{t:aG}{m:Nat}{x i:Operand}{k:IntKind}{n:Int}(aY:C.tt T=.arr e t m)(hi:aO C st 0 i=.av (.ai (.d (.int k n))))(aq:D.op=.indexAddr T x i)(Y:b1 st D.dst=true):
  Holds (qE C st t m (aO C st T x) n) (cv P L J X st tm w D):=by
 have bE:=ay.tt T;rw[aY] at bE;obtain⟨dZ,_,lQ⟩:=bE;obtain⟨he,⟨d,AJ,mJ⟩,_⟩:=m7 lQ;have uG:=jr S hi;have bh:=cS S C T x;obtain⟨inf,j7,gA⟩:∃inf,P.info? e=some inf/\inf.size=1:=by
  have:=mJ.2.2.2;cases aF:P.info? e with
  |none=>simp[aF] at this
  |some i=>simp only[aF,Option.map_some,Option.some.injEq,Prod.mk.injEq] at this;exact⟨i,rfl,this.1⟩
 have run:∀{b:Nat},Act.eval ⟨tm,[]⟩ x=.pointer (some ⟨b,0,none⟩)->0<=n->n<m->(execOp (Act.eval ⟨tm,[]⟩) D).run P w=.ok (.value (.pointer (some ⟨b,n.toNat,none⟩))) w:=by
  intro b hx h0 h1;unfold execOp;simp[aq,hx,uG,Instr.indexAt,Instr.sureAddr,asIntOf,run_underlying dZ,h0,h1,sizeOf,kC j7,gA,gh]
 unfold qE;split
 ·rename_i o s u hx;rw[hx] at bh;split
  ·rename_i bc xs cO;split
   ·rename_i g5;obtain⟨rfl,rfl⟩:=g5;refine Holds.d' fun y aj=>?_
    obtain⟨fM,hz1,hz2⟩:=Option.bind_eq_some_iff.1 (aj:(long m xs).bind (fun xs=>fa xs.length n)=some y)
    obtain⟨rfl,hlen⟩:=td hz1;unfold fa at hz2;split at hz2
    ·rename_i hb;cases hz2;obtain⟨b,c,cs,hv,bR,_⟩:=S.arr cO bh;refine dq S Y (run hv hb.1 (by rw[<-hlen];exact hb.2)) ⟨b,?_,?_⟩
     ·rw[he,Nat.mul_one,Nat.add_zero]
     ·rcases jn cO with h|h<;>exact Ref.mk h rfl ⟨_,_,bR⟩
    ·cases hz2
   ·exact .fail
  ·exact .fail
 ·rename_i g hx;rw[hx] at bh;split
  ·rename_i bc xs p';cases hc:(decide (bc=t)&&xs.length.beq m) with
   |false=>exact .fail
   |true=>
    simp only[Bool.and_eq_true,decide_eq_true_eq] at hc;obtain⟨rfl,hlen⟩:=hc;have hlen:=Nat.eq_of_beq_eq_true hlen;refine Holds.d' fun y aj=>?_
    have dL:bg xs n=some y:=aj;unfold bg at dL;split at dL
    ·rename_i h0;have aW:n.toNat<xs.length:=by
      rcases Nat.lt_or_ge n.toNat xs.length with h|h
      ·exact h
      ·rw[List.getElem?_eq_none h] at dL;cases dL
     obtain⟨As,sH⟩:=ay.gt g _ _ p';obtain⟨fb,bW⟩:=S.jP;obtain⟨fy,sK,cs,hg,dE⟩:=sH w (an X B st.sites) fb;have hv:Act.eval ⟨tm,[]⟩ x=.pointer (some ⟨g,0,none⟩):=bh;refine dq S Y (run hv h0 (by omega)) ⟨g,n.toNat,rfl,(bW g As).1,(bW g As).2,(cs.drop n.toNat).take 1,?_,fun j u hu=>?_,?_⟩
     ·have:cs.length=xs.length:=by rw[dE.1,dP,he,Nat.mul_one]
      rw[e8,he];simp;omega
     ·exact(((g_.row hg).drop n.toNat).take 1) j u hu|>fun h=>by simpa using h
     ·have M:=s' bc xs n.toNat y dL;rw[he,Nat.mul_one] at M;have mC:cf w (an X B st.sites) (flat bc xs) cs:=dE;have acD:=gT (B:=B) (sites:=st.sites) mC.1 mC.2;have h2:=ik (ds:=((flat bc xs).drop n.toNat).take 1) (by
       have:=(acD.drop n.toNat).take 1;simpa[cy,List.map_drop,List.map_take] using this)
      rw[M] at h2;exact h2.2
    ·cases dL
  ·exact .fail
 ·exact .fail
theorem Yb(S:af L J X B st tm w){C:Ctx}(ay:CtxOk P C){T e:TypeId}{t:aG}{m:Nat}{x i:Operand}{k:IntKind}{n:Int}(aY:C.tt T=.arr e t m)(hi:aO C st 0 i=.av (.ai (.d (.int k n))))(aq:D.op=.index T x i)(Y:b1 st D.dst=true):
  Holds (Ej t m (aO C st T x) n) (cv P L J X st tm w D):=by
 have bE:=ay.tt T;rw[aY] at bE;obtain⟨dZ,_,lQ⟩:=bE;obtain⟨he,⟨d,AJ,mJ⟩,_⟩:=m7 lQ;have uG:=jr S hi;have bh:=cS S C T x;obtain⟨inf,j7,gA⟩:∃inf,P.info? e=some inf/\inf.size=1:=by
  have:=mJ.2.2.2;cases aF:P.info? e with
  |none=>simp[aF] at this
  |some i=>simp only[aF,Option.map_some,Option.some.injEq,Prod.mk.injEq] at this;exact⟨i,rfl,this.1⟩
 unfold Ej;split
 ·rename_i U hx;rw[hx] at bh;split
  ·rename_i xs nG;cases hc:xs.length.beq m with
   |false=>exact .fail
   |true=>
    have hlen:=Nat.eq_of_beq_eq_true hc;refine Holds.d' fun y aj=>?_
    have dL:bg xs n=some y:=aj;unfold bg at dL;split at dL
    ·rename_i h0;have aW:n.toNat<xs.length:=by
      rcases Nat.lt_or_ge n.toNat xs.length with h|h
      ·exact h
      ·rw[List.getElem?_eq_none h] at dL;cases dL
     obtain⟨vs,hv,hl,hr⟩:∃vs:List Value,Act.eval ⟨tm,[]⟩ x=.agg vs.toArray/\vs.length=U.length/\∀j (h:j<U.length) (ab:j<vs.length),dd B st.sites w (an X B st.sites) (U[j]) (vs[j]):=bh;have oJ:ch B st.sites w (an X B st.sites) U vs:=⟨hl,hr⟩;rw[DE nG] at oJ;have mK:=ik oJ;have kb:vs.length=xs.length:=by rw[mK.1,dP,he,Nat.mul_one]
     obtain⟨d1,ja⟩:∃d1,enc t y=[d1]:=by
      have:=e8 t y;rw[he] at this;match h:enc t y,this with
      |[d1],_=>exact⟨d1,rfl⟩
     simp only[ja];have cn:n.toNat<vs.length:=by omega
     refine dq S Y (vv:=vs[n.toNat]) ?_ ?_
     ·have FE:(isAgg e).run P w=.ok false w:=by
       have h1:=mJ.1;simp only[isAgg,Sem.run_bind,run_underlying h1,Result.andThen_ok];have g1:=mJ.2.1;have g2:=mJ.2.2.1;cases d<;>first|rfl|exact absurd rfl (g1 _)|exact absurd rfl (g2 _ _)
      have h1:n<(m:Int):=by omega
      unfold execOp;simp[aq,hv,uG,Instr.index,asIntOf,run_underlying dZ,h0,h1,sizeOf,kC j7,gA,part,FE,cn]
     ·have M:=s' t xs n.toNat y dL;rw[he,Nat.mul_one,ja] at M;have mL:n.toNat<(flat t xs).length:=by rw[dP,he,Nat.mul_one];exact aW
      have e1:(flat t xs)[n.toNat]=d1:=by
       have:=congrArg (fun l=>l[0]?) M
       simp only[List.getElem?_take,List.getElem?_drop] at this;rw[if_pos (by decide),Nat.add_zero,List.getElem?_eq_getElem mL] at this
       simpa using this
      have:=mK.2 n.toNat mL cn;rw[e1] at this;exact this
    ·cases dL
  ·exact .fail
 ·exact .fail
theorem Xx(S:af L J X B st tm w){C:Ctx}(ay:CtxOk P C){T e:TypeId}{t:aG}{m:Nat}{x:Operand}{cE hi:Option Operand}(aY:C.tt T=.arr e t m)(aq:D.op=.slice T x cE hi none)(Y:b1 st D.dst=true):
  Holds (re st t m (aO C st T x) (cE.map (aO C st 0)) (hi.map (aO C st 0))) (cv P L J X st tm w D):=by
 have bE:=ay.tt T;rw[aY] at bE;obtain⟨dZ,_,lQ⟩:=bE;obtain⟨he,⟨d,AJ,mJ⟩,_⟩:=m7 lQ;have bh:=cS S C T x;obtain⟨inf,j7,gA⟩:∃inf,P.info? e=some inf/\inf.size=1:=by
  have:=mJ.2.2.2;cases aF:P.info? e with
  |none=>simp[aF] at this
  |some i=>simp only[aF,Option.map_some,Option.some.injEq,Prod.mk.injEq] at this;exact⟨i,rfl,this.1⟩
 have pL:∀{cE:Option Operand} {kV l:Int},h3 kV (cE.map (aO C st 0))=some l->(cE.map (Act.eval ⟨tm,[]⟩)=none/\l=kV)\/∃k,cE.map (Act.eval ⟨tm,[]⟩)=some (.int k l):=by
  intro cE kV l h;rcases KY S h with⟨rfl,ab⟩|⟨x,k,rfl,ab⟩
  ·exact .inl ⟨rfl,ab⟩
  ·exact .inr ⟨k,by simp[ab]⟩
 unfold re;split
 ·rename_i o s u hx;rw[hx] at bh;split
  ·rename_i bc xs l h cO fL iE;split
   ·rename_i g5;obtain⟨rfl,rfl⟩:=g5;refine Holds.eY fun r hr=>?_
    obtain⟨fM,hz1,hz2⟩:=Option.bind_eq_some_iff.1 (hr:(long m xs).bind (fun xs=>dA xs l h)=some r)
    obtain⟨rfl,hlen⟩:=td hz1;unfold dA at hz2;split at hz2
    ·rename_i hb;obtain⟨h0,h1,h2⟩:=hb;cases hz2;obtain⟨b,c,cs,hv,bR,_⟩:=S.arr cO bh;refine JG (us:=[(o,.cQ s bc fM)]) (KU cO).symm ?_
     have ho:di st.sites [(o,.cQ s bc fM)]:=by
      intro F O hm;simp only[List.mem_singleton,Prod.mk.injEq] at hm;obtain⟨rfl,rfl⟩:=hm;exact⟨s,bc,fM,rfl,(jn cO).elim .inl fun h=>.inr (.inl h)⟩
     have aQ:kB L J X B st tm w [(o,.cQ s bc fM)]:=⟨S,ho⟩;have oK:=wh ho (List.mem_singleton.2 rfl);obtain⟨dE,Nu⟩:=aQ.new.sites o _ oK;rw[bR] at dE;generalize RP:Value.slice (some ⟨b,0,none⟩) fM.length c=v at dE;cases dE with
     |nil=>cases RP
     |sl _ _ a cap jd k ag hcap b5 hl hc hr=>
      cases RP;have aiN:=Bb (P:=P) (w:=w) false m m (cE.map (Act.eval ⟨tm,[]⟩)) (hi.map (Act.eval ⟨tm,[]⟩)) l h (pL fL) (pL iE) h0 h1 (by omega) (Nat.le_refl _)
      refine ii (us:=[(o,.cQ s bc fM)]) aQ.new Y (vv:=.slice (if m=l.toNat then some ⟨b,0,none⟩ else(some (⟨b,0,none⟩:Addr)).map (·.add (l.toNat*ar bc))) (h.toNat-l.toNat) (m-l.toNat)) ?_ ?_
      ·unfold execOp;simp only[aq,Option.map_none,Sem.run_bind,Instr.sliceAt,run_underlying dZ,Result.andThen_ok,hv,Instr.sureAddr,Sem.run_pure,aiN,sizeOf,kC j7,gA,he];split<;>simp
      ·exact C3 b5 ⟨hl,hr⟩ hc l.toNat h.toNat m (by omega) (by omega) (by omega)
    ·cases hz2
   ·exact .fail
  ·exact .fail
 ·exact .fail
theorem Yf{f g:Nat->Option (Nat×Nat)}(h:∀i p,f i=some p->g i=some p):∀(l:List (Nat×Value)) (cs jd:Array Value),Instr.fill f cs l=some jd->Instr.fill g cs l=some jd:=by
 intro l;induction l with
 |nil=>intro cs jd k;exact k
 |cons p l ih=>
  obtain⟨i,v⟩:=p;intro cs jd k;simp only[Instr.fill] at k ⊢;cases hf:f i with
  |none=>simp[hf] at k
  |some q=>
   obtain⟨off,size⟩:=q;rw[h i _ hf];rw[hf] at k;simp only at k ⊢;split at k
   ·cases k
   ·rename_i hn;rw[if_neg hn];exact ih _ _ k
theorem Yn(S:af L J X B st tm w){C:Ctx}(ay:CtxOk P C){T e:TypeId}{t:aG}{n:Nat}{z:au}{parts:Array (Nat×Operand)}(aY:C.tt T=.arr e t n)(hz:sp t=some z)(aq:D.op=.build T parts)(Y:b1 st D.dst=true):
  Holds (step.mm C st ((List.range n).map fun j=>(j,1)) (List.replicate n z) parts.toList) (cv P L J X st tm w D):=by
 have bE:=ay.tt T;rw[aY] at bE;obtain⟨dZ,⟨fj,gI,j7,hz1,hzz⟩,lQ⟩:=bE;rw[hz] at hz1;cases hz1;obtain⟨he,⟨d,AJ,mJ⟩,_⟩:=m7 lQ;obtain⟨anp,aiB,aeM⟩:∃inf,P.info? e=some inf/\inf.size=1:=by
  have:=mJ.2.2.2;cases aF:P.info? e with
  |none=>simp[aF] at this
  |some i=>simp only[aF,Option.map_some,Option.some.injEq,Prod.mk.injEq] at this;exact⟨i,rfl,this.1⟩
 obtain⟨aB,ao,bj⟩:=qB hzz;intro y aj hc;obtain⟨g1,iM,g2,g3⟩:=Ka S parts.toList (List.replicate n z) fj ⟨aB,fun j h ab=>bj _ _ _ _ j h ab⟩ y aj hc
 rw[g1];refine dq S Y (vv:=.agg iM) ?_ g3;cases hi:P.info? T with
 |none=>simp[hi] at j7
 |some TC=>
  simp only[hi,Option.map_some,Option.some.injEq,Prod.mk.injEq] at j7;have hb:P.built T (parts.toList.map fun p=>(p.1,Act.eval ⟨tm,[]⟩ p.2))=some iM:=by
   unfold Program.built;simp only[hi,dZ,j7.2,aiB,aeM];refine Yf (fun i p al=>?_) _ _ _ g2
   simp only[List.getElem?_toArray,List.getElem?_map,Option.map_eq_some_iff] at al;obtain⟨a,a5,rfl⟩:=al;have:=List.getElem?_eq_some_iff.1 a5;obtain⟨h1,h2⟩:=this;simp at h2;subst h2;simp
  have b5:P.built T (parts.map fun p=>(p.1,Act.eval ⟨tm,[]⟩ p.2)).toList=some iM:=by simpa using hb
  unfold execOp;simp only[aq,Sem.run_bind,run_build w T _ iM b5,Result.andThen_ok,Sem.run_pure]
theorem Vd(S:af L J X B st tm w){C:Ctx}{x:Operand}{k:IntKind}{n:Int}{T ed:TypeId}(aq:D.op=.unOp .xor ed x)(Y:b1 st D.dst=true)(hc:aO C st T x=.av (.ai (.d (.int k n)))):
  cv P L J X st tm w D (one (.int k (rV k (if k.signed then-1 else k.max) n))) []:=by
 refine dq S Y (vv:=.int k (rV k (if k.signed then-1 else k.max) n)) ?_ (.int _ _)
 unfold execOp;simp[aq,jr S hc,Op.unary,Op.intBits,rV]
end
def ls:Nat->Value:=fun _=>undef
def lr(w:World)(av:Nat->Prop)(l:au)(v:Value)(bs:List Nat):Prop:=
 match l with
 |.fresh t xs=>bs=(a8 v).toList/\∃e,∃cs:List Value,rowAt w t.ek e (ar t) v xs.length cs/\cf w av (flat t xs) cs
 |.fS t xs=>∃e,∃cs aA:List Value,bs=bA (.tuple (v::aA).toArray)/\rowAt w t.ek e (ar t) v xs.length cs/\Deep w av (flat t xs) cs aA
 |l=>bs=[]/\dd ls [] w av l v
def fU(w:World)(av:Nat->Prop):List au->List Value->List Nat->Prop
 |[],[],bs=>bs=[]
 |l::U,v::vs,bs=>∃aS aJ,bs=aS++aJ/\lr w av l v aS/\fU w av U vs aJ
 |_,_,_=>False
def zy(w:World)(av:Nat->Prop):br->Value->List Nat->Prop
 |.ai l,v,bs=>lr w av l v bs
 |.agg U,v,bs=>∃vs:List Value,v=.agg vs.toArray/\fU w av U vs bs
def j0(w:World)(av:Nat->Prop):List br->List Value->List Nat->Prop
 |[],[],bs=>bs=[]
 |l::U,v::vs,bs=>∃aS aJ,bs=aS++aJ/\zy w av l v aS/\j0 w av U vs aJ
 |_,_,_=>False
def DI(w:World)(av:Nat->Prop)(b:Nat)(cells:List au)(bs:List Nat):Prop:=
 ∃T,∃cur:List Value,∃nR,bs=b::nR/\w.heap[b]? =some (.cells cur.toArray T (0,0))/\(∀u∈cur,u.oneCell'=true)/\mv cells T cur b/\fU w av cells cur nR
def LK(w:World)(av:Nat->Prop):Arg->Value->List Nat->Prop
 |.av a,v,bs=>zy w av a v bs
 |.dH cells,v,bs=>∃b,v=.pointer (some ⟨b,0,none⟩)/\DI w av b cells bs
def hX(w:World)(av:Nat->Prop):List Arg->List Value->List Nat->Prop
 |[],[],bs=>bs=[]
 |l::U,v::vs,bs=>∃aS aJ,bs=aS++aJ/\LK w av l v aS/\hX w av U vs aJ
 |_,_,_=>False
def dj:List Arg->List Value->List Nat
 |.dH _::as,.pointer (some a)::vs=>a.block::dj as vs
 |_::as,_::vs=>dj as vs
 |_,_=>[]
def ll(w:World)(av:Nat->Prop):List Nat->List (List au)->List Nat->Prop
 |[],[],bs=>bs=[]
 |b::c7,cs::cp,bs=>∃aS aJ,bs=aS++aJ/\DI w av b cs aS/\ll w av c7 cp aJ
 |_,_,_=>False
def hN:Value->List Value
 |.agg vs=>vs.toList
 |v=>[v]
def eW:List Arg->List Value->List Value
 |.av a::as,v::vs=>(bif fQ a.cells then [] else hN v)++eW as vs
 |.dH _::as,_::vs=>eW as vs
 |_,_=>[]
def oo(w:World)(av:Nat->Prop)(c7:List Nat)(cp:List (List au))(rv:List Value)(ew:List au)(bs:List Nat):Prop:=
 ∃c1 c2,bs=c1++c2/\ll w av c7 cp c1/\(ew=[]/\c2=[]\/fU w av ew rv c2)
theorem oo.of{w:World}{av:Nat->Prop}{c7:List Nat}{cp:List (List au)}{rv:List Value}{bs:List Nat}(h:ll w av c7 cp bs):oo w av c7 cp rv [] bs:=⟨bs,[],by simp,h,.inl ⟨rfl,rfl⟩⟩
def nm:List Value->Value
 |[v]=>v
 |vs=>.tuple vs.toArray
def Enters(P:Program)(g:FuncId)(vs:Array Value)(w:World)(R:Value->World->Prop):Prop:=
 ((callFunc g vs).run P w=.ok (.enter g vs) w/\Calls P g vs w fun|.returned v,w'=>R v w'|_,_=>False)\/(∃v w',(callFunc g vs).run P w=.ok (.value v) w'/\R v w')
def a4(P:Program)(g:FuncId)(S:a0):Prop:=
 ∀as y,(S as).comp=some y->∀(w:World) (X:Nat->Prop) (vs:List Value) (cD:List Nat),hX w (fun b=>X b\/b∈cD) as vs cD->cD.Nodup->(∀b,b∈cD->¬X b)->(∀b,X b->b<w.heap.size)->hK w cD X->
  Enters P g vs.toArray w fun v w'=>∃dR dm rv,Fr cD w w'/\oo w' (fun b=>X b\/b∈dR++dm) (dj as vs) ((S as).dH y) (eW as vs) ((S as).ew y) dR/\j0 w' (fun b=>X b\/b∈dR++dm) ((S as).eN y) rv dm/\
   v=nm rv/\(dR++dm).Nodup/\∀b,b∈dR++dm->¬X b/\(b∈cD\/w.heap.size<=b)
section
variable {L:World}{J:List Nat}{X:Nat->Prop}{B:Nat->Value}{st:ad}{tm:Array Value}{w:World}
theorem b9.fr{sites:List (Nat×Site)}{av bN:Nat->Prop}(h:∀b,bN b->av b)(aW:∀b,bN b->b<w.heap.size){a:aK}{v:Value}(k:b9 B sites w av a v):b9 B sites w bN a v:=by
 have G:gB B B sites sites w w av bN:=⟨fun o O M=>⟨O,M,Nat.le_refl _,fun _=>rfl⟩,fun _ _ _=>rfl,fun b hb _ ab=>hb (h b ab)⟩
 exact k.goes G (Nat.le_refl _) aW
theorem ir.fr{sites:List (Nat×Site)}{av bN:Nat->Prop}(h:∀b,bN b->av b)(aW:∀b,bN b->b<w.heap.size){o:Nat}{O:Site}(k:ir B sites w av o O):ir B sites w bN o O:=by
 have G:gB B B sites sites w w av bN:=⟨fun o O M=>⟨O,M,Nat.le_refl _,fun _=>rfl⟩,fun _ _ _=>rfl,fun b hb _ ab=>hb (h b ab)⟩
 exact k.goes G (Nat.le_refl _) aW rfl (fun _ _ _=>rfl)
theorem af.lt(S:af L J X B st tm w){b:Nat}(h:an X B st.sites b):b<w.heap.size:=by
 rcases h with h|⟨o,h1,h2⟩
 ·exact S.old b h
 ·exact S.dW h1 h2
theorem af.shrink(S:af L J X B st tm w){X':Nat->Prop}(h:∀b,X' b->X b):af L J X' B st tm w:=by
 have bW:∀b,an X' B st.sites b->an X B st.sites b:=by
  rintro b (hb|hb)
  ·exact .inl (h b hb)
  ·exact .inr hb
 have aW:=fun b hb=>S.lt (bW b hb)
 exact⟨S.nt,fun t=>(S.cC t).fr bW aW,fun o O M=>(S.sites o O M).fr bW aW,S.c',fun o b h1 h2=>⟨fun hx=>(S.b2 o b h1 h2).1 (h b hx),(S.b2 o b h1 h2).2⟩,S.frame,fun b hb=>S.old b (h b hb),S.eQ.less fun b _=>h b⟩
theorem af.kill(S:af L J X B st tm w){o:Nat}{O:Site}(hl:look st.sites o=some O)(fB:O.live=true):
  af L J (fun b=>X b\/b∈bA (B o)) B {st with sites:=b3 st.sites o (.dead O.bX)} tm w:=by
 have cn:∀F,bS (b3 st.sites o (.dead O.bX)) F->F≠o/\bS st.sites F:=by
  rintro F ⟨s,h1,h2⟩;rw[ck] at h1;by_cases e:o=F
  ·subst e;simp at h1;subst h1;cases h2
  ·simp only[e,if_false] at h1;exact⟨fun h=>e h.symm,s,h1,h2⟩
 have bW:∀b,an (fun b=>X b\/b∈bA (B o)) B (b3 st.sites o (.dead O.bX)) b->an X B st.sites b:=by
  rintro b ((h|h)|⟨F,h1,h2⟩)
  ·exact .inl h
  ·exact .inr ⟨o,⟨O,hl,fB⟩,h⟩
  ·exact .inr ⟨F,(cn F h1).2,h2⟩
 have aW:=fun b hb=>S.lt (bW b hb)
 have bV:af L J X B {st with sites:=b3 st.sites o (.dead O.bX)} tm w:=by
  have uI:∀b,an X B (b3 st.sites o (.dead O.bX)) b->an X B st.sites b:=by
   rintro b (h|⟨F,h1,h2⟩)
   ·exact .inl h
   ·exact .inr ⟨F,(cn F h1).2,h2⟩
  refine S.ox (fun F s M=>?_) (fun _ _ _=>rfl) (fun b hb _ ab=>hb (uI b ab)) (fun go F s M=>?_) (fun F aN b h1 h2 g1 g2=>S.c' F aN b (cn F h1).2 (cn aN h2).2 g1 g2) (fun F b h1 h2=>S.b2 F b (cn F h1).2 h2)
   (fun F b h1 h2=>S.dW (cn F h1).2 h2) S.frame (Nat.le_refl _)
  ·rw[ck];by_cases e:o=F
   ·subst e;rw[hl] at M;cases M;exact⟨.dead O.bX,by simp,Nat.le_refl _,fun _=>rfl⟩
   ·exact⟨s,by simp[e,M],Nat.le_refl _,fun _=>rfl⟩
  ·rw[ck] at M;by_cases e:o=F
   ·simp only[e,if_true,Option.some.injEq] at M;subst M;exact .inr trivial
   ·simp only[e,if_false] at M;exact .inl ⟨M,rfl,fun _ _ _=>rfl⟩
 refine⟨bV.nt,fun t=>?_,fun F s M=>?_,bV.c',fun F b h1 h2=>⟨?_,(bV.b2 F b h1 h2).2⟩,bV.frame,?_,S.eQ.less fun b hb hx=>hx.elim id fun e=>absurd (.inr ⟨o,⟨O,hl,fB⟩,e⟩) (S.jP.2 b hb).1⟩
 ·have G:gB B B st.sites (b3 st.sites o (.dead O.bX)) w w (an X B st.sites) (an (fun b=>X b\/b∈bA (B o)) B (b3 st.sites o (.dead O.bX))):=
   ⟨fun F s M=>by
    rw[ck];by_cases e:o=F
    ·subst e;rw[hl] at M;cases M;exact⟨.dead O.bX,by simp,Nat.le_refl _,fun _=>rfl⟩
    ·exact⟨s,by simp[e,M],Nat.le_refl _,fun _=>rfl⟩,fun _ _ _=>rfl,fun b hb _ ab=>hb (bW b ab)⟩
  exact(S.cC t).goes G (Nat.le_refl _) aW
 ·have eR:look (b3 st.sites o (.dead O.bX)) F=some s:=M;rw[ck] at eR;by_cases e:o=F
  ·simp only[e,if_true,Option.some.injEq] at eR;subst eR;trivial
  ·simp only[e,if_false] at eR;have G:gB B B st.sites (b3 st.sites o (.dead O.bX)) w w (an X B st.sites) (an (fun b=>X b\/b∈bA (B o)) B (b3 st.sites o (.dead O.bX))):=
    ⟨fun F s M=>by
     rw[ck];by_cases e:o=F
     ·subst e;rw[hl] at M;cases M;exact⟨.dead O.bX,by simp,Nat.le_refl _,fun _=>rfl⟩
     ·exact⟨s,by simp[e,M],Nat.le_refl _,fun _=>rfl⟩,fun _ _ _=>rfl,fun b hb _ ab=>hb (bW b ab)⟩
   exact(S.sites F s eR).goes G (Nat.le_refl _) aW rfl (fun _ _ _=>rfl)
 ·rintro(hx|hx)
  ·exact(bV.b2 F b h1 h2).1 hx
  ·exact(cn F h1).1 (S.c' F o b (cn F h1).2 ⟨O,hl,fB⟩ h2 hx)
 ·rintro b (hb|hb)
  ·exact S.old b hb
  ·exact S.dW ⟨O,hl,fB⟩ hb
theorem af.jump(S:af L J X B st tm w){w':World}(h:∀b,¬X b->b<w.heap.size->w'.heap[b]? =w.heap[b]?)(M:w.heap.size<=w'.heap.size)(hf:Fr J L w'):
  af L J (fun b=>X b\/(w.heap.size<=b/\b<w'.heap.size)) B st tm w':=by
 have aW:∀b,an (fun b=>X b\/(w.heap.size<=b/\b<w'.heap.size)) B st.sites b->b<w'.heap.size:=by
  rintro b ((hb|hb)|⟨F,h1,h2⟩)
  ·exact Nat.lt_of_lt_of_le (S.old b hb) M
  ·exact hb.2
  ·exact Nat.lt_of_lt_of_le (S.dW h1 h2) M
 have G:gB B B st.sites st.sites w w' (an X B st.sites) (an (fun b=>X b\/(w.heap.size<=b/\b<w'.heap.size)) B st.sites):=
  ⟨fun F s h=>⟨s,h,Nat.le_refl _,fun _=>rfl⟩,fun b hb b5=>h b (fun hx=>hb (.inl hx)) b5,fun b hb b5 ab=>by
   rcases ab with(ab|ab)|ab
   ·exact hb (.inl ab)
   ·omega
   ·exact hb (.inr ab)⟩
 refine⟨S.nt,fun t=>(S.cC t).goes G M aW,fun o s h1=>(S.sites o s h1).goes G M aW rfl (fun hl b hb=>?_),S.c',fun o b h1 h2=>⟨?_,(S.b2 o b h1 h2).2⟩,hf,?_,S.eQ.less fun b hb hx=>hx.elim id fun e=>absurd (S.jP.2 b hb).2 (by omega)⟩
 ·exact h b (S.b2 o b ⟨s,h1,hl⟩ hb).1 (S.dW ⟨s,h1,hl⟩ hb)
 ·rintro(hx|hx)
  ·exact(S.b2 o b h1 h2).1 hx
  ·have:=S.dW h1 h2;omega
 ·rintro b (hb|hb)
  ·exact Nat.lt_of_lt_of_le (S.old b hb) M
  ·exact hb.2
theorem af.ur(S:af L J X B st tm w){X':Nat->Prop}{n:Nat}{bw:Site}{nv:Value}(gM:∀b,X' b->X b)
  (c9:(∀O,look st.sites n=some O->O.bX<bw.bX)\/(bT (B n)=bT nv/\∀O,look st.sites n=some O->O.bX=bw.bX/\O.live=false))
  (hb:∀b,b∈bA nv->X b/\¬X' b/\(b∈J\/L.heap.size<=b))
  (fb:∀{bi:List (Nat×Site)} {ax:Nat->Value},bi=b3 st.sites n bw->ax n=nv->(∀{a v},b9 B st.sites w (an X B st.sites) a v->b9 ax bi w (an X' ax bi) a v)->
   (∀b,an X' ax bi b->an X B st.sites b)->ir ax bi w (an X' ax bi) n bw):
  af L J X' (fun F=>if F=n then nv else B F) {st with sites:=b3 st.sites n bw} tm w/\
   (∀b,an X' (fun F=>if F=n then nv else B F) (b3 st.sites n bw) b->an X B st.sites b)/\
   (∀{a v},b9 B st.sites w (an X B st.sites) a v->b9 (fun F=>if F=n then nv else B F) (b3 st.sites n bw) w (an X' (fun F=>if F=n then nv else B F) (b3 st.sites n bw)) a v):=by
 have cn:∀F,bS (b3 st.sites n bw) F->F=n\/(F≠n/\bS st.sites F):=by
  rintro F ⟨s,h1,h2⟩;rw[ck] at h1;by_cases e:n=F
  ·exact .inl e.symm
  ·simp only[e,if_false] at h1;exact .inr ⟨fun h=>e h.symm,s,h1,h2⟩
 have bW:∀b,an X' (fun F=>if F=n then nv else B F) (b3 st.sites n bw) b->an X B st.sites b:=by
  rintro b (h|⟨F,h1,h2⟩)
  ·exact .inl (gM b h)
  ·rcases cn F h1 with rfl|⟨Z,aI⟩
   ·simp at h2;exact .inl (hb b h2).1
   ·simp only[Z,if_false] at h2;exact .inr ⟨F,aI,h2⟩
 have pK:∀o O,look st.sites o=some O->∃am,look (b3 st.sites n bw) o=some am/\O.bX<=am.bX/\(am.bX=O.bX->bT ((fun F=>if F=n then nv else B F) o)=bT (B o)):=by
  intro F s M;rw[ck];by_cases e:n=F
  ·subst e;refine⟨bw,by simp,?_,fun h=>?_⟩
   ·rcases c9 with h|⟨_,h⟩
    ·exact Nat.le_of_lt (h s M)
    ·exact Nat.le_of_eq (h s M).1
   ·rcases c9 with ab|⟨ab,_⟩
    ·have:=ab s M;omega
    ·simp[ab]
  ·have bY:¬F=n:=fun h=>e h.symm
   exact⟨s,by simp[e,M],Nat.le_refl _,fun _=>by simp[bY]⟩
 have G:gB B (fun F=>if F=n then nv else B F) st.sites (b3 st.sites n bw) w w (an X B st.sites) (an X' (fun F=>if F=n then nv else B F) (b3 st.sites n bw)):=
  ⟨pK,fun _ _ _=>rfl,fun b hb _ ab=>hb (bW b ab)⟩
 have aW:=fun b hb=>S.lt (bW b hb)
 refine⟨⟨S.nt,fun t=>(S.cC t).goes G (Nat.le_refl _) aW,fun F s M=>?_,fun F aN b h1 h2 g1 g2=>?_,fun F b h1 h2=>?_,S.frame,fun b h=>S.old b (gM b h),S.eQ.less fun b _=>gM b⟩,bW,fun h=>h.goes G (Nat.le_refl _) aW⟩
 ·have eR:look (b3 st.sites n bw) F=some s:=M;rw[ck] at eR;by_cases e:n=F
  ·subst e;simp only[if_true,Option.some.injEq] at eR;subst eR;exact fb rfl (by simp) (fun h=>h.goes G (Nat.le_refl _) aW) bW
  ·have bY:¬F=n:=fun h=>e h.symm
   simp only[e,if_false] at eR;exact(S.sites F s eR).goes G (Nat.le_refl _) aW (by simp[bY]) (fun _ _ _=>rfl)
 ·rcases cn F h1 with rfl|⟨n1,cV⟩<;>rcases cn aN h2 with rfl|⟨n2,ga⟩
  ·rfl
  ·simp only[if_true] at g1;simp only[n2,if_false] at g2;exact absurd (hb b g1).1 (S.b2 aN b ga g2).1
  ·simp only[if_true] at g2;simp only[n1,if_false] at g1;exact absurd (hb b g2).1 (S.b2 F b cV g1).1
  ·simp only[n1,if_false] at g1;simp only[n2,if_false] at g2;exact S.c' F aN b cV ga g1 g2
 ·rcases cn F h1 with rfl|⟨n1,cV⟩
  ·simp only[if_true] at h2;exact⟨(hb b h2).2.1,(hb b h2).2.2⟩
  ·simp only[n1,if_false] at h2;exact⟨fun hx=>(S.b2 F b cV h2).1 (gM b hx),(S.b2 F b cV h2).2⟩
end
def j1(w:World)(av:Nat->Prop):List (List aL)->List Value->Prop
 |[],[]=>True
 |ds::r,v::vs=>(∃b,∃cs:List Value,v=.pointer (some ⟨b,0,none⟩)/\¬av b/\b<w.heap.size/\g_ w b 0 cs/\cf w av ds cs)/\j1 w av r vs
 |_,_=>False
theorem j1.fn{w:World}{av:Nat->Prop}{g:FuncId}:∀{bq:List (List aL)} {vs:List Value},j1 w av bq vs->ba w av (.fn g bq) (.func (.func g) #[] vs.toArray):=by
 intro bq vs h;have key:∀{bq:List (List aL)} {vs:List Value},j1 w av bq vs->∃mW:List Nat,∃eS:List (List Value),vs=mW.map (fun b=>Value.pointer (some ⟨b,0,none⟩))/\mW.length=bq.length/\eS.length=bq.length/\
   (∀b,b∈mW->¬av b/\b<w.heap.size)/\(∀i (h:i<mW.length) (ab:i<eS.length),g_ w mW[i] 0 eS[i])/\(∀i (h:i<bq.length) (ab:i<eS.length),cf w av bq[i] eS[i]):=by
  intro bq;induction bq with
  |nil=>
   intro vs h;match vs,h with
   |[],_=>exact⟨[],[],rfl,rfl,rfl,fun b h=>by simp at h,fun i h=>by simp at h,fun i h=>by simp at h⟩
  |cons ds bq ih=>
   intro vs h;match vs,h with
   |v::vs,⟨⟨b,cs,h1,h2,Z,aI,bp⟩,db⟩=>
    obtain⟨mW,eS,aB,ao,bj,b',dS,gK⟩:=ih db;refine⟨b::mW,cs::eS,by simp[h1,aB],by simp[ao],by simp[bj],fun c hc=>?_,fun i g1 g2=>?_,fun i g1 g2=>?_⟩
    ·rcases List.mem_cons.1 hc with rfl|hc
     ·exact⟨h2,Z⟩
     ·exact b' c hc
    ·cases i with
     |zero=>exact aI
     |succ i=>exact dS i (by simpa using g1) (by simpa using g2)
    ·cases i with
     |zero=>exact bp
     |succ i=>exact gK i (by simpa using g1) (by simpa using g2)
 obtain⟨mW,eS,aB,ao,bj,b',dS,gK⟩:=key h;refine .fn g bq mW (fun i=>eS.getD i []) _ (by rw[aB]) ao (fun b hb=>(b' b hb).1) (fun b hb=>(b' b hb).2) (fun i hi=>?_) (fun i hi j u hu=>?_) (fun i hi j h1 h2=>?_)
 ·have ab:i<eS.length:=by omega
  have:=(gK i hi ab).1;simpa[List.getD,ab] using this
 ·have ab:i<eS.length:=by omega
  have:=dS i hi ab j u (by simpa[List.getD,ab] using hu)
  simpa using this
 ·have ab:i<eS.length:=by omega
  have h2':j<eS[i].length:=by simpa[List.getD,ab] using h2
  have:=(gK i hi ab).2 j h1 h2';simpa[List.getD,ab] using this
theorem j1.M6{w:World}{av:Nat->Prop}{g:FuncId}{bq:List (List aL)}{v:Value}(h:ba w av (.fn g bq) v):∃vs:List Value,v=.func (.func g) #[] vs.toArray/\j1 w av bq vs:=by
 cases h with
 |fn _ _ bs ie lb Am oS hb aW hl hc hr=>
  refine⟨bs.map fun b=>Value.pointer (some ⟨b,0,none⟩),by rw[Am],?_⟩
  have key:∀(bq:List (List aL)) (bs:List Nat) (ie:Nat->List Value),bs.length=bq.length->(∀b,b∈bs->¬av b/\b<w.heap.size)->(∀i (h:i<bq.length),(ie i).length=(bq[i]).length)->
    (∀i (h:i<bs.length) j u,(ie i)[j]? =some u->w.cell? ⟨bs[i],j,none⟩=some u)->(∀i (h:i<bq.length) j (h1:j<(bq[i]).length) (h2:j<(ie i).length),ba w av ((bq[i])[j]) ((ie i)[j]))->
    j1 w av bq (bs.map fun b=>Value.pointer (some ⟨b,0,none⟩)):=by
   intro bq;induction bq with
   |nil=>intro bs ie h _ _ _ _;rw[List.eq_nil_of_length_eq_zero h];trivial
   |cons ds bq ih=>
    intro bs ie h h1 h2 Z aI;match bs,h with
    |b::bs,h=>
     refine⟨⟨b,ie 0,rfl,(h1 b List.mem_cons_self).1,(h1 b List.mem_cons_self).2,fun j u hu=>?_,h2 0 (by simp),fun j g1 g2=>aI 0 (by simp) j g1 g2⟩,?_⟩
     ·have:=Z 0 (by simp) j u hu
      simpa using this
     ·exact ih bs (fun i=>ie (i+1)) (by simpa using h) (fun c hc=>h1 c (List.mem_cons_of_mem _ hc)) (fun i hi=>h2 (i+1) (by simpa using hi)) (fun i hi j u hu=>Z (i+1) (by simpa using hi) j u hu)
       (fun i hi j g1 g2=>aI (i+1) (by simpa using hi) j g1 g2)
  exact key bq bs ie oS (fun b h=>⟨hb b h,aW b h⟩) hl hc hr
section
variable {L:World}{J:List Nat}{X:Nat->Prop}{B:Nat->Value}{st:ad}{tm:Array Value}{w:World}
structure eP(L:World)(J:List Nat)(X:Nat->Prop)(B:Nat->Value)(st:ad)(tm:Array Value)(w:World)(cJ:List (Nat×Site))(eg:List Nat)(av:Nat->Prop):Prop where
 bv:kB L J X B st tm w cJ
 le:∀b,av b->an X B (aT st.sites cJ) b
 vV:∀o,o∈eg->∀b,a8 (B o)=some b->¬av b
variable {cJ:List (Nat×Site)}{eg:List Nat}{av:Nat->Prop}
theorem eP.lt(ap:eP L J X B st tm w cJ eg av){b:Nat}(h:av b):b<w.heap.size:=ap.bv.new.lt (ap.le b h)
theorem eP.sub(ap:eP L J X B st tm w cJ eg av){b:Nat}(h:av b):an X B st.sites b:=by
 rcases ap.le b h with h|⟨o,⟨O,h1,h2⟩,Z⟩
 ·exact .inl h
 ·refine .inr ⟨o,?_,Z⟩;rcases lc ap.bv.bv o with h|⟨s,t,xs,aI,bp⟩
  ·exact⟨O,h▸h1,h2⟩
  ·rw[bp] at h1;cases h1;cases h2
theorem eP.rd(ap:eP L J X B st tm w cJ eg av){d:aL}{v:Value}(h:ba w (an X B (aT st.sites cJ)) d v):ba w av d v:=
 b9.fr (B:=B) (sites:=[]) (a:=one d) (v:=v) ap.le (fun b hb=>ap.lt hb) h
theorem eP.sv(ap:eP L J X B st tm w cJ eg av){d:aL}{v:Value}(h:ba w (an X B st.sites) d v):ba w av d v:=
 b9.fr (B:=B) (sites:=[]) (a:=one d) (v:=v) (fun b hb=>ap.sub hb) (fun b hb=>ap.lt hb) h
theorem J_(ap:eP L J X B st tm w cJ eg av):∀{bq:List (Nat×Nat)} {cs:List (List aL)} {us:List (Nat×Site)} {bs:List Nat} {vs:List Value},kN st bq=some (cs,us,bs)->
  (∀p,p∈us->p∈cJ)->(∀o,o∈bs->o∈eg)->vs.length=bq.length->(∀i (h:i<bq.length) (ab:i<vs.length),Ref st.sites (bq[i]).1 (bq[i]).2 (vs[i]=bT (B (bq[i]).1)))->j1 w av cs vs:=by
 intro bq;induction bq with
 |nil=>
  intro cs us bs vs h _ _ hl _;simp only[kN] at h;cases h;rw[List.eq_nil_of_length_eq_zero hl];trivial
 |cons c bq ih=>
  obtain⟨o,s⟩:=c;intro cs us bs vs h dM da hl hr;simp only[kN] at h;split at h
  ·rename_i cells ly;split at h
   ·rename_i ds u1 rest u2 aJ ef mr;cases h;match vs,hl with
    |v::vs,hl=>
     have iP:=gu ly;obtain⟨b,T,cur,h1,h2,Z,aI,_,bp⟩:=ap.bv.old.sites o _ iP;have hv:v=B o:=(Ref.at (hr 0 (by simp) (by simp)) iP rfl:v=bT (B o)).trans (by rw[h1];rfl)
     have dE:=yk ef ⟨Z,bp⟩ ap.bv (fun p al=>dM p (List.mem_append.2 (.inl al)))
     refine⟨⟨b,cur,by rw[hv,h1],ap.vV o (da o List.mem_cons_self) b (by rw[h1];rfl),ap.bv.old.dW ⟨_,iP,rfl⟩ (fR (by rw[h1];rfl)),.row h2,dE.1,fun j g1 g2=>ap.rd (dE.2 j g1 g2)⟩,?_⟩
     exact ih mr (fun p al=>dM p (List.mem_append.2 (.inr al))) (fun F bm=>da F (List.mem_cons_of_mem _ bm)) (by simpa using hl) (fun i g1 g2=>hr (i+1) (by simpa using g1) (by simpa using g2))
   ·cases h
  ·cases h
theorem C5(ap:eP L J X B st tm w cJ eg av){l fk:au}{us:List (Nat×Site)}{bs:List Nat}{v:Value}(h:my st l=some (fk,us,bs))(dM:∀p,p∈us->p∈cJ)(da:∀o,o∈bs->o∈eg)
  (hv:dd B st.sites w (an X B st.sites) l v):lr w av fk v []:=by
 unfold my at h;split at h
 ·rename_i cells;cases h;obtain⟨b,D,h1,h2,Z,cs,aI,bp,db⟩:=hv;exact⟨rfl,b,D,h1,fun hx=>h2 (ap.sub hx),Z,cs,aI,bp,fun j g1 g2=>ap.sv (db j g1 g2)⟩
 ·rename_i g c cs;split at h
  ·rename_i ds u b hc;cases h;obtain⟨vs,h1,h2,Z⟩:=hv;rw[h1];exact⟨rfl,(J_ ap hc dM da h2 Z).fn⟩
  ·cases h
 ·split at h
  ·rename_i d u Y;cases h;exact⟨rfl,ap.rd (MC Y hv ap.bv dM)⟩
  ·cases h
theorem ZA(ap:eP L J X B st tm w cJ eg av):∀{U df:List au} {us:List (Nat×Site)} {bs:List Nat} {vs:List Value},lm st U=some (df,us,bs)->(∀p,p∈us->p∈cJ)->(∀o,o∈bs->o∈eg)->
  ch B st.sites w (an X B st.sites) U vs->fU w av df vs []:=by
 intro U;induction U with
 |nil=>intro df us bs vs h _ _ hv;simp only[lm] at h;cases h;rw[hv.kJ];rfl
 |cons l U ih=>
  intro df us bs vs h dM da hv;simp only[lm] at h;split at h
  ·rename_i a u1 aS as u2 aJ h1 h2;cases h;obtain⟨v,cm,rfl,i_,jF⟩:=hv.inv;exact⟨[],[],rfl,C5 ap h1 (fun p al=>dM p (List.mem_append.2 (.inl al))) (fun p al=>da p (List.mem_append.2 (.inl al))) i_,
    ih h2 (fun p al=>dM p (List.mem_append.2 (.inr al))) (fun p al=>da p (List.mem_append.2 (.inr al))) jF⟩
  ·cases h
theorem _T(ap:eP L J X B st tm w cJ eg av){o s:Nat}{t:aG}{xs:List (den t)}(hl:look st.sites o=some (.row s t xs)):
  ∃e,∃cs:List Value,rowAt w t.ek e (ar t) (B o) xs.length cs/\cf w av (flat t xs) cs:=by
 obtain⟨e,cs,h1,h2⟩:=ap.bv.old.sites o _ hl;refine⟨e,cs,h1,by rw[dP];exact h1.1,fun j g1 g2=>ap.sv (h2 j g1 g2)⟩
theorem w_(ap:eP L J X B st tm w cJ eg av){l fk:au}{us:List (Nat×Site)}{v:Value}(h:ms st l=some (fk,us))(hv:dd B st.sites w (an X B st.sites) l v):
  lr w av fk v (cl B (keys us))/\eM st.sites us:=by
 unfold ms at h;split at h
 ·cases h;exact⟨⟨rfl,ap.sv hv⟩,.nil⟩
 ·rename_i t;cases h;have hv:v=.slice none 0 0:=hv;subst hv;exact⟨⟨rfl,0,[],⟨by simp,.inl ⟨rfl,rfl⟩⟩,rfl,fun j g=>by simp[flat] at g⟩,.nil⟩
 ·rename_i o s;split at h
  ·rename_i am t xs hl;cases hb:am.beq s with
   |false=>simp[hb] at h
   |true=>
    simp only[hb,cond_true,Option.some.injEq,Prod.mk.injEq] at h;obtain⟨rfl,rfl⟩:=h;have M:=Nat.eq_of_beq_eq_true hb;subst M;have hl:look st.sites o=some (.row am t xs):=hl;obtain⟨e,cs,h1,h2⟩:=_T ap hl;have iC:v=B o:=(Ref.at hv.2 hl rfl:v=bT (B o)).trans (iq h1).1;refine⟨⟨?_,e,cs,by rw[iC];exact h1,h2⟩,fun F ahu hm=>?_⟩
    ·simp only[keys,cl,List.flatMap_cons,List.flatMap_nil,iC,(iq h1).2,List.append_nil]
    ·simp only[List.mem_singleton,Prod.mk.injEq] at hm;obtain⟨rfl,rfl⟩:=hm;exact⟨_,hl,rfl,rfl⟩
  ·rename_i am t xs hl;cases hb:am.beq s with
   |false=>simp[hb] at h
   |true=>
    simp only[hb,cond_true,Option.some.injEq,Prod.mk.injEq] at h;obtain⟨rfl,rfl⟩:=h;have M:=Nat.eq_of_beq_eq_true hb;subst M;have hl:look st.sites o=some (.cQ am t xs):=hl;have iC:v=bT (B o):=Ref.at hv.2 hl rfl;refine⟨⟨rfl,?_⟩,.nil⟩;rw[iC];exact ap.sv (ap.bv.old.sites o _ hl).1
  ·rename_i am t xs hl;cases hb:am.beq s with
   |false=>simp[hb] at h
   |true=>
    simp only[hb,cond_true,Option.some.injEq,Prod.mk.injEq] at h;obtain⟨rfl,rfl⟩:=h;have M:=Nat.eq_of_beq_eq_true hb;subst M;have hl:look st.sites o=some (.deep am t xs):=hl;obtain⟨e,v',aA,cs,h1,_,h2,Z⟩:=ap.bv.old.sites o _ hl;have iC:v=v':=(Ref.at hv.2 hl rfl:v=bT (B o)).trans (by rw[h1];rfl)
    subst iC;refine⟨⟨e,cs,aA,?_,h2,Z.map (fun h=>ap.sv h) fun _ _ _ _=>rfl⟩,fun F ahu hm=>?_⟩
    ·simp only[keys,cl,List.flatMap_cons,List.flatMap_nil,List.append_nil,h1]
    ·simp only[List.mem_singleton,Prod.mk.injEq] at hm;obtain⟨rfl,rfl⟩:=hm;exact⟨_,hl,rfl,rfl⟩
  ·cases h
 ·cases h;exact⟨⟨rfl,trivial⟩,.nil⟩
 ·cases h;exact⟨⟨rfl,hv⟩,.nil⟩
 ·cases h
theorem J1{U df:List au}{us:List (Nat×Site)}(h:jy st U=some (df,us))(bU:df.head?=some .eu):U.head?=some .eu:=by
 cases U with
 |nil=>simp only[jy] at h;cases h;cases bU
 |cons l U=>
  simp only[jy] at h;split at h
  ·rename_i a u1 as u2 h1 h2;cases h;simp only[List.head?_cons,Option.some.injEq] at bU ⊢;subst bU;unfold ms at h1;split at h1<;>try(cases h1;done)
   ·split at h1;all_goals first|cases h1;done|skip
    all_goals
     rename_i am t xs _;revert h1
     generalize am.beq _=q;intro h1;cases q<;>cases h1
   ·rfl
  ·cases h
theorem xS(ap:eP L J X B st tm w cJ eg av):∀{U df:List au} {us:List (Nat×Site)} {vs:List Value},jy st U=some (df,us)->ch B st.sites w (an X B st.sites) U vs->
  fU w av df vs (cl B (keys us))/\eM st.sites us:=by
 intro U;induction U with
 |nil=>intro df us vs h hv;simp only[jy] at h;cases h;rw[hv.kJ];exact⟨rfl,.nil⟩
 |cons l U ih=>
  intro df us vs h hv;simp only[jy] at h;split at h
  ·rename_i a u1 as u2 h1 h2;cases h;obtain⟨v,cm,rfl,i_,jF⟩:=hv.inv;obtain⟨aB,ao⟩:=w_ ap h1 i_;obtain⟨bj,b'⟩:=ih h2 jF;exact⟨⟨_,_,by rw[gd,jT],aB,bj⟩,ao.append b'⟩
  ·cases h
theorem hX.append{as je:List Arg}{vs cm:List Value}{bs nR:List Nat}(h:hX w av as vs bs)(ab:hX w av je cm nR):hX w av (as++je) (vs++cm) (bs++nR):=by
 induction as generalizing vs bs with
 |nil=>
  match vs,h with
  |[],h=>have h:bs=[]:=h;subst h;exact ab
 |cons a as ih=>
  match vs,h with
  |v::vs,⟨aS,aJ,h1,h2,Z⟩=>exact⟨aS,aJ++nR,by rw[h1,List.append_assoc],h2,ih Z⟩
theorem WO{cs:List (List aL)}{vs:List Value}(h:j1 w av cs vs):hX w av (kK cs) vs []:=by
 induction cs generalizing vs with
 |nil=>
  match vs,h with
  |[],_=>rfl
 |cons ds cs ih=>
  match vs,h with
  |v::vs,⟨⟨b,cur,h1,h2,Z,aI,bp⟩,db⟩=>
   refine⟨[],[],rfl,⟨rfl,b,0,by rw[h1],h2,Z,cur,by rw[bp.1],fun j u hu=>aI j u hu,bp.2⟩,ih db⟩
theorem Iz{as je:List Arg}{vs cm:List Value}(hl:as.length=vs.length):dj (as++je) (vs++cm)=dj as vs++dj je cm:=by
 induction as generalizing vs with
 |nil=>rw[List.eq_nil_of_length_eq_zero hl.symm];rfl
 |cons a as ih=>
  match vs,hl with
  |v::vs,hl=>
   have:=ih (vs:=vs) (by simpa using hl)
   cases a with
   |av a=>cases v<;>simp[dj,this]
   |dH c=>
    cases v<;>try(simp[dj,this];done)
    rename_i p;cases p<;>simp[dj,this]
theorem WQ(cs:List (List aL))(vs:List Value):dj (kK cs) vs=[]:=by
 induction cs generalizing vs with
 |nil=>cases vs<;>rfl
 |cons c cs ih=>cases vs<;>simp[kK,dj,ih]
theorem UP{as je:List Arg}{vs cm:List Value}(hl:as.length=vs.length):eW (as++je) (vs++cm)=eW as vs++eW je cm:=by
 induction as generalizing vs with
 |nil=>rw[List.eq_nil_of_length_eq_zero hl.symm];rfl
 |cons a as ih=>
  match vs,hl with
  |v::vs,hl=>
   have:=ih (vs:=vs) (by simpa using hl)
   cases a<;>simp[eW,this]
theorem Wa(cs:List (List aL))(vs:List Value):eW (kK cs) vs=[]:=by
 induction cs generalizing vs with
 |nil=>cases vs<;>rfl
 |cons c cs ih=>cases vs<;>simp[kK,eW,ih,br.cells,fQ,au.qV]
def hp(B:Nat->Value):List (Option (Nat×Nat))->List Value->Prop
 |[],_=>True
 |none::r,_::vs=>hp B r vs
 |some p::r,v::vs=>v=bT (B p.1)/\hp B r vs
 |_::_,[]=>False
theorem hp.append{B:Nat->Value}{r jN:List (Option (Nat×Nat))}{vs cm:List Value}(hl:r.length=vs.length)(h:hp B r vs)(ab:hp B jN cm):hp B (r++jN) (vs++cm):=by
 induction r generalizing vs with
 |nil=>rw[List.eq_nil_of_length_eq_zero hl.symm];exact ab
 |cons D r ih=>
  match vs,hl with
  |v::vs,hl=>
   cases D with
   |none=>exact ih (by simpa using hl) h
   |some p=>exact⟨h.1,ih (by simpa using hl) h.2⟩
theorem hX.length{as:List Arg}{vs:List Value}{bs:List Nat}(h:hX w av as vs bs):as.length=vs.length:=by
 induction as generalizing vs bs with
 |nil=>
  match vs,h with
  |[],_=>rfl
 |cons a as ih=>
  match vs,h with
  |v::vs,⟨_,_,_,_,h⟩=>simp[ih h]
theorem XZ(ap:eP L J X B st tm w cJ eg av):∀{cw:List aK} {a:jB} {vs:List Value},io st cw=some a->cw.length=vs.length->
  (∀i (h:i<cw.length) (ab:i<vs.length),b9 B st.sites w (an X B st.sites) (cw[i]) (vs[i]))->(∀p,p∈a.er->p∈cJ)->(∀o,o∈a.fp->o∈eg)->
  hX w av a.as vs (cl B (keys a.gone))/\eM st.sites a.gone/\dj a.as vs=cl B (keys a.boxes)/\(∀o s,(o,s)∈a.boxes->(o,.dead s)∈a.gone/\∃b,B o=.pointer (some ⟨b,0,none⟩))/\a.rows=[]:=by
 intro cw;induction cw with
 |nil=>
  intro a vs h hl _ _ _;simp only[io] at h;cases h;rw[List.eq_nil_of_length_eq_zero hl.symm];exact⟨rfl,.nil,rfl,fun o s hm=>by simp at hm,rfl⟩
 |cons qn cw ih=>
  intro a vs h hl hv dM da;match vs,hl with
  |v::vs,hl=>
   have k1:=hv 0 (by simp) (by simp)
   have hvs:∀i (h:i<cw.length) (ab:i<vs.length),b9 B st.sites w (an X B st.sites) (cw[i]) (vs[i]):=fun i g1 g2=>hv (i+1) (by simpa using g1) (by simpa using g2)
   have ft:cw.length=vs.length:=by simpa using hl
   simp only[List.getElem_cons_zero] at k1;unfold io at h;split at h
   ·cases ‹qn::cw=[]›
   ·rename_i o s cm bP;cases bP;split at h
    ·rename_i cells r ly hr;split at h
     ·rename_i cs gone hg;cases h;obtain⟨aB,ao,bj,b',dS⟩:=ih hr ft hvs dM da;have iP:=gu ly;obtain⟨b,T,cur,e1,e2,bI,dy,fw⟩:=ap.bv.old.box iP k1;have Fo:mv cells T cur b:=by
       obtain⟨aJ,du,Px,q1,q2,_,_,dG,_⟩:=ap.bv.old.sites o _ iP;rw[e1] at q1;cases q1;rw[bI] at q2;cases q2;exact dG
      obtain⟨g1,g2⟩:=xS ap hg fw;subst e2;refine⟨⟨b::cl B (keys gone),_,?_,⟨b,rfl,T,cur,_,rfl,bI,dy,fun bU=>Fo (J1 hg bU),g1⟩,aB⟩,?_,?_,?_,dS⟩
      ·show cl B (keys (((o,Site.dead s)::gone)++r.gone))=_;rw[gd,jT];congr 1
       simp[keys,cl,e1,a8,bA]
      ·refine eM.append ?_ ao;intro F am hm;rcases List.mem_cons.1 hm with hm|hm
       ·cases hm;exact⟨_,iP,rfl,rfl⟩
       ·exact g2 F am hm
      ·simp[dj,bj,keys,cl,e1,a8,bA]
      ·intro F am hm;rcases List.mem_cons.1 hm with hm|hm
       ·cases hm;exact⟨by simp,b,e1⟩
       ·obtain⟨q1,q2⟩:=b' F am hm;exact⟨List.mem_append.2 (.inr q1),q2⟩
     ·cases h
    ·cases h
   ·rename_i l cm _ bP;cases bP;split at h
    ·rename_i fk us bs r h1 hr;cases h;obtain⟨aB,ao,bj,b',_⟩:=ih hr ft hvs (fun p al=>dM p (List.mem_append.2 (.inr al))) (fun p al=>da p (List.mem_append.2 (.inr al)))
     have:=C5 ap h1 (fun p al=>dM p (List.mem_append.2 (.inl al))) (fun p al=>da p (List.mem_append.2 (.inl al))) k1
     refine⟨⟨[],_,rfl,this,aB⟩,ao,?_,b',rfl⟩;cases v<;>simp[dj,bj]
    ·cases h
   ·rename_i U cm bP;cases bP;split at h
    ·rename_i df us bs r h1 hr;cases h;obtain⟨aB,ao,bj,b',_⟩:=ih hr ft hvs (fun p al=>dM p (List.mem_append.2 (.inr al))) (fun p al=>da p (List.mem_append.2 (.inr al)))
     obtain⟨iX,e1,e2,bI⟩:=k1;have:=ZA ap h1 (fun p al=>dM p (List.mem_append.2 (.inl al))) (fun p al=>da p (List.mem_append.2 (.inl al))) ⟨e2,bI⟩
     refine⟨⟨[],_,rfl,⟨iX,e1,this⟩,aB⟩,ao,?_,b',rfl⟩;cases v<;>simp[dj,bj]
    ·cases h
   ·cases h
theorem J2(ap:eP L J X B st tm w cJ eg av){l fk:au}{gs us:List (Nat×Site)}{bs:List Nat}{v:Value}(h:li st l=some (fk,gs,us,bs))(dM:∀p,p∈us->p∈cJ)(da:∀o,o∈bs->o∈eg)
  (hv:dd B st.sites w (an X B st.sites) l v):lr w av fk v (cl B (keys gs))/\eM st.sites gs:=by
 unfold li at h;split at h
 ·split at h
  ·rename_i hg;cases h;exact w_ ap hg hv
  ·cases h
 ·cases h;exact w_ (l:=.nil _) (us:=[]) ap rfl hv
 ·split at h
  ·rename_i hl;cases h;exact⟨C5 ap hl dM da hv,.nil⟩
  ·cases h
theorem Jj(ap:eP L J X B st tm w cJ eg av){l fk:au}{gs us:List (Nat×Site)}{bs:List Nat}{v:Value}(h:li st l=some (fk,gs,us,bs))(hv:dd B st.sites w (an X B st.sites) l v):
  ∀o s,kS st l=some (o,s)->v=bT (B o)/\(o,.dead s)∈gs:=by
 intro o s hg;unfold kS at hg;split at hg
 ·rename_i F_ am;unfold li at h;simp only[ms] at h;split at hg
  ·rename_i u t xs hl;cases hg;rw[hl] at h;simp only at h;cases hb:u.beq s with
   |false=>simp[hb] at h
   |true=>
    have M:=Nat.eq_of_beq_eq_true hb;subst M;simp only[hb,cond_true] at h;cases h;exact⟨Ref.at hv.2 hl rfl,List.mem_singleton.2 rfl⟩
  ·rename_i u t xs hl;cases hg;rw[hl] at h;simp only at h;cases hb:u.beq s with
   |false=>simp[hb] at h
   |true=>
    have M:=Nat.eq_of_beq_eq_true hb;subst M;simp only[hb,cond_true] at h;cases h;exact⟨Ref.at hv.2 hl rfl,List.mem_singleton.2 rfl⟩
  ·cases hg
 ·cases hg
theorem WB(ap:eP L J X B st tm w cJ eg av):∀{U df:List au} {gs us:List (Nat×Site)} {bs:List Nat} {vs:List Value},lg st U=some (df,gs,us,bs)->(∀p,p∈us->p∈cJ)->(∀o,o∈bs->o∈eg)->
  ch B st.sites w (an X B st.sites) U vs->fU w av df vs (cl B (keys gs))/\eM st.sites gs/\hp B (U.map (kS st)) vs/\∀o s,some (o,s)∈U.map (kS st)->(o,.dead s)∈gs:=by
 intro U;induction U with
 |nil=>intro df gs us bs vs h _ _ hv;simp only[lg] at h;cases h;rw[hv.kJ];exact⟨rfl,.nil,trivial,fun o s h=>by simp at h⟩
 |cons l U ih=>
  intro df gs us bs vs h dM da hv;simp only[lg] at h;split at h
  ·rename_i a u1 f1 aS as u2 f2 aJ h1 h2;cases h;obtain⟨v,cm,rfl,i_,jF⟩:=hv.inv;obtain⟨aB,ao⟩:=J2 ap h1 (fun p al=>dM p (List.mem_append.2 (.inl al))) (fun p al=>da p (List.mem_append.2 (.inl al))) i_
   obtain⟨bj,b',dS,gK⟩:=ih h2 (fun p al=>dM p (List.mem_append.2 (.inr al))) (fun p al=>da p (List.mem_append.2 (.inr al))) jF
   have hr:=Jj ap h1 i_;refine⟨⟨_,_,by rw[gd,jT],aB,bj⟩,ao.append b',?_,fun o s hm=>?_⟩
   ·simp only[List.map_cons];cases aF:kS st l with
    |none=>exact dS
    |some p=>exact⟨(hr p.1 p.2 aF).1,dS⟩
   ·simp only[List.map_cons,List.mem_cons] at hm;rcases hm with hm|hm
    ·exact List.mem_append.2 (.inl (hr o s hm.symm).2)
    ·exact List.mem_append.2 (.inr (gK o s hm))
  ·cases h
theorem BT{v:Value}(h:v.oneCell'=true):hN v=[v]:=by
 cases v<;>first|rfl|cases h
theorem Yc{l:au}{v:Value}{bs:List Nat}(hn:l.qV=false)(h:lr w av l v bs):v.oneCell'=true:=by
 cases l with
 |fresh t xs=>
  obtain⟨_,e,cs,k,_⟩:=h;rcases k.2 with⟨h,_⟩|⟨g,cap,cur,bv,h,_⟩<;>rw[h]<;>rfl
 |fS t xs=>
  obtain⟨e,cs,aA,_,k,_⟩:=h;rcases k.2 with⟨h,_⟩|⟨g,cap,cur,bv,h,_⟩<;>rw[h]<;>rfl
 |_=>cases hn
theorem fU.length{U:List au}{vs:List Value}{bs:List Nat}(h:fU w av U vs bs):vs.length=U.length:=by
 induction U generalizing vs bs with
 |nil=>
  match vs,h with
  |[],_=>rfl
 |cons l U ih=>
  match vs,h with
  |v::vs,⟨_,_,_,_,h⟩=>simp[ih h]
theorem Wr(ap:eP L J X B st tm w cJ eg av):∀{cw:List aK} {a:jB} {vs:List Value},jU st cw=some a->cw.length=vs.length->
  (∀i (h:i<cw.length) (ab:i<vs.length),b9 B st.sites w (an X B st.sites) (cw[i]) (vs[i]))->(∀p,p∈a.er->p∈cJ)->(∀o,o∈a.fp->o∈eg)->
  hX w av a.as vs (cl B (keys a.gone))/\eM st.sites a.gone/\dj a.as vs=cl B (keys a.boxes)/\(∀o s,(o,s)∈a.boxes->(o,.dead s)∈a.gone/\∃b,B o=.pointer (some ⟨b,0,none⟩))/\
   hp B a.rows (eW a.as vs)/\∀o s,some (o,s)∈a.rows->(o,.dead s)∈a.gone:=by
 intro cw;induction cw with
 |nil=>
  intro a vs h hl _ _ _;simp only[jU] at h;cases h;rw[List.eq_nil_of_length_eq_zero hl.symm];exact⟨rfl,.nil,rfl,fun o s hm=>by simp at hm,trivial,fun o s hm=>by simp at hm⟩
 |cons qn cw ih=>
  intro a vs h hl hv dM da;match vs,hl with
  |v::vs,hl=>
   have k1:=hv 0 (by simp) (by simp)
   have hvs:∀i (h:i<cw.length) (ab:i<vs.length),b9 B st.sites w (an X B st.sites) (cw[i]) (vs[i]):=fun i g1 g2=>hv (i+1) (by simpa using g1) (by simpa using g2)
   have ft:cw.length=vs.length:=by simpa using hl
   simp only[List.getElem_cons_zero] at k1;unfold jU at h;split at h
   ·cases ‹qn::cw=[]›
   ·rename_i l cm bP;cases bP;split at h
    ·rename_i fk gs us bs r h1 hr;cases h;obtain⟨aB,ao,bj,b',dS,gK⟩:=ih hr ft hvs (fun p al=>dM p (List.mem_append.2 (.inr al))) (fun p al=>da p (List.mem_append.2 (.inr al)))
     obtain⟨g1,g2⟩:=J2 ap h1 (fun p al=>dM p (List.mem_append.2 (.inl al))) (fun p al=>da p (List.mem_append.2 (.inl al))) k1
     have cO:=Jj ap h1 k1;refine⟨⟨_,_,by rw[gd,jT],g1,aB⟩,g2.append ao,?_,fun F am hm=>?_,?_,fun F am hm=>?_⟩
     ·cases v<;>simp[dj,bj]
     ·obtain⟨q1,q2⟩:=b' F am hm;exact⟨List.mem_append.2 (.inr q1),q2⟩
     ·simp only[eW,br.cells,np];cases hn:fQ [fk] with
      |true=>exact dS
      |false=>
       have e4:fk.qV=false:=by simpa[fQ] using hn
       simp only[cond_false,BT (Yc e4 g1)];refine hp.append (by simp) ?_ dS
       simp only[List.map_cons,List.map_nil];cases aF:kS st l with
       |none=>trivial
       |some p=>exact⟨(cO p.1 p.2 aF).1,trivial⟩
     ·simp only[np] at hm;rcases List.mem_append.1 hm with hm|hm
      ·cases hn:fQ [fk] with
       |true=>rw[hn] at hm;simp at hm
       |false=>
        rw[hn] at hm;simp only[cond_false,List.map_cons,List.map_nil,List.mem_singleton] at hm;exact List.mem_append.2 (.inl (cO F am hm.symm).2)
      ·exact List.mem_append.2 (.inr (gK F am hm))
    ·cases h
   ·rename_i U cm bP;cases bP;split at h
    ·rename_i df gs us bs r h1 hr;cases h;obtain⟨aB,ao,bj,b',dS,gK⟩:=ih hr ft hvs (fun p al=>dM p (List.mem_append.2 (.inr al))) (fun p al=>da p (List.mem_append.2 (.inr al)))
     obtain⟨iX,e1,e2,bI⟩:=k1;obtain⟨g1,g2,g3,eF⟩:=WB ap h1 (fun p al=>dM p (List.mem_append.2 (.inl al))) (fun p al=>da p (List.mem_append.2 (.inl al))) ⟨e2,bI⟩
     subst e1;refine⟨⟨_,_,by rw[gd,jT],⟨iX,rfl,g1⟩,aB⟩,g2.append ao,?_,fun F am hm=>?_,?_,fun F am hm=>?_⟩
     ·simp[dj,bj]
     ·obtain⟨q1,q2⟩:=b' F am hm;exact⟨List.mem_append.2 (.inr q1),q2⟩
     ·simp only[eW,br.cells,np];cases hn:fQ df with
      |true=>exact dS
      |false=>
       simp only[cond_false,hN];exact hp.append (by simp[e2]) g3 dS
     ·simp only[np] at hm;rcases List.mem_append.1 hm with hm|hm
      ·cases hn:fQ df with
       |true=>rw[hn] at hm;simp at hm
       |false=>
        rw[hn] at hm;exact List.mem_append.2 (.inl (eF F am hm))
      ·exact List.mem_append.2 (.inr (gK F am hm))
    ·cases h
   ·cases h
theorem Jd{b:Bool}(ap:eP L J X B st tm w cJ eg av){cw:List aK}{a:jB}{vs:List Value}(h:qX b st cw=some a)(hl:cw.length=vs.length)
  (hv:∀i (h:i<cw.length) (ab:i<vs.length),b9 B st.sites w (an X B st.sites) (cw[i]) (vs[i])) (h1:∀p,p∈a.er->p∈cJ) (h2:∀o,o∈a.fp->o∈eg):
  hX w av a.as vs (cl B (keys a.gone))/\eM st.sites a.gone/\dj a.as vs=cl B (keys a.boxes)/\(∀o s,(o,s)∈a.boxes->(o,.dead s)∈a.gone/\∃b,B o=.pointer (some ⟨b,0,none⟩))/\
   hp B a.rows (eW a.as vs)/\∀o s,some (o,s)∈a.rows->(o,.dead s)∈a.gone:=by
 cases b
 ·obtain⟨aB,ao,bj,b',dS⟩:=XZ ap h hl hv h1 h2;exact⟨aB,ao,bj,b',by rw[dS];trivial,by rw[dS];intro o s h;simp at h⟩
 ·exact Wr ap h hl hv h1 h2
end
theorem J7(l m:List Nat):eL l m=true <-> ∀n,n∈l->n∉m:=by
 induction l with
 |nil=>simp[eL]
 |cons n l ih=>
  simp only[eL,Bool.and_eq_true,ih,Bool.not_eq_true',List.mem_cons];constructor
  ·rintro⟨h1,h2⟩ k (rfl|ag)
   ·intro h;rw[(tr k m).2 h] at h1;cases h1
   ·exact h2 k ag
  ·intro h;refine⟨?_,fun k ag=>h k (.inr ag)⟩
   cases ab:fE n m with
   |false=>rfl
   |true=>exact absurd ((tr n m).1 ab) (h n (.inl rfl))
section
variable {L:World}{J:List Nat}{X:Nat->Prop}{B:Nat->Value}{st:ad}{tm:Array Value}{w:World}
theorem af.ack:∀{us:List (Nat×Site)} {st:ad} {X:Nat->Prop},af L J X B st tm w->eM st.sites us->(keys us).Nodup->
  af L J (fun b=>X b\/b∈cl B (keys us)) B {st with sites:=aT st.sites us} tm w:=by
 intro us;induction us with
 |nil=>intro st X S _ _;exact S.shrink fun b h=>by rcases h with h|h;exact h;simp[keys,cl] at h
 |cons p us ih=>
  obtain⟨o,am⟩:=p;intro st X S hg hn;obtain⟨O,h1,h2,rfl⟩:=hg o am List.mem_cons_self;simp only[keys,List.nodup_cons] at hn;have cZ:=S.kill h1 h2;have fO:=ih cZ (fun F s hm=>by
   obtain⟨t,aB,ao,bj⟩:=hg F s (List.mem_cons_of_mem _ hm);have:¬o=F:=fun e=>hn.1 (by rw[e];exact B8 hm)
   exact⟨t,by simp[ck,this,aB],ao,bj⟩) hn.2
  refine fO.shrink fun b h=>?_
  rcases h with h|h
  ·exact .inl (.inl h)
  ·simp only[keys,cl,List.flatMap_cons,List.mem_append] at h;rcases h with h|h
   ·exact .inl (.inr h)
   ·exact .inr h
structure fs(L:World)(J:List Nat)(X X':Nat->Prop)(B ax:Nat->Value)(st:ad)(tm:Array Value)(w:World)(us:List (Nat×Site)):Prop where
 fY:af L J X' ax {st with sites:=aT st.sites us} tm w
 le:∀c,an X' ax (aT st.sites us) c->an X B st.sites c
 go:∀{a v},b9 B st.sites w (an X B st.sites) a v->b9 ax (aT st.sites us) w (an X' ax (aT st.sites us)) a v
 same:∀o,o∉keys us->ax o=B o
theorem fs.nil{X':Nat->Prop}(S:af L J X B st tm w)(h:∀b,X' b->X b):fs L J X X' B B st tm w []:=
 ⟨S.shrink h,fun c hc=>by
  rcases hc with hc|hc
  ·exact .inl (h c hc)
  ·exact .inr hc,fun k=>k.fr (fun c hc=>by
   rcases hc with hc|hc
   ·exact .inl (h c hc)
   ·exact .inr hc) (fun c hc=>(S.shrink h).lt hc),fun _ _=>rfl⟩
theorem fs.trans{cP cu:Nat->Prop}{fI fH:Nat->Value}{us vs:List (Nat×Site)}(A:fs L J X cP B fI st tm w us)(bu:fs L J cP cu fI fH {st with sites:=aT st.sites us} tm w vs):
  fs L J X cu B fH st tm w (us++vs):=by
 refine⟨?_,?_,?_,fun o h=>?_⟩
 ·rw[hV];exact bu.fY
 ·rw[hV];exact fun c hc=>A.le c (bu.le c hc)
 ·rw[hV];exact fun h=>bu.go (A.go h)
 ·rw[gd,List.mem_append,not_or] at h;rw[bu.same o h.2,A.same o h.1]
theorem fs.one{X':Nat->Prop}{n:Nat}{bw:Site}{nv:Value}(S:af L J X B st tm w)(gM:∀b,X' b->X b)
  (c9:(∀O,look st.sites n=some O->O.bX<bw.bX)\/(bT (B n)=bT nv/\∀O,look st.sites n=some O->O.bX=bw.bX/\O.live=false))
  (hb:∀b,b∈bA nv->X b/\¬X' b/\(b∈J\/L.heap.size<=b))
  (fb:∀{bi:List (Nat×Site)} {ax:Nat->Value},bi=b3 st.sites n bw->ax n=nv->(∀{a v},b9 B st.sites w (an X B st.sites) a v->b9 ax bi w (an X' ax bi) a v)->
   (∀b,an X' ax bi b->an X B st.sites b)->ir ax bi w (an X' ax bi) n bw):
  fs L J X X' B (fun F=>if F=n then nv else B F) st tm w [(n,bw)]:=by
 obtain⟨h1,h2,Z⟩:=S.ur gM c9 hb fb;exact⟨h1,h2,Z,fun o h=>by
  simp only[keys,List.mem_singleton] at h;simp[h]⟩
theorem Be{av bN:Nat->Prop}{l:au}{v:Value}{sites:List (Nat×Site)}(hf:∀t xs,l≠.fresh t xs)(Au:∀t xs,l≠.fS t xs)(h:dd ls [] w av l v)(c8:∀b,bN b->av b)(aW:∀b,bN b->b<w.heap.size):dd B sites w bN l v:=by
 have fr:∀{d:aL} {v:Value},ba w av d v->ba w bN d v:=fun h=>b9.fr (B:=B) (sites:=[]) (a:=one _) c8 aW h
 cases l with
 |d x=>exact fr h
 |nil t=>exact h
 |own o s=>obtain⟨_,_,h,_⟩:=h;cases h
 |ptr o s off=>obtain⟨_,_,_,h,_⟩:=h;cases h
 |ee cells off=>
  obtain⟨b,D,h1,h2,Z,cs,aI,bp,db⟩:=h;exact⟨b,D,h1,fun hx=>h2 (c8 b hx),Z,cs,aI,bp,fun j g1 g2=>fr (db j g1 g2)⟩
 |ej o s t k off=>obtain⟨_,_,_,h,_⟩:=h;cases h
 |clo g bq=>
  obtain⟨vs,h1,h2,Z⟩:=h;match bq,vs,h2 with
  |[],[],_=>exact⟨[],h1,rfl,fun i h=>by simp at h⟩
  |c::bq,v::vs,_=>obtain⟨_,h,_⟩:=Z 0 (by simp) (by simp);cases h
 |cx u=>exact h
 |fresh t xs=>exact absurd rfl (hf t xs)
 |fS t xs=>exact absurd rfl (Au t xs)
 |eu=>trivial
 |any=>trivial
theorem ch.go{ax:Nat->Value}{sites bi:List (Nat×Site)}{w':World}{av bN:Nat->Prop}(go:∀{a:aK} {v:Value},b9 B sites w av a v->b9 ax bi w' bN a v){U:List au}{vs:List Value}
  (h:ch B sites w av U vs):ch ax bi w' bN U vs:=yI go h
structure Left(L:World)(J:List Nat)(X:Nat->Prop)(B:Nat->Value)(st:ad)(av:Nat->Prop)(bs:List Nat):Prop where
 nodup:bs.Nodup
 b2:∀b,b∈bs->¬X b/\(b∈J\/L.heap.size<=b)
 le:∀c,an (fun b=>X b\/b∈bs) B st.sites c->av c
def iR(bf:ad)(sites:List (Nat×Site))(ks:List Nat):Prop:=∀m,m∈ks->∀O,look sites m=some O->O.bX<aV bf m
theorem iR.step{bf:ad}{sites us:List (Nat×Site)}{ks:List Nat}(h:iR bf sites ks)(Y:∀n,n∈keys us->n∉ks):iR bf (aT sites us) ks:=by
 intro m hm O M;rw[kD (fun ab=>Y m ab hm)] at M
 exact h m hm O M
theorem A6{u:Bool}{e:TypeId}{s:Nat}{v:Value}{n:Nat}{cs:List Value}(h:rowAt w u e s v n cs):v.oneCell'=true:=by
 rcases h.2 with⟨h,_⟩|⟨g,cap,cur,bv,h,_⟩<;>rw[h]<;>rfl
theorem K5{av:Nat->Prop}(bf:ad):∀(U:List au) (n:Nat) {B:Nat->Value} {st:ad} {vs:List Value} {bs rest:List Nat},af L J (fun b=>X b\/b∈bs++rest) B st tm w->fU w av U vs bs->
  Left L J X B st av (bs++rest)->iR bf st.sites (keys (take bf n U).2)->(keys (take bf n U).2).Nodup->
  ∃ax,fs L J (fun b=>X b\/b∈bs++rest) (fun b=>X b\/b∈rest) B ax st tm w (take bf n U).2/\ch ax (aT st.sites (take bf n U).2) w (an (fun b=>X b\/b∈rest) ax (aT st.sites (take bf n U).2)) (take bf n U).1 vs/\
   Left L J X ax {st with sites:=aT st.sites (take bf n U).2} av rest:=by
 intro U;induction U with
 |nil=>
  intro n B st vs bs rest S h ap fl Y;match vs,h with
  |[],h=>
   have h:bs=[]:=h;subst h;exact⟨B,.nil S (fun b hb=>hb),.nil,ap⟩
 |cons l U ih=>
  intro n B st vs bs rest S h ap fl Y;match vs,h with
  |v::vs,⟨aS,aJ,da,h1,h2⟩=>
   subst da;by_cases hf:∃t xs,l=.fresh t xs
   ·obtain⟨t,xs,rfl⟩:=hf;obtain⟨hb1,e,cs,aq,hr⟩:=h1;simp only[take,keys,List.nodup_cons] at Y fl;have dx:=ap.nodup;rw[List.append_assoc,hb1] at dx;have cF:fs L J (fun b=>X b\/b∈aS++aJ++rest) (fun b=>X b\/b∈aJ++rest) B (fun F=>if F=n then v else B F) st tm w [(n,.row (aV bf n) t xs)]:=by
     refine .one S (fun b hb=>?_) (.inl fun O M=>fl n List.mem_cons_self O M) (fun b hb=>?_) (fun eR dI go le=>?_)
     ·rcases hb with hb|hb
      ·exact .inl hb
      ·exact .inr (by rw[List.append_assoc];exact List.mem_append.2 (.inr hb))
     ·have hb:a8 v=some b:=tB aq hb;have hm:b∈aS:=by rw[hb1,hb];simp
      have gE:b∈aS++aJ++rest:=by rw[List.append_assoc];exact List.mem_append.2 (.inl hm)
      refine⟨.inr gE,?_,(ap.b2 b gE).2⟩;rintro(hx|hx)
      ·exact(ap.b2 b gE).1 hx
      ·rw[hb] at dx;simp only[Option.toList_some,List.singleton_append,List.nodup_cons] at dx;exact dx.1 hx
     ·refine⟨e,cs,by rw[dI];exact aq,fun j g1 g2=>?_⟩
      have k:=hr.2 j g1 g2;have c8:∀b,an (fun b=>X b\/b∈aJ++rest) _ _ b->av b:=fun b hb=>ap.le b (le b hb)
      exact b9.fr (B:=B) (sites:=[]) (a:=one _) c8 (fun b hb=>S.lt (le b hb)) k
    have kA:Left L J X (fun F=>if F=n then v else B F) {st with sites:=aT st.sites [(n,.row (aV bf n) t xs)]} av (aJ++rest):=by
     refine⟨(List.nodup_append.1 (by rw[List.append_assoc] at ap;exact ap.nodup)).2.1,fun b hb=>ap.b2 b (by rw[List.append_assoc];exact List.mem_append.2 (.inr hb)),fun c hc=>ap.le c (cF.le c hc)⟩
    obtain⟨ax,du,Z,aI⟩:=ih (n+1) (st:={st with sites:=aT st.sites [(n,.row (aV bf n) t xs)]}) cF.fY h2 kA
     (iR.step (us:=[(n,.row (aV bf n) t xs)]) (fun m hm=>fl m (List.mem_cons_of_mem _ hm)) (fun m hm=>by simp only[keys,List.mem_singleton] at hm;subst hm;exact Y.1)) Y.2
    refine⟨ax,cF.trans du,?_,aI⟩;refine ch.cons ?_ Z;have:dd (fun F=>if F=n then v else B F) (aT st.sites [(n,.row (aV bf n) t xs)]) w (an (fun b=>X b\/b∈aJ++rest) (fun F=>if F=n then v else B F) (aT st.sites [(n,.row (aV bf n) t xs)])) (.own n (aV bf n)) v:=
     ⟨A6 aq,Ref.mk (O:=.row (aV bf n) t xs) (by simp[aT,ck]) rfl (by simp[(iq aq).1])⟩
    exact du.go (a:=bJ (.own n (aV bf n))) (v:=v) this
   ·by_cases Au:∃t xs,l=.fS t xs
    ·obtain⟨t,xs,rfl⟩:=Au;obtain⟨e,cs,aA,hb1,aq,hr⟩:=h1;simp only[take,keys,List.nodup_cons] at Y fl;have dx:=ap.nodup;rw[List.append_assoc,hb1] at dx;have cF:fs L J (fun b=>X b\/b∈aS++aJ++rest) (fun b=>X b\/b∈aJ++rest) B (fun F=>if F=n then .tuple (v::aA).toArray else B F) st tm w [(n,.deep (aV bf n) t xs)]:=by
      refine .one S (fun b hb=>?_) (.inl fun O M=>fl n List.mem_cons_self O M) (fun b hb=>?_) (fun eR dI go le=>?_)
      ·rcases hb with hb|hb
       ·exact .inl hb
       ·exact .inr (by rw[List.append_assoc];exact List.mem_append.2 (.inr hb))
      ·have hm:b∈aS:=by rw[hb1];exact hb
       have gE:b∈aS++aJ++rest:=by rw[List.append_assoc];exact List.mem_append.2 (.inl hm)
       refine⟨.inr gE,?_,(ap.b2 b gE).2⟩;rintro(hx|hx)
       ·exact(ap.b2 b gE).1 hx
       ·exact(List.nodup_append.1 dx).2.2 b hb b hx rfl
      ·have c8:∀b,an (fun b=>X b\/b∈aJ++rest) _ _ b->av b:=fun b hb=>ap.le b (le b hb)
       exact⟨e,v,aA,cs,dI,by rw[dI];exact(List.nodup_append.1 dx).1,aq,hr.map (fun k=>b9.fr (B:=B) (sites:=[]) (a:=one _) c8 (fun b hb=>S.lt (le b hb)) k) fun _ _ _ _=>rfl⟩
     have kA:Left L J X (fun F=>if F=n then .tuple (v::aA).toArray else B F) {st with sites:=aT st.sites [(n,.deep (aV bf n) t xs)]} av (aJ++rest):=by
      refine⟨(List.nodup_append.1 (by rw[List.append_assoc] at ap;exact ap.nodup)).2.1,fun b hb=>ap.b2 b (by rw[List.append_assoc];exact List.mem_append.2 (.inr hb)),fun c hc=>ap.le c (cF.le c hc)⟩
     obtain⟨ax,du,Z,aI⟩:=ih (n+1) (st:={st with sites:=aT st.sites [(n,.deep (aV bf n) t xs)]}) cF.fY h2 kA
      (iR.step (us:=[(n,.deep (aV bf n) t xs)]) (fun m hm=>fl m (List.mem_cons_of_mem _ hm)) (fun m hm=>by simp only[keys,List.mem_singleton] at hm;subst hm;exact Y.1)) Y.2
     refine⟨ax,cF.trans du,?_,aI⟩;refine ch.cons ?_ Z;have:dd (fun F=>if F=n then .tuple (v::aA).toArray else B F) (aT st.sites [(n,.deep (aV bf n) t xs)]) w (an (fun b=>X b\/b∈aJ++rest) (fun F=>if F=n then .tuple (v::aA).toArray else B F) (aT st.sites [(n,.deep (aV bf n) t xs)])) (.own n (aV bf n)) v:=
      ⟨A6 aq,Ref.mk (O:=.deep (aV bf n) t xs) (by simp[aT,ck]) rfl (by simp[bT])⟩
     exact du.go (a:=bJ (.own n (aV bf n))) (v:=v) this
    ·have GL:∀t xs,l≠.fresh t xs:=fun t xs h=>hf ⟨t,xs,h⟩
     have Fv:∀t xs,l≠.fS t xs:=fun t xs h=>Au ⟨t,xs,h⟩
     have acI:take bf n (l::U)=(l::(take bf (n+1) U).1,(take bf (n+1) U).2):=by
      cases l<;>first|rfl|exact absurd rfl (GL _ _)|exact absurd rfl (Fv _ _)
     have h1':aS=[]/\dd ls [] w av l v:=by
      cases l<;>first|exact h1|exact absurd rfl (GL _ _)|exact absurd rfl (Fv _ _)
     obtain⟨rfl,h1'⟩:=h1';rw[acI] at Y fl ⊢;simp only[List.nil_append] at S ap ⊢;obtain⟨ax,du,Z,aI⟩:=ih (n+1) S h2 ap fl Y;refine⟨ax,du,?_,aI⟩;refine ch.cons ?_ Z;exact Be GL Fv h1' (fun b hb=>ap.le b (du.le b hb)) (fun b hb=>du.fY.lt hb)
end
section
variable {L:World}{J:List Nat}{X:Nat->Prop}{B:Nat->Value}{st:ad}{tm:Array Value}{w:World}
def nr(B:Nat->Value)(sites:List (Nat×Site))(w:World)(av:Nat->Prop)(as:List br)(vs:List Value):Prop:=
 vs.length=as.length/\∀j (h:j<as.length) (ab:j<vs.length),fW B sites w av (as[j]) (vs[j])
theorem nr.cons{sites:List (Nat×Site)}{av:Nat->Prop}{a:br}{as:List br}{v:Value}{vs:List Value}(h:fW B sites w av a v)(M:nr B sites w av as vs):nr B sites w av (a::as) (v::vs):=
 ⟨by simp[M.1],fun j h1 h2=>by
  cases j with
  |zero=>exact h
  |succ j=>exact M.2 j (by simpa using h1) (by simpa using h2)⟩
theorem Left.rest{av:Nat->Prop}{a b:List Nat}(ap:Left L J X B st av (a++b)){ax:Nat->Value}{ae:ad}(h:∀c,an (fun c=>X c\/c∈b) ax ae.sites c->an (fun c=>X c\/c∈a++b) B st.sites c):Left L J X ax ae av b:=
 ⟨(List.nodup_append.1 ap.nodup).2.1,fun c hc=>ap.b2 c (List.mem_append.2 (.inr hc)),fun c hc=>ap.le c (h c hc)⟩
theorem Xq{bf:ad}{n:Nat}{U:List au}(h:(take bf n U).1.head?=some .eu):U.head?=some .eu:=by
 cases U with
 |nil=>cases h
 |cons l U=>cases l<;>first|exact h|cases h
theorem take_one(bf:ad)(n:Nat)(l:au):∃fk,(take bf n [l]).1=[fk]:=by cases l<;>exact⟨_,rfl⟩
theorem Ko{av:Nat->Prop}(bf:ad):∀(as:List br) (n:Nat) {B:Nat->Value} {st:ad} {vs:List Value} {bs rest:List Nat},af L J (fun b=>X b\/b∈bs++rest) B st tm w->j0 w av as vs bs->
  Left L J X B st av (bs++rest)->iR bf st.sites (keys (dC bf n as).2)->(keys (dC bf n as).2).Nodup->
  ∃ax,fs L J (fun b=>X b\/b∈bs++rest) (fun b=>X b\/b∈rest) B ax st tm w (dC bf n as).2/\nr ax (aT st.sites (dC bf n as).2) w (an (fun b=>X b\/b∈rest) ax (aT st.sites (dC bf n as).2)) (dC bf n as).1 vs/\
   Left L J X ax {st with sites:=aT st.sites (dC bf n as).2} av rest:=by
 intro as;induction as with
 |nil=>
  intro n B st vs bs rest S h ap fl Y;match vs,h with
  |[],h=>
   have h:bs=[]:=h;subst h;exact⟨B,.nil S (fun b hb=>hb),⟨rfl,fun j h=>by simp[dC] at h⟩,ap⟩
 |cons a as ih=>
  intro n B st vs bs rest S h ap fl Y;match vs,h with
  |v::vs,⟨aS,aJ,da,h1,h2⟩=>
   subst da;have go:∀(U:List au) (us:List Value),fU w av U us aS->(dC bf n (a::as)).2=(take bf n U).2++(dC bf (n+100) as).2->
     ∃ax,fs L J (fun b=>X b\/b∈aS++aJ++rest) (fun b=>X b\/b∈rest) B ax st tm w (dC bf n (a::as)).2/\ch ax (aT st.sites (dC bf n (a::as)).2) w (an (fun b=>X b\/b∈rest) ax (aT st.sites (dC bf n (a::as)).2)) (take bf n U).1 us/\
      nr ax (aT st.sites (dC bf n (a::as)).2) w (an (fun b=>X b\/b∈rest) ax (aT st.sites (dC bf n (a::as)).2)) (dC bf (n+100) as).1 vs/\Left L J X ax {st with sites:=aT st.sites (dC bf n (a::as)).2} av rest:=by
    intro U us bU e;rw[e] at fl Y ⊢;rw[gd] at fl Y;obtain⟨d1,d2,d3⟩:=List.nodup_append.1 Y;rw[List.append_assoc] at S ap ⊢;obtain⟨fI,cF,aB,kA⟩:=K5 bf U n S bU ap (fun m hm=>fl m (List.mem_append.2 (.inl hm))) d1
    obtain⟨fH,du,ao,o_⟩:=ih (n+100) (st:={st with sites:=aT st.sites (take bf n U).2}) cF.fY h2 kA
     (iR.step (fun m hm=>fl m (List.mem_append.2 (.inr hm))) (fun m hm gE=>d3 m hm m gE rfl)) d2
    refine⟨fH,cF.trans du,?_,?_,?_⟩
    ·rw[hV];exact aB.go du.go
    ·rw[hV];exact ao
    ·rw[hV];exact o_
   cases a with
   |ai l=>
    have h1:lr w av l v aS:=h1;obtain⟨ax,T,aB,ao,bj⟩:=go [l] [v] ⟨aS,[],by simp,h1,rfl⟩ rfl
    refine⟨ax,T,?_,bj⟩;obtain⟨fk,ft⟩:=take_one bf n l;have:(dC bf n (br.ai l::as)).1=br.ai fk::(dC bf (n+100) as).1:=by simp only[dC,ft]
    rw[this];refine nr.cons ?_ ao;rw[ft] at aB;exact aB.2 0 (by simp) (by simp)
   |agg U=>
    obtain⟨us,e,h1⟩:=h1;obtain⟨ax,T,aB,ao,bj⟩:=go U us h1 rfl;refine⟨ax,T,?_,bj⟩;have:(dC bf n (br.agg U::as)).1=br.agg (take bf n U).1::(dC bf (n+100) as).1:=rfl;rw[this];exact nr.cons ⟨us,e,aB.1,aB.2⟩ ao
def mO(B:Nat->Value):List (Nat×Nat)->List Nat->Prop
 |[],[]=>True
 |p::r,b::c7=>B p.1=.pointer (some ⟨b,0,none⟩)/\mO B r c7
 |_,_=>False
theorem mO.of:∀{boxes:List (Nat×Nat)},(∀o s,(o,s)∈boxes->∃b,B o=.pointer (some ⟨b,0,none⟩))->mO B boxes (cl B (keys boxes)):=by
 intro boxes;induction boxes with
 |nil=>intro _;trivial
 |cons q boxes ih=>
  obtain⟨aN,r⟩:=q;intro h;obtain⟨c,hc⟩:=h aN r List.mem_cons_self;have:=ih fun o s hm=>h o s (List.mem_cons_of_mem _ hm)
  have e:cl B (keys ((aN,r)::boxes))=c::cl B (keys boxes):=by simp[cl,keys,hc,a8,bA]
  rw[e];exact⟨hc,this⟩
theorem mO.congr{ax:Nat->Value}:∀{boxes:List (Nat×Nat)} {c7:List Nat},mO B boxes c7->(∀F,F∈keys boxes->ax F=B F)->mO ax boxes c7:=by
 intro boxes;induction boxes with
 |nil=>
  intro c7 h _;match c7,h with
  |[],_=>trivial
 |cons q boxes ih=>
  intro c7 h ab;match c7,h with
  |b::c7,⟨h1,h2⟩=>exact⟨by rw[ab q.1 List.mem_cons_self];exact h1,ih h2 fun F bm=>ab F (List.mem_cons_of_mem _ bm)⟩
theorem I6{av:Nat->Prop}{bf:ad}{F:Nat}:∀{boxes:List (Nat×Nat)} {cp:List (List au)} {c7 bs:List Nat},mO B boxes c7->ll w av c7 cp bs->F∈keys boxes->F∈keys (eV bf boxes cp):=by
 intro boxes;induction boxes with
 |nil=>intro cp c7 bs _ _ h;simp[keys] at h
 |cons q boxes ih=>
  obtain⟨aN,r⟩:=q;intro cp c7 bs hl bU hm;match c7,cp,hl,bU with
  |c::c7,cs::cp,⟨_,hl⟩,⟨_,_,_,_,bU⟩=>
   simp only[eV,gd,keys,List.mem_append,List.mem_cons];rcases List.mem_cons.1 hm with rfl|hm
   ·exact .inr (.inl rfl)
   ·exact .inr (.inr (ih hl bU hm))
theorem Kn{av:Nat->Prop}(bf:ad):∀(boxes:List (Nat×Nat)) {cp:List (List au)} {B:Nat->Value} {st:ad} {c7 bs rest:List Nat},af L J (fun b=>X b\/b∈bs++rest) B st tm w->mO B boxes c7->ll w av c7 cp bs->
  (∀o s,(o,s)∈boxes->look st.sites o=some (.dead s))->
  Left L J X B st av (bs++rest)->iR bf st.sites (keys (eV bf boxes cp))->(keys (eV bf boxes cp)).Nodup->
  ∃ax,fs L J (fun b=>X b\/b∈bs++rest) (fun b=>X b\/b∈rest) B ax st tm w (eV bf boxes cp)/\Left L J X ax {st with sites:=aT st.sites (eV bf boxes cp)} av rest:=by
 intro boxes;induction boxes with
 |nil=>
  intro cp B st c7 bs rest S ev h fN ap fl Y;match c7,cp,ev,h with
  |[],[],_,h=>
   have h:bs=[]:=h;subst h;exact⟨B,.nil S (fun b hb=>hb),ap⟩
 |cons p boxes ih=>
  obtain⟨o,s⟩:=p;intro cp B st c7 bs rest S ev h fN ap fl Y;have a_:=fN o s List.mem_cons_self;match c7,cp,ev,h with
  |b::c7,cs::cp,⟨hb,ev⟩,⟨aS,aJ,da,⟨T,cur,oZ,e1,e2,bI,dy⟩,h2⟩=>
   subst da e1;have hb:B o=.pointer (some ⟨b,0,none⟩):=hb;have qu:eV bf ((o,s)::boxes) (cs::cp)=(take bf (1000000+o*100) cs).2++([(o,Site.box s (take bf (1000000+o*100) cs).1)]++eV bf boxes cp):=rfl;rw[qu] at fl Y ⊢;rw[gd,gd] at fl Y;obtain⟨d1,d2,d3⟩:=List.nodup_append.1 Y;obtain⟨d4,d5,d6⟩:=List.nodup_append.1 d2;have zk:∀c,c∈b::oZ++aJ++rest <-> c∈oZ++(b::(aJ++rest)):=by intro c;simp[or_assoc,or_left_comm]
   have ajJ:=ap.nodup;have cZ:af L J (fun c=>X c\/c∈oZ++(b::(aJ++rest))) B st tm w:=S.shrink fun c hc=>hc.imp id (zk c).2
   have kA:Left L J X B st av (oZ++(b::(aJ++rest))):=by
    refine⟨?_,fun c hc=>ap.b2 c ((zk c).2 hc),fun c hc=>ap.le c ?_⟩
    ·have:List.Perm (b::oZ++aJ++rest) (oZ++(b::(aJ++rest))):=by
      simp only[List.cons_append,List.append_assoc];exact List.perm_middle.symm
     exact this.nodup_iff.1 ajJ
    ·rcases hc with hc|hc
     ·exact .inl (hc.imp id (zk c).2)
     ·exact .inr hc
   obtain⟨fI,cF,aB,o_⟩:=K5 bf cs (1000000+o*100) cZ dy.2 kA (fun m hm=>fl m (List.mem_append.2 (.inl hm))) d1
   have O':o∉keys (take bf (1000000+o*100) cs).2:=fun h=>d3 o h o (by simp[keys]) rfl
   have Fk:fI o=B o:=cF.same o O';have hl1:look (aT st.sites (take bf (1000000+o*100) cs).2) o=some (.dead s):=by rw[kD O',a_]
   have R':=o_.nodup;simp only[List.nodup_cons] at R';have du:fs L J (fun c=>X c\/c∈b::(aJ++rest)) (fun c=>X c\/c∈aJ++rest) fI (fun F=>if F=o then B o else fI F) {st with sites:=aT st.sites (take bf (1000000+o*100) cs).2} tm w [(o,Site.box s (take bf (1000000+o*100) cs).1)]:=by
    refine .one cF.fY (fun c hc=>hc.imp id (List.mem_cons_of_mem _)) (.inr ⟨by rw[Fk],fun O M=>?_⟩) (fun c hc=>?_) (fun eR dI go le=>?_)
    ·have M:look (aT st.sites (take bf (1000000+o*100) cs).2) o=some O:=M;rw[hl1] at M;cases M;exact⟨rfl,rfl⟩
    ·rw[hb] at hc;have hc:c=b:=List.mem_singleton.1 hc;rw[hc];refine⟨.inr List.mem_cons_self,?_,(o_.b2 b List.mem_cons_self).2⟩;rintro(hx|hx)
     ·exact(o_.b2 b List.mem_cons_self).1 hx
     ·exact R'.1 hx
    ·have:=yI go aB;exact⟨b,T,cur,by rw[dI,hb],e2,this.1,bI,fun bU=>dy.1 (Xq bU),this.2⟩
   have alB:Left L J X (fun F=>if F=o then B o else fI F) {st with sites:=aT (aT st.sites (take bf (1000000+o*100) cs).2) [(o,Site.box s (take bf (1000000+o*100) cs).1)]} av (aJ++rest):=
    Left.rest (a:=[b]) (st:={st with sites:=aT st.sites (take bf (1000000+o*100) cs).2}) o_ du.le
   have vF:∀F,F∈keys boxes->(fun F=>if F=o then B o else fI F) F=B F:=by
    intro F bm;have ag:=I6 (bf:=bf) ev h2 bm;by_cases e:F=o
    ·subst e;simp
    ·simp only[e,if_false];exact cF.same F fun hm=>d3 F hm F (List.mem_append.2 (.inr ag)) rfl
   obtain⟨ax,fx,alA⟩:=ih (st:={st with sites:=aT (aT st.sites (take bf (1000000+o*100) cs).2) [(o,Site.box s (take bf (1000000+o*100) cs).1)]}) du.fY (ev.congr vF) h2
    (fun F r hm=>by
     have ag:=I6 (bf:=bf) ev h2 (B8 hm);show look (aT (aT st.sites _) _) F=_;rw[kD (fun h=>d6 F h F ag rfl),kD (fun h=>d3 F h F (List.mem_append.2 (.inr ag)) rfl)]
     exact fN F r (List.mem_cons_of_mem _ hm))
    alB
    (iR.step (iR.step (fun m hm=>fl m (List.mem_append.2 (.inr (List.mem_append.2 (.inr hm))))) (fun m hm gE=>d3 m hm m (List.mem_append.2 (.inr gE)) rfl)) (fun m hm gE=>d6 m hm m gE rfl)) d5
   refine⟨ax,?_,?_⟩
   ·have ajx:=cF.trans du;have l3:fs L J (fun c=>X c\/c∈b::oZ++aJ++rest) (fun c=>X c\/c∈oZ++(b::(aJ++rest))) B B st tm w []:=.nil S fun c hc=>hc.imp id (zk c).2
    have afd:=l3.trans (vs:=(take bf (1000000+o*100) cs).2++[(o,Site.box s (take bf (1000000+o*100) cs).1)]) ajx;have:=afd.trans (vs:=eV bf boxes cp) (by simpa only[List.nil_append,hV] using fx)
    simpa only[List.nil_append,List.append_assoc] using this
   ·simpa only[hV] using alA
theorem hp.congr{ax:Nat->Value}:∀{rows:List (Option (Nat×Nat))} {vs:List Value},hp B rows vs->(∀o s,some (o,s)∈rows->bT (ax o)=bT (B o))->hp ax rows vs:=by
 intro rows;induction rows with
 |nil=>intro vs h _;trivial
 |cons D r ih=>
  intro vs h hc;match D,vs,h with
  |none,v::vs,h=>exact ih h fun o s hm=>hc o s (List.mem_cons_of_mem _ hm)
  |some p,v::vs,h=>exact⟨h.1.trans (hc p.1 p.2 List.mem_cons_self).symm,ih h.2 fun o s hm=>hc o s (List.mem_cons_of_mem _ hm)⟩
  |none,[],h=>exact h.elim
  |some p,[],h=>exact h.elim
theorem Xr{U:List au}:eI [] U=[]:=by cases U<;>rfl
theorem I5{rows:List (Option (Nat×Nat))}:eI rows []=[]:=by
 cases rows with
 |nil=>rfl
 |cons D r=>cases D<;>rfl
theorem V2{r:List (Option (Nat×Nat))}{l:au}{U:List au}:eI (none::r) (l::U)=eI r U:=by cases l<;>rfl
theorem wk{o s:Nat}:∀{rows:List (Option (Nat×Nat))},some (o,s)∈rows->o∈n' rows
 |[],h=>by cases h
 |none::r,h=>by
  rcases List.mem_cons.1 h with h|h
  ·cases h
  ·exact wk (rows:=r) h
 |some p::r,h=>by
  rcases List.mem_cons.1 h with h|h
  ·cases h;exact List.mem_cons_self
  ·exact List.mem_cons_of_mem _ (wk h)
theorem UQ{D:Option (Nat×Nat)}{rows:List (Option (Nat×Nat))}(h:(n' (D::rows)).Nodup):(n' rows).Nodup:=by
 cases D with
 |none=>exact h
 |some p=>exact(List.nodup_cons.1 h).2
theorem YT{av:Nat->Prop}:∀(rows:List (Option (Nat×Nat))) {U:List au} {B:Nat->Value} {st:ad} {vs:List Value} {bs rest:List Nat},af L J (fun b=>X b\/b∈bs++rest) B st tm w->fU w av U vs bs->hp B rows vs->
  (∀o s,some (o,s)∈rows->look st.sites o=some (.dead s))->(n' rows).Nodup->Left L J X B st av (bs++rest)->(keys (eI rows U)).Nodup->
  ∃ax,fs L J (fun b=>X b\/b∈bs++rest) (fun b=>X b\/b∈rest) B ax st tm w (eI rows U)/\Left L J X ax {st with sites:=aT st.sites (eI rows U)} av rest:=by
 intro rows;have skip:∀{B:Nat->Value} {st:ad} {bs rest:List Nat},af L J (fun b=>X b\/b∈bs++rest) B st tm w->Left L J X B st av (bs++rest)->
   fs L J (fun b=>X b\/b∈bs++rest) (fun b=>X b\/b∈rest) B B st tm w []/\Left L J X B st av rest:=by
  intro B st bs rest S ap;have T:fs L J (fun b=>X b\/b∈bs++rest) (fun b=>X b\/b∈rest) B B st tm w []:=.nil S fun b hb=>hb.imp id fun h=>List.mem_append.2 (.inr h)
  exact⟨T,ap.rest (fun c hc=>T.le c hc)⟩
 induction rows with
 |nil=>
  intro U B st vs bs rest S h hr ez fl ap Y;obtain⟨T,L'⟩:=skip S ap;rw[Xr];exact⟨B,T,L'⟩
 |cons D r ih=>
  intro U B st vs bs rest S h hr ez fl ap Y;match U,vs,h with
  |[],[],h=>
   obtain⟨T,L'⟩:=skip S ap;rw[I5];exact⟨B,T,L'⟩
  |l::U,v::vs,⟨aS,aJ,da,h1,h2⟩=>
   subst da;have pass:hp B r vs->eI (D::r) (l::U)=eI r U->∃ax,fs L J (fun b=>X b\/b∈aS++aJ++rest) (fun b=>X b\/b∈rest) B ax st tm w (eI (D::r) (l::U))/\Left L J X ax {st with sites:=aT st.sites (eI (D::r) (l::U))} av rest:=by
    intro cL e;rw[e] at Y ⊢;have l3:fs L J (fun b=>X b\/b∈aS++aJ++rest) (fun b=>X b\/b∈aJ++rest) B B st tm w []:=.nil S fun b hb=>hb.imp id fun h=>by rw[List.append_assoc];exact List.mem_append.2 (.inr h)
    have wc:Left L J X B st av (aJ++rest):=Left.rest (a:=aS) (by rw[<-List.append_assoc];exact ap) fun c hc=>(l3.le c hc).imp (fun h=>h.imp id fun h=>by rwa[<-List.append_assoc]) id
    obtain⟨ax,T,L'⟩:=ih l3.fY h2 cL (fun o s hm=>ez o s (List.mem_cons_of_mem _ hm)) (UQ fl) wc Y
    exact⟨ax,l3.trans (vs:=eI r U) T,L'⟩
   have back:∀(o s:Nat) (bw:Site) (nv:Value),D=some (o,s)->bw.bX=s->eI (D::r) (l::U)=(o,bw)::eI r U->bT nv=v->(∀b,b∈bA nv->b∈aS)->
     (∀{bi:List (Nat×Site)} {ax:Nat->Value},ax o=nv->(∀b,an (fun b=>X b\/b∈aJ++rest) ax bi b->av b)->(∀b,an (fun b=>X b\/b∈aJ++rest) ax bi b->b<w.heap.size)->ir ax bi w (an (fun b=>X b\/b∈aJ++rest) ax bi) o bw)->
     ∃ax,fs L J (fun b=>X b\/b∈aS++aJ++rest) (fun b=>X b\/b∈rest) B ax st tm w (eI (D::r) (l::U))/\Left L J X ax {st with sites:=aT st.sites (eI (D::r) (l::U))} av rest:=by
    intro o s bw nv aq c9 e vq oS fb;subst aq;rw[e] at Y ⊢;simp only[keys,List.nodup_cons] at Y;have a_:=ez o s List.mem_cons_self;have dx:=ap.nodup;rw[List.append_assoc] at dx;have cF:fs L J (fun b=>X b\/b∈aS++aJ++rest) (fun b=>X b\/b∈aJ++rest) B (fun F=>if F=o then nv else B F) st tm w [(o,bw)]:=by
     refine .one S (fun b hb=>hb.imp id fun h=>by rw[List.append_assoc];exact List.mem_append.2 (.inr h)) (.inr ⟨?_,fun O M=>?_⟩) (fun b hb=>?_) (fun eR dI go le=>?_)
     ·rw[vq];exact hr.1.symm
     ·rw[a_] at M;cases M;exact⟨c9.symm,rfl⟩
     ·have hm:=oS b hb;have gE:b∈aS++aJ++rest:=by rw[List.append_assoc];exact List.mem_append.2 (.inl hm)
      refine⟨.inr gE,?_,(ap.b2 b gE).2⟩;rintro(hx|hx)
      ·exact(ap.b2 b gE).1 hx
      ·exact(List.nodup_append.1 dx).2.2 b hm b hx rfl
     ·exact fb dI (fun b hb=>ap.le b (le b hb)) (fun b hb=>S.lt (le b hb))
    have kA:Left L J X (fun F=>if F=o then nv else B F) {st with sites:=aT st.sites [(o,bw)]} av (aJ++rest):=
     ⟨(List.nodup_append.1 dx).2.1,fun b hb=>ap.b2 b (by rw[List.append_assoc];exact List.mem_append.2 (.inr hb)),fun c hc=>ap.le c (cF.le c hc)⟩
    have vl:hp (fun F=>if F=o then nv else B F) r vs:=hr.2.congr fun F t hm=>by
     by_cases e:F=o
     ·subst e;have:=hr.1;simp only[if_true,vq];exact this
     ·simp[e]
    obtain⟨ax,du,o_⟩:=ih (st:={st with sites:=aT st.sites [(o,bw)]}) cF.fY h2 vl (fun F t hm=>by
     have bY:¬o=F:=fun e=>(List.nodup_cons.1 fl).1 (by subst e;exact wk hm)
     simp only[aT,ck,bY,if_false];exact ez F t (List.mem_cons_of_mem _ hm)) (List.nodup_cons.1 fl).2 kA Y.2
    exact⟨ax,cF.trans du,o_⟩
   match D,hr with
   |none,hr=>exact pass hr V2
   |some (o,s),hr=>
    cases l with
    |fresh t xs=>
     obtain⟨hb1,e,cs,aq,dE⟩:=h1;refine back o s (.row s t xs) v rfl rfl rfl (iq aq).1 (fun b hb=>by rw[hb1,tB aq hb];simp) fun dI c8 aW=>⟨e,cs,by rw[dI];exact aq,fun j g1 g2=>?_⟩
     exact b9.fr (B:=B) (sites:=[]) (a:=one _) c8 aW (dE.2 j g1 g2)
    |fS t xs=>
     obtain⟨e,cs,aA,hb1,aq,dE⟩:=h1;refine back o s (.deep s t xs) (.tuple (v::aA).toArray) rfl rfl rfl rfl (fun b hb=>by rw[hb1];exact hb) fun dI c8 aW=>⟨e,v,aA,cs,dI,?_,aq,dE.map (fun k=>b9.fr (B:=B) (sites:=[]) (a:=one _) c8 aW k) fun _ _ _ _=>rfl⟩
     rw[dI,<-hb1];have:=ap.nodup;rw[List.append_assoc] at this;exact(List.nodup_append.1 this).1
    |_=>exact pass hr.2 rfl
end
theorem wi{us:List (Nat×Site)}:∀{sites:List (Nat×Site)} {o:Nat} {s:Site},(keys us).Nodup->(o,s)∈us->look (aT sites us) o=some s:=by
 induction us with
 |nil=>intro sites o s _ h;simp at h
 |cons p us ih=>
  obtain⟨n,am⟩:=p;intro sites o s hn hm;simp only[keys,List.nodup_cons] at hn;simp only[aT];rcases List.mem_cons.1 hm with hm|hm
  ·cases hm;rw[kD hn.1,ck];simp
  ·exact ih hn.2 hm
section plain
variable {w:World}{av bN:Nat->Prop}
theorem tp{d:aL}{v:Value}(h:au.gS (.d d)=false)(r:ba w av d v):ba w bN d v:=by
 cases r with
 |int k n=>exact .int k n
 |bool b=>exact .bool b
 |str l s M=>exact .str l s M
 |nil t=>cases h
 |sl=>cases h
 |fn=>cases h
 |r_=>cases h
 |map=>cases h
 |pN T=>exact .pN T
 |err T n=>exact .err T n
theorem Yi{t:aG}(h:t.gS=false)(x:den t):∀d,d∈enc t x->au.gS (.d d)=false:=by
 cases t<;>first|(cases h;done)|(intro d Y;simp only[enc,List.mem_cons,List.not_mem_nil,or_false] at Y;(rcases Y with rfl|rfl|rfl|rfl|rfl);all_goals rfl)|skip
 all_goals(intro d Y;simp only[enc,List.mem_cons,List.not_mem_nil,or_false] at Y)
 all_goals first|(subst Y;rfl)|(rcases Y with rfl|rfl<;>rfl)|(rcases Y with rfl|rfl|rfl<;>rfl)|(rcases Y with rfl|rfl|rfl|rfl<;>rfl)
theorem XF{t:aG}{xs:List (den t)}{cs:List Value}(h:t.gS=false)(r:cf w av (flat t xs) cs):cf w bN (flat t xs) cs:=by
 refine⟨r.1,fun j g1 g2=>tp ?_ (r.2 j g1 g2)⟩
 have hm:(flat t xs)[j]∈flat t xs:=List.getElem_mem g1;simp only[flat,List.mem_flatMap] at hm;obtain⟨x,_,hx⟩:=hm;exact Yi h x _ hx
theorem WM{ds:List aL}{cs aA:List Value}(k:Deep w av ds cs aA):Deep w bN ds cs aA:=by
 have pl:∀{d:aL} {v:Value},d.plain=true->ba w av d v->ba w bN d v:=fun {d v} al r=>tp (by cases d<;>first|rfl|cases al) r
 induction k with
 |nil=>exact .nil
 |row u ys e U al h hr _ ih=>exact .row u ys e U al h ⟨hr.1,fun j g1 g2=>pl (al _ (List.getElem_mem g1)) (hr.2 j g1 g2)⟩ ih
 |leaf al h _ ih=>exact .leaf al (pl al h) ih
theorem IP{l:au}{v:Value}{bs:List Nat}(h:l.gS=false)(k:lr w av l v bs):lr w bN l v bs:=by
 cases l with
 |d x=>exact⟨k.1,tp h k.2⟩
 |fresh t xs=>
  obtain⟨h1,e,cs,h2,Z⟩:=k;exact⟨h1,e,cs,h2,XF h Z⟩
 |fS t xs=>
  obtain⟨e,cs,aA,h1,h2,Z⟩:=k;exact⟨e,cs,aA,h1,h2,WM Z⟩
 |cx v=>exact k
 |eu=>exact k
 |_=>cases h
theorem A8:∀{U:List au} {vs:List Value} {bs:List Nat},na U=false->fU w av U vs bs->fU w bN U vs bs:=by
 intro U;induction U with
 |nil=>
  intro vs bs _ k;match vs,k with
  |[],k=>exact k
 |cons l U ih=>
  intro vs bs h k;simp only[na,Bool.or_eq_false_iff] at h;match vs,k with
  |v::vs,⟨aS,aJ,aB,ao,bj⟩=>exact⟨aS,aJ,aB,IP h.1 ao,ih h.2 bj⟩
theorem U0:∀{as:List br} {vs:List Value} {bs:List Nat},qG as=false->j0 w av as vs bs->j0 w bN as vs bs:=by
 intro as;induction as with
 |nil=>
  intro vs bs _ k;match vs,k with
  |[],k=>exact k
 |cons a as ih=>
  intro vs bs h k;simp only[qG,Bool.or_eq_false_iff] at h;match vs,k with
  |v::vs,⟨aS,aJ,aB,ao,bj⟩=>
   refine⟨aS,aJ,aB,?_,ih h.2 bj⟩;cases a with
   |ai l=>
    have h1:=h.1;simp only[br.cells,na,Bool.or_false] at h1;exact IP h1 ao
   |agg U=>
    obtain⟨us,e,ao⟩:=ao;exact⟨us,e,A8 h.1 ao⟩
theorem UZ:∀{cp:List (List au)} {c7 bs:List Nat},qF cp=false->ll w av c7 cp bs->ll w bN c7 cp bs:=by
 intro cp;induction cp with
 |nil=>
  intro c7 bs _ k;match c7,k with
  |[],k=>exact k
 |cons a as ih=>
  intro c7 bs h k;simp only[qF,Bool.or_eq_false_iff] at h;match c7,k with
  |b::c7,⟨aS,aJ,aB,⟨T,cur,nR,e1,e2,bI,dy,fw⟩,bj⟩=>
   exact⟨aS,aJ,aB,⟨T,cur,nR,e1,e2,bI,dy,A8 h.1 fw⟩,ih h.2 bj⟩
theorem KR{l:au}{v:Value}{bs:List Nat}(k:lr w av l v bs):∀b,b∈bs->b<w.heap.size:=by
 cases l with
 |fresh t xs=>
  obtain⟨h1,e,cs,h2,Z⟩:=k;intro b hb;rw[h1] at hb;exact to h2 (Option.mem_toList.1 hb)
 |fS t xs=>
  obtain⟨e,cs,aA,h1,h2,Z⟩:=k;intro b hb;rw[h1] at hb;rcases ij.1 hb with hb|⟨n,hn,hb⟩
  ·exact to h2 hb
  ·exact Z.lt n hn b hb
 |_=>intro b hb;rw[k.1] at hb;simp at hb
theorem Cf:∀{U:List au} {vs:List Value} {bs:List Nat},fU w av U vs bs->∀b,b∈bs->b<w.heap.size:=by
 intro U;induction U with
 |nil=>
  intro vs bs k;match vs,k with
  |[],k=>have k:bs=[]:=k;intro b hb;rw[k] at hb;simp at hb
 |cons l U ih=>
  intro vs bs k;match vs,k with
  |v::vs,⟨aS,aJ,aB,ao,bj⟩=>
   intro b hb;rw[aB] at hb;rcases List.mem_append.1 hb with hb|hb
   ·exact KR ao b hb
   ·exact ih bj b hb
theorem J0:∀{as:List br} {vs:List Value} {bs:List Nat},j0 w av as vs bs->∀b,b∈bs->b<w.heap.size:=by
 intro as;induction as with
 |nil=>
  intro vs bs k;match vs,k with
  |[],k=>have k:bs=[]:=k;intro b hb;rw[k] at hb;simp at hb
 |cons a as ih=>
  intro vs bs k;match vs,k with
  |v::vs,⟨aS,aJ,aB,ao,bj⟩=>
   intro b hb;rw[aB] at hb;rcases List.mem_append.1 hb with hb|hb
   ·cases a with
    |ai l=>exact KR (show lr w av l v aS from ao) b hb
    |agg U=>obtain⟨us,e,ao⟩:=ao;exact Cf ao b hb
   ·exact ih bj b hb
theorem JZ:∀{cp:List (List au)} {c7 bs:List Nat},ll w av c7 cp bs->∀b,b∈bs->b<w.heap.size:=by
 intro cp;induction cp with
 |nil=>
  intro c7 bs k;match c7,k with
  |[],k=>have k:bs=[]:=k;intro b hb;rw[k] at hb;simp at hb
 |cons a as ih=>
  intro c7 bs k;match c7,k with
  |c::c7,⟨aS,aJ,aB,⟨T,cur,nR,e1,e2,bI,_,dy⟩,bj⟩=>
   intro b hb;rw[aB] at hb;rcases List.mem_append.1 hb with hb|hb
   ·rw[e1] at hb;rcases List.mem_cons.1 hb with rfl|hb
    ·exact(Array.getElem?_eq_some_iff.1 e2).1
    ·exact Cf dy b hb
   ·exact ih bj b hb
end plain
section
variable {P:Program}{L:World}{J:List Nat}{X:Nat->Prop}{B:Nat->Value}{st:ad}{tm:Array Value}{w:World}{D:Oper}
theorem mZ{ks:List Nat}{b:Nat}:b∈cl B ks <-> ∃o,o∈ks/\b∈bA (B o):=by simp[cl]
theorem IA(S:af L J X B st tm w):∀{ks:List Nat},ks.Nodup->(∀o,o∈ks->bS st.sites o)->(cl B ks).Nodup:=by
 intro ks;induction ks with
 |nil=>intro _ _;exact List.nodup_nil
 |cons o ks ih=>
  intro hn hl;rw[List.nodup_cons] at hn;have:=ih hn.2 fun F bm=>hl F (List.mem_cons_of_mem _ bm)
  simp only[cl,List.flatMap_cons] at this ⊢;refine List.nodup_append.2 ⟨S.Mf (hl o List.mem_cons_self),this,fun b hb c hc e=>?_⟩
  subst e;obtain⟨F,h1,h2⟩:=mZ.1 hc;have:=S.c' o F b (hl o List.mem_cons_self) (hl F (List.mem_cons_of_mem _ h1)) hb h2;subst this;exact hn.1 h1
structure afe(L:World)(J:List Nat)(X:Nat->Prop)(B:Nat->Value)(st:ad)(tm:Array Value)(w:World)(a:jB)(vs:List Value):Prop where
 bv:di st.sites a.er
 lb:∀o,o∈a.fp->bS st.sites o
 mU:eM st.sites a.gone
 arg:∀av,eP L J X B st tm w a.er a.fp av->hX w av a.as vs (cl B (keys a.gone))
 c7:dj a.as vs=cl B (keys a.boxes)
 dH:∀o s,(o,s)∈a.boxes->(o,.dead s)∈a.gone/\∃b,B o=.pointer (some ⟨b,0,none⟩)
 jM:hp B a.rows (eW a.as vs)
 rg:∀o s,some (o,s)∈a.rows->(o,.dead s)∈a.gone
theorem IR{us:List (Nat×Site)}{sites:List (Nat×Site)}(aQ:di sites us){o:Nat}(h:bS (aT sites us) o):bS sites o:=by
 obtain⟨O,h1,h2⟩:=h;rcases lc aQ o with h|⟨s,t,xs,aI,bp⟩
 ·exact⟨O,h▸h1,h2⟩
 ·rw[bp] at h1;cases h1;cases h2
theorem ZY(S:af L J X B st tm w){g:FuncId}{aD:a0}(gN:a4 P g aD){a:jB}{vs:List Value}(A:afe L J X B st tm w a vs){d:Nat}(Y:b1 st D.dst=true)
  (cG:(execOp (Act.eval ⟨tm,[]⟩) D).run P w=(callFunc g vs.toArray).run P w):Holds (ov d st aD a) (cv P L J X st tm w D):=by
 intro y aj hc;simp only[ov] at y aj hc ⊢;simp only[Bool.and_eq_true] at hc;obtain⟨⟨⟨⟨⟨c1,c2⟩,c3⟩,dU⟩,ji⟩,c6,TL⟩:=hc;rw[n6] at c1 c3 c6;rw[J7] at c2 dU TL;have qI:∀o,o∈keys a.gone->bS st.sites o:=fun o a_=>by
  obtain⟨s,M⟩:=n9 a_;obtain⟨O,h1,h2,_⟩:=A.mU o s M;exact⟨O,h1,h2⟩
 have JW:∀o,o∈keys a.gone->o∉keys a.er:=fun o h1 h2=>c2 o (List.mem_append.2 (.inl h2)) h1
 have alm:∃X':Nat->Prop,∀b,X' b <-> (an X B (aT st.sites a.er) b/\b∉cl B (keys a.gone)/\∀o,o∈a.fp->b∉bA (B o)):=⟨_,fun b=>Iff.rfl⟩
 obtain⟨X',mM⟩:=alm;have eb:eP L J X B st tm w a.er a.fp (fun b=>X' b\/b∈cl B (keys a.gone)):=by
  refine⟨⟨S,A.bv⟩,fun b hb=>?_,fun o a_ b hb hx=>?_⟩
  ·rcases hb with hb|hb
   ·exact((mM b).1 hb).1
   ·obtain⟨o,h1,h2⟩:=mZ.1 hb;obtain⟨O,Z,aI⟩:=qI o h1;exact .inr ⟨o,⟨O,by rw[kD (JW o h1)];exact Z,aI⟩,h2⟩
  ·rcases hx with hx|hx
   ·exact((mM b).1 hx).2.2 o a_ (fR hb)
   ·obtain⟨F,h1,h2⟩:=mZ.1 hx;have:=S.c' o F b (A.lb o a_) (qI F h1) (fR hb) h2;subst this;exact c2 o (List.mem_append.2 (.inr a_)) h1
 have oU:(cl B (keys a.gone)).Nodup:=IA S c1 qI;have Cg:∀b,b∈cl B (keys a.gone)->¬X b/\(b∈J\/L.heap.size<=b):=fun b hb=>by
  obtain⟨o,h1,h2⟩:=mZ.1 hb;exact S.b2 o b (qI o h1) h2
 have Sn:∀b,X b->X' b:=fun b hb=>(mM b).2 ⟨.inl hb,fun h=>(Cg b h).1 hb,fun o a_ h=>(S.b2 o b (A.lb o a_) h).1 hb⟩
 have hG:hK w (cl B (keys a.gone)) X':=by
  obtain⟨g1,g2⟩:=S.jP;refine⟨g1,fun b hb h=>?_,fun b hb h=>?_,fun b hb=>(g2 b hb).2⟩
  ·obtain⟨o,h1,h2⟩:=mZ.1 h;exact(g2 b hb).1 (.inr ⟨o,qI o h1,h2⟩)
  ·rcases((mM b).1 h).1 with h|⟨o,h1,h2⟩
   ·exact(g2 b hb).1 (.inl h)
   ·exact(g2 b hb).1 (.inr ⟨o,IR A.bv h1,h2⟩)
 have E:=gN a.as y aj w X' vs (cl B (keys a.gone)) (A.arg _ eb) oU (fun b hb hx=>((mM b).1 hx).2.1 hb) (fun b hb=>eb.lt (.inl hb)) hG
 intro K Q bn;have lA:∀v w',(∃dR dm rv,Fr (cl B (keys a.gone)) w w'/\oo w' (fun b=>X' b\/b∈dR++dm) (dj a.as vs) ((aD a.as).dH y) (eW a.as vs) ((aD a.as).ew y) dR/\j0 w' (fun b=>X' b\/b∈dR++dm) ((aD a.as).eN y) rv dm/\
   v=nm rv/\(dR++dm).Nodup/\∀b,b∈dR++dm->¬X' b/\(b∈cl B (keys a.gone)\/w.heap.size<=b))->K ⟨ci tm D.dst v,[]⟩ w':=by
  rintro v w' ⟨dR,dm,rv,aQ,fN,hA,rfl,dx,hm⟩;obtain⟨sl,fZ⟩:∃sl,(qG ((aD a.as).eN y)||qF ((aD a.as).dH y)||na ((aD a.as).ew y))=sl:=⟨_,rfl⟩;rw[fZ] at ji bn;obtain⟨cJ,AB⟩:∃cJ,(bif sl then a.er else [])=cJ:=⟨_,rfl⟩
  rw[AB] at bn;have Pu:di st.sites cJ:=by rw[<-AB];cases sl;exact .nil;exact A.bv
  have acl:∀o,o∈keys cJ->o∈keys a.er:=by rw[<-AB];cases sl;intro o h;simp[keys] at h;exact fun o h=>h
  have cZ:af L J X B {st with sites:=aT st.sites cJ} tm w:=S.yg Pu
  have AC:eM (aT st.sites cJ) a.gone:=fun o s M=>by
   obtain⟨O,h1,h2,Z⟩:=A.mU o s M;exact⟨O,by rw[kD (fun h=>JW o (B8 M) (acl o h))];exact h1,h2,Z⟩
  have fO:=cZ.ack AC c1;have ig:=fO.jump (w':=w') (fun b hb aW=>aQ.block b aW (fun h=>hb (.inr h))) aQ.size
   ⟨aQ.os.trans S.frame.os,aQ.tape.trans S.frame.tape,aQ.output.trans S.frame.output,Nat.le_trans S.frame.size aQ.size,fun b aW hb=>by
    rw[aQ.block b (Nat.lt_of_lt_of_le aW S.frame.size) (fun h=>by rcases(Cg b h).2 with ab|ab;exact hb ab;omega)]
    exact S.frame.block b aW hb⟩
  have ahO:∀b,b∈dR++dm->b<w'.heap.size:=fun b hb=>by
   rcases List.mem_append.1 hb with hb|hb
   ·obtain⟨d1,d2,e1,e2,bI⟩:=fN;rw[e1] at hb;rcases List.mem_append.1 hb with hb|hb
    ·exact JZ e2 b hb
    ·rcases bI with⟨_,bI⟩|bI
     ·rw[bI] at hb;simp at hb
     ·exact Cf bI b hb
   ·exact J0 hA b hb
  have l4:af L J (fun b=>X b\/b∈dR++(dm++[])) B {st with sites:=aT (aT st.sites cJ) a.gone} tm w':=ig.shrink fun b hb=>by
   rcases hb with hb|hb
   ·exact .inl (.inl hb)
   ·rw[List.append_nil] at hb;rcases(hm b hb).2 with h|h
    ·exact .inl (.inr h)
    ·exact .inr ⟨h,ahO b hb⟩
  obtain⟨av,Pr,aeW,aeV⟩:∃av:Nat->Prop,oo w' av (dj a.as vs) ((aD a.as).dH y) (eW a.as vs) ((aD a.as).ew y) dR/\j0 w' av ((aD a.as).eN y) rv dm/\
    ∀c,an (fun b=>X b\/b∈dR++(dm++[])) B (aT (aT st.sites cJ) a.gone) c->av c:=by
   cases sl with
   |false=>
    rw[Bool.or_eq_false_iff,Bool.or_eq_false_iff] at fZ;obtain⟨d1,d2,e1,e2,bI⟩:=fN;exact⟨_,⟨d1,d2,e1,UZ fZ.1.2 e2,bI.imp id (A8 fZ.2)⟩,U0 fZ.1.1 hA,fun c hc=>hc⟩
   |true=>
    refine⟨_,fN,hA,fun c hc=>?_⟩
    rcases hc with(hc|hc)|⟨o,⟨O,h1,h2⟩,Z⟩
    ·exact .inl (Sn c hc)
    ·rw[List.append_nil] at hc;exact .inr hc
    ·refine .inl ((mM c).2 ?_);have a_:o∉keys a.gone:=fun h=>by
      obtain⟨s,M⟩:=n9 h;rw[wi c1 M] at h1;obtain⟨_,_,_,e⟩:=A.mU o s M;cases h1;rw[e] at h2;cases h2
     rw[kD a_] at h1;have aeZ:a.er=cJ:=AB;rw[<-aeZ] at h1;have live:bS st.sites o:=IR A.bv ⟨O,h1,h2⟩;refine⟨.inr ⟨o,⟨O,h1,h2⟩,Z⟩,fun h=>?_,fun F bm h=>?_⟩
     ·obtain⟨F,aB,ao⟩:=mZ.1 h;have:=S.c' o F c live (qI F aB) Z ao;subst this;exact a_ aB
     ·simp only[Bool.not_true,Bool.false_or,List.isEmpty_iff] at ji;rw[ji] at bm;simp at bm
  have ap:Left L J X B {st with sites:=aT (aT st.sites cJ) a.gone} av (dR++(dm++[])):=by
   refine⟨by simpa using dx,fun b hb=>?_,aeV⟩
   rw[List.append_nil] at hb;obtain⟨h1,h2⟩:=hm b hb;refine⟨fun hx=>h1 (Sn b hx),?_⟩
   rcases h2 with h2|h2
   ·exact(Cg b h2).2
   ·exact .inr (Nat.le_trans S.frame.size h2)
  have ug:∀ks,iR st (aT (aT st.sites cJ) a.gone) ks:=fun ks m _ O M=>by
   have h1:∀O,look (aT st.sites cJ) m=some O->O.bX<aV st m:=fun O M=>by
    rcases lc Pu m with h|⟨s,t,xs,aI,bp⟩
    ·rw[h] at M;exact jm M
    ·rw[bp] at M;cases M;rcases aI with aI|aI|aI<;>(have q:=jm aI;exact q)
   by_cases ag:m∈keys a.gone
   ·obtain⟨s,eR⟩:=n9 ag;rw[wi c1 eR] at M;obtain⟨bw,e1,_,bI⟩:=AC m s eR;rw[bI] at M;cases M;exact h1 bw e1
   ·rw[kD ag] at M;exact h1 O M
  rw[gd,gd] at c3;obtain⟨d12,d2,d3⟩:=List.nodup_append.1 c3;obtain⟨d1,alr,d4⟩:=List.nodup_append.1 d12;rw[A.c7] at Pr;obtain⟨e1,e2,rfl,aeU,FD⟩:=Pr;simp only[List.append_assoc] at l4 ap;obtain⟨h6,l3,wc⟩:=Kn st a.boxes (st:={st with sites:=aT (aT st.sites cJ) a.gone}) l4 (mO.of fun o s M=>(A.dH o s M).2) aeU
   (fun o s M=>wi c1 (A.dH o s M).1) ap (ug _) d1
  obtain⟨fI,ajy,kA⟩:∃fI,fs L J (fun b=>X b\/b∈e2++(dm++[])) (fun b=>X b\/b∈dm++[]) h6 fI {st with sites:=aT (aT (aT st.sites cJ) a.gone) (eV st a.boxes ((aD a.as).dH y))} tm w' (eI a.rows ((aD a.as).ew y))/\
    Left L J X fI {st with sites:=aT (aT (aT (aT st.sites cJ) a.gone) (eV st a.boxes ((aD a.as).dH y))) (eI a.rows ((aD a.as).ew y))} av (dm++[]):=by
   rcases FD with⟨q1,q2⟩|FD
   ·have e:eI a.rows ((aD a.as).ew y)=[]:=by rw[q1];exact I5
    subst q2;rw[e];exact⟨h6,.nil l3.fY fun b hb=>hb,wc⟩
   ·by_cases hne:eI a.rows ((aD a.as).ew y)=[]
    ·rw[hne];have T:fs L J (fun b=>X b\/b∈e2++(dm++[])) (fun b=>X b\/b∈dm++[]) h6 h6 {st with sites:=aT (aT (aT st.sites cJ) a.gone) (eV st a.boxes ((aD a.as).dH y))} tm w' []:=.nil l3.fY fun b hb=>hb.imp id fun h=>List.mem_append.2 (.inr h)
     exact⟨h6,T,wc.rest fun c hc=>T.le c hc⟩
    have Tw:∀o s,some (o,s)∈a.rows->o∉keys (eV st a.boxes ((aD a.as).dH y)):=fun o s hm ag=>TL o (wk hm) ag
    exact YT a.rows l3.fY FD (A.jM.congr fun o s hm=>by rw[l3.same o (Tw o s hm)]) (fun o s hm=>by
     rw[kD (Tw o s hm)];exact wi c1 (A.rg o s hm)) c6 wc alr
  have cF:=l3.trans ajy;obtain⟨fH,du,h5,_⟩:=Ko st ((aD a.as).eN y) (2000000+d*10000) (st:={st with sites:=aT (aT (aT st.sites cJ) a.gone) (eV st a.boxes ((aD a.as).dH y)++eI a.rows ((aD a.as).ew y))}) cF.fY aeW (by rw[hV];exact kA)
   (iR.step (ug _) (fun n h1 h2=>d3 n (by rw[gd] at h1;exact h1) n h2 rfl)) d2
  have o8:af L J X fH {st with sites:=aT st.sites (cJ++a.gone++(eV st a.boxes ((aD a.as).dH y)++eI a.rows ((aD a.as).ew y))++(dC st (2000000+d*10000) ((aD a.as).eN y)).2)} tm w':=by
   have:=du.fY.shrink (X':=X) fun b hb=>.inl hb
   simpa only[hV] using this
  refine bn fH _ w' (af.cz o8 Y (v:=M4 (dC st (2000000+d*10000) ((aD a.as).eN y)).1) ?_);have Nr:nr fH (aT st.sites (cJ++a.gone++(eV st a.boxes ((aD a.as).dH y)++eI a.rows ((aD a.as).ew y))++(dC st (2000000+d*10000) ((aD a.as).eN y)).2)) w'
    (an X fH (aT st.sites (cJ++a.gone++(eV st a.boxes ((aD a.as).dH y)++eI a.rows ((aD a.as).ew y))++(dC st (2000000+d*10000) ((aD a.as).eN y)).2))) (dC st (2000000+d*10000) ((aD a.as).eN y)).1 rv:=by
   have e:(fun b=>X b\/b∈([]:List Nat))=X:=by funext b;simp
   rw[e] at h5;simpa only[hV] using h5
  generalize(dC st (2000000+d*10000) ((aD a.as).eN y)).1=ahQ at Nr;match ahQ,rv,Nr with
  |[],[],h=>exact⟨[],rfl,rfl,fun j h=>by simp at h⟩
  |[l],[v],h=>exact h.2 0 (by simp) (by simp)
  |l::ga::U,v::v2::cm,h=>exact⟨v::v2::cm,rfl,h.1,h.2⟩
 rcases E with⟨h1,h2⟩|⟨v,w',h1,h2⟩
 ·unfold Oper.wp;rw[cG,h1,Oper.upon_enter];refine h2.mono fun e w' he=>?_
  cases e with
  |returned v=>
   have:=lA v w' he;cases c_:D.dst with
   |none=>rw[c_] at this;simpa[Act.put,ci] using this
   |some t=>rw[c_] at this;simpa[Act.put,ci] using this
  |panicked c=>exact he.elim
  |outgrown=>exact he.elim
 ·exact mc (cG.trans h1) (lA v w' h2)
end
def Ew(P:Program)(g:FuncId):Prop:=
 ∀(b:Nat) (p v:Value) (w:World),w.heap[b]? =some (.cells #[p,v] qd (0,0))->(p=.pointer none\/p=.pointer (some ⟨b,0,none⟩))->
  Enters P g #[.pointer (some ⟨b,0,none⟩)] w fun r w'=>r=.tuple #[]/\w'=w.setRow b #[.pointer (some ⟨b,0,none⟩),v]
def ES(P:Program)(g:FuncId):Prop:=
 ∀(b:Nat) (p v:Value) (T:TypeId) (xs:List Int) (w:World),w.heap[b]? =some (.cells #[p,v] T (0,0))->rowAt w true k6 1 v xs.length (xs.map (Value.int .u8))->
  Enters P g #[.pointer (some ⟨b,0,none⟩)] w fun r w'=>r=.string ⟨(strOf xs).toArray⟩/\w'.os=w.os/\w'.tape=w.tape/\w'.output=w.output/\w.heap.size<=w'.heap.size/\
   (∀c,c<w.heap.size->a8 v≠some c->w'.heap[c]? =w.heap[c]?)/\∀c cur e bv,a8 v=some c->w.heap[c]? =some (.cells cur e bv)->∃sK,w'.heap[c]? =some (.cells cur e sK)
section
variable {P:Program}{L:World}{J:List Nat}{X:Nat->Prop}{B:Nat->Value}{st:ad}{tm:Array Value}{w:World}{D:Oper}
theorem af.ZH(S:af L J X B st tm w){o s:Nat}{t:aG}{xs:List (den t)}(hl:look st.sites o=some (.row s t xs)){w':World}(h1:w'.os=w.os)(h2:w'.tape=w.tape)(Z:w'.output=w.output)(aI:w.heap.size<=w'.heap.size)
  (bp:∀c,c<w.heap.size->a8 (B o)≠some c->w'.heap[c]? =w.heap[c]?) (db:∀c cur e bv,a8 (B o)=some c->w.heap[c]? =some (.cells cur e bv)->∃sK,w'.heap[c]? =some (.cells cur e sK)):
  af L J X B {st with sites:=b3 st.sites o (.cQ s t xs)} tm w':=by
 have cn:bS st.sites o:=⟨_,hl,rfl⟩;have dw:∀F,bS (b3 st.sites o (.cQ s t xs)) F->bS st.sites F/\F≠o:=by
  rintro F ⟨O,h1,h2⟩;rw[ck] at h1;by_cases e:o=F
  ·subst e;simp at h1;subst h1;cases h2
  ·simp only[e,if_false] at h1;exact⟨⟨O,h1,h2⟩,fun h=>e h.symm⟩
 have bW:∀a6,an X B (b3 st.sites o (.cQ s t xs)) a6->an X B st.sites a6:=by
  rintro a6 (h|⟨F,h1,h2⟩)
  ·exact .inl h
  ·exact .inr ⟨F,(dw F h1).1,h2⟩
 have aQ:=S.frame;refine S.ox (fun F O bm=>?_) (fun a6 h hb=>bp a6 hb (fun ab=>h (.inr ⟨o,cn,fR ab⟩))) (fun a6 h _ ab=>h (bW a6 ab)) (fun go F O bm=>?_) (fun F aN a6 h1 h2=>S.c' F aN a6 (dw F h1).1 (dw aN h2).1)
  (fun F a6 h=>S.b2 F a6 (dw F h).1) (fun F a6 h hb=>Nat.lt_of_lt_of_le (S.dW (dw F h).1 hb) aI)
  ⟨h1.trans aQ.os,h2.trans aQ.tape,Z.trans aQ.output,Nat.le_trans aQ.size aI,fun b hb hn=>by
   have M:=aQ.size;rw[bp b (by omega) (fun ab=>by
    rcases(S.b2 o b cn (fR ab)).2 with ab|ab
    ·exact hn ab
    ·omega)]
   exact aQ.block b hb hn⟩ aI
 ·rw[ck];by_cases e:o=F
  ·subst e;rw[hl] at bm;cases bm;exact⟨.cQ s t xs,by simp,Nat.le_refl _,fun _=>rfl⟩
  ·exact⟨O,by simp[e,bm],Nat.le_refl _,fun _=>rfl⟩
 ·rw[ck] at bm;by_cases e:o=F
  ·subst e;simp only[if_true,Option.some.injEq] at bm;subst bm;refine .inr ?_
   show ba _ _ (.sl t xs) (bT (B o))/\uO (bT (B o));obtain⟨bY,cs,aB,ao⟩:=S.sites o _ hl;rw[(iq aB).1];rcases aB.2 with⟨hn,h0⟩|⟨g,cap,cur,bv,hv,_,hg,hnc,_,_,jG⟩
   ·have:xs=[]:=List.eq_nil_of_length_eq_zero h0;subst this;rw[hn];exact⟨.nil t,.inl rfl⟩
   ·obtain⟨sK,kh⟩:=db g cur bY bv (by rw[hv];rfl) hg
    rw[hv];refine⟨?_,.inr ⟨_,_,_,rfl⟩⟩;have hlen:cs.length=(flat t xs).length:=by rw[dP];exact aB.1
    refine .sl t xs _ cap cs xs.length rfl hnc (fun _=>?_) hlen (fun j u hu=>?_) (fun j g1 g2=>js go (ao j g1 g2))
    ·rintro(hx|⟨F,g1,g2⟩)
     ·exact(S.b2 o g cn (fR (by rw[hv];rfl))).1 hx
     ·obtain⟨g3,eF⟩:=dw F g1;exact eF (S.c' F o g g3 cn g2 (fR (by rw[hv];rfl)))
    ·rw[gh,Nat.zero_add,cell_of_row w' g j cur bY sK kh];rw[<-jG,List.getElem?_take] at hu;split at hu
     ·simpa using hu
     ·cases hu
  ·simp only[e,if_false] at bm;refine .inl ⟨bm,rfl,fun se b hb=>bp b (S.dW ⟨_,bm,se⟩ hb) fun h=>e (S.c' o F b cn ⟨_,bm,se⟩ (fR h) hb)⟩
theorem wW{g:FuncId}{vs:List Value}{post:Value->World->Prop}(cG:(execOp (Act.eval ⟨tm,[]⟩) D).run P w=(callFunc g vs.toArray).run P w)(gN:Enters P g vs.toArray w post){K:Act->World->Prop}{Q:Exit->Act->World->Prop}
  (lA:∀v w',post v w'->K ⟨ci tm D.dst v,[]⟩ w'):D.wp P ⟨tm,[]⟩ w K Q:=by
 rcases gN with⟨h1,h2⟩|⟨v,w',h1,h2⟩
 ·unfold Oper.wp;rw[cG,h1,Oper.upon_enter];refine h2.mono fun e w' he=>?_
  cases e with
  |returned v=>
   have:=lA v w' he;cases c_:D.dst with
   |none=>rw[c_] at this;simpa[Act.put,ci] using this
   |some t=>rw[c_] at this;simpa[Act.put,ci] using this
  |panicked c=>exact he.elim
  |outgrown=>exact he.elim
 ·exact mc (cG.trans h1) (lA v w' h2)
theorem ZV(S:af L J X B st tm w){g:FuncId}(gN:Ew P g){cw:List aK}{vs:List Value}(hl:cw.length=vs.length)
  (hv:∀i (h:i<cw.length) (ab:i<vs.length),b9 B st.sites w (an X B st.sites) (cw[i]) (vs[i])) (Y:b1 st D.dst=true) (cG:(execOp (Act.eval ⟨tm,[]⟩) D).run P w=(callFunc g vs.toArray).run P w):
  Holds (copyV st cw) (cv P L J X st tm w D):=by
 unfold copyV;split
 ·rename_i o s;split
  ·rename_i am l ff;have ff:look st.sites o=some (.box am [.eu,l]):=ff;cases jH:am.beq s with
   |false=>exact .fail
   |true=>
    have:=Nat.eq_of_beq_eq_true jH;subst this;refine Holds.e3 ?_
    intro K Q bn;match vs,hl,hv,cG with
    |[qm],_,hv,cG=>
    obtain⟨qw,aiO,jI⟩:dd B st.sites w (an X B st.sites) (.ptr o am 0) qm:=hv 0 (by simp) (by simp)
    have jI:=Ref.at jI ff rfl;obtain⟨b,T,cur,e1,e2,bI,dy,fw,mV⟩:=S.sites o _ ff;rw[e1] at jI;have jI:b=qw:=by cases jI;rfl
    subst jI;subst aiO;match cur,e2,bI,dy,fw,mV with
    |[p,v],e2,_,dy,fw,mV=>
     obtain⟨rfl,al⟩:=fw rfl;have al:p=.pointer none\/p=.pointer (some ⟨b,0,none⟩):=by simpa using al
     refine wW cG (gN b p v w e2 al) ?_
     rintro r w' ⟨rfl,rfl⟩;have bV:af L J X B {st with sites:=b3 st.sites o (.box am [.eu,l])} tm (w.setRow b #[.pointer (some ⟨b,0,none⟩),v]):=by
      refine S.write ff rfl rfl rfl (fR (by rw[e1];rfl)) e2 (fun M hw kh go=>⟨b,qd,[.pointer (some ⟨b,0,none⟩),v],e1,kh,rfl,fun u hu=>?_,fun _=>⟨rfl,.inr rfl⟩,fun j h ab=>?_⟩)
      ·rcases List.mem_cons.1 hu with rfl|hu
       ·rfl
       ·exact dy u (List.mem_cons_of_mem _ hu)
      ·match j,h,ab with
       |0,_,_=>trivial
       |1,_,_=>exact go (a:=bJ l) (mV 1 (by simp) (by simp))
     exact bn _ _ _ (af.cz (us:=[(o,.box am [.eu,l])]) bV Y (v:=.iY []) ⟨[],rfl,rfl,fun j h=>by simp at h⟩)
  ·exact .fail
 ·exact .fail
theorem YS{av:Nat->Prop}{xs:List Int}{cs:List Value}(h0:cs.length=xs.length)(h:∀j (h:j<(flat .u8 (xs:List (den .u8))).length) (ab:j<cs.length),ba w av ((flat .u8 (xs:List (den .u8)))[j]) (cs[j])):cs=xs.map (Value.int .u8):=by
 refine List.ext_getElem (by rw[List.length_map];exact h0) fun j g1 g2=>?_
 have Sh:j<xs.length:=by simpa using g2
 have:=h j (by rw[dP];simpa[ar] using Sh) g1
 rw[List.getElem_map];generalize Y:(flat .u8 (xs:List (den .u8)))[j]'(by rw[dP];simpa[ar] using Sh)=d at this
 have qa:d=.int .u8 xs[j]:=by
  rw[<-Y];simp only[q5,List.getElem_map]
 subst qa;generalize cs[j]=v at this;cases this;rfl
theorem V3(S:af L J X B st tm w){g:FuncId}(gN:ES P g){cw:List aK}{vs:List Value}(hl:cw.length=vs.length)
  (hv:∀i (h:i<cw.length) (ab:i<vs.length),b9 B st.sites w (an X B st.sites) (cw[i]) (vs[i])) (Y:b1 st D.dst=true) (cG:(execOp (Act.eval ⟨tm,[]⟩) D).run P w=(callFunc g vs.toArray).run P w):
  Holds (qT st cw) (cv P L J X st tm w D):=by
 unfold qT;split
 ·rename_i o s;match vs,hl,hv,cG with
  |[qm],_,hv,cG=>
  have k1:dd B st.sites w (an X B st.sites) (.ptr o s 0) qm:=hv 0 (by simp) (by simp)
  split
  ·rename_i Tz ly;have ff:=gu ly;obtain⟨b,T,cur,bR,rfl,hg,_,hc⟩:=S.box ff k1;refine Holds.ok ?_
   intro K Q bn;obtain⟨p,r1,rfl,_,hc⟩:=hc.inv;obtain⟨v,r2,rfl,va,hc⟩:=hc.inv;have:r2=[]:=List.eq_nil_of_length_eq_zero hc.1;subst this;have va:v=.slice none 0 0:=va;subst va;refine wW cG (gN b p _ T [] w hg (tc w true k6 1)) ?_
   rintro r w' ⟨rfl,aB,ao,bj,b',dS,gK⟩;have cZ:=S.jump (w':=w') (fun c _ hc=>dS c hc (by simp[a8])) b' ⟨aB.trans S.frame.os,ao.trans S.frame.tape,bj.trans S.frame.output,Nat.le_trans S.frame.size b',fun c hc hn=>by
    rw[dS c (Nat.lt_of_lt_of_le hc S.frame.size) (by simp[a8])]
    exact S.frame.block c hc hn⟩
   have fO:af L J X B {st with sites:=aT st.sites []} tm w':=cZ.shrink fun b hb=>.inl hb
   exact bn _ _ _ (af.cz (us:=[]) fO Y (v:=one (.str [])) (ba.str _ _ rfl))
  ·rename_i Tz F u ly;have ff:=gu ly;obtain⟨b,T,cur,bR,rfl,hg,_,hc⟩:=S.box ff k1;split
   ·rename_i bx xs cO;have cO:look st.sites F=some (.row bx .u8 xs):=cO;cases aid:bx.beq u with
    |false=>exact .fail
    |true=>
     have:=Nat.eq_of_beq_eq_true aid;subst this;refine Holds.e3 ?_
     intro K Q bn;obtain⟨p,r1,rfl,_,hc⟩:=hc.inv;obtain⟨v,r2,rfl,va,hc⟩:=hc.inv;have:r2=[]:=List.eq_nil_of_length_eq_zero hc.1;subst this;obtain⟨e,cs,h1,h2⟩:=S.sites F _ cO;have Pd:v=B F:=(Ref.at va.2 cO rfl:v=bT (B F)).trans (iq h1).1;have hlen:cs.length=xs.length:=by have:=h1.1;simpa[ar] using this
     have hcs:cs=List.map (Value.int .u8) xs:=YS hlen h2;have iv:rowAt w true k6 1 v xs.length (List.map (Value.int .u8) xs):=by
      rw[<-hcs,Pd];refine⟨h1.1,?_⟩;rcases h1.2 with h|⟨cr,cap,sk,bv,q1,q2,dG⟩
      ·exact .inl h
      ·have:=q2.1 rfl;subst this;exact .inr ⟨cr,cap,sk,bv,q1,q2,dG⟩
     refine wW cG (gN b p v T xs w hg iv) ?_
     rintro r w' ⟨rfl,aB,ao,bj,b',dS,gK⟩;rw[Pd] at dS gK;have fO:=S.ZH cO aB ao bj b' dS gK;exact bn _ _ _ (af.cz (us:=[(F,.cQ bx .u8 xs)]) fO Y (v:=one (.str (strOf xs))) (ba.str _ _ (by simp)))
   ·exact .fail
  ·exact .fail
 ·exact .fail
end
def yl(P:Program)(g cr:FuncId):Prop:=
 ∀(a b:ByteArray) (w:World),Enters P g #[.string a,.string b] w fun v w'=>∃cF du,v=.func (.func cr) #[] #[.pointer (some ⟨w.heap.size+1,0,none⟩),.pointer (some ⟨w.heap.size,0,none⟩),.pointer (some ⟨w.heap.size+2,0,none⟩)]/\
  w'=((w.alloc (.cells #[.string a] cF)).alloc (.cells #[.string b] cF)).alloc (.cells #[.int .i64 0] du)
def zc(P:Program)(g:FuncId):Prop:=
 ∀(xs:List Int) (v:Value) (w:World) (av:Nat->Prop),ba w av (.sl .u8 xs) v->Enters P g #[v] w fun v' w'=>∃u T,ba w av (.sl .u8 (xs.take 2000)) u/\v'=.pointer (some ⟨w.heap.size,0,none⟩)/\w'=w.alloc (.cells #[u,.int .i64 0] T)
structure a9(P:Program)(C:Ctx):Prop extends CtxOk P C where
 bF:∀g S,C.bF g=some S->a4 P g S
 AO:P.follows .mixedOrders=true
 kp:∀g cr,C.kp g=some cr->yl P g cr
 op:∀g,C.op g=true->zc P g
 g8:∀g,C.g8 g=true->Ew P g
 bs:∀g,C.bs g=true->ES P g
section
variable {P:Program}{L:World}{J:List Nat}{X:Nat->Prop}{B:Nat->Value}{st:ad}{tm:Array Value}{w:World}{D:Oper}
theorem J':∀{bq:List (Nat×Nat)} {cs:List (List aL)} {us:List (Nat×Site)} {bs:List Nat},kN st bq=some (cs,us,bs)->di st.sites us/\∀o,o∈bs->bS st.sites o:=by
 intro bq;induction bq with
 |nil=>intro cs us bs h;simp only[kN] at h;cases h;exact⟨.nil,fun o h=>by simp at h⟩
 |cons c bq ih=>
  obtain⟨o,s⟩:=c;intro cs us bs h;simp only[kN] at h;split at h
  ·rename_i cells ly;split at h
   ·rename_i ds u1 rest u2 aJ ef mr;cases h;obtain⟨aB,ao⟩:=ih mr;refine⟨(DF ef).append aB,fun F bm=>?_⟩
    rcases List.mem_cons.1 bm with rfl|bm
    ·exact⟨_,gu ly,rfl⟩
    ·exact ao F bm
   ·cases h
  ·cases h
theorem C6{l fk:au}{us:List (Nat×Site)}{bs:List Nat}(h:my st l=some (fk,us,bs)):di st.sites us/\∀o,o∈bs->bS st.sites o:=by
 unfold my at h;split at h
 ·cases h;exact⟨.nil,fun o h=>by simp at h⟩
 ·split at h
  ·rename_i hc;cases h;exact J' hc
  ·cases h
 ·split at h
  ·rename_i Y;cases h;exact⟨MD Y,fun o h=>by simp at h⟩
  ·cases h
theorem ZB:∀{U df:List au} {us:List (Nat×Site)} {bs:List Nat},lm st U=some (df,us,bs)->di st.sites us/\∀o,o∈bs->bS st.sites o:=by
 intro U;induction U with
 |nil=>intro df us bs h;simp only[lm] at h;cases h;exact⟨.nil,fun o h=>by simp at h⟩
 |cons l U ih=>
  intro df us bs h;simp only[lm] at h;split at h
  ·rename_i a u1 aS as u2 aJ h1 h2;cases h;obtain⟨aB,ao⟩:=C6 h1;obtain⟨bj,b'⟩:=ih h2;refine⟨aB.append bj,fun o a_=>?_⟩
   rcases List.mem_append.1 a_ with h|h
   ·exact ao o h
   ·exact b' o h
  ·cases h
theorem X0:∀{cw:List aK} {a:jB},io st cw=some a->di st.sites a.er/\∀o,o∈a.fp->bS st.sites o:=by
 intro cw;induction cw with
 |nil=>intro a h;simp only[io] at h;cases h;exact⟨.nil,fun o h=>by simp at h⟩
 |cons qn cw ih=>
  intro a h;unfold io at h;split at h
  ·cases ‹qn::cw=[]›
  ·rename_i bP;cases bP;split at h
   ·rename_i hr;split at h
    ·cases h;have q:=ih hr;exact q
    ·cases h
   ·cases h
  ·rename_i bP;cases bP;split at h
   ·rename_i h1 hr;cases h;obtain⟨aB,ao⟩:=C6 h1;obtain⟨bj,b'⟩:=ih hr;refine⟨aB.append bj,fun o a_=>?_⟩
    rcases List.mem_append.1 a_ with h|h
    ·exact ao o h
    ·exact b' o h
   ·cases h
  ·rename_i bP;cases bP;split at h
   ·rename_i h1 hr;cases h;obtain⟨aB,ao⟩:=ZB h1;obtain⟨bj,b'⟩:=ih hr;refine⟨aB.append bj,fun o a_=>?_⟩
    rcases List.mem_append.1 a_ with h|h
    ·exact ao o h
    ·exact b' o h
   ·cases h
  ·cases h
theorem J3{l fk:au}{gs us:List (Nat×Site)}{bs:List Nat}(h:li st l=some (fk,gs,us,bs)):di st.sites us/\∀o,o∈bs->bS st.sites o:=by
 unfold li at h;split at h
 ·split at h
  ·cases h;exact⟨.nil,fun o h=>by simp at h⟩
  ·cases h
 ·cases h;exact⟨.nil,fun o h=>by simp at h⟩
 ·split at h
  ·rename_i hl;cases h;exact C6 hl
  ·cases h
theorem WC:∀{U df:List au} {gs us:List (Nat×Site)} {bs:List Nat},lg st U=some (df,gs,us,bs)->di st.sites us/\∀o,o∈bs->bS st.sites o:=by
 intro U;induction U with
 |nil=>intro df gs us bs h;simp only[lg] at h;cases h;exact⟨.nil,fun o h=>by simp at h⟩
 |cons l U ih=>
  intro df gs us bs h;simp only[lg] at h;split at h
  ·rename_i h1 h2;cases h;obtain⟨aB,ao⟩:=J3 h1;obtain⟨bj,b'⟩:=ih h2;refine⟨aB.append bj,fun o a_=>?_⟩
   rcases List.mem_append.1 a_ with h|h
   ·exact ao o h
   ·exact b' o h
  ·cases h
theorem Ws:∀{cw:List aK} {a:jB},jU st cw=some a->di st.sites a.er/\∀o,o∈a.fp->bS st.sites o:=by
 intro cw;induction cw with
 |nil=>intro a h;simp only[jU] at h;cases h;exact⟨.nil,fun o h=>by simp at h⟩
 |cons qn cw ih=>
  intro a h;unfold jU at h;split at h
  ·cases ‹qn::cw=[]›
  ·rename_i bP;cases bP;split at h
   ·rename_i h1 hr;cases h;obtain⟨aB,ao⟩:=J3 h1;obtain⟨bj,b'⟩:=ih hr;refine⟨aB.append bj,fun o a_=>?_⟩
    rcases List.mem_append.1 a_ with h|h
    ·exact ao o h
    ·exact b' o h
   ·cases h
  ·rename_i bP;cases bP;split at h
   ·rename_i h1 hr;cases h;obtain⟨aB,ao⟩:=WC h1;obtain⟨bj,b'⟩:=ih hr;refine⟨aB.append bj,fun o a_=>?_⟩
    rcases List.mem_append.1 a_ with h|h
    ·exact ao o h
    ·exact b' o h
   ·cases h
  ·cases h
theorem Wq{b:Bool}{cw:List aK}{a:jB}(h:qX b st cw=some a):di st.sites a.er/\∀o,o∈a.fp->bS st.sites o:=by
 cases b
 ·exact X0 h
 ·exact Ws h
theorem abq(S:af L J X B st tm w)(C:Ctx):∀(xs:List Operand) (cI:List TypeId),(f_ C st xs cI).length=(xs.map (Act.eval ⟨tm,[]⟩)).length/\
  ∀i (h:i<(f_ C st xs cI).length) (ab:i<(xs.map (Act.eval ⟨tm,[]⟩)).length),b9 B st.sites w (an X B st.sites) ((f_ C st xs cI)[i]) ((xs.map (Act.eval ⟨tm,[]⟩))[i]):=by
 intro xs;induction xs with
 |nil=>intro cI;cases cI<;>exact⟨rfl,fun i h=>by simp[f_] at h⟩
 |cons x xs ih=>
  intro cI;have key:∀(T:TypeId) (Hd:List TypeId),f_ C st (x::xs) cI=aO C st T x::f_ C st xs Hd->(f_ C st (x::xs) cI).length=((x::xs).map (Act.eval ⟨tm,[]⟩)).length/\
    ∀i (h:i<(f_ C st (x::xs) cI).length) (ab:i<((x::xs).map (Act.eval ⟨tm,[]⟩)).length),b9 B st.sites w (an X B st.sites) ((f_ C st (x::xs) cI)[i]) (((x::xs).map (Act.eval ⟨tm,[]⟩))[i]):=by
   intro T Hd e;obtain⟨aB,ao⟩:=ih Hd;refine⟨by rw[e];simp[aB],fun i h ab=>?_⟩
   simp only[e];cases i with
   |zero=>exact cS S C T x
   |succ i=>
    simp only[List.getElem_cons_succ,List.map_cons];exact ao i (by simpa[e] using h) (by simpa using ab)
  cases cI with
  |nil=>exact key 0 [] rfl
  |cons T cI=>exact key T cI rfl
theorem Xv(S:af L J X B st tm w){g cr:FuncId}(gN:yl P g cr){n:Nat}{cw:List aK}{vs:List Value}(hl:cw.length=vs.length)
  (hv:∀i (h:i<cw.length) (ab:i<vs.length),b9 B st.sites w (an X B st.sites) (cw[i]) (vs[i])) (Y:b1 st D.dst=true) (cG:(execOp (Act.eval ⟨tm,[]⟩) D).run P w=(callFunc g vs.toArray).run P w):
  Holds (rb cr n st cw) (cv P L J X st tm w D):=by
 unfold rb;split
 ·rename_i s p;refine Holds.e3 ?_
  intro K Q bn;match vs,hl,hv,cG with
  |[qm,vb],_,hv,cG=>
  obtain⟨a,a5,nO⟩:=g' (hv 0 (by simp) (by simp))
  obtain⟨b,hb,b5⟩:=g' (hv 1 (by simp) (by simp))
  simp only[List.getElem_cons_zero,List.getElem_cons_succ] at a5 hb;subst a5 hb;have lA:∀v w',(∃cF du,v=.func (.func cr) #[] #[.pointer (some ⟨w.heap.size+1,0,none⟩),.pointer (some ⟨w.heap.size,0,none⟩),.pointer (some ⟨w.heap.size+2,0,none⟩)]/\
    w'=((w.alloc (.cells #[.string a] cF)).alloc (.cells #[.string b] cF)).alloc (.cells #[.int .i64 0] du))->K ⟨ci tm D.dst v,[]⟩ w':=by
   rintro v w' ⟨cF,du,rfl,hw⟩;have hsz:w'.heap.size=w.heap.size+3:=by rw[hw];simp
   have hold:∀b,b<w.heap.size->w'.heap[b]? =w.heap[b]? :=fun b hb=>by
    rw[hw];rw[RowKit.Below.heap_alloc _ _ _ (by simp;omega),RowKit.Below.heap_alloc _ _ _ (by simp;omega),RowKit.Below.heap_alloc _ _ _ hb]
   have h0:w'.heap[w.heap.size]? =some (.cells #[.string a] cF):=by
    rw[hw,RowKit.Below.heap_alloc _ _ _ (by simp only[World.size_alloc];omega),RowKit.Below.heap_alloc _ _ _ (by simp only[World.size_alloc];omega)];exact World.alloc_heap_new w _
   have h1:w'.heap[w.heap.size+1]? =some (.cells #[.string b] cF):=by
    rw[hw,RowKit.Below.heap_alloc _ _ _ (by simp only[World.size_alloc];omega)]
    have:=World.alloc_heap_new (w.alloc (.cells #[.string a] cF)) (.cells #[.string b] cF);rwa[World.size_alloc] at this
   have h2:w'.heap[w.heap.size+2]? =some (.cells #[.int .i64 0] du):=by
    rw[hw];have:=World.alloc_heap_new ((w.alloc (.cells #[.string a] cF)).alloc (.cells #[.string b] cF)) (.cells #[.int .i64 0] du);rwa[World.size_alloc,World.size_alloc] at this
   have GR:Fr J L w':=⟨by rw[hw];exact S.frame.os,by rw[hw];exact S.frame.tape,by rw[hw];exact S.frame.output,by have:=S.frame.size;omega,fun b hb hn=>by
    have:=S.frame.size;rw[hold b (by omega)];exact S.frame.block b hb hn⟩
   have kQ:=S.frame.size;have cZ:=S.jump (w':=w') (fun b _ hb=>hold b hb) (by omega) GR
   have mk:∀{B:Nat->Value} {sites:List (Nat×Site)} {av:Nat->Prop} {m k:Nat} {T:TypeId} {x:Value} {d:aL},B m=.pointer (some ⟨k,0,none⟩)->w'.heap[k]? =some (.cells #[x] T)->ba w' av d x->
     ir B sites w' av m (.box (aV st m) [.d d]):=by
    intro B sites av m k T x d e1 e2 bI;refine⟨k,T,[x],e1,e2,rfl,fun u hu=>?_,(fun h=>by cases h),fun j h ab=>?_⟩
    ·rw[List.mem_singleton.1 hu];exact bI.hY
    ·match j,h,ab with
     |0,_,_=>exact bI
   obtain⟨Ib,_,_⟩:=cZ.ur (X':=fun b=>(X b\/(w.heap.size<=b/\b<w'.heap.size))/\b≠w.heap.size+1) (n:=n) (bw:=.box (aV st n) [.d (.str p)]) (nv:=.pointer (some ⟨w.heap.size+1,0,none⟩)) (fun b h=>h.1)
    (.inl fun O h=>jm h) (fun b h=>by have h:=List.mem_singleton.1 h;simp only at h;subst h;exact⟨.inr ⟨by omega,by omega⟩,fun h=>h.2 rfl,.inr (by omega)⟩) (fun _ e _ _=>mk e h1 (.str _ _ b5))
   obtain⟨Ia,_,_⟩:=Ib.ur (X':=fun b=>((X b\/(w.heap.size<=b/\b<w'.heap.size))/\b≠w.heap.size+1)/\b≠w.heap.size) (n:=n+1) (bw:=.box (aV st (n+1)) [.d (.str s)]) (nv:=.pointer (some ⟨w.heap.size,0,none⟩)) (fun b h=>h.1)
    (.inl fun O h=>by
     have h:look (b3 st.sites n _) (n+1)=some O:=h;rw[ck,if_neg (by omega)] at h
     exact jm h) (fun b h=>by have h:=List.mem_singleton.1 h;simp only at h;subst h;exact⟨⟨.inr ⟨by omega,by omega⟩,by omega⟩,fun h=>h.2 rfl,.inr (by omega)⟩) (fun _ e _ _=>mk e h0 (.str _ _ nO))
   obtain⟨H',_,_⟩:=Ia.ur (X':=X) (n:=n+2) (bw:=.box (aV st (n+2)) [.d (.int .i64 0)]) (nv:=.pointer (some ⟨w.heap.size+2,0,none⟩)) (fun b h=>by have:=S.old b h;exact⟨⟨.inl h,by omega⟩,by omega⟩)
    (.inl fun O h=>by
     have h:look (b3 (b3 st.sites n _) (n+1) _) (n+2)=some O:=h;rw[ck,if_neg (by omega),ck,if_neg (by omega)] at h
     exact jm h) (fun b h=>by have h:=List.mem_singleton.1 h;simp only at h;subst h;exact⟨⟨⟨.inr ⟨by omega,by omega⟩,by omega⟩,by omega⟩,fun h=>by have:=S.old _ h;omega,.inr (by omega)⟩) (fun _ e _ _=>mk e h2 (.int _ _))
   refine bn _ _ w' (af.cz (us:=[(n,.box (aV st n) [.d (.str p)]),(n+1,.box (aV st (n+1)) [.d (.str s)]),(n+2,.box (aV st (n+2)) [.d (.int .i64 0)])]) H' Y (v:=bJ (.clo cr _)) ?_);refine⟨[.pointer (some ⟨w.heap.size+1,0,none⟩),.pointer (some ⟨w.heap.size,0,none⟩),.pointer (some ⟨w.heap.size+2,0,none⟩)],rfl,rfl,fun i hi hS=>?_⟩
   match i,hi,hS with
   |0,_,_=>exact⟨.box (aV st n) [.d (.str p)],by simp[aT,ck],Nat.le_refl _,fun _=>by simp[bT]⟩
   |1,_,_=>exact⟨.box (aV st (n+1)) [.d (.str s)],by simp[aT,ck],Nat.le_refl _,fun _=>by simp[bT]⟩
   |2,_,_=>exact⟨.box (aV st (n+2)) [.d (.int .i64 0)],by simp[aT,ck],Nat.le_refl _,fun _=>by simp[bT]⟩
  rcases gN a b w with⟨h1,h2⟩|⟨v,w',h1,h2⟩
  ·unfold Oper.wp;rw[cG,h1,Oper.upon_enter];refine h2.mono fun e w' he=>?_
   cases e with
   |returned v=>
    have:=lA v w' he;cases c_:D.dst with
    |none=>rw[c_] at this;simpa[Act.put,ci] using this
    |some t=>rw[c_] at this;simpa[Act.put,ci] using this
   |panicked c=>exact he.elim
   |outgrown=>exact he.elim
  ·exact mc (cG.trans h1) (lA v w' h2)
 ·exact .fail
theorem Zo(S:af L J X B st tm w){g:FuncId}(gN:zc P g){n:Nat}{cw:List aK}{vs:List Value}(hl:cw.length=vs.length)
  (hv:∀i (h:i<cw.length) (ab:i<vs.length),b9 B st.sites w (an X B st.sites) (cw[i]) (vs[i])) (Y:b1 st D.dst=true) (cG:(execOp (Act.eval ⟨tm,[]⟩) D).run P w=(callFunc g vs.toArray).run P w):
  Holds (rD n st cw) (cv P L J X st tm w D):=by
 unfold rD;split
 ·rename_i xs;refine Holds.e3 ?_
  intro K Q bn;match vs,hl,hv,cG with
  |[qm],_,hv,cG=>
  have dE:ba w (an X B st.sites) (.sl .u8 xs) qm:=hv 0 (by simp) (by simp)
  have lA:∀v w',(∃u T,ba w (an X B st.sites) (.sl .u8 (xs.take 2000)) u/\v=.pointer (some ⟨w.heap.size,0,none⟩)/\w'=w.alloc (.cells #[u,.int .i64 0] T))->K ⟨ci tm D.dst v,[]⟩ w':=by
   rintro v w' ⟨u,T,hu,rfl,hw⟩;have hsz:w'.heap.size=w.heap.size+1:=by rw[hw];simp
   have hold:∀b,b<w.heap.size->w'.heap[b]? =w.heap[b]? :=fun b hb=>by
    rw[hw,RowKit.Below.heap_alloc _ _ _ hb]
   have h0:w'.heap[w.heap.size]? =some (.cells #[u,.int .i64 0] T):=by rw[hw];exact World.alloc_heap_new w _
   have GR:Fr J L w':=⟨by rw[hw];exact S.frame.os,by rw[hw];exact S.frame.tape,by rw[hw];exact S.frame.output,by have:=S.frame.size;omega,fun b hb hn=>by
    have:=S.frame.size;rw[hold b (by omega)];exact S.frame.block b hb hn⟩
   have kQ:=S.frame.size;have cZ:=S.jump (w':=w') (fun b _ hb=>hold b hb) (by omega) GR
   have gM:∀b,X b->b<w.heap.size:=S.old;have aeG:∀b,an (fun b=>X b\/(w.heap.size<=b/\b<w'.heap.size)) B st.sites b->b<w'.heap.size:=fun b hb=>cZ.lt hb
   have sz:b9 B st.sites w' (an (fun b=>X b\/(w.heap.size<=b/\b<w'.heap.size)) B st.sites) (one (.sl .u8 (xs.take 2000))) u:=by
    have G:gB B B st.sites st.sites w w' (an X B st.sites) (an (fun b=>X b\/(w.heap.size<=b/\b<w'.heap.size)) B st.sites):=
     ⟨fun F s h=>⟨s,h,Nat.le_refl _,fun _=>rfl⟩,fun b _ b5=>hold b b5,fun b hb b5 ab=>by
      rcases ab with(ab|ab)|ab
      ·exact hb (.inl ab)
      ·omega
      ·exact hb (.inr ab)⟩
    exact b9.goes (a:=one (.sl .u8 (xs.take 2000))) G (by omega) aeG hu
   obtain⟨Ib,Gj,am2⟩:=cZ.ur (X':=X) (n:=n) (bw:=.box (aV st n) [.d (.sl .u8 (xs.take 2000)),.d (.int .i64 0)]) (nv:=.pointer (some ⟨w.heap.size,0,none⟩)) (fun b h=>.inl h)
    (.inl fun O h=>jm h) (fun b h=>by have h:=List.mem_singleton.1 h;simp only at h;subst h;exact⟨.inr ⟨by omega,by omega⟩,fun h=>by have:=gM _ h;omega,.inr (by omega)⟩) (fun M e go _=>by
     have vd:=go sz;refine⟨w.heap.size,T,[u,.int .i64 0],e,h0,rfl,fun x hx=>?_,(fun h=>by cases h),fun j h ab=>?_⟩
     ·rcases List.mem_cons.1 hx with rfl|hx
      ·exact ba.hY hu
      ·rw[List.mem_singleton.1 hx];rfl
     ·match j,h,ab with
      |0,_,_=>exact vd
      |1,_,_=>exact ba.int .i64 0)
   refine bn _ _ w' (af.cz (us:=[(n,.box (aV st n) [.d (.sl .u8 (xs.take 2000)),.d (.int .i64 0)])]) Ib Y (v:=bJ (.ptr n (aV st n) 0)) ?_);exact⟨w.heap.size,rfl,.box (aV st n) [.d (.sl .u8 (xs.take 2000)),.d (.int .i64 0)],by simp[aT,ck],Nat.le_refl _,fun _=>by simp[bT]⟩
  rcases gN xs qm w _ dE with⟨h1,h2⟩|⟨v,w',h1,h2⟩
  ·unfold Oper.wp;rw[cG,h1,Oper.upon_enter];refine h2.mono fun e w' he=>?_
   cases e with
   |returned v=>
    have:=lA v w' he;cases c_:D.dst with
    |none=>rw[c_] at this;simpa[Act.put,ci] using this
    |some t=>rw[c_] at this;simpa[Act.put,ci] using this
   |panicked c=>exact he.elim
   |outgrown=>exact he.elim
  ·exact mc (cG.trans h1) (lA v w' h2)
 ·exact .fail
theorem IW(S:af L J X B st tm w){C:Ctx}(ay:a9 P C){c:Go.Call}{f:Operand}(aq:D.op=.call c)(hf:c.callee=.value f)(Y:b1 st D.dst=true)(d:Nat)(T:TypeId):
  Holds (lf C d st (aO C st T f) (f_ C st c.args.toList c.argTypes.toList)) (cv P L J X st tm w D):=by
 have bh:=cS S C T f;obtain⟨e1,e2⟩:=abq S C c.args.toList c.argTypes.toList;have run:∀{g:FuncId} {eS:List Value},Act.eval ⟨tm,[]⟩ f=.func (.func g) #[] eS.toArray->
   (execOp (Act.eval ⟨tm,[]⟩) D).run P w=(callFunc g (c.args.toList.map (Act.eval ⟨tm,[]⟩)++eS).toArray).run P w:=by
  intro g eS hv;have qv:(#[]++c.args.map (Act.eval ⟨tm,[]⟩))++eS.toArray=(c.args.toList.map (Act.eval ⟨tm,[]⟩)++eS).toArray:=by apply Array.ext';simp
  unfold execOp;simp only[aq,resolve,hf,hv,Deferred.ofValue,Sem.run_bind,Sem.run_pure,Result.andThen_ok,invoke,qv]
 have go:∀{g:FuncId} {aD:a0} {a:jB} {cs:List (List aL)} {us:List (Nat×Site)} {bs:List Nat} {eS:List Value} {gb:Bool},C.bF g=some aD->qX gb st (f_ C st c.args.toList c.argTypes.toList)=some a->
   Act.eval ⟨tm,[]⟩ f=.func (.func g) #[] eS.toArray->(di st.sites us/\∀o,o∈bs->bS st.sites o)->
   (∀{cJ eg av},eP L J X B st tm w cJ eg av->(∀p,p∈us->p∈cJ)->(∀o,o∈bs->o∈eg)->j1 w av cs eS)->
   Holds (ov d st aD {a with as:=a.as++kK cs,er:=a.er++us,fp:=a.fp++bs}) (cv P L J X st tm w D):=by
  intro g aD a cs us bs eS gb hg a5 hv hz hcap;obtain⟨gI,hq⟩:=Wq a5;have ho:di st.sites (a.er++us):=gI.append hz.1;have vJ:eP L J X B st tm w (a.er++us) (a.fp++bs) (fun _=>False):=⟨⟨S,ho⟩,fun b h=>h.elim,fun _ _ _ _ h=>h⟩
  obtain⟨m1,m2,m3,m4,m5,Ty⟩:=Jd vJ a5 e1 e2 (fun p al=>List.mem_append.2 (.inl al)) (fun p al=>List.mem_append.2 (.inl al))
  refine ZY (a:={a with as:=a.as++kK cs,er:=a.er++us,fp:=a.fp++bs}) S (ay.bF g aD hg) (vs:=c.args.toList.map (Act.eval ⟨tm,[]⟩)++eS) ⟨ho,fun o a_=>?_,m2,fun av eb=>?_,?_,m4,?_,Ty⟩ Y (run hv)
  ·rcases List.mem_append.1 a_ with h|h
   ·exact hq o h
   ·exact hz.2 o h
  ·obtain⟨n1,_,_,_,_,_⟩:=Jd eb a5 e1 e2 (fun p al=>List.mem_append.2 (.inl al)) (fun p al=>List.mem_append.2 (.inl al))
   have n2:=WO (hcap eb (fun p al=>List.mem_append.2 (.inr al)) (fun p al=>List.mem_append.2 (.inr al)))
   have:=n1.append n2;rwa[List.append_nil] at this
  ·show dj (a.as++kK cs) _=_;rw[Iz m1.length,m3,WQ,List.append_nil]
  ·show hp B a.rows (eW (a.as++kK cs) _);rw[UP m1.length,Wa,List.append_nil];exact m5
 unfold lf;split
 ·rename_i g bq GS;rw[GS] at bh;obtain⟨eS,h1,h2,Z⟩:=bh;split
  ·rename_i cr lJ;split
   ·have hcv:eS=[]:=List.eq_nil_of_length_eq_zero (by simpa using h2)
    subst hcv;have r:=run h1;rw[List.append_nil] at r;exact Xv S (ay.kp g cr lJ) e1 e2 Y r
   ·exact .fail
  ·cases vo:C.op g with
   |true=>
    simp only[cond_true];split
    ·have hcv:eS=[]:=List.eq_nil_of_length_eq_zero (by simpa using h2)
     subst hcv;have r:=run h1;rw[List.append_nil] at r;exact Zo S (ay.op g vo) e1 e2 Y r
    ·exact .fail
   |false=>
    simp only[cond_false];have Na:bq=[]->(execOp (Act.eval ⟨tm,[]⟩) D).run P w=(callFunc g (c.args.toList.map (Act.eval ⟨tm,[]⟩)).toArray).run P w:=by
     rintro rfl;have hcv:eS=[]:=List.eq_nil_of_length_eq_zero (by simpa using h2)
     subst hcv;have r:=run h1;rwa[List.append_nil] at r
    cases vC:C.g8 g with
    |true=>
     simp only[cond_true];split
     ·exact ZV S (ay.g8 g vC) e1 e2 Y (Na rfl)
     ·exact .fail
    |false=>
     simp only[cond_false];cases da:C.bs g with
     |true=>
      simp only[cond_true];split
      ·exact V3 S (ay.bs g da) e1 e2 Y (Na rfl)
      ·exact .fail
     |false=>
      simp only[cond_false];split
      ·rename_i aD a cs us bs hg a5 hc;exact go hg a5 h1 (J' hc) (fun eb hu hb=>J_ eb hc hu hb h2 Z)
      ·exact .fail
 ·rename_i g bq GS;rw[GS] at bh;obtain⟨eS,h1,_⟩:=j1.M6 bh;split
  ·rename_i aD a hg a5;have:=go (us:=[]) (bs:=[]) (cs:=bq) (gb:=false) hg a5 h1 ⟨.nil,fun o h=>by simp at h⟩ (fun {cJ eg av} eb _ _=>by
    obtain⟨amF,aB,ao⟩:=j1.M6 (eb.sv (bh:ba w (an X B st.sites) (.fn g bq) _));rw[h1] at aB;simp only[Value.func.injEq,Fn.func.injEq,true_and] at aB;have e:=congrArg Array.toList aB;simp only at e;rw[e];exact ao)
   simpa only[List.append_nil] using this
  ·exact .fail
 ·exact .fail
theorem _c(S:af L J X B st tm w){C:Ctx}(ay:a9 P C)(Y:b1 st D.dst=true):Holds (step C st D) (cv P L J X st tm w D):=by
 unfold step;split
 ·rename_i x aq;exact Holds.ok (Lu S (.inl aq) Y _)
 ·rename_i x aq;exact Holds.ok (Lu S (.inr aq) Y _)
 ·rename_i c a b aq;split
  ·rename_i hc;exact Holds.ok (Lm S aq Y hc)
  ·rename_i hc;exact Holds.ok (Lm S aq Y hc)
  ·exact .fail
 ·rename_i elem aq;split
  ·rename_i o e t n c_ aY;exact Yr S ay.toCtxOk aY aq Y
  ·rename_i o c_ _;split
   ·rename_i z hz;exact Holds.e3 (Z3 S ay.toCtxOk aq c_ hz Y)
   ·exact .fail
  ·exact .fail
 ·rename_i elem x aq;split
  ·rename_i o e t n c_ aY;exact aah S ay.toCtxOk aY aq Y
  ·rename_i o c_ _;split
   ·rename_i a a5;cases c9:gf a.cells with
    |false=>exact .fail
    |true=>
     have bh:=cS S C elem x;rw[pc a5] at bh;exact Holds.e3 (abw S aq c_ bh c9 Y)
   ·exact .fail
  ·exact .fail
 ·rename_i t parts aq;split
  ·rename_i bF n z eq aY;exact ZZ S ay.toCtxOk aY aq Y
  ·rename_i e ty n aY;split
   ·rename_i z hz;exact Yn S ay.toCtxOk aY hz aq Y
   ·exact .fail
  ·exact .fail
 ·rename_i t len parts aq;split
  ·rename_i o e ty bytes c_ aY;cases hb:(parts.toList.length.beq len&&od 0 parts.toList&&Nat.ble (len*ar ty) 1000) with
   |false=>exact .fail
   |true=>
    simp only[Bool.and_eq_true] at hb;obtain⟨⟨aS,aJ⟩,bM⟩:=hb;simp only[cond_true];split
    ·rename_i as has;split
     ·rename_i xs us d_;have d_:me ty st as=some (xs,us):=by
       cases aF:(C.dO&&ty.gS) with
       |false=>rw[aF] at d_;cases d_
       |true=>rw[aF] at d_;exact d_
      cases aF:(eH (keys us)&&(look us o).isNone) with
      |false=>exact .fail
      |true=>
       simp only[Bool.and_eq_true] at aF;exact Holds.e3 (Ub S ay.toCtxOk aY aq Y (Nat.eq_of_beq_eq_true aS) aJ (Nat.le_of_ble_eq_true bM) has d_ ((n6 _).1 aF.1) (IM aF.2))
     ·split
      ·rename_i xs us d_;exact Holds.e3 (Uv S ay.toCtxOk aY aq c_ Y (Nat.eq_of_beq_eq_true aS) aJ (Nat.le_of_ble_eq_true bM) has d_)
      ·exact .fail
    ·exact .fail
  ·exact .fail
 ·rename_i t a aq;split
  ·rename_i e ty n aY;exact Zz S ay.toCtxOk aY aq Y
  ·cases ag:(C.tt t).known with
   |false=>exact .fail
   |true=>exact _0 S ay.toCtxOk aq Y ag
 ·rename_i t a x aq;split
  ·rename_i v hv;split
   ·rename_i e ty n aY;exact Xt S ay.toCtxOk aY aq Y hv
   ·cases ag:(C.tt t).known with
    |false=>exact .fail
    |true=>exact YV S ay.toCtxOk aq Y ag hv
  ·exact .fail
 ·rename_i x aq;split
  ·rename_i hx;exact Holds.ok (A7 S aq Y hx fun vv h=>by obtain⟨b,h,_⟩:=h;exact⟨_,h⟩)
  ·rename_i hx;exact Holds.ok (A7 S aq Y hx fun vv h=>by obtain⟨b,D,h,_⟩:=h;exact⟨_,h⟩)
  ·rename_i hx;exact Holds.ok (A7 S aq Y hx fun vv h=>by obtain⟨b,h,_⟩:=h;exact⟨_,h⟩)
  ·exact .fail
 ·rename_i op t x y mP aq;cases hn:yL y with
  |true=>exact Yg S ay.toCtxOk aq Y hn
  |false=>exact aak S ay.toCtxOk aq Y
 ·rename_i op t x aq;split
  ·rename_i b hx;exact Holds.ok (Ve S aq Y hx)
  ·rename_i k n hx;exact Holds.ok (Vf S aq Y hx)
  ·rename_i k n hx;exact Holds.ok (Vd (T:=D.type) S aq Y hx)
  ·exact .fail
 ·rename_i src dst x aq;split
  ·rename_i o c_;exact ZW S ay.toCtxOk aq c_ Y
  ·exact .fail
 ·rename_i fn first captured aq
  split
  ·rename_i g;cases hf:first.toList.isEmpty with
   |false=>exact .fail
   |true=>
    simp only[cond_true];split
    ·rename_i bq hc;exact Holds.ok (Vy S aq Y hf hc)
    ·exact .fail
  ·exact .fail
 ·rename_i t l c aq;split
  ·rename_i o e ty bytes kn n km m c_ aY hl hc;split
   ·rename_i z hz;unfold pI;split
    ·rename_i ds us ef;have ef:sinks st z=some (ds,us):=by
      cases aF:(C.dO&&ty.gS) with
      |false=>rw[aF] at ef;cases ef
      |true=>rw[aF] at ef;exact ef
     split
     ·rename_i ea k0;cases aF:us.isEmpty with
      |false=>exact .fail
      |true=>exact Holds.eY fun r hr=>Uo S ay.toCtxOk aY aq Y hl hc hz ef aF k0 r hr
     ·exact .fail
    ·split
     ·rename_i ds us ef;split
      ·rename_i ea k0;exact Holds.eY fun r hr=>UT S ay.toCtxOk aY aq c_ Y hl hc hz ef k0 r hr
      ·exact .fail
     ·exact .fail
   ·exact .fail
  ·exact .fail
 ·rename_i t x cE hi AN aq;split
  ·split
   ·rename_i e ty n aY;exact Xx S ay.toCtxOk aY aq Y
   ·exact Y1 S ay.toCtxOk aq Y
  ·exact .fail
 ·rename_i s x f aq;split
  ·rename_i bF n z eq aY;split
   ·rename_i off HE hf;exact U1 S ay.toCtxOk aY aq Y hf
   ·exact .fail
  ·exact .fail
 ·rename_i t x i aq;split
  ·rename_i e ty bytes k n aY hi;exact UY S ay.toCtxOk aY hi aq Y
  ·rename_i e ty m k n aY hi;exact Uq S ay.toCtxOk aY hi aq Y
  ·exact .fail
 ·rename_i t x i aq;split
  ·rename_i s k n aY hx hi;exact ZG S ay.toCtxOk aq Y aY hx hi
  ·rename_i e ty m k n aY hi;exact Yb S ay.toCtxOk aY hi aq Y
  ·exact .fail
 ·rename_i t i aq;split
  ·rename_i as hx;split
   ·rename_i a a5;exact Holds.ok (WD S aq Y hx a5)
   ·exact .fail
  ·exact .fail
 ·rename_i c aq;split
  ·rename_i f hf;split
   ·exact IW S ay aq hf Y _ _
   ·exact IW S ay aq hf Y _ _
  ·rename_i b hb;obtain⟨callee,args,argTypes⟩:=c;simp only at hb aq ⊢;subst hb;split
   ·rename_i x t jv Fm;have e1:args=#[x]:=Array.ext' jv;have e2:argTypes=#[t]:=Array.ext' Fm;subst e1 e2;exact abg S ay.toCtxOk aq Y
   ·rename_i o s x t u c_ jv Fm;have e1:args=#[s,x]:=Array.ext' jv;have e2:argTypes=#[t,u]:=Array.ext' Fm;subst e1 e2;split
    ·rename_i aY ey;cases aF:tW st (aO C st u x) with
     |true=>exact WU S ay.toCtxOk aY ey aq c_ Y
     |false=>exact Yq S ay.toCtxOk aY ey aq c_ Y
    ·rename_i aY ey;exact WT S ay.toCtxOk aY ey aq c_ Y
    ·exact .fail
   ·rename_i x y jv;have e1:args=#[x,y]:=Array.ext' jv;subst e1;split
    ·rename_i hx aj;exact Holds.ok (JT (rL:=true) S aq Y hx aj)
    ·exact .fail
   ·rename_i x y z u v jv;have e1:args=#[x,y,z,u,v]:=Array.ext' jv;subst e1;split
    ·rename_i hx aj hz hu hv;exact Holds.ok (_Y S aq Y hx aj hz hu hv)
    ·exact .fail
   ·rename_i x y jv;have e1:args=#[x,y]:=Array.ext' jv;subst e1;split
    ·rename_i hx aj;exact Holds.ok (JT (rL:=false) S aq Y hx aj)
    ·exact .fail
   ·exact .fail
  ·exact .fail
 ·exact Wt S ay.toCtxOk Y
end
section
variable {st ae:ad}
theorem m8{o:Nat}(h:st.O o=ae.O o)(s:Nat):rowOf st o s=rowOf ae o s:=by unfold rowOf;rw[h]
theorem s4{o:Nat}(h:st.O o=ae.O o)(s:Nat):lj st o s=lj ae o s:=by unfold lj;rw[h]
theorem I0{o:Nat}(h:st.O o=ae.O o)(s:Nat):ow st o s=ow ae o s:=by unfold ow;rw[m8 h,s4 h]
theorem s7{o:Nat}(h:st.O o=ae.O o)(s:Nat):fq st o s=fq ae o s:=by unfold fq;rw[h]
theorem la{o:Nat}(h:st.O o=ae.O o):aV st o=aV ae o:=by unfold aV;rw[h]
abbrev cc(st ae:ad)(N:List Nat):Prop:=∀o,o∈N->st.O o=ae.O o
theorem cc.left{N jS:List Nat}(h:cc st ae (N++jS)):cc st ae N:=fun o a_=>h o (List.mem_append.2 (.inl a_))
theorem cc.right{N jS:List Nat}(h:cc st ae (N++jS)):cc st ae jS:=fun o a_=>h o (List.mem_append.2 (.inr a_))
theorem cc.head{n:Nat}{jS:List Nat}(h:cc st ae (n::jS)):st.O n=ae.O n:=h n List.mem_cons_self
theorem cc.tail{n:Nat}{jS:List Nat}(h:cc st ae (n::jS)):cc st ae jS:=fun o a_=>h o (List.mem_cons_of_mem _ a_)
theorem n8{N:List Nat}(h:cc st ae (ep st N)):cc st ae N:=by
 induction N with
 |nil=>intro o a_;cases a_
 |cons n N ih=>
  intro o a_;rcases List.mem_cons.1 a_ with rfl|a_
  ·exact h.head
  ·exact ih h.tail.right o a_
theorem KW{N:List Nat}(h:cc st ae (ep st N)){o:Nat}(a_:o∈N):cc st ae (wB st o):=by
 induction N with
 |nil=>cases a_
 |cons n N ih=>
  rcases List.mem_cons.1 a_ with rfl|a_
  ·exact h.tail.left
  ·exact ih h.tail.right a_
theorem wX{N jS:List Nat}:ep st (N++jS)=ep st N++ep st jS:=by
 induction N with
 |nil=>rfl
 |cons n N ih=>simp[ep,ih]
theorem J8{l:au}(h:cc st ae l.names):jc st l=jc ae l:=by
 cases l<;>try rfl
 case own o s=>simp only[jc,lz];rw[m8 (h.head) s,s4 h.head s,h.head]
 case clo g bq=>cases bq<;>rfl
theorem wv{U:List au}(h:cc st ae (cN U)):gX st U=gX ae U:=by
 induction U with
 |nil=>rfl
 |cons l U ih=>
  simp only[cN] at h;simp only[gX,J8 h.left,ih h.right]
theorem V8{l:au}(h:cc st ae l.names):sink st l=sink ae l:=by
 cases l<;>try rfl
 case own o s=>simp only[sink];rw[h.head]
 case d v=>cases v<;>rfl
theorem A4{U:List au}(h:cc st ae (cN U)):sinks st U=sinks ae U:=by
 induction U with
 |nil=>rfl
 |cons l U ih=>
  simp only[cN] at h;simp only[sinks,V8 h.left,ih h.right]
theorem A_{o s:Nat}{cells:List au}(h:fq st o s=some cells):wB st o=cN cells:=by
 unfold fq at h;cases M:st.O o with
 |none=>rw[M] at h;cases h
 |some x=>
  rw[M] at h;cases x with
  |box am cs=>
   have h:(bif am.beq s then some cs else none)=some cells:=h
   unfold wB;rw[M];cases hb:am.beq s with
   |true=>simp only[hb,cond_true,Option.some.injEq] at h;subst h;rfl
   |false=>simp[hb] at h
  |row _ _ _=>cases h
  |cQ _ _ _=>cases h
  |deep _ _ _=>cases h
  |map _ _ _=>cases h
  |dead _=>cases h
theorem Vz{agg:Bool}{n:Nat}{a:aK}(h:cc st ae a.names):rJ agg n st a=rJ agg n ae a:=by
 unfold rJ;split
 ·rename_i o s off;rw[s7 (show st.O o=ae.O o from h o (by simp[aK.names,br.cells,cN,au.names]))]
 ·rfl
 ·rename_i o s u k off;rw[m8 (show st.O o=ae.O o from h o (by simp[aK.names,br.cells,cN,au.names]))]
 ·rfl
theorem UG{n:Nat}{a:aK}{v:br}(h:cc st ae a.names)(hv:cc st ae (cN v.cells)):q' n st a v=q' n ae a v:=by
 unfold q';congr 1
 split
 ·rename_i o s off;rw[s7 (show st.O o=ae.O o from h o (by simp[aK.names,br.cells,cN,au.names]))]
 ·rename_i o s u k off;rw[show st.O o=ae.O o from h o (by simp[aK.names,br.cells,cN,au.names]),wv hv,A4 hv]
 ·rfl
theorem T4{u:aG}{x:aK}{i:Int}(h:cc st ae x.names):qD u st x i=qD u ae x i:=by
 unfold qD;split
 ·rfl
 ·rename_i o s;rw[I0 (show st.O o=ae.O o from h o (by simp[aK.names,br.cells,cN,au.names]))]
 ·rfl
theorem UK{ti:cd}{x:aK}{cE hi:Option aK}(h:cc st ae x.names):rc ti st x cE hi=rc ti ae x cE hi:=by
 unfold rc;split
 ·rfl
 ·rfl
 ·rfl
 ·rename_i o s;simp only[lz];rw[m8 (show st.O o=ae.O o from h o (by simp[aK.names,br.cells,cN,au.names])),show st.O o=ae.O o from h o (by simp[aK.names,br.cells,cN,au.names])]
 ·rfl
theorem IL{l:au}(h:cc st ae l.names):mapOf st l=mapOf ae l:=by
 cases l<;>try rfl
 case own o s=>simp only[mapOf];rw[h.head]
 case d v=>cases v<;>rfl
theorem Wv{ti:cd}{x:aK}(h:cc st ae x.names):r' ti st x=r' ti ae x:=by
 unfold r';split<;>try rfl
 rotate_left
 ·rename_i l;rw[IL (l:=l) (fun o a_=>h o (by simp[aK.names,br.cells,cN,a_]))]
 rename_i o s;rw[I0 (show st.O o=ae.O o from h o (by simp[aK.names,br.cells,cN,au.names]))]
theorem Vj{x:aK}(h:cc st ae x.names):rA st x=rA ae x:=by
 unfold rA;split<;>try rfl
 rename_i o s;rw[m8 (show st.O o=ae.O o from h o (by simp[aK.names,br.cells,cN,au.names]))]
theorem Ic{o dst s:Nat}(Y:st.O dst=ae.O dst):aV (st.dh o (.dead s)) dst=aV (ae.dh o (.dead s)) dst:=by
 apply la;rw[ad.l6,ad.l6,Y]
theorem Io{bytes:Nat}{t:aG}{dst:Nat}{s:aK}{ys:List (den t)}(h:cc st ae s.names)(Y:st.O dst=ae.O dst):pj bytes t dst st s ys=pj bytes t dst ae s ys:=by
 unfold pj;split
 ·simp only[la Y]
 ·rename_i o s;simp only[show st.O o=ae.O o from h o (by simp[aK.names,br.cells,cN,au.names]),Ic Y]
 ·rfl
theorem Uw{bytes:Nat}{t:aG}{dst:Nat}{s x:aK}(h:cc st ae s.names)(hx:cc st ae x.names)(Y:st.O dst=ae.O dst):q7 bytes t dst st s x=q7 bytes t dst ae s x:=by
 unfold q7;rw[Vj hx];split
 ·rfl
 ·split
  ·split
   ·exact Io h Y
   ·rfl
  ·rfl
theorem UW{x:aK}(h:cc st ae x.names):tW st x=tW ae x:=by
 unfold tW;split
 ·rename_i o s;rw[s4 (show st.O o=ae.O o from h o (by simp[aK.names,br.cells,cN,au.names]))]
 ·rfl
theorem Uy{bytes:Nat}{t:aG}{dst:Nat}{s x:aK}(h:cc st ae s.names)(hx:cc st ae x.names)(Y:st.O dst=ae.O dst):q9 bytes t dst st s x=q9 bytes t dst ae s x:=by
 have e2:∀F u o v,aV ((st.dh F (.dead u)).dh o (.dead v)) dst=aV ((ae.dh F (.dead u)).dh o (.dead v)) dst:=fun F u o v=>by
  apply la;rw[ad.l6,ad.l6,ad.l6,ad.l6,Y]
 unfold q9;split
 ·rename_i F u;rw[s4 (show st.O F=ae.O F from hx F (by simp[aK.names,br.cells,cN,au.names]))]
  split
  ·split
   ·split
    ·simp only[Ic Y]
    ·rename_i _ o s;rw[s4 (show st.O o=ae.O o from h o (by simp[aK.names,br.cells,cN,au.names]))]
     simp only[e2]
    ·rfl
   ·rfl
  ·rfl
 ·rfl
theorem Ux{bytes:Nat}{t:aG}{dst:Nat}{s x:aK}(h:cc st ae s.names)(Y:st.O dst=ae.O dst):q8 bytes t dst st s x=q8 bytes t dst ae s x:=by
 unfold q8;split
 ·split
  ·exact Io h Y
  ·rfl
 ·rfl
theorem Jc{o:Nat}{t:aG}{n:Nat}{xs:List (den t)}(Y:st.O o=ae.O o):pH o st t n xs=pH o ae t n xs:=by
 unfold pH;rw[la Y]
theorem U4{o:Nat}{t:aG}{n:Nat}(Y:st.O o=ae.O o):ru o st t n=ru o ae t n:=by
 unfold ru;split<;>first|exact Jc Y|rfl
theorem WR{o:Nat}{t:aG}{n:Nat}{v:aK}(Y:st.O o=ae.O o):sn o st t n v=sn o ae t n v:=by
 unfold sn;split
 ·split<;>first|exact Jc Y|rfl
 ·rfl
theorem VA{t:aG}{n:Nat}{a:aK}(h:cc st ae a.names):rK st t n a=rK ae t n a:=by
 unfold rK;split
 ·rename_i o s u;rw[m8 (show st.O o=ae.O o from h o (by simp[aK.names,br.cells,cN,au.names]))]
 ·rfl
theorem UH{t:aG}{n:Nat}{a:aK}{v:br}(h:cc st ae a.names):ra st t n a v=ra ae t n a v:=by
 unfold ra;split
 ·rename_i o s u U;rw[show st.O o=ae.O o from h o (by simp[aK.names,br.cells,cN,au.names])]
 ·rfl
theorem T5{C:Ctx}{t:aG}{n:Nat}{x:aK}{i:Int}(h:cc st ae x.names):qE C st t n x i=qE C ae t n x i:=by
 unfold qE;split
 ·rename_i o s u;rw[m8 (show st.O o=ae.O o from h o (by simp[aK.names,br.cells,cN,au.names]))]
 ·rfl
 ·rfl
theorem UL{t:aG}{n:Nat}{x:aK}{cE hi:Option aK}(h:cc st ae x.names):re st t n x cE hi=re ae t n x cE hi:=by
 unfold re;split
 ·rename_i o s u;simp only[lz];rw[m8 (show st.O o=ae.O o from h o (by simp[aK.names,br.cells,cN,au.names])),show st.O o=ae.O o from h o (by simp[aK.names,br.cells,cN,au.names])]
 ·rfl
theorem WN{t:aG}{as:List br}(h:cc st ae (n_ as)):kW t st as=kW t ae as:=by
 induction as with
 |nil=>rfl
 |cons a as ih=>
  simp only[n_] at h;simp only[kW,wv h.left,ih h.right]
theorem UM{t:aG}{as:List br}(h:cc st ae (n_ as)):me t st as=me t ae as:=by
 induction as with
 |nil=>rfl
 |cons a as ih=>
  simp only[n_] at h;simp only[me,A4 h.left,ih h.right]
theorem VL{C:Ctx}{src dst:TypeId}{o:Nat}{x:aK}(h:cc st ae x.names)(Y:st.O o=ae.O o):rQ C src dst o st x=rQ C src dst o ae x:=by
 unfold rQ;split<;>try rfl
 ·rename_i F s _ _;rw[m8 (show st.O F=ae.O F from h F (by simp[aK.names,br.cells,cN,au.names]))]
 ·rw[la Y]
theorem Iy{bq:List (Nat×Nat)}(h:cc st ae (ep st (keys bq))):kN st bq=kN ae bq:=by
 induction bq with
 |nil=>rfl
 |cons p bq ih=>
  obtain⟨o,s⟩:=p;simp only[keys,ep] at h;simp only[kN];rw[<-s7 h.head,<-ih h.tail.right];cases hb:fq st o s with
  |none=>rfl
  |some cells=>
   have:=h.tail.left;rw[A_ hb] at this;simp only[wv this]
theorem Bc{l:au}(h:cc st ae (ep st l.names)):my st l=my ae l:=by
 have Y:=J8 (n8 h);unfold my;split
 ·rfl
 ·rename_i g c cs;simp only[au.names] at h;rw[Iy h]
 ·rw[Y]
theorem VB{U:List au}(h:cc st ae (ep st (cN U))):lm st U=lm ae U:=by
 induction U with
 |nil=>rfl
 |cons l U ih=>
  simp only[cN,wX] at h;simp only[lm,Bc h.left,ih h.right]
theorem IQ{l:au}(h:cc st ae l.names):ms st l=ms ae l:=by
 unfold ms;split<;>try rfl
 rename_i o s;rw[show st.O o=ae.O o from h.head]
theorem WA{U:List au}(h:cc st ae (cN U)):jy st U=jy ae U:=by
 induction U with
 |nil=>rfl
 |cons l U ih=>
  simp only[cN] at h;simp only[jy,IQ h.left,ih h.right]
def gv:List aK->List Nat
 |[]=>[]
 |v::vs=>v.names++gv vs
theorem Iu{vs:List aK}(h:cc st ae (ep st (gv vs))):io st vs=io ae vs:=by
 induction vs with
 |nil=>rfl
 |cons v vs ih=>
  simp only[gv,wX] at h;have ih:=ih h.right;have h:=h.left;cases v with
  |iY as=>rfl
  |av a=>
   cases a with
   |agg U=>
    simp only[io];rw[VB (by simpa[aK.names,br.cells] using h),ih]
   |ai l=>
    have hl:cc st ae (ep st l.names):=by simpa[aK.names,br.cells,cN] using h
    unfold io;split
    ·rfl
    ·rename_i o s ahe bP;cases bP;have hl:cc st ae (ep st [o]):=by simpa[aK.names,br.cells,cN,au.names] using h
     simp only[ep] at hl;rw[<-s7 hl.head,<-ih];cases hb:fq st o s with
     |none=>rfl
     |some cells=>
      have:=hl.tail.left;rw[A_ hb] at this;cases io st vs with
      |none=>rfl
      |some r=>simp only[WA this]
    ·rename_i fk ahe _ bP;cases bP;rw[Bc hl,ih]
    ·rename_i bP;cases bP
    ·rfl
theorem Ix{l:au}(h:cc st ae (ep st l.names)):li st l=li ae l:=by
 unfold li;split
 ·rw[IQ (n8 h)]
 ·rfl
 ·rw[Bc h]
theorem Ut{U:List au}(h:cc st ae (ep st (cN U))):lg st U=lg ae U:=by
 induction U with
 |nil=>rfl
 |cons l U ih=>
  simp only[cN,wX] at h;simp only[lg,Ix h.left,ih h.right]
theorem VE{l:au}(h:cc st ae l.names):kS st l=kS ae l:=by
 unfold kS;split<;>try rfl
 rename_i o s;rw[show st.O o=ae.O o from h.head]
theorem IJ{U df:List au}(h:cc st ae (cN U)):np st U df=np ae U df:=by
 unfold np;have:U.map (kS st)=U.map (kS ae):=by
  induction U with
  |nil=>rfl
  |cons l U ih=>
   simp only[cN] at h;simp only[List.map_cons,VE h.left,ih h.right]
 rw[this]
theorem Un{vs:List aK}(h:cc st ae (ep st (gv vs))):jU st vs=jU ae vs:=by
 induction vs with
 |nil=>rfl
 |cons v vs ih=>
  simp only[gv,wX] at h;have ih:=ih h.right;have h:=h.left;cases v with
  |iY as=>rfl
  |av a=>
   cases a with
   |agg U=>
    have hl:cc st ae (ep st (cN U)):=by simpa[aK.names,br.cells] using h
    simp only[jU,Ut hl,ih,IJ (n8 hl)]
   |ai l=>
    have hl:cc st ae (ep st l.names):=by simpa[aK.names,br.cells,cN] using h
    have lM:cc st ae (cN [l]):=by simpa[cN] using n8 hl
    simp only[jU,Ix hl,ih,IJ lM]
theorem Um{b:Bool}{vs:List aK}(h:cc st ae (ep st (gv vs))):qX b st vs=qX b ae vs:=by
 cases b
 ·exact Iu h
 ·exact Un h
theorem s5(hb:∀o,1000000<=o->st.O o=ae.O o){o:Nat}(h:1000000<=o):aV st o=aV ae o:=la (hb o h)
theorem Ba(hb:∀o,1000000<=o->st.O o=ae.O o):∀{U:List au} {n:Nat},1000000<=n->take st n U=take ae n U:=by
 intro U;induction U with
 |nil=>intro n _;rfl
 |cons l U ih=>
  intro n hn;cases l<;>simp only[take,ih (show 1000000<=n+1 by omega),s5 hb hn]
theorem Vh(hb:∀o,1000000<=o->st.O o=ae.O o):∀{as:List br} {n:Nat},1000000<=n->dC st n as=dC ae n as:=by
 intro as;induction as with
 |nil=>intro n _;rfl
 |cons a as ih=>
  intro n hn;cases a with
  |ai l=>simp only[dC];rw[Ba hb hn,ih (show 1000000<=n+100 by omega)]
  |agg U=>simp only[dC];rw[Ba hb hn,ih (show 1000000<=n+100 by omega)]
theorem Vg(hb:∀o,1000000<=o->st.O o=ae.O o):∀{bs:List (Nat×Nat)} {cp:List (List au)},eV st bs cp=eV ae bs cp:=by
 intro bs;induction bs with
 |nil=>intro cp;cases cp<;>rfl
 |cons p bs ih=>
  obtain⟨o,s⟩:=p;intro cp;cases cp with
  |nil=>rfl
  |cons cs cp=>simp only[eV];rw[Ba hb (by omega),ih]
theorem IV(hb:∀o,1000000<=o->st.O o=ae.O o){dst:Nat}{S:a0}{a:jB}:ov dst st S a=ov dst ae S a:=by
 unfold ov;simp only[Vg hb,Vh hb (show 1000000<=2000000+dst*10000 by omega)]
theorem UI{g:FuncId}{n:Nat}{vs:List aK}(hb:∀o,1000000<=o->st.O o=ae.O o)(hn:1000000<=n):rb g n st vs=rb g n ae vs:=by
 unfold rb;rw[s5 hb hn,s5 hb (show 1000000<=n+1 by omega),s5 hb (show 1000000<=n+2 by omega)]
theorem Vt{n:Nat}{vs:List aK}(hb:∀o,1000000<=o->st.O o=ae.O o)(hn:1000000<=n):rD n st vs=rD n ae vs:=by
 unfold rD;rw[s5 hb hn]
theorem VK{vs:List aK}(h:cc st ae (ep st (gv vs))):copyV st vs=copyV ae vs:=by
 unfold copyV;split
 ·rename_i o s;rw[show st.O o=ae.O o from n8 h o (by simp[gv,aK.names,br.cells,cN,au.names])]
 ·rfl
theorem Uh{vs:List aK}(h:cc st ae (ep st (gv vs))):qT st vs=qT ae vs:=by
 unfold qT;split
 ·rename_i o s;have h0:o∈gv [aK.av (.ai (.ptr o s 0))]:=by simp[gv,aK.names,br.cells,cN,au.names]
  rw[<-s7 (n8 h o h0)];split
  ·rfl
  ·rename_i Tz F u hb;have:=KW h h0;rw[A_ hb] at this;rw[show st.O F=ae.O F from this F (by simp[cN,au.names])]
  ·rfl
 ·rfl
theorem Ih{C:Ctx}(hb:∀o,1000000<=o->st.O o=ae.O o){dst:Nat}{f:aK}{vs:List aK}(hf:cc st ae (ep st f.names))(h:cc st ae (ep st (gv vs))):lf C dst st f vs=lf C dst ae f vs:=by
 unfold lf;split
 ·rename_i g bq;have:cc st ae (ep st (keys bq)):=by simpa[aK.names,br.cells,cN,au.names] using hf
  simp only[Um h,Iy this,IV hb,UI hb (show 1000000<=3000000+dst*10 by omega),Vt hb (show 1000000<=4000000+dst by omega),VK h,Uh h]
 ·simp only[Iu h,IV hb]
 ·rfl
theorem ZL{C:Ctx}{x:Operand}{T:TypeId}(h:∀t,x=.tmp t->st.get t=ae.get t):aO C st T x=aO C ae T x:=by
 cases x with
 |tmp t=>exact h t rfl
 |_=>rfl
theorem Uu{ti:cd}{v:Value}:(tN ti v).names=[]:=by
 unfold tN;split<;>try rfl
 all_goals(split<;>rfl)
theorem xe{C:Ctx}{x:Operand}{T:TypeId}:∀{xs:List Operand},x∈xs->∀o,o∈(aO C st T x).names->o∈nh st xs:=by
 intro xs;induction xs with
 |nil=>intro h;cases h
 |cons y xs ih=>
  intro h o a_;rcases List.mem_cons.1 h with rfl|h
  ·cases x with
   |tmp t=>simp only[nh];exact List.mem_append.2 (.inl a_)
   |const v=>simp only[aO,Uu] at a_;cases a_
   |global g=>simp[aO,aK.names,br.cells,cN,au.names,bJ] at a_
   |func g=>simp[aO,aK.names,br.cells,cN,au.names,bJ,keys] at a_
  ·have:=ih h o a_;cases y<;>simp only[nh]<;>first|exact List.mem_append.2 (.inr this)|exact this
theorem Vu{t:Nat}:∀{xs:List Operand},.tmp t∈xs->t∈oa xs:=by
 intro xs;induction xs with
 |nil=>intro h;cases h
 |cons y xs ih=>
  intro h;rcases List.mem_cons.1 h with h|h
  ·subst h;simp only[oa];exact List.mem_cons_self
  ·have:=ih h;cases y<;>simp only[oa]<;>first|exact List.mem_cons_of_mem _ this|exact this
theorem Jo{v:aK}{a:br}(h:lC v=some a):cN a.cells=v.names:=by
 cases v with
 |av b=>simp only[lC,Option.some.injEq] at h;subst h;rfl
 |iY _=>cases h
theorem IY{vs:List aK}:∀{as:List br},mu vs=some as->∀o,o∈n_ as->o∈gv vs:=by
 induction vs with
 |nil=>intro as h;simp only[mu,Option.some.injEq] at h;subst h;intro o a_;cases a_
 |cons v vs ih=>
  intro as h o a_;simp only[mu] at h;split at h
  ·rename_i a je h1 h2;simp only[Option.some.injEq] at h;subst h;simp only[n_,List.mem_append] at a_;simp only[gv,List.mem_append];rcases a_ with a_|a_
   ·exact .inl (by rw[Jo h1] at a_;exact a_)
   ·exact .inr (ih h2 o a_)
  ·cases h
end
theorem V5{C:Ctx}{st ae:ad}{D:Oper}(M:∀t,t∈oa (kO D.op)->st.get t=ae.get t)(hn:cc st ae (EM C st D))(hb:yM D.op=true->∀o,1000000<=o->st.O o=ae.O o):
  step C st D=step C ae D:=by
 have he:∀x,x∈kO D.op->∀T,aO C st T x=aO C ae T x:=fun x hx T=>ZL fun t aC=>M t (Vu (aC▸hx))
 have Pp:looks D.op=true->cc st ae (ep st (nh st (kO D.op))):=fun h=>by have:=hn.left.left;rw[h] at this;exact this
 have Ph:looks D.op=true->∀x,x∈kO D.op->∀T,cc st ae (aO C st T x).names:=fun hl x hx T o a_=>n8 (Pp hl) o (xe hx o a_)
 have Mw:looks D.op=true->∀N:List Nat,(∀o,o∈N->o∈nh st (kO D.op))->cc st ae (ep st N):=by
  intro hl N;have vB:=Pp hl;induction N with
  |nil=>intro _ o a_;cases a_
  |cons n N ih=>
   intro h o a_;simp only[ep,List.mem_cons,List.mem_append] at a_;rcases a_ with rfl|a_|a_
   ·exact n8 vB o (h o List.mem_cons_self)
   ·exact KW vB (h n List.mem_cons_self) o a_
   ·exact ih (fun F bm=>h F (List.mem_cons_of_mem _ bm)) o a_
 have Y:∀d,D.dst=some d->st.O d=ae.O d:=fun d h=>hn.left.right d (by simp[h])
 have hz:cc st ae (Ex C D.op):=hn.right;obtain⟨dst,op,type,pos,after,guard⟩:=D;simp only at he Ph Mw Y hb hz;cases op<;>(try have fJ:=Ph rfl)<;>(try have kR:=Mw rfl)<;>(try simp only[kO,List.mem_cons,List.not_mem_nil,or_false,forall_eq_or_imp,forall_eq] at he)<;>
  (try simp only[kO,List.mem_cons,List.not_mem_nil,or_false,forall_eq_or_imp,forall_eq] at fJ)<;>simp only[step]<;>try rfl
 case move x=>rw[he]
 case assign x=>rw[he]
 case makeMap t r=>
  simp only[kI];cases dst with
  |none=>rfl
  |some o=>
   have e:=la (Y o rfl);cases C.tt t<;>try rfl
   cases r with
   |none=>simp only[e]
   |some x=>simp only[he x (by simp[kO]),e]
 case lookup t m k c=>
  simp only[kI];rw[he.1,he.2];have h1:=fJ.1 t;rw[he.1] at h1;generalize aO C ae t m=Ts at h1 ⊢;split
  ·rename_i l n _ _;rw[IL (l:=l) (fun o a_=>h1 o (by simp[aK.names,br.cells,cN,a_]))]
  ·rfl
 case mapUpdate t m k x=>
  simp only[kI,kI.rj];rw[he.1,he.2.1,he.2.2];have h1:=fJ.1 t;rw[he.1] at h1;generalize aO C ae t m=Ts at h1 ⊢;split
  ·rename_i o s n d _ _ _;rw[show st.O o=ae.O o from h1 o (by simp[aK.names,br.cells,cN,au.names])]
  ·rfl
 case insert t m k x=>
  simp only[kI,kI.rj];rw[he.1,he.2.1,he.2.2];have h1:=fJ.1 t;rw[he.1] at h1;generalize aO C ae t m=Ts at h1 ⊢;split
  ·rename_i o s n d _ _ _;rw[show st.O o=ae.O o from h1 o (by simp[aK.names,br.cells,cN,au.names])]
  ·rfl
 case pick c a b=>rw[he.1,he.2.1,he.2.2]
 case alloc elem=>
  cases dst with
  |none=>rfl
  |some o=>
   have e:=la (Y o rfl);cases aY:C.tt elem with
   |arr _ t n=>exact U4 (Y o rfl)
   |_=>simp only[e]
 case box elem x=>
  rw[he];cases dst with
  |none=>rfl
  |some o=>
   have e:=la (Y o rfl);cases aY:C.tt elem with
   |arr _ t n=>exact WR (Y o rfl)
   |_=>simp only[e]
 case build t ps=>
  have go:∀(bF:List (Nat×Nat)) (r:List (Nat×Operand)) (z:List au),(∀x,x∈r.map (·.2)->∀T,aO C st T x=aO C ae T x)->step.mm C st bF z r=step.mm C ae bF z r:=by
    intro bF r;induction r with
    |nil=>intro z _;rfl
    |cons p r ih=>
     obtain⟨i,x⟩:=p;intro z h;simp only[step.mm];rw[h x (by simp)]
     split
     ·rw[ih _ fun x hx=>h x (by simp only[List.map_cons,List.mem_cons];exact .inr hx)]
     ·rfl
  split
  ·exact go _ _ _ he
  ·split
   ·exact go _ _ _ he
   ·rfl
  ·rfl
 case buildSlice t len ps=>
  cases dst with
  |none=>rfl
  |some o=>
   cases h2:C.tt t<;>try rfl
   rename_i e ty bytes;simp only;have h1:some o=some o:=rfl;have em:(ps.toList.map fun p=>aO C st e p.2)=ps.toList.map fun p=>aO C ae e p.2:=by
    apply List.map_congr_left;intro p al;exact he _ (List.mem_map.2 ⟨p,al,rfl⟩) e
   have hQ:cc st ae (gv (ps.toList.map fun p=>aO C st e p.2)):=by
    have:∀l:List (Nat×Operand),(∀p,p∈l->p∈ps.toList)->cc st ae (gv (l.map fun p=>aO C st e p.2)):=by
     intro l;induction l with
     |nil=>intro _ o a_;cases a_
     |cons p l ih=>
      intro h o a_;simp only[List.map_cons,gv,List.mem_append] at a_;rcases a_ with a_|a_
      ·exact fJ _ (List.mem_map.2 ⟨p,h p List.mem_cons_self,rfl⟩) e o a_
      ·exact ih (fun q aF=>h q (List.mem_cons_of_mem _ aF)) o a_
    exact this _ fun _ h=>h
   rw[<-em,la (Y o h1)];congr 1
   split
   ·rename_i as has;rw[WN fun F bm=>hQ F (IY has F bm),UM fun F bm=>hQ F (IY has F bm)]
   ·rfl
 case load t a=>
  rw[<-he];split
  ·exact VA (fJ _)
  ·rw[Vz (fJ _)]
 case store t a x=>
  rw[<-he.1,<-he.2];split
  ·rename_i v hv;split
   ·exact UH (fJ.1 _)
   ·rw[UG (fJ.1 _) (by rw[Jo hv];exact fJ.2 _)]
  ·rfl
 case nilCheck x=>rw[he]
 case makeInterface t x=>simp only[kI];rw[he]
 case binOp op t x y ty=>rw[he.1,he.2]
 case unOp op t x=>rw[he]
 case convert src ans x=>
  cases dst with
  |none=>rfl
  |some o=>simp only;rw[<-he,VL (fJ _) (Y o rfl)]
 case makeFunc fn first captured=>
  split
  ·rename_i g;have go:∀(r:List Operand),(∀x,x∈r->∀T,aO C st T x=aO C ae T x)->step.nq C st r=step.nq C ae r:=by
    intro r;induction r with
    |nil=>intro _;rfl
    |cons x r ih=>
     intro h;simp only[step.nq];rw[h x (by simp),ih fun x hx=>h x (List.mem_cons_of_mem _ hx)]
   rw[go _ he]
  ·rfl
 case makeSlice t l c=>
  rw[<-he.1,<-he.2];cases dst with
  |none=>rfl
  |some o=>
   cases h2:C.tt t<;>try rfl
   rename_i e ty bytes;simp only[Ex,h2] at hz;have e1:=la (Y o rfl);have e2:∀z n m,(C.tt e).zero=some z->pI C.dO bytes o st ty n m z=pI C.dO bytes o ae ty n m z:=fun z n m hzz=>by
    simp only[hzz] at hz;unfold pI;rw[wv hz,A4 hz,e1]
   generalize aO C st 0 l=ql;generalize aO C st 0 c=jL;have dy:∀n m:Int,(match(C.tt e).zero with
      |some z=>pI C.dO bytes o st ty n m z
      |none=>.fail)=(match(C.tt e).zero with
      |some z=>pI C.dO bytes o ae ty n m z
      |none=>.fail):=by
    intro n m;cases hzz:(C.tt e).zero with
    |none=>rfl
    |some z=>exact e2 z n m hzz
   rcases ql with(cV|_)|_<;>try rfl
   cases cV<;>try rfl
   rename_i d1;cases d1<;>try rfl
   rcases jL with(ga|_)|_<;>try rfl
   cases ga<;>try rfl
   rename_i d2;cases d2<;>try rfl
   exact dy _ _
 case slice t x cE hi AN=>
  cases AN with
  |some _=>rfl
  |none=>
   simp only;have e1:cE.map (aO C st 0)=cE.map (aO C ae 0):=by
    cases cE with
    |none=>rfl
    |some y=>simp only[Option.map_some];rw[he.2 y (by simp)]
   have e2:hi.map (aO C st 0)=hi.map (aO C ae 0):=by
    cases hi with
    |none=>rfl
    |some y=>simp only[Option.map_some];rw[he.2 y (by simp)]
   rw[<-he.1,e1,e2];split
   ·exact UL (fJ.1 _)
   ·exact UK (fJ.1 _)
 case fieldAddr s x f=>rw[he]
 case indexAddr t x i=>
  rw[<-he.1,<-he.2];split
  ·rw[T4 (fJ.1 _)]
  ·rw[T5 (fJ.1 _)]
  ·rfl
 case index t x i=>rw[he.1,he.2]
 case extract t i=>rw[he]
 case call c=>
  obtain⟨ajq,args,Ga⟩:=c;simp only;cases ajq with
  |invoke r m=>rfl
  |value f=>
   simp only[kO,List.mem_append,List.mem_cons,List.not_mem_nil,or_false] at kR;simp only[yM,forall_const] at hb;simp only[List.mem_append,List.mem_cons,List.not_mem_nil,or_false] at he;have em:∀(xs:List Operand) (cI:List TypeId),(∀x,x∈xs->∀T,aO C st T x=aO C ae T x)->f_ C st xs cI=f_ C ae xs cI:=by
    intro xs;induction xs with
    |nil=>intro cI _;cases cI<;>rfl
    |cons x xs ih=>
     intro cI h;cases cI with
     |nil=>simp only[f_];rw[h x (by simp),ih [] fun y aj=>h y (List.mem_cons_of_mem _ aj)]
     |cons T cI=>simp only[f_];rw[h x (by simp),ih cI fun y aj=>h y (List.mem_cons_of_mem _ aj)]
   have HR:∀(xs ys:List Operand) (cI:List TypeId),(∀x,x∈xs->x∈ys)->∀o,o∈gv (f_ C st xs cI)->o∈nh st ys:=by
    intro xs ys;induction xs with
    |nil=>intro cI _ o a_;cases cI<;>cases a_
    |cons x xs ih=>
     intro cI h o a_;cases cI with
     |nil=>
      simp only[f_,gv,List.mem_append] at a_;rcases a_ with a_|a_
      ·exact xe (h x List.mem_cons_self) o a_
      ·exact ih [] (fun y aj=>h y (List.mem_cons_of_mem _ aj)) o a_
     |cons T cI=>
      simp only[f_,gv,List.mem_append] at a_;rcases a_ with a_|a_
      ·exact xe (h x List.mem_cons_self) o a_
      ·exact ih cI (fun y aj=>h y (List.mem_cons_of_mem _ aj)) o a_
   have h1:cc st ae (ep st (aO C st 0 f).names):=kR _ fun o a_=>xe (List.mem_append.2 (.inl (by simp))) o a_
   have h2:cc st ae (ep st (gv (f_ C st args.toList Ga.toList))):=kR _ fun o a_=>HR _ _ _ (fun x hx=>List.mem_append.2 (.inr hx)) o a_
   have Z:=he f (.inl rfl) 0;have aI:=em args.toList Ga.toList fun x hx=>he x (.inr hx)
   cases dst with
   |none=>show lf C 0 st _ _=lf C 0 ae _ _;rw[<-Z,<-aI];exact Ih hb h1 h2
   |some d=>show lf C d st _ _=lf C d ae _ _;rw[<-Z,<-aI];exact Ih hb h1 h2
  |builtin b=>
   simp only[List.nil_append] at he fJ;generalize args.toList=xs at he fJ;generalize Ga.toList=cU;cases b<;>try rfl
   case append=>
    rcases dst with _|o
    ·rfl
    rcases xs with _|⟨s,_|⟨x,_|_⟩⟩<;>try rfl
    rcases cU with _|⟨t,_|⟨u,_|_⟩⟩<;>try rfl
    have e1:=he s (by simp) t
    have e2:=he x (by simp) u
    dsimp only;cases C.tt t<;>try rfl
    cases C.tt u<;>try rfl
    all_goals dsimp only
    all_goals rw[<-e1,<-e2]
    all_goals first|(rw[UW (fJ x (by simp) _),Uy (fJ s (by simp) _) (fJ x (by simp) _) (Y o rfl),Uw (fJ s (by simp) _) (fJ x (by simp) _) (Y o rfl)];done)|exact Ux (fJ s (by simp) _) (Y o rfl)
   case len=>
    rcases xs with _|⟨s,_|⟨x,_|_⟩⟩<;>try rfl
    rcases cU with _|⟨t,_|⟨u,_|_⟩⟩<;>try rfl
    have e1:=he s (by simp) t
    dsimp only;rw[<-e1];exact Wv (fJ s (by simp) _)
   case max=>
    rcases xs with _|⟨s,_|⟨x,_|⟨z,_|⟨u,_|⟨v,_|_⟩⟩⟩⟩⟩<;>try rfl
    ·have e1:=he s (by simp) type
     have e2:=he x (by simp) type
     dsimp only;rw[<-e1,<-e2]
    ·have e1:=he s (by simp) type
     have e2:=he x (by simp) type
     have bI:=he z (by simp) type
     have dy:=he u (by simp) type
     have fw:=he v (by simp) type
     dsimp only;rw[<-e1,<-e2,<-bI,<-dy,<-fw]
   case min=>
    rcases xs with _|⟨s,_|⟨x,_|_⟩⟩<;>try rfl
    have e1:=he s (by simp) type
    have e2:=he x (by simp) type
    dsimp only;rw[<-e1,<-e2]
section
variable {P:Program}{L:World}{J:List Nat}{X:Nat->Prop}{B:Nat->Value}{st:ad}{tm:Array Value}{w:World}{D:Oper}
structure pr(w:World)(av:Nat->Prop)(B:Nat->Value)(o:Nat)(t:aG)(xs:List (den t))(k off:Nat)(x:den t)(u:aG)(ys:List (den u))(e:TypeId)(v0 nv:Value)(n1 n2 c1 c2:List Value):Prop where
 sT:B o=.tuple (v0::(n1++nv::n2)).toArray
 HH:(bA (B o)).Nodup
 row:rowAt w t.ek e (ar t) v0 xs.length (c1++nv::c2)
 len:c1.length=k*ar t+off
 d1:Deep w av (flat t (xs.take k)++(enc t x).take off) c1 n1
 mid:∃bY U,(∀d,d∈flat u ys->d.plain=true)/\rowAt w u.ek bY (ar u) nv ys.length U/\cf w av (flat u ys) U
 d2:Deep w av ((enc t x).drop (off+1)++flat t (xs.drop (k+1))) c2 n2
theorem af.abf(S:af L J X B st tm w){o s k off:Nat}{t u:aG}{xs:List (den t)}{x:den t}{ys:List (den u)}(hl:look st.sites o=some (.deep s t xs))(hx:xs[k]? =some x)(hu:(enc t x)[off]? =some (.sl u ys)):
  ∃e v0 nv n1 n2 c1 c2,pr w (an X B st.sites) B o t xs k off x u ys e v0 nv n1 n2 c1 c2:=by
 obtain⟨e,v0,aA,cs,h0,dx,cO,kR⟩:=S.sites o _ hl;have ag:k<xs.length:=(List.getElem?_eq_some_iff.1 hx).1;have aq:off<(enc t x).length:=(List.getElem?_eq_some_iff.1 hu).1;rw[e8] at aq;obtain⟨d0,Av,nB⟩:=MB (x:=x) aq;rw[hu] at Av;cases Av;have mL:flat t xs=(flat t (xs.take k)++(enc t x).take off)++(.sl u ys::((enc t x).drop (off+1)++flat t (xs.drop (k+1)))):=by
  rw[Cr t hx];conv=>lhs;rw[nB]
  simp only[List.append_assoc,List.cons_append]
 rw[mL] at kR;obtain⟨c1,Sl,n1,g4,rfl,rfl,d1,d23⟩:=kR.inv;have cV:c1.length=k*ar t+off:=by
  rw[d1.len,List.length_append,dP,List.length_take,List.length_take,e8,Nat.min_eq_left (Nat.le_of_lt ag),Nat.min_eq_left (Nat.le_of_lt aq)]
 cases d23 with
 |row bx mE bY U al h hr k'=>exact⟨e,v0,_,n1,_,c1,_,h0,dx,cO,cV,d1,⟨bY,U,al,h,hr⟩,k'⟩
 |leaf al h k'=>cases al
theorem pr.afb{av:Nat->Prop}{o:Nat}{t:aG}{xs:List (den t)}{k off:Nat}{x:den t}{u:aG}{ys:List (den u)}{e:TypeId}{v0 nv:Value}{n1 n2 c1 c2:List Value}(N:pr w av B o t xs k off x u ys e v0 nv n1 n2 c1 c2):
  (∀b,a8 nv=some b->b∈bA (B o))/\(∀b,a8 v0=some b->a8 nv≠some b)/\(∀n,n∈n1->∀b,a8 n=some b->a8 nv≠some b)/\∀n,n∈n2->∀b,a8 n=some b->a8 nv≠some b:=by
 have dx:=N.HH;rw[N.sT] at dx;simp only[bA,List.flatMap_cons,List.flatMap_append] at dx;obtain⟨a1,a2,gO⟩:=List.nodup_append.1 dx;obtain⟨aS,aJ,bM⟩:=List.nodup_append.1 a2;obtain⟨am7,am6,c3⟩:=List.nodup_append.1 aJ;refine⟨fun b hb=>by rw[N.sT];exact ij.2 (.inr ⟨nv,by simp,hb⟩),fun b hb hn=>?_,fun n hn b hb hv=>?_,fun n hn b hb hv=>?_⟩
 ·exact gO b (by rw[hb];simp) b (List.mem_append.2 (.inr (List.mem_append.2 (.inl (by rw[hn];simp))))) rfl
 ·exact bM b (List.mem_flatMap.2 ⟨n,hn,by rw[hb];simp⟩) b (List.mem_append.2 (.inl (by rw[hv];simp))) rfl
 ·exact c3 b (by rw[hv];simp) b (List.mem_flatMap.2 ⟨n,hn,by rw[hb];simp⟩) rfl
theorem Jg{C:Ctx}{D:Oper}{dO:Nat}{v:aK}(h:tV C st D=some (dO,v)):∃x,D.op=.move x/\D.dst=some dO/\D.guard=none/\Nat.blt dO st.nt=true/\v=aO C st D.type x:=by
 unfold tV at h;split at h
 ·rename_i x d aq Y hg;cases hb:Nat.blt d st.nt with
  |false=>rw[hb] at h;cases h
  |true=>
   rw[hb] at h;cases h;exact⟨x,aq,Y,hg,hb,rfl⟩
 ·cases h
theorem Bz{C:Ctx}{o1 fc o2:Oper}{q:pF}(h:rG C st o1 fc o2=some q):∃T a e ko aS c g x,o1.op=.load T a/\o1.dst=some q.d1/\o1.guard=none/\o2.op=.call c/\o2.guard=none/\C.tt T=.slice e ko aS/\aO C st T a=.av (.ai (.ej q.o q.s q.t q.k q.off))/\
  st.O q.o=some (.deep q.s q.t q.xs)/\c.callee=.value (.func g)/\c.args.toList=[.tmp q.d1,x]/\C.bF g=some q.S/\aO C (st.nu q) 0 x=.av (.ai (.d (.int q.i q.n)))/\Nat.blt q.d1 st.nt=true/\
  tV C (st.set q.d1 (bJ .any)) fc=some (q.dO,q.v)/\q.dO≠q.d1:=by
 unfold rG at h;split at h
 ·rename_i T a d1 c Al ja gn kd oQ;split at h
  ·rename_i o s u k off a5;split at h
   ·rename_i am t xs g d2 x M hc jv;split at h
    ·rename_i dO v hm;split at h
     ·rename_i e ko aS i n S aY hx gN;cases hb:(d2.beq d1&&am.beq s&&decide (t=u)&&Nat.blt d1 st.nt&&!dO.beq d1) with
      |false=>rw[hb] at h;cases h
      |true=>
       rw[hb] at h;simp only[cond_true,Option.some.injEq] at h;simp only[Bool.and_eq_true,decide_eq_true_eq,Bool.not_eq_true'] at hb;obtain⟨⟨⟨⟨q1,q2⟩,dG⟩,lZ⟩,qo⟩:=hb;have q1:=Nat.eq_of_beq_eq_true q1;have q2:=Nat.eq_of_beq_eq_true q2;subst q1 q2 dG h;exact⟨T,a,e,ko,aS,c,g,x,Al,ja,gn,kd,oQ,aY,a5,M,hc,jv,gN,hx,lZ,hm,fun e=>by
        have e:dO=_:=e;subst e;rw[Nat.beq_refl] at qo;cases qo⟩
     ·cases h
    ·cases h
   ·cases h
  ·cases h
 ·cases h
theorem _X(S:af L J X B st tm w){C:Ctx}{fc:Oper}{dO:Nat}{v:aK}(h:tV C st fc=some (dO,v)){K:Act->World->Prop}{Q:Exit->Act->World->Prop}
  (bn:∀de,af L J X B (st.set dO v) de w->(∀t,t≠dO->de.getD t undef=tm.getD t undef)->K ⟨de,[]⟩ w):fc.wp P ⟨tm,[]⟩ w K Q:=by
 obtain⟨x,aq,Y,hg,aW,rfl⟩:=Jg h;refine mc (vv:=Act.eval ⟨tm,[]⟩ x) ?_ (bn _ ?_ fun t aC=>?_)
 ·unfold execOp;simp only[aq,Sem.run_bind,Sem.run_pure]
 ·have lS:b1 st fc.dst=true:=by rw[Y];exact aW
  have:=af.cz (us:=[]) S lS (cS S C fc.type x);rw[Y] at this ⊢;exact this
 ·rw[Y];have:dO≠t:=fun e=>aC e.symm
  simp[ci,Array.getD_eq_getD_getElem?,Array.getElem?_setIfInBounds_ne this]
theorem Zq(S:af L J X B st tm w){C:Ctx}(ay:a9 P C){o1 fc o2:Oper}{q:pF}(aF:rG C st o1 fc o2=some q){x:den q.t}(hx:q.xs[q.k]? =some x){u:aG}{ys:List (den u)}(hu:(enc q.t x)[q.off]? =some (.sl u ys))
  {K:Act->World->Prop} {Q:Exit->Act->World->Prop}
  (bn:∀de,af L J X B (st.set q.d1 (bJ .any)) de w->(∀t,t≠q.d1->de.getD t undef=tm.getD t undef)->(∃e v0 n1 n2 c1 c2,pr w (an X B st.sites) B q.o q.t q.xs q.k q.off x u ys e v0 (de.getD q.d1 undef) n1 n2 c1 c2)->K ⟨de,[]⟩ w):o1.wp P ⟨tm,[]⟩ w K Q:=by
 obtain⟨T,a,l2,ko,aS,c,g,jL,Al,ja,gn,kd,oQ,aY,a5,M,hc,jv,gN,Gu,aW,p4,hne⟩:=Bz aF;have hl:look st.sites q.o=some (.deep q.s q.t q.xs):=M;obtain⟨e,v0,nv,n1,n2,c1,c2,N⟩:=S.abf hl hx hu;have bh:=cS S C T a;rw[a5] at bh;obtain⟨b,hv,hr⟩:=bh;obtain⟨n,als,bR⟩:=Ref.at hr hl rfl;rw[N.sT] at bR;replace bR:v0=.slice (some ⟨b,0,none⟩) n als:=bR
 have iQ:w.cell? ⟨b,q.k*ar q.t+q.off,none⟩=some nv:=by
  rcases N.row.2 with⟨h,_⟩|⟨cr,cap,cur,bv,h1,_,h2,_,_,_,Z⟩
  ·rw[h] at bR;cases bR
  ·rw[h1] at bR;cases bR;rw[cell_of_row w b _ cur e bv h2];have:(cur.toList.take (q.xs.length*ar q.t))[q.k*ar q.t+q.off]? =some nv:=by
    rw[Z,List.getElem?_append_right (by rw[N.len];exact Nat.le_refl _),N.len,Nat.sub_self]
    rfl
   rw[List.getElem?_take] at this;split at this
   ·simpa using this
   ·cases this
 have bE:=ay.tt T;rw[aY] at bE;have cG:=qA (P:=P) (w:=w) bE (by rintro h;cases h) ⟨b,q.k*ar q.t+q.off,none⟩ [nv] rfl (fun j y aj=>by
  match j,aj with
  |0,aj=>
   simp only[List.getElem?_cons_zero,Option.some.injEq] at aj;subst aj;rw[gh,Nat.add_zero];exact iQ)
 have aex:(ci tm o1.dst nv).getD q.d1 undef=nv:=by
  rw[ja];have:q.d1<tm.size:=by rw[S.nt];exact Nat.le_of_ble_eq_true aW
  simp[ci,Array.getD_eq_getD_getElem?,this]
 refine mc (vv:=nv) ?_ (bn _ ?_ (fun t aC=>?_) ?_)
 ·unfold execOp;simp only[Al,Instr.loadAt,Instr.sureAddr,hv,Sem.run_bind,Sem.run_pure,Result.andThen_ok,cG];rfl
 ·have Y:b1 st o1.dst=true:=by rw[ja];exact aW
  have:=af.cz (us:=[]) (v:=bJ .any) (vv:=nv) S Y trivial;rw[ja] at this ⊢;exact this
 ·rw[ja];have:q.d1≠t:=fun e=>aC e.symm
  simp[ci,Array.getD_eq_getD_getElem?,Array.getElem?_setIfInBounds_ne this]
 ·rw[aex];exact⟨e,v0,n1,n2,c1,c2,N⟩
theorem Zp{de:Array Value}{C:Ctx}(ay:a9 P C){o1 fc o2:Oper}{q:pF}(aF:rG C st o1 fc o2=some q)(S:af L J X B (st.nu q) de w){x:den q.t}(hx:q.xs[q.k]? =some x){u:aG}{ys:List (den u)}(hu:(enc q.t x)[q.off]? =some (.sl u ys))
  {e:TypeId} {v0:Value} {n1 n2 c1 c2:List Value} (N:pr w (an X B st.sites) B q.o q.t q.xs q.k q.off x u ys e v0 (de.getD q.d1 undef) n1 n2 c1 c2) {y:(q.S [.av (.ai (.fresh u ys)),.av (.ai (.d (.int q.i q.n)))]).H}
  (aj:(q.S [.av (.ai (.fresh u ys)),.av (.ai (.d (.int q.i q.n)))]).comp=some y) {d:aL} {bx:aG} {mE:List (den bx)} (h1:(q.S [.av (.ai (.fresh u ys)),.av (.ai (.d (.int q.i q.n)))]).eN y=[.ai (.d d)]) (h2:(q.S [.av (.ai (.fresh u ys)),.av (.ai (.d (.int q.i q.n)))]).dH y=[])
  (Z:(q.S [.av (.ai (.fresh u ys)),.av (.ai (.d (.int q.i q.n)))]).ew y=[.fresh bx mE]) {cT:den q.t} (d_:dec q.t (bd (enc q.t x) q.off [.sl bx mE])=some cT) (mL:d.hN=true) (fZ:bx.gS=false) (Y:b1 st o2.dst=true)
  {K:Act->World->Prop} {Q:Exit->Act->World->Prop}
  (bn:∀ax bO w',af L J X ax (((st.nu q).cz o2.dst (one d) [(q.o,.deep q.s q.t (q.xs.set q.k cT))])) bO w'->K ⟨bO,[]⟩ w'):o2.wp P ⟨de,[]⟩ w K Q:=by
 obtain⟨T,a,l2,ko,aS,c,g,jL,Al,ja,gn,kd,oQ,aY,a5,M,hc,jv,gN,Gu,aW,p4,hne⟩:=Bz aF;have hl:look (st.nu q).sites q.o=some (.deep q.s q.t q.xs):=M;obtain⟨nv,vq⟩:∃nv,de.getD q.d1 undef=nv:=⟨_,rfl⟩;rw[vq] at N;have N:pr w (an X B (st.nu q).sites) B q.o q.t q.xs q.k q.off x u ys e v0 nv n1 n2 c1 c2:=N;generalize zM:st.nu q=dK at S hl Gu N bn;have lS:b1 dK o2.dst=true:=by rw[<-zM];exact Y
 obtain⟨aB,ao,bj,b'⟩:=N.afb;have fB:bS dK.sites q.o:=⟨_,hl,rfl⟩;have ag:q.k<q.xs.length:=(List.getElem?_eq_some_iff.1 hx).1;have aq:q.off<ar q.t:=by
  have:=(List.getElem?_eq_some_iff.1 hu).1;rwa[e8] at this
 have oD:=cS S C 0 jL;rw[Gu] at oD;have aeL:Act.eval ⟨de,[]⟩ jL=.int q.i q.n:=by
  have oD:ba w _ (.int q.i q.n) (Act.eval ⟨de,[]⟩ jL):=oD;generalize Act.eval ⟨de,[]⟩ jL=v at oD;cases oD;rfl
 have hvs:c.args.toList.map (Act.eval ⟨de,[]⟩)=[nv,.int q.i q.n]:=by
  rw[jv];simp only[List.map_cons,List.map_nil,aeL];have:Act.eval ⟨de,[]⟩ (.tmp q.d1)=nv:=vq;rw[this]
 have cG:(execOp (Act.eval ⟨de,[]⟩) o2).run P w=(callFunc g #[nv,.int q.i q.n]).run P w:=by
  have hf:Act.eval ⟨de,[]⟩ (.func g)=.func (.func g) #[] #[]:=rfl;have qv:(#[]++c.args.map (Act.eval ⟨de,[]⟩))++#[]=#[nv,.int q.i q.n]:=by
   apply Array.ext';simpa using hvs
  unfold execOp;simp only[kd,resolve,hc,hf,Deferred.ofValue,Sem.run_bind,Sem.run_pure,Result.andThen_ok,invoke,qv]
 obtain⟨bY,U,k2,cO,dE⟩:=N.mid;obtain⟨cD,oU⟩:∃cD,(a8 nv).toList=cD:=⟨_,rfl⟩;have O6:∀b,b∈cD <-> a8 nv=some b:=fun b=>by rw[<-oU];simp
 obtain⟨X',mM⟩:∃X':Nat->Prop,∀b,X' b <-> (an X B dK.sites b/\b∉cD):=⟨_,fun b=>Iff.rfl⟩
 have L1:∀{av bN:Nat->Prop} {w:World} {t:aG} {fM:List (den t)} {vs:List Value},(∀d,d∈flat t fM->d.plain=true)->cf w av (flat t fM) vs->cf w bN (flat t fM) vs:=fun al hr=>⟨hr.1,fun j g1 g2=>by
  have nL:=al _ (List.getElem_mem g1);refine tp ?_ (hr.2 j g1 g2);generalize(flat _ _)[j]=v7 at nL ⊢;cases v7<;>first|rfl|cases nL⟩
 have _7:hX w (fun b=>X' b\/b∈cD) [.av (.ai (.fresh u ys)),.av (.ai (.d (.int q.i q.n)))] [nv,.int q.i q.n] cD:=
  ⟨cD,[],by simp,⟨oU.symm,bY,U,cO,L1 k2 dE⟩,[],[],rfl,⟨rfl,.int _ _⟩,rfl⟩
 have aeY:∀b,X' b->b<w.heap.size:=fun b hb=>S.lt ((mM b).1 hb).1
 have hG:hK w cD X':=by
  obtain⟨g1,g2⟩:=S.jP;refine⟨g1,fun b hb h=>?_,fun b hb h=>(g2 b hb).1 ((mM b).1 h).1,fun b hb=>(g2 b hb).2⟩
  exact(g2 b hb).1 (.inr ⟨q.o,fB,aB b ((O6 b).1 h)⟩)
 have E:=ay.bF g q.S gN _ y aj w X' [nv,.int q.i q.n] cD _7 (by rw[<-oU];cases a8 nv<;>simp) (fun b hb hx=>((mM b).1 hx).2 hb) aeY hG
 refine wW (vs:=[nv,.int q.i q.n]) cG E ?_
 rintro v w' ⟨dR,dm,rv,aQ,fN,hA,rfl,amB,hm⟩;obtain⟨gI,hq,rfl,hb1,hb2⟩:=fN;rw[h2] at hb1;rw[h1] at hA;rw[Z] at hb2;have mK:eW [.av (.ai (.fresh u ys)),.av (.ai (.d (.int q.i q.n)))] [nv,.int q.i q.n]=[nv]:=by
  simp only[eW,br.cells,fQ,au.qV,Bool.and_true,cond_false,cond_true,List.append_nil,Bool.true_and];exact BT (A6 cO)
 rw[mK] at hb2;have hb2:fU w' (fun b=>X' b\/b∈gI++hq++dm) [.fresh bx mE] [nv] hq:=hb2.resolve_left fun h=>by cases h.1
 obtain⟨h_,eU,hz,⟨u5,e2,ahP,acu,aeu⟩,amV⟩:=hb2;match rv,hA with
 |[v1],⟨a1,a2,amE,i_,GX⟩=>
 have i_:a1=[]/\ba w' _ d v1:=i_;have aiJ:au.gS (.d d)=false:=by cases d<;>first|rfl|cases mL
 have vm:∀av,ba w' av d v1:=fun av=>tp aiJ i_.2
 have zm:enc q.t cT=(enc q.t x).take q.off++.sl bx mE::(enc q.t x).drop (q.off+1):=by rw[nl _ _ _ d_,I_]
 have mA:flat q.t (q.xs.set q.k cT)=(flat q.t (q.xs.take q.k)++(enc q.t x).take q.off)++(.sl bx mE::((enc q.t x).drop (q.off+1)++flat q.t (q.xs.drop (q.k+1)))):=by
  rw[wV q.t ag,zm];simp only[List.append_assoc,List.cons_append]
 have zi:∀b,b<w.heap.size->a8 nv≠some b->w'.heap[b]? =w.heap[b]? :=fun b hb hn=>aQ.block b hb fun h=>hn ((O6 b).1 h)
 have zG:∀b,b∈bA (B q.o)->b<w.heap.size:=fun b hb=>S.dW fB hb
 have u0:∀n,n∈n1\/n∈n2->∀b,a8 n=some b->b∈bA (B q.o):=fun n hn b hb=>by
  rw[N.sT];exact ij.2 (.inr ⟨n,by simp only[List.mem_append,List.mem_cons];exact hn.imp id .inr,hb⟩)
 have G:=S.uJ (o:=q.o) (bw:=.deep q.s q.t (q.xs.set q.k cT)) (nv:=B q.o) (w':=w') (ks:=[]) (K:=[q.o]) .nil (fun F=>by simp[keys];intro e;subst e;exact fB)
  (fun b hb hne=>zi b hb fun h=>hne q.o (by simp) (aB b h)) aQ.os aQ.tape aQ.output aQ.size rfl (fun O M=>by rw[hl] at M;cases M;exact .inr ⟨rfl,rfl⟩)
  (fun b hb=>⟨Nat.lt_of_lt_of_le (zG b hb) aQ.size,.inl ⟨q.o,by simp,hb⟩⟩) (fun {bi ax} dI go=>?_)
 ·have EG:(fun F=>if F=q.o then B q.o else B F)=B:=by funext F;by_cases e:F=q.o<;>simp[e]
  rw[EG] at G;exact bn B _ w' (af.cz (us:=[(q.o,.deep q.s q.t (q.xs.set q.k cT))]) G lS (v:=one d) (vm _))
 ·have jb:∀{d v},ba w (an X B dK.sites) d v->ba _ (an X ax bi) d v:=js go;refine⟨e,v0,n1++nv::n2,c1++nv::c2,dI.trans N.sT,by rw[dI];exact N.HH,?_,?_⟩
  ·rw[List.length_set];refine pb N.row fun b hb=>zi b (zG b ?_) (ao b hb)
   rw[N.sT];exact ij.2 (.inl hb)
  ·rw[mA];refine(N.d1.map jb fun n hn b hb=>zi b (zG b (u0 n (.inl hn) b hb)) (bj n hn b hb)).cz (.row bx mE e2 ahP (Bj fZ) acu (L1 (Bj fZ) aeu) (N.d2.map jb fun n hn b hb=>zi b (zG b (u0 n (.inr hn) b hb)) (b' n hn b hb)))
end
def eo(r:Option Nat):Fence:={Fence.wide with round:=r}
abbrev fP(r:Option Nat)(P:Program)(c:Code)(Q:Exit->Act->World->Prop)(a:Act)(w:World):Prop:=c.wpIn (eo r) 0 P Q a w
theorem zz(r:Option Nat)(f:FuncId):(eo r).fn f:=trivial
theorem LL(r:Option Nat)(n:Nat):(eo r).room n:=fun _ h=>by simp[eo,Fence.wide] at h
theorem fP.any{r:Option Nat}{P:Program}{c:Code}{Q:Exit->Act->World->Prop}{a:Act}{w:World}(h:fP r P c Q a w)(n:Nat):c.wpIn (eo r) n P Q a w:=
 fun b k cs GH hb _=>h b k cs GH hb (LL r _)
theorem fP.of{r:Option Nat}{P:Program}{c:Code}{Q:Exit->Act->World->Prop}{a:Act}{w:World}{n:Nat}(h:c.wpIn (eo r) n P Q a w):fP r P c Q a w:=
 fun b k cs GH hb _=>h b k cs GH hb (LL r _)
theorem fP.wp{P:Program}{c:Code}{Q:Exit->Act->World->Prop}{a:Act}{w:World}(h:fP none P c Q a w):c.wp P Q a w:=(wpIn_wide (n:=0)).1 h
theorem WP{r:Option Nat}{n:Nat}{P:Program}{f:FuncId}{args:Array Value}{w:World}{R:Ending->World->Prop}(h:Calls P f args w R):CallsIn (eo r) n P f args w R:=by
 cases r with
 |none=>exact callsIn_wide.2 h
 |some l=>exact CallsIn.inRound l (callsIn_wide.2 h)
theorem XE{r:Option Nat}{n:Nat}{P:Program}{row:String}{args:Array Value}{w:World}{R:Value->World->Prop}(h:Rows P row args w R):RowsIn (eo r) n P row args w R:=by
 intro c cs _;obtain⟨v,w',hr,M⟩:=h c cs;exact⟨v,w',hr,stepsIn_wide.2 M⟩
theorem tq(tm:Array Value)(ds:List Deferred)(dst:Option Nat)(v:Value):(⟨tm,ds⟩:Act).put dst v=⟨ci tm dst v,ds⟩:=by cases dst<;>rfl
theorem rE{P:Program}{D:Oper}{tm:Array Value}{w:World}{K:Act->World->Prop}(bn:∀a w,K a w->a.defers=[])(h:D.wp P ⟨tm,[]⟩ w K (fun _ _ _=>False))(r:Option Nat)(ds:List Deferred){Q:Exit->Act->World->Prop}:
  D.wpIn (eo r) 0 P ⟨tm,ds⟩ w (fun fe w'=>∃v,fe=⟨ci tm D.dst v,ds⟩/\K ⟨ci tm D.dst v,[]⟩ w') Q:=by
 refine⟨fun f _=>zz r f,?_⟩
 have bh:(⟨tm,ds⟩:Act).eval=(⟨tm,[]⟩:Act).eval:=by funext x;cases x<;>rfl
 rw[bh];unfold Oper.wp at h;have Y:∀c,D.op≠.defer c:=by
  intro c aq;have:(execOp (Act.eval ⟨tm,[]⟩) D)=(do let d <-resolve (Act.eval ⟨tm,[]⟩) c D.type;pure (.defer d)):=by
   unfold execOp;simp only[aq]
  rw[this] at h;simp only[Sem.run_bind] at h;cases hr:(resolve (Act.eval ⟨tm,[]⟩) c D.type).run P w with
  |ok d w'=>
   rw[hr] at h;simp only[Result.andThen_ok,Sem.run_pure,Oper.upon] at h;have:=bn _ _ h;cases c_:D.dst<;>rw[c_] at this<;>simp[Act.put] at this
  |halt x w'=>
   rw[hr] at h;cases x<;>simp[Result.andThen,Oper.upon] at h
 rw[Oper.semAt_eq _ _ _ Y];generalize(execOp (Act.eval ⟨tm,[]⟩) D).run P w=eN at h;have al:∀v,(⟨tm,ds⟩:Act).put D.dst v=⟨ci tm D.dst v,ds⟩:=tq tm ds D.dst;have nK:∀v,(⟨tm,[]⟩:Act).put D.dst v=⟨ci tm D.dst v,[]⟩:=tq tm [] D.dst;cases eN with
 |ok x w'=>
  cases x with
  |value v=>simp only[Oper.upon,Oper.uponIn,nK] at h ⊢;exact⟨v,al v,h⟩
  |skip=>simp only[Oper.upon,Oper.uponIn,nK] at h ⊢;exact⟨undef,al _,h⟩
  |defer d=>
   simp only[Oper.upon] at h;have:=bn _ _ h;cases c_:D.dst<;>rw[c_] at this<;>simp[Act.put] at this
  |enter f args=>
   simp only[Oper.upon,Oper.uponIn] at h ⊢;refine⟨fun h=>by simp[eo,Fence.wide] at h,(WP h).mono fun e z2 he=>?_⟩
   cases e with
   |returned v=>simp only[nK] at he;exact⟨v,al v,he⟩
   |panicked c=>exact he.elim
   |outgrown=>obtain⟨anx,L,aF⟩:=he;exact aF.elim
  |row row args=>
   simp only[Oper.upon,Oper.uponIn] at h ⊢;refine⟨fun h=>by simp[eo,Fence.wide] at h,(XE h).mono fun v z2 he=>?_⟩
   simp only[nK] at he;exact⟨v,al v,he⟩
  |_=>simp only[Oper.upon] at h
 |halt x w'=>
  cases x<;>simp only[Oper.upon] at h
def hO:List Oper->List Nat
 |[]=>[]
 |D::r=>D.dst.toList++hO r
def gP:Nat:=1000000000
def cj:Code->List Nat
 |.region _ ops _=>hO ops.toList
 |.seq a b|.cond _ a b=>cj a++cj b
 |.block _ a|.loop a=>cj a
 |.rangeFunc _ ps a b=>gP::(ps.toList++(cj a++cj b))
 |_=>[]
def gx:Code->Bool
 |.seq a b|.cond _ a b=>gx a&&gx b
 |.block _ a|.loop a=>gx a
 |.rangeFunc _ _ _ _=>false
 |_=>true
def mark(aL:Nat):Deferred:={target:=.collected aL,args:=#[]}
structure hh(L:World)(J:List Nat)(X:Nat->Prop)(b0:World)(dl:List Nat)(cP:Nat->Prop):Prop where
 ct:∀w,Fr dl b0 w->Fr J L w
 b2:∀b,(b∈dl\/b0.heap.size<=b)->(b∈J\/L.heap.size<=b)
 x:∀b,X b->cP b
structure Marks(L:World)(dp:List Nat)(b0:World)(dl:List Nat)(cP:Nat->Prop):Prop where
 nodup:dp.Nodup
 new:∀aL,aL∈dp->L.heap.size<=aL
 gL:∀aL,aL∈dp->b0.heap[aL]? =some (.deferred (some []))/\aL∉dl/\cP aL
def ec(L:World)(J:List Nat)(X:Nat->Prop)(ds:List Deferred)(et:Array Value)(W:List Nat)(st:ad)(a:Act)(w:World):Prop:=
 ∃b0 dl cP B dp,hh L J X b0 dl cP/\Marks L dp b0 dl cP/\(a.defers=dp.map mark++ds/\(gP∉W->dp=[]))/\af b0 dl cP B st a.tmps w/\∀t,t∉W->a.tmps.getD t undef=et.getD t undef
def eX(L:World)(J:List Nat)(X:Nat->Prop)(ds:List Deferred)(et:Array Value)(W:List Nat):Out->Exit->Act->World->Prop
 |.norm st,.normal,a,w=>ec L J X ds et W st a w
 |.exit id st,.exit h9,a,w=>id=h9/\ec L J X ds et W st a w
 |.ret st,.ret,a,w=>ec L J X ds et W st a w
 |_,_,_,_=>False
theorem hh.refl(L:World)(J:List Nat)(X:Nat->Prop):hh L J X L J X:=⟨fun _ h=>h,fun _ h=>h,fun _ h=>h⟩
theorem hh.trans{L b0 w2:World}{J dl eE:List Nat}{X cP cu:Nat->Prop}(h:hh L J X b0 dl cP)(k:hh b0 dl cP w2 eE cu):hh L J X w2 eE cu:=
 ⟨fun w hw=>h.ct w (k.ct w hw),fun b hb=>h.b2 b (k.b2 b hb),fun b hb=>k.x b (h.x b hb)⟩
theorem Marks.nil(L b0:World)(J:List Nat)(X:Nat->Prop):Marks L [] b0 J X:=⟨List.nodup_nil,fun _ h=>by simp at h,fun _ h=>by simp at h⟩
theorem Marks.lt{L b0:World}{J:List Nat}{X:Nat->Prop}{dp:List Nat}(h:Marks L dp b0 J X){aL:Nat}(ez:aL∈dp):aL<b0.heap.size:=by
 have:=(h.gL aL ez).1;exact(Array.getElem?_eq_some_iff.1 this).1
theorem Marks.trans{L b0 w2:World}{J dl eE:List Nat}{X cP cu:Nat->Prop}{dp AI:List Nat}(hb:hh L J X b0 dl cP)(h:Marks L dp b0 dl cP)(k:hh b0 dl cP w2 eE cu)(m:Marks b0 AI w2 eE cu):
  Marks L (AI++dp) w2 eE cu:=by
 have hf:Fr dl b0 w2:=k.ct w2 (Fr.refl _ _);refine⟨List.nodup_append.2 ⟨m.nodup,h.nodup,fun a a5 b hb e=>?_⟩,fun aL ez=>?_,fun aL ez=>?_⟩
 ·subst e;have h1:=m.new a a5;have h2:=h.lt hb;omega
 ·rcases List.mem_append.1 ez with ez|ez
  ·have h1:=m.new aL ez;have h2:Fr J L b0:=hb.ct b0 (Fr.refl _ _);have:=h2.size;omega
  ·exact h.new aL ez
 ·rcases List.mem_append.1 ez with ez|ez
  ·exact m.gL aL ez
  ·obtain⟨h1,h2,Z⟩:=h.gL aL ez;have aW:=h.lt ez;refine⟨(hf.block aL aW h2).trans h1,fun aI=>?_,k.x aL Z⟩
   rcases k.b2 aL (.inl aI) with bp|bp
   ·exact h2 bp
   ·omega
section
variable {L:World}{J:List Nat}{X:Nat->Prop}{ds:List Deferred}{et:Array Value}{W:List Nat}
theorem ec.of{B:Nat->Value}{st:ad}{tm:Array Value}{w:World}(S:af L J X B st tm w)(aC:∀t,t∉W->tm.getD t undef=et.getD t undef):ec L J X ds et W st ⟨tm,ds⟩ w:=
 ⟨L,J,X,B,[],hh.refl _ _ _,Marks.nil _ _ _ _,⟨rfl,fun _=>rfl⟩,S,aC⟩
theorem ec.mono{cR:List Nat}(h:∀t,t∈W->t∈cR){st:ad}{a:Act}{w:World}(k:ec L J X ds et W st a w):ec L J X ds et cR st a w:=by
 obtain⟨b0,dl,cP,B,dp,h1,h2,Z,aI,bp⟩:=k;exact⟨b0,dl,cP,B,dp,h1,h2,⟨Z.1,fun hn=>Z.2 fun ab=>hn (h _ ab)⟩,aI,fun t aC=>bp t fun ab=>aC (h t ab)⟩
theorem eX.mono{cR:List Nat}(h:∀t,t∈W->t∈cR):∀{D:Out} {e:Exit} {a:Act} {w:World},eX L J X ds et W D e a w->eX L J X ds et cR D e a w:=by
 intro D e a w k;cases D<;>cases e<;>first|exact ec.mono h k|exact⟨k.1,ec.mono h k.2⟩|exact k.elim
theorem ec.trans{b0:World}{dl:List Nat}{cP:Nat->Prop}{dp:List Nat}{W1 iH:List Nat}{de:Array Value}(hb:hh L J X b0 dl cP)(hm:Marks L dp b0 dl cP)(hr:gP∉W1->dp=[])(aC:∀t,t∉W1->de.getD t undef=et.getD t undef)
  {st:ad} {a:Act} {w:World} (k:ec b0 dl cP (dp.map mark++ds) de iH st a w):ec L J X ds et (W1++iH) st a w:=by
 obtain⟨w2,eE,cu,B,AI,h1,h2,Z,aI,bp⟩:=k;refine⟨w2,eE,cu,B,AI++dp,hb.trans h1,hm.trans hb h1 h2,⟨by rw[Z.1,List.map_append,List.append_assoc],fun hn=>by
  simp only[List.mem_append,not_or] at hn;rw[Z.2 hn.2,hr hn.1];rfl⟩,aI,fun t GA=>?_⟩
 simp only[List.mem_append,not_or] at GA;rw[bp t GA.2,aC t GA.1]
theorem eX.trans{b0:World}{dl:List Nat}{cP:Nat->Prop}{dp:List Nat}{W1 iH:List Nat}{de:Array Value}(hb:hh L J X b0 dl cP)(hm:Marks L dp b0 dl cP)(hr:gP∉W1->dp=[])(aC:∀t,t∉W1->de.getD t undef=et.getD t undef)
  {D:Out} {e:Exit} {a:Act} {w:World} (k:eX b0 dl cP (dp.map mark++ds) de iH D e a w):eX L J X ds et (W1++iH) D e a w:=by
 cases D<;>cases e<;>first|exact ec.trans hb hm hr aC k|exact⟨k.1,ec.trans hb hm hr aC k.2⟩|exact k.elim
end
def bl(P:Program)(c:Code)(f:gG):Prop:=
 ∀r,r=none\/gx c=true->∀L J X st y,(f st).comp=some y->∀B tm w ds,af L J X B st tm w->fP r P c (eX L J X ds tm (cj c) ((f st).out y)) ⟨tm,ds⟩ w
def fV(P:Program)(C:gY):Code->Nat->Prop
 |.seq a b,p=>(∀f,C.nF p=some f->bl P (.seq a b) f)/\fV P C a (2*p)/\fV P C b (2*p+1)
 |.cond c a b,p=>(∀f,C.nF p=some f->bl P (.cond c a b) f)/\fV P C a (2*p)/\fV P C b (2*p+1)
 |.block id a,p=>(∀f,C.nF p=some f->bl P (.block id a) f)/\fV P C a (2*p)
 |c,p=>∀f,C.nF p=some f->bl P c f
def fD:Code->Nat->List (Nat×Code)
 |.seq a b,p=>(p,.seq a b)::(fD a (2*p)++fD b (2*p+1))
 |.cond c a b,p=>(p,.cond c a b)::(fD a (2*p)++fD b (2*p+1))
 |.block id a,p=>(p,.block id a)::fD a (2*p)
 |c,p=>[(p,c)]
theorem Lq{P:Program}{C:gY}:∀(c:Code) (p:Nat),(∀q fm,(q,fm)∈fD c p->∀f,C.nF q=some f->bl P fm f)->fV P C c p:=by
 intro c;induction c with
 |seq a b lG pT=>
  intro p h;simp only[fD] at h;exact⟨h p _ List.mem_cons_self,lG _ fun q fm hm=>h q fm (List.mem_cons_of_mem _ (List.mem_append.2 (.inl hm))),pT _ fun q fm hm=>h q fm (List.mem_cons_of_mem _ (List.mem_append.2 (.inr hm)))⟩
 |cond D a b lG pT=>
  intro p h;simp only[fD] at h;exact⟨h p _ List.mem_cons_self,lG _ fun q fm hm=>h q fm (List.mem_cons_of_mem _ (List.mem_append.2 (.inl hm))),pT _ fun q fm hm=>h q fm (List.mem_cons_of_mem _ (List.mem_append.2 (.inr hm)))⟩
 |block id a lG=>
  intro p h;simp only[fD] at h;exact⟨h p _ List.mem_cons_self,lG _ fun q fm hm=>h q fm (List.mem_cons_of_mem _ hm)⟩
 |_=>intro p h;exact h p _ (by simp[fD])
section
variable {P:Program}{L:World}{J:List Nat}{X:Nat->Prop}{B:Nat->Value}{st:ad}{tm:Array Value}{w:World}
theorem af.lh(S:af L J X B st tm w){t:Nat}{v:aK}(hv:b9 B st.sites w (an X B st.sites) v (tm.getD t undef)):af L J X B (st.set t v) tm w:=by
 refine⟨S.nt,fun u=>?_,S.sites,S.c',S.b2,S.frame,S.old,S.eQ⟩
 rw[ad.Ds];by_cases h:t=u
 ·subst h;simp only[if_true];exact hv
 ·simp only[h,if_false];exact S.cC u
variable {R:Type}{C:Ctx}{ops:Array Oper}
theorem JP(S:af L J X B st tm w)(ay:a9 P C){D:Oper}{K:ad->Option R}{r:R}(h:jX C st D K=some r){N:Act->World->Prop}{Q:Exit->Act->World->Prop}
  (bn:∀ae ax bO w',K ae=some r->af L J X ax ae bO w'->N ⟨bO,[]⟩ w'):D.wp P ⟨tm,[]⟩ w N Q:=by
 unfold jX at h;cases Y:b1 st D.dst with
 |false=>simp[Y] at h
 |true=>
  simp only[Y,cond_true] at h;have M:=_c S ay Y;cases hc:(step C st D).comp with
  |none=>simp[hc] at h
  |some y=>
   simp only[hc,Option.bind_some] at h;cases ag:(step C st D).qg y with
   |false=>simp[ag] at h
   |true=>
    simp only[ag,cond_true] at h;exact M y hc ag N Q fun ax bO w' bV=>bn _ ax bO w' h bV
theorem V_{T e:TypeId}(h:P.underlying T=some (.slice e))(a:Option Addr)(n c:Nat)(neg:Bool):
  (binOp (if neg then .neq else .eql) T (.slice a n c) (.slice none 0 0)).run P w=.ok (.bool (if neg then !a.isNone else a.isNone)) w:=by
 have e:(Op.equal T (.slice a n c) (.slice none 0 0)).run P w=.ok a.isNone w:=by
  have key:∀d:Nat,(Op.equalIn (d+1) T (.slice a n c) (.slice none 0 0)).run P w=.ok a.isNone w:=fun d=>by cases a<;>simp[Op.equalIn,run_underlying h]
  exact key 9999
 cases neg
 ·show((do pure (.bool (<-Op.equal T (.slice a n c) (.slice none 0 0)))):Sem Value).run P w=_
  simp only[Sem.run_bind,e,Result.andThen_ok,Sem.run_pure];rfl
 ·show((do pure (.bool (!(<-Op.equal T (.slice a n c) (.slice none 0 0))))):Sem Value).run P w=_
  simp only[Sem.run_bind,e,Result.andThen_ok,Sem.run_pure];rfl
theorem T0{op:BinOp}{T:TypeId}{x y:Operand}{a b:Option Addr}{n c k9 fm:Nat}:(eqGuard op T x y (.slice a n c) (.slice b k9 fm)).run P w=.ok () w:=by
 unfold eqGuard;cases op<;>rfl
theorem Wn{D:Oper}{t:aG}{xs:List (den t)}{neg:Bool}(h:D2 C st D=some (⟨t,xs⟩,neg)):∃T x mP e ty bytes,D.op=.binOp (if neg then .neq else .eql) T x (.const (.slice none 0 0)) mP/\C.tt T=.slice e ty bytes/\aO C st T x=.av (.ai (.d (.sl t xs))):=by
 unfold D2 at h;split at h
 ·rename_i op T x mP aq;split at h
  ·rename_i e ty bytes aY;split at h
   ·split at h
    ·rename_i bc hk hx;cases h;exact⟨T,x,mP,e,ty,bytes,aq,aY,hx⟩
    ·cases h
   ·split at h
    ·rename_i bc hk hx;cases h;exact⟨T,x,mP,e,ty,bytes,aq,aY,hx⟩
    ·cases h
   ·cases h
  ·cases h
 ·cases h
theorem Uf{t:aG}{xs:List (den t)}{a b:Option R}{r:R}(h:nb xs a b=some r):b=some r/\(xs=[]->a=some r):=by
 unfold nb at h;split at h
 ·rename_i R8;exact⟨h,fun he=>(R8 he).trans h⟩
 ·cases h
theorem Y5(S:af L J X B st tm w)(ay:a9 P C){D:Oper}{K:ad->Option R}{r:R}(h:ue C st D K=some r){N:Act->World->Prop}{Q:Exit->Act->World->Prop}
  (bn:∀ae ax bO w',K ae=some r->af L J X ax ae bO w'->N ⟨bO,[]⟩ w'):D.wp P ⟨tm,[]⟩ w N Q:=by
 unfold ue at h;split at h
 ·rename_i t xs neg hn;cases Y:b1 st D.dst with
  |false=>simp[Y] at h
  |true=>
   simp only[Y,cond_true] at h;obtain⟨h2,h1⟩:=Uf h;obtain⟨T,x,mP,e,ty,bytes,aq,aY,hx⟩:=Wn hn;have M:=cS S C T x;rw[hx] at M;have bE:=ay.tt T;rw[aY] at bE;have run:∀{a:Option Addr} {n c:Nat},Act.eval ⟨tm,[]⟩ x=.slice a n c->(execOp (Act.eval ⟨tm,[]⟩) D).run P w=.ok (.value (.bool (if neg then !a.isNone else a.isNone))) w:=by
    intro a n c hv;unfold execOp;have hc:Act.eval ⟨tm,[]⟩ (.const (.slice none 0 0))=.slice none 0 0:=rfl;simp only[aq,hv,hc,Sem.run_bind,T0,V_ bE.1.1,Result.andThen_ok,Sem.run_pure]
   have fin:∀b:Bool,(execOp (Act.eval ⟨tm,[]⟩) D).run P w=.ok (.value (.bool b)) w->K (st.cz D.dst (one (.bool b)) [])=some r->D.wp P ⟨tm,[]⟩ w N Q:=by
    intro b hr ag;refine mc hr (bn _ _ _ _ ag (af.cz (us:=[]) S Y ?_));exact ba.bool b
   have M:ba w (an X B st.sites) (.sl t xs) (Act.eval ⟨tm,[]⟩ x):=M;generalize h4:Act.eval ⟨tm,[]⟩ x=v at M;cases M with
   |nil=>
    have:=run h4;cases neg
    ·exact fin true this (h1 rfl)
    ·exact fin false this (h1 rfl)
   |sl t xs a cap cs n e4 hcap hb hl hc hr=>
    have:=run h4;cases neg
    ·exact fin false this h2
    ·exact fin true this h2
 ·exact JP S ay h bn
theorem Xy(S:af L J X B st tm w){D:Oper}{K:ad->Option R}{r:R}(h:rf st D K=some r){N:Act->World->Prop}
  (bn:∀ae ax bO w',K ae=some r->af L J X ax ae bO w'->N ⟨bO,[]⟩ w'):N ((⟨tm,[]⟩:Act).put D.dst undef) w:=by
 unfold rf at h;cases Y:b1 st D.dst with
 |false=>simp[Y] at h
 |true=>
  simp only[Y,cond_true] at h;have:(⟨tm,[]⟩:Act).put D.dst undef=⟨ci tm D.dst undef,[]⟩:=by cases D.dst<;>rfl
  rw[this];exact bn _ _ _ _ h (af.cz (us:=[]) S Y rfl)
theorem g9{tm:Array Value}{dst:Option Nat}{v:Value}{t:Nat}(h:t∉dst.toList):(ci tm dst v).getD t undef=tm.getD t undef:=by
 cases dst with
 |none=>rfl
 |some d=>
  have:d≠t:=fun e=>h (by simp[e])
  simp[ci,Array.getD_eq_getD_getElem?,Array.getElem?_setIfInBounds_ne this]
variable {rn:Option Nat}{ds:List Deferred}
theorem B7(S:af L J X B st tm w)(ay:a9 P C){D:Oper}{K:ad->Option R}{r:R}(h:ue C st D K=some r){N:Act->World->Prop}{Q:Exit->Act->World->Prop}
  (bn:∀ae ax bO w',K ae=some r->af L J X ax ae bO w'->(∀t,t∉D.dst.toList->bO.getD t undef=tm.getD t undef)->N ⟨bO,ds⟩ w'):D.wpIn (eo rn) 0 P ⟨tm,ds⟩ w N Q:=by
 refine Oper.wpIn_mono ?_ (rE (K:=fun a w=>a.defers=[]/\∃ae ax,K ae=some r/\af L J X ax ae a.tmps w) (fun _ _ h=>h.1) (Y5 S ay h fun ae ax bO w' ag bV=>⟨rfl,ae,ax,ag,bV⟩) rn ds)
 rintro a w' ⟨v,rfl,_,ae,ax,ag,bV⟩;exact bn ae ax _ w' ag bV fun t aC=>g9 aC
theorem m_(S:af L J X B st tm w)(ay:a9 P C){D:Oper}{K:ad->Option R}{r:R}(h:jX C st D K=some r){N:Act->World->Prop}{Q:Exit->Act->World->Prop}
  (bn:∀ae ax bO w',K ae=some r->af L J X ax ae bO w'->(∀t,t∉D.dst.toList->bO.getD t undef=tm.getD t undef)->N ⟨bO,ds⟩ w'):D.wpIn (eo rn) 0 P ⟨tm,ds⟩ w N Q:=by
 refine Oper.wpIn_mono ?_ (rE (K:=fun a w=>a.defers=[]/\∃ae ax,K ae=some r/\af L J X ax ae a.tmps w) (fun _ _ h=>h.1) (JP S ay h fun ae ax bO w' ag bV=>⟨rfl,ae,ax,ag,bV⟩) rn ds)
 rintro a w' ⟨v,rfl,_,ae,ax,ag,bV⟩;exact bn ae ax _ w' ag bV fun t aC=>g9 aC
theorem wA(S:af L J X B st tm w){D:Oper}{K:ad->Option R}{r:R}(h:rf st D K=some r){N:Act->World->Prop}
  (bn:∀ae ax bO w',K ae=some r->af L J X ax ae bO w'->(∀t,t∉D.dst.toList->bO.getD t undef=tm.getD t undef)->N ⟨bO,ds⟩ w'):N ((⟨tm,ds⟩:Act).put D.dst undef) w:=by
 rw[tq];refine Xy (N:=fun a w=>∀t0,a.tmps=t0->t0=ci tm D.dst undef->N ⟨t0,ds⟩ w) S h (fun ae ax bO w' ag bV t0 e1 e2=>?_) (ci tm D.dst undef) (by rw[tq]) rfl
 subst e1;exact bn ae ax _ w' ag bV fun t aC=>by have e2:bO=ci tm D.dst undef:=e2;rw[e2];exact g9 aC
theorem Vo{D:Oper}{r:List Oper}{K:ad->Option R}{y:R}(h:mg C ops (D::r) st K=some y):tJ C ops st D (fun ae=>mg C ops r ae K)=some y\/
  ∃fc o2 r2 q,r=fc::o2::r2/\rG C st D fc o2=some q/\Lt st o2 q (fun ae=>mg C ops r2 ae K)=some y:=by
 match r,h with
 |[],h=>exact .inl h
 |[o2],h=>exact .inl h
 |fc::o2::r2,h=>
  simp only[mg] at h;split at h
  ·rename_i q aF;exact .inr ⟨fc,o2,r2,q,rfl,aF,h⟩
  ·exact .inl h
theorem XD(ay:a9 P C){r:R}{W:List Nat}:∀(n k:Nat),ops.size=k+n->(∀D,D∈ops.toList.drop k->∀t,t∈D.dst.toList->t∈W)->∀(st:ad) (B:Nat->Value) (tm:Array Value) (w:World) (K:ad->Option R) (Q:Exit->Act->World->Prop),af L J X B st tm w->
  mg C ops (ops.toList.drop k) st K=some r->(∀ae ax bO w',K ae=some r->af L J X ax ae bO w'->(∀t,t∉W->bO.getD t undef=tm.getD t undef)->Q .normal ⟨bO,ds⟩ w')->wpOpsIn (eo rn) 0 P ops Q (List.range' k n) ⟨tm,ds⟩ w:=by
 intro n;induction n using Nat.strongRecOn with
 |ind n ih=>
 intro k ag hW st B tm w K Q S h bn;match n,ih,ag with
 |0,ih,ag=>
  rw[List.drop_eq_nil_of_le (by simp;omega)] at h
  exact bn st B tm w h S fun _ _=>rfl
 |n+1,ih,ag=>
  have aW:k<ops.size:=by omega
  have aq:ops[k]? =some ops[k]:=Array.getElem?_eq_getElem aW;have EJ:ops.toList.drop k=ops[k]::ops.toList.drop (k+1):=by
   rw[List.drop_eq_getElem_cons (by simpa using aW)];simp
  rw[EJ] at h hW;rw[show List.range' k (n+1)=k::List.range' (k+1) n from rfl]
  simp only[wpOpsIn,aq];rcases Vo h with h|⟨fc,o2,r2,q,vl,aF,h⟩
  rotate_left
  ·-- three at amr
   have iU:k+1<ops.size/\k+2<ops.size:=by
    have:=congrArg List.length vl;simp at this;omega
   have kd:ops[k+1]? =some (ops[k+1]'iU.1):=Array.getElem?_eq_getElem iU.1;have RT:ops[k+2]? =some (ops[k+2]'iU.2):=Array.getElem?_eq_getElem iU.2;have abm:ops.toList.drop (k+1)=(ops[k+1]'iU.1)::(ops[k+2]'iU.2)::ops.toList.drop (k+3):=by
    rw[List.drop_eq_getElem_cons (by simpa using iU.1),List.drop_eq_getElem_cons (by simpa using iU.2)];simp
   rw[abm] at vl hW;obtain⟨e1,aik⟩:=List.cons.inj vl;obtain⟨e2,bI⟩:=List.cons.inj aik;subst e1 e2 bI;obtain⟨k9,rfl⟩:∃k9,n=k9+2:=⟨n-2,by omega⟩
   have AA:=hW _ List.mem_cons_self;have R9:=hW _ (List.mem_cons_of_mem _ List.mem_cons_self);have Pt:=hW _ (List.mem_cons_of_mem _ (List.mem_cons_of_mem _ List.mem_cons_self));have vI:=fun D aq=>hW D (List.mem_cons_of_mem _ (List.mem_cons_of_mem _ (List.mem_cons_of_mem _ aq)))
   generalize(ops[k+1]'iU.1)=fc at aF R9 kd;generalize(ops[k+2]'iU.2)=o2 at h aF Pt RT;generalize ops[k]=D at aF AA ⊢;obtain⟨_,_,_,_,_,_,_,_,_,ja,gn,_,oQ,_,_,_,_,_,_,_,_,p4,hne⟩:=Bz aF;obtain⟨_,_,amY,aiE,_,_⟩:=Jg p4;rw[if_pos (by simp[Region.wanted,gn])]
   obtain⟨x,hx,h⟩:=Option.bind_eq_some_iff.1 h;split at h
   ·rename_i u ys hu;obtain⟨y,aj,h⟩:=Option.bind_eq_some_iff.1 h;unfold Nb at h;split at h
    ·rename_i d bx mE h1 h2 Z;split at h
     ·rename_i cT d_;cases hb:(d.hN&&!bx.gS&&b1 st o2.dst) with
      |false=>rw[hb] at h;cases h
      |true=>
       rw[hb] at h;simp only[cond_true] at h;simp only[Bool.and_eq_true,Bool.not_eq_true'] at hb;obtain⟨⟨aS,aJ⟩,bM⟩:=hb;refine Oper.wpIn_mono ?_ (rE (K:=fun a b0=>a.defers=[]/\b0=w/\af L J X B (st.set q.d1 (bJ .any)) a.tmps w/\(∀t,t≠q.d1->a.tmps.getD t undef=tm.getD t undef)/\
        ∃e v0 n1 n2 c1 c2,pr w (an X B st.sites) B q.o q.t q.xs q.k q.off x u ys e v0 (a.tmps.getD q.d1 undef) n1 n2 c1 c2) (fun _ _ h=>h.1) (Zq S ay aF hx hu fun de q1 q2 dG=>⟨rfl,rfl,q1,q2,dG⟩) rn ds)
       rintro a b0 ⟨v,rfl,_,rfl,cZ,kept,e,v0,n1,n2,c1,c2,N⟩;rw[show List.range' (k+1) (k9+2)=(k+1)::(k+2)::List.range' (k+3) k9 from rfl]
       simp only[wpOpsIn,kd,RT];rw[if_pos (by simp[Region.wanted,aiE])]
       refine Oper.wpIn_mono ?_ (rE (K:=fun a w2=>a.defers=[]/\w2=b0/\af L J X B (st.nu q) a.tmps b0/\(∀t,t≠q.dO->a.tmps.getD t undef=(ci tm D.dst v).getD t undef)) (fun _ _ h=>h.1) (_X cZ p4 fun de q1 q2=>⟨rfl,rfl,q1,q2⟩) rn ds)
       rintro a w2 ⟨v1,rfl,_,rfl,ajH,aco⟩;rw[if_pos (by simp[Region.wanted,oQ])]
       rw[<-aco q.d1 (fun e=>hne e.symm)] at N
       refine Oper.wpIn_mono ?_ (rE (K:=fun a b0=>a.defers=[]/\∃ax,af L J X ax (((st.nu q).cz o2.dst (one d) [(q.o,.deep q.s q.t (q.xs.set q.k cT))])) a.tmps b0) (fun _ _ h=>h.1)
        (Zp ay aF ajH hx hu N aj h1 h2 Z d_ aS aJ bM fun ax bO w' bV=>⟨rfl,ax,bV⟩) rn ds)
       rintro a ia ⟨v2,rfl,_,ax,fO⟩;refine ih k9 (by omega) (k+3) (by omega) vI _ ax _ ia K Q fO h fun pR fH mF akY hR ig vh=>bn pR fH mF akY hR ig fun t pX=>?_
       rw[vh t pX,g9 fun ab=>pX (Pt t ab),g9 fun ab=>pX (R9 t ab)]
       exact g9 fun ab=>pX (AA t ab)
     ·cases h
    ·cases h
   ·cases h
  have AA:=hW _ List.mem_cons_self;have vI:=fun D aq=>hW D (List.mem_cons_of_mem _ aq)
  have next:∀ae ax bO w',mg C ops (ops.toList.drop (k+1)) ae K=some r->af L J X ax ae bO w'->(∀t,t∉(ops[k]).dst.toList->bO.getD t undef=tm.getD t undef)->wpOpsIn (eo rn) 0 P ops Q (List.range' (k+1) n) ⟨bO,ds⟩ w':=
   fun ae ax bO w' ab bV aC=>ih n (by omega) (k+1) (by omega) vI ae ax bO w' K Q bV ab fun pR fH mF w2 hR fO vh=>bn pR fH mF w2 hR fO fun t pX=>(vh t pX).trans (aC t fun ab=>pX (AA t ab))
  generalize ops[k]=D at h next ⊢
  have nY:∀f,D.about P w (Act.eval ⟨tm,ds⟩)=some f->(eo rn).fn f:=fun f _=>zz rn f
  unfold tJ at h;cases hg:D.guard with
  |none=>
   simp only[hg] at h;rw[if_pos (by simp[Region.wanted,hg])]
   exact B7 S ay h next
  |some HL=>
   obtain⟨j,want⟩:=HL;simp only[hg] at h;have hw:Region.wanted D (yielded ops tm)=(yielded ops tm j==some want):=by simp[Region.wanted,hg]
   cases hj:(ops[j]?).bind (·.dst) with
   |none=>simp[hj] at h
   |some t=>
    simp only[hj] at h;have is:=S.cC t;split at h
    ·rename_i b hb;rw[hb] at is;have hv:=iL is;have aj:yielded ops tm j=some b:=by
      have aC:t<tm.size:=by
       rcases Nat.lt_or_ge t tm.size with ab|ab
       ·exact ab
       ·simp[Array.getD,Nat.not_lt.2 ab,undef] at hv
      have:tm[t]? =some (.bool b):=by
       rw[Array.getElem?_eq_getElem aC];simpa[Array.getD,aC] using hv
      simp[yielded,hj,this]
     rw[aj] at hw;have go:∀a6,b=a6->af L J X B (st.set t (one (.bool a6))) tm w:=fun a6 e=>S.lh (by rw[hv,e];exact .bool _)
     cases b<;>cases want<;>simp only[cond_true,cond_false,Bool.not_true,Bool.not_false] at h
     ·rw[if_pos (by rw[hw];rfl)];exact B7 (go false rfl) ay h next
     ·rw[if_neg (by rw[hw];decide)];exact⟨nY,wA (go false rfl) h next⟩
     ·rw[if_neg (by rw[hw];decide)];exact⟨nY,wA (go true rfl) h next⟩
     ·rw[if_pos (by rw[hw];rfl)];exact B7 (go true rfl) ay h next
    ·rename_i x hb;rw[hb] at is;have hv:tm.getD t undef=.tuple x:=is;have aj:yielded ops tm j=none:=by
      simp only[yielded,hj,Option.bind_some];cases aC:tm[t]? with
      |none=>rfl
      |some v=>
       have:tm.getD t undef=v:=by simp[Array.getD_eq_getD_getElem?,aC]
       rw[this] at hv;rw[hv]
     rw[aj] at hw;rw[if_neg (by rw[hw];simp)]
     exact⟨nY,wA S h next⟩
    ·cases h
end
abbrev n4:=Nat⊕Nat
def dk(st:ad):n4->aK⊕Option Site
 |.inl t=>.inl (st.get t)
 |.inr o=>.inr (st.O o)
def nd{aE:Type}:List (Nat×aE)->Nat->Option aE
 |[],_=>none
 |(k,v)::r,n=>match nd r n with
  |some x=>some x
  |none=>bif k.beq n then some v else none
def Rec.wr(x:Rec):n4->Option (aK⊕Option Site)
 |.inl t=>match x.D.dst with
  |some d=>bif d.beq t then some (.inl x.v) else none
  |none=>none
 |.inr o=>(nd x.us o).map fun s=>.inr (some s)
theorem Xm:∀(us:List (Nat×Site)) (st:ad) (o:Nat),(st.ha us).O o=match nd us o with|some s=>some s|none=>st.O o:=by
 intro us;induction us with
 |nil=>intro st o;rfl
 |cons p us ih=>
  obtain⟨k,s⟩:=p;intro st o;simp only[ad.ha,ih,nd];cases nd us o with
  |some x=>rfl
  |none=>
   simp only[ad.l6];by_cases h:k=o
   ·subst h;simp
   ·simp[h,iW h]
theorem Kl:∀(us:List (Nat×Site)) (st:ad) (t:Nat),(st.ha us).get t=st.get t:=by
 intro us;induction us with
 |nil=>intro st t;rfl
 |cons p us ih=>intro st t;simp only[ad.ha,ih,ad.VF]
theorem K3:∀(us:List (Nat×Site)) (st:ad),(st.ha us).nt=st.nt:=by
 intro us;induction us with
 |nil=>intro st;rfl
 |cons p us ih=>intro st;simp only[ad.ha,ih,ad.Wm]
theorem Ev(st:ad)(d:Option Nat)(v:aK)(us:List (Nat×Site)):(st.cz d v us).nt=st.nt:=by
 cases d<;>simp only[ad.cz,ad.abe,K3]
theorem wY(st:ad)(x:Rec)(l:n4):dk (st.cz x.D.dst x.v x.us) l=match x.wr l with|some u=>u|none=>dk st l:=by
 cases l with
 |inl t=>
  simp only[dk,Rec.wr];cases x.D.dst with
  |none=>simp only[ad.cz,Kl]
  |some d=>
   simp only[ad.cz,ad.Ds,Kl];by_cases h:d=t
   ·subst h;simp
   ·simp[h,iW h]
 |inr o=>
  simp only[dk,Rec.wr];have:(st.cz x.D.dst x.v x.us).O o=(st.ha x.us).O o:=by cases x.D.dst<;>simp only[ad.cz,ad.Y2]
  rw[this,Xm];cases nd x.us o<;>rfl
def dX(ap:Nat->Bool):Nat->List Rec->ad->ad
 |_,[],st=>st
 |k,x::r,st=>dX ap (k+1) r (bif ap k then st.cz x.D.dst x.v x.us else st)
theorem Cv{ap:Nat->Bool}:∀{xs:List Rec} {k:Nat} {st:ad},(dX ap k xs st).nt=st.nt:=by
 intro xs;induction xs with
 |nil=>intro k st;rfl
 |cons x xs ih=>intro k st;simp only[dX,ih];cases ap k<;>simp[Ev]
theorem Bl{ap L':Nat->Bool}:∀{xs:List Rec} {k:Nat} {st ae:ad} {l:n4},dk st l=dk ae l->(∀j x,xs[j]? =some x->x.wr l≠none->ap (k+j)=L' (k+j))->dk (dX ap k xs st) l=dk (dX L' k xs ae) l:=by
 intro xs;induction xs with
 |nil=>intro k st ae l h _;exact h
 |cons x xs ih=>
  intro k st ae l h eb;simp only[dX];refine ih ?_ fun j y aj hw=>?_
  ·cases hw:x.wr l with
   |none=>
    have e1:∀s:ad,dk (s.cz x.D.dst x.v x.us) l=dk s l:=fun s=>by rw[wY,hw]
    cases ap k<;>cases L' k<;>simp only[cond_true,cond_false,e1,h]
   |some u=>
    have:=eb 0 x rfl (by rw[hw];intro h;cases h)
    simp only[Nat.add_zero] at this;rw[this];cases L' k with
    |true=>simp only[cond_true,wY,hw]
    |false=>simp only[cond_false,h]
  ·have:=eb (j+1) y (by simpa using aj) hw
   rw[show k+(j+1)=k+1+j from by omega] at this
   exact this
theorem Bm{xs:List Rec}:∀{k:Nat} {st:ad} {ap:Nat->Bool},(∀j,k<=j->ap j=false)->dX ap k xs st=st:=by
 induction xs with
 |nil=>intro k st ap _;rfl
 |cons x xs ih=>
  intro k st ap h;simp only[dX,h k (Nat.le_refl _),cond_false];exact ih fun j hj=>h j (by omega)
theorem IZ{ap L':Nat->Bool}:∀{xs:List Rec} {k k':Nat} {st:ad},(∀j,j<xs.length->ap (k+j)=L' (k'+j))->dX ap k xs st=dX L' k' xs st:=by
 intro xs;induction xs with
 |nil=>intro k k' st _;rfl
 |cons x xs ih=>
  intro k k' st h;simp only[dX];have h0:=h 0 (by simp)
  simp only[Nat.add_zero] at h0;rw[h0];exact ih fun j hj=>by have:=h (j+1) (by simpa using hj);rw[show k+(j+1)=k+1+j from by omega,show k'+(j+1)=k'+1+j from by omega] at this;exact this
theorem WS{ap:Nat->Bool}:∀{xs:List Rec} {k i:Nat} {st:ad} {l:n4} {x:Rec} {u:aK⊕Option Site},xs[i]? =some x->ap (k+i)=true->x.wr l=some u->
  (∀j y,i<j->xs[j]? =some y->y.wr l≠none->ap (k+j)=false)->dk (dX ap k xs st) l=u:=by
 intro xs;induction xs with
 |nil=>intro k i st l x u h;cases h
 |cons y xs ih=>
  intro k i st l x u h eb hw hj;simp only[dX];cases i with
  |zero=>
   simp only[List.getElem?_cons_zero,Option.some.injEq] at h;subst h;simp only[Nat.add_zero] at eb;rw[eb];simp only[cond_true];have e:dk (st.cz y.D.dst y.v y.us) l=u:=by rw[wY,hw]
   rw[<-e];have e2:st.cz y.D.dst y.v y.us=dX (fun _=>false) (k+1) xs (st.cz y.D.dst y.v y.us):=(Bm fun _ _=>rfl).symm
   conv=>rhs;rw[e2]
   refine Bl rfl fun j z hz Gv=>?_
   have:=hj (j+1) z (by omega) (by simpa using hz) Gv
   rw[show k+(j+1)=k+1+j from by omega] at this
   exact this
  |succ i=>
   refine ih (by simpa using h) (by rw[show k+1+i=k+(i+1) from by omega];exact eb) hw fun j z hij hz Gv=>?_
   have:=hj (j+1) z (by omega) (by simpa using hz) Gv
   rw[show k+(j+1)=k+1+j from by omega] at this
   exact this
section
variable {P:Program}{ops:Array Oper}
def zZ(ops:Array Oper)(ap:Nat->Bool)(i:Nat):Prop:=∀D,ops[i]? =some D->∀e,e∈D.after.toList->Region.binds .any e=true->ap e.on=true
def zd(ops:Array Oper)(ap:Nat->Bool):Prop:=∀j,ap j=true->zZ ops ap j
def sO(ops:Array Oper)(k i:Nat):Prop:=∀ap,zd ops ap->zZ ops ap i->ap k=true
theorem Ly{aE:Type}{l:List (Nat×aE)}{n:Nat}{v:aE}(h:look l n=some v):(n,v)∈l:=by
 induction l with
 |nil=>cases h
 |cons p l ih=>
  obtain⟨m,u⟩:=p;simp only[look] at h;cases hb:m.beq n with
  |true=>
   simp only[hb,cond_true,Option.some.injEq] at h;rw[<-Nat.eq_of_beq_eq_true hb,h];exact List.mem_cons_self
  |false=>simp only[hb,cond_false] at h;exact List.mem_cons_of_mem _ (ih h)
theorem Z0{a7:List (Nat×Rec×List Nat)}(a5:∀k x b,(k,x,b)∈a7->∀m,m∈b->sO ops m k){i:Nat}:∀{es:List Edge} {m:Nat},m∈lo a7 es->∀ap,zd ops ap->
  (∀e,e∈es->Region.binds .any e=true->ap e.on=true)->ap m=true:=by
 intro es;induction es with
 |nil=>intro m h;cases h
 |cons e es ih=>
  intro m h ap hc hf;simp only[lo] at h;cases hb:Region.binds .any e with
  |false=>
   simp only[hb,cond_false] at h;exact ih h ap hc fun bY lR=>hf bY (List.mem_cons_of_mem _ lR)
  |true=>
   simp only[hb,cond_true] at h;have h0:=hf e List.mem_cons_self hb;split at h
   ·rename_i x hx;rcases List.mem_cons.1 h with rfl|h
    ·exact h0
    ·rcases List.mem_append.1 h with h|h
     ·have hm:(e.on,x)∈a7:=Ly hx;obtain⟨ql,jL⟩:=x;exact a5 _ _ _ hm m h ap hc (hc _ h0)
     ·exact ih h ap hc fun bY lR=>hf bY (List.mem_cons_of_mem _ lR)
   ·exact ih h ap hc fun bY lR=>hf bY (List.mem_cons_of_mem _ lR)
structure rU(C:Ctx)(ops:Array Oper)(st:ad)(D:Oper)(x:Rec):Prop where
 gL:x.D=D
 guard:∀j want,D.guard=some (j,want)->∃t,(ops[j]?).bind (·.dst)=some t/\t∈x.kr/\((∃b,st.get t=one (.bool b)/\(x.go=(b==want)))\/((∃u,st.get t=bJ (.cx (.tuple u)))/\x.go=false))
 free:D.guard=none->x.go=true
 skip:x.go=false->x.v=yo/\x.us=[]
 run:x.go=true->∃y,(step C st D).comp=some y/\(step C st D).qg y=true/\x.v=(step C st D).val y/\x.us=(step C st D).us y/\(∀t,t∈oa (kO D.op)->t∈x.kr)/\(∀o,o∈EM C st D->o∈x.rn)/\(yM D.op=true->x.AE=true)
inductive ky(C:Ctx)(ops:Array Oper):List Oper->Nat->List (Nat×Rec×List Nat)->ad->List Rec->ad->Prop where
 |nil {i a7 st}:ky C ops [] i a7 st [] st
 |cons {D r i a7 st x xs ae} (Y:b1 st D.dst=true) (he:q6 i D.after.toList=true) (hx:rU C ops st D x) (ag:ri (lo a7 D.after.toList) x a7=true)
   (h:ky C ops r (i+1) ((i,x,lo a7 D.after.toList)::a7) (st.cz D.dst x.v x.us) xs ae):ky C ops (D::r) i a7 st (x::xs) ae
theorem X7{R:Type}{g:Bool}{v:aK}{K:aK->Option R}{r:R}(h:Ff g v K=some r):K v=some r:=by
 unfold Ff at h;cases g with
 |false=>exact h
 |true=>
  simp only[cond_true] at h;split at h
  ·rename_i b;cases b<;>exact h
  ·exact h
theorem VJ{R:Type}{C:Ctx}{g:Bool}{st:ad}{D:Oper}{K:Rec->Option R}{r:R}(h:Et C ops g st D K=some r):∃x,rU C ops st D x/\K x=some r:=by
 have run:∀gs,yj C g st D gs K=some r->(∀j want,D.guard=some (j,want)->∃t,(ops[j]?).bind (·.dst)=some t/\t∈gs/\∃b,st.get t=one (.bool b)/\(b==want)=true)->∃x,rU C ops st D x/\K x=some r:=by
  intro gs h hg;unfold yj at h;obtain⟨y,aj,h⟩:=Option.bind_eq_some_iff.1 h;cases hc:(step C st D).qg y with
  |false=>simp[hc] at h
  |true=>
   simp only[hc,cond_true] at h;refine⟨_,⟨rfl,fun j want hj=>?_,fun _=>rfl,fun h=>(by cases h),fun _=>⟨y,aj,hc,rfl,rfl,fun t aC=>List.mem_append.2 (.inr aC),fun _ h=>h,fun h=>h⟩⟩,X7 h⟩
   obtain⟨t,h1,h2,b,Z,aI⟩:=hg j want hj;exact⟨t,h1,List.mem_append.2 (.inl h2),.inl ⟨b,Z,aI.symm⟩⟩
 have skip:∀gs,Ct D gs K=some r->(∃j want,D.guard=some (j,want)/\∃t,(ops[j]?).bind (·.dst)=some t/\t∈gs/\((∃b,st.get t=one (.bool b)/\(b==want)=false)\/∃u,st.get t=bJ (.cx (.tuple u))))->∃x,rU C ops st D x/\K x=some r:=by
  intro gs h hg;obtain⟨j,want,hj,t,h1,h2,Z⟩:=hg;refine⟨_,⟨rfl,fun TB al9 i'=>?_,fun h=>(by rw[hj] at h;cases h),fun _=>⟨rfl,rfl⟩,fun h=>(by cases h)⟩,h⟩
  rw[hj] at i';cases i';refine⟨t,h1,h2,?_⟩;rcases Z with⟨b,Z,aI⟩|Z
  ·exact .inl ⟨b,Z,aI.symm⟩
  ·exact .inr ⟨Z,rfl⟩
 unfold Et at h;split at h
 ·rename_i hg;exact run [] h fun j want hj=>by rw[hg] at hj;cases hj
 ·rename_i j want hg;split at h
  ·rename_i t aC;split at h
   ·rename_i b hb;cases b<;>cases want<;>simp only[cond_true,cond_false,Bool.not_true,Bool.not_false] at h
    ·exact run [t] h fun TB w' i'=>by rw[hg] at i';cases i';exact⟨t,aC,List.mem_singleton.2 rfl,false,hb,rfl⟩
    ·exact skip [t] h ⟨j,true,hg,t,aC,List.mem_singleton.2 rfl,.inl ⟨false,hb,rfl⟩⟩
    ·exact skip [t] h ⟨j,false,hg,t,aC,List.mem_singleton.2 rfl,.inl ⟨true,hb,rfl⟩⟩
    ·exact run [t] h fun TB w' i'=>by rw[hg] at i';cases i';exact⟨t,aC,List.mem_singleton.2 rfl,true,hb,rfl⟩
   ·rename_i u hu;exact skip [t] h ⟨j,want,hg,t,aC,List.mem_singleton.2 rfl,.inr ⟨u,hu⟩⟩
   ·cases h
  ·cases h
theorem Yl{R:Type}{C:Ctx}{K:ad->Option R}{r:R}:∀{os:List Oper} {i:Nat} {a7:List (Nat×Rec×List Nat)} {st:ad},za C ops os i a7 st K=some r->∃xs ae,ky C ops os i a7 st xs ae/\K ae=some r:=by
 intro os;induction os with
 |nil=>intro i a7 st h;exact⟨[],st,.nil,h⟩
 |cons D os ih=>
  intro i a7 st h;simp only[za] at h;cases Y:b1 st D.dst&&q6 i D.after.toList with
  |false=>simp[Y] at h
  |true=>
   simp only[Y,cond_true] at h;obtain⟨x,hx,h⟩:=VJ h;cases ag:ri (lo a7 D.after.toList) x a7 with
   |false=>simp[ag] at h
   |true=>
    simp only[ag,cond_true] at h;obtain⟨xs,ae,h1,h2⟩:=ih h;simp only[Bool.and_eq_true] at Y;exact⟨x::xs,ae,.cons Y.1 Y.2 hx ag h1,h2⟩
theorem ky.length{C:Ctx}{os:List Oper}{i:Nat}{a7:List (Nat×Rec×List Nat)}{st ae:ad}{xs:List Rec}(h:ky C ops os i a7 st xs ae):xs.length=os.length:=by
 induction h with
 |nil=>rfl
 |cons _ _ _ _ _ ih=>simp[ih]
theorem ky.ae3{C:Ctx}{os:List Oper}{i:Nat}{a7:List (Nat×Rec×List Nat)}{st ae:ad}{xs:List Rec}(h:ky C ops os i a7 st xs ae):∀k,dX (fun _=>true) k xs st=ae:=by
 induction h with
 |nil=>intro k;rfl
 |cons _ _ hx _ _ ih=>intro k;simp only[dX,cond_true,hx.gL];exact ih _
theorem ky.at_{C:Ctx}{os:List Oper}{i:Nat}{a7:List (Nat×Rec×List Nat)}{st ae:ad}{xs:List Rec}(h:ky C ops os i a7 st xs ae):∀j x,xs[j]? =some x->
  ∃D,os[j]? =some D/\b1 st D.dst=true/\q6 (i+j) D.after.toList=true/\rU C ops (dX (fun k=>decide (k<j)) 0 xs st) D x:=by
 induction h with
 |nil=>intro j x h;cases h
 |@cons D r i a7 st x xs ae Y he hx ag h ih=>
  intro j y aj;cases j with
  |zero=>
   simp only[List.getElem?_cons_zero,Option.some.injEq] at aj;subst aj;refine⟨D,rfl,Y,he,?_⟩;rw[Bm fun j _=>by simp[Nat.blt]]
   exact hx
  |succ j=>
   obtain⟨cY,h1,h2,Z,aI⟩:=ih j y (by simpa using aj)
   refine⟨cY,by simpa using h1,?_,by rw[show i+(j+1)=i+1+j from by omega];exact Z,?_⟩
   ·revert h2;cases cY.dst<;>simp[b1,Ev]
   ·simp only[dX];have l2:decide (0<j+1)=true:=by simp
    rw[l2,cond_true,hx.gL];rw[IZ (L':=fun k=>decide (k<j)) (k':=0) fun m _=>by simp only[decide_eq_decide];omega]
    exact aI
theorem JS{n:Nat}{l:List Nat}:fE n l=true <-> n∈l:=by
 induction l with
 |nil=>simp[fE]
 |cons m l ih=>
  simp only[fE,Bool.or_eq_true,ih,List.mem_cons];constructor
  ·rintro(h|h)
   ·exact .inl (Nat.eq_of_beq_eq_true h)
   ·exact .inr h
  ·rintro(h|h)
   ·exact .inl (by rw[h];exact Nat.beq_refl m)
   ·exact .inr h
theorem Wl{vN:List Nat}{x:Rec}:∀{a7:List (Nat×Rec×List Nat)},ri vN x a7=true->∀k y b,(k,y,b)∈a7->k∈vN\/lv y x=false:=by
 intro a7;induction a7 with
 |nil=>intro _ k y b h;cases h
 |cons p a7 ih=>
  obtain⟨j,z,anu⟩:=p;intro h k y b hm;simp only[ri,Bool.and_eq_true,Bool.or_eq_true] at h;rcases List.mem_cons.1 hm with hm|hm
  ·cases hm;rcases h.1 with h1|h1
   ·exact .inl (JS.1 h1)
   ·exact .inr (by simpa using h1)
  ·exact ih h.2 k y b hm
theorem ky.ahA{C:Ctx}{os:List Oper}{i:Nat}{a7:List (Nat×Rec×List Nat)}{st ae:ad}{xs:List Rec}(h:ky C ops os i a7 st xs ae):∀(pre:List Rec),pre.length=i->(∀j,ops[i+j]? =os[j]?)->
  (∀k y,pre[k]? =some y->∃b,(k,y,b)∈a7)->(∀k x b,(k,x,b)∈a7->∀m,m∈b->sO ops m k)->∀j x,xs[j]? =some x->∀k y,k<i+j->(pre++xs)[k]? =some y->sO ops k (i+j)\/lv y x=false:=by
 induction h with
 |nil=>intro pre _ _ _ _ j x h;cases h
 |@cons D r i a7 st x xs ae Y he hx ag h ih=>
  intro pre hlen Pg Pf Ps j y aj k z aix hz;have Pq:∀m,m∈lo a7 D.after.toList->sO ops m i:=fun m hm ap hc hf=>by
   refine Z0 Ps (i:=i) hm ap hc fun e he hb=>hf D ?_ e he hb
   have:=Pg 0;simpa using this
  cases j with
  |zero=>
   simp only[List.getElem?_cons_zero,Option.some.injEq] at aj;subst aj;simp only[Nat.add_zero] at aix ⊢;rw[List.getElem?_append_left (by omega)] at hz
   obtain⟨b,hb⟩:=Pf k z hz;rcases Wl ag k z b hb with h1|h1
   ·exact .inl (Pq k h1)
   ·exact .inr h1
  |succ j=>
   have:=ih (pre++[x]) (by simp[hlen]) (fun j=>by have:=Pg (j+1);rw[show i+1+j=i+(j+1) from by omega];simpa using this)
    (fun k y aj=>?_) (fun k cT b hm m RU=>?_) j y (by simpa using aj) k z (by omega) (by simpa using hz)
   ·rw[show i+(j+1)=i+1+j from by omega];exact this
   ·rcases Nat.lt_or_ge k pre.length with ab|ab
    ·rw[List.getElem?_append_left ab] at aj;obtain⟨b,hb⟩:=Pf k y aj;exact⟨b,List.mem_cons_of_mem _ hb⟩
    ·rw[List.getElem?_append_right ab] at aj;have h0:k-pre.length=0:=by
      rcases Nat.eq_zero_or_pos (k-pre.length) with h0|h0
      ·exact h0
      ·rw[List.getElem?_eq_none (by simp;omega)] at aj;cases aj
     rw[h0] at aj;simp only[List.getElem?_cons_zero,Option.some.injEq] at aj;subst aj;have:k=i:=by omega
     subst this;exact⟨_,List.mem_cons_self⟩
   ·rcases List.mem_cons.1 hm with hm|hm
    ·cases hm;exact Pq m RU
    ·exact Ps k cT b hm m RU
end
section
variable {P:Program}{L:World}{J:List Nat}{X:Nat->Prop}{B:Nat->Value}{st ae:ad}{tm:Array Value}{w:World}
theorem af.same(S:af L J X B st tm w)(hv:∀l,dk st l=dk ae l)(hn:st.nt=ae.nt):af L J X B ae tm w:=by
 have M:∀o,look st.sites o=look ae.sites o:=fun o=>by have:=hv (.inr o);simpa[dk,ad.O] using this
 have hg:∀t,st.get t=ae.get t:=fun t=>by have:=hv (.inl t);simpa[dk] using this
 have hl:∀o,bS st.sites o <-> bS ae.sites o:=fun o=>by unfold bS;rw[M]
 have a5:an X B ae.sites=an X B st.sites:=by
  funext b
  unfold an;simp only[hl]
 have G:gB B B st.sites ae.sites w w (an X B st.sites) (an X B ae.sites):=by
  rw[a5];exact⟨fun o O h=>⟨O,by rw[<-M];exact h,Nat.le_refl _,fun _=>rfl⟩,fun _ _ _=>rfl,fun _ h _=>h⟩
 have aW:∀b,an X B ae.sites b->b<w.heap.size:=fun b hb=>S.lt (by rw[<-a5];exact hb)
 refine⟨S.nt.trans hn,fun t=>?_,fun o O h=>?_,fun o F b h1 h2=>S.c' o F b ((hl o).2 h1) ((hl F).2 h2),fun o b h=>S.b2 o b ((hl o).2 h),S.frame,S.old,S.eQ⟩
 ·rw[<-hg];exact(S.cC t).goes G (Nat.le_refl _) aW
 ·exact(S.sites o O (by rw[M];exact h)).goes G (Nat.le_refl _) aW rfl (fun _ _ _=>rfl)
theorem af.drawn(S:af L J X B st tm w)(n:Nat):af L J X B st tm {w with drawn:=n}:=by
 have G:gB B B st.sites st.sites w {w with drawn:=n} (an X B st.sites) (an X B st.sites):=
  ⟨fun o O h=>⟨O,h,Nat.le_refl _,fun _=>rfl⟩,fun _ _ _=>rfl,fun _ h _=>h⟩
 refine⟨S.nt,fun t=>(S.cC t).goes G (Nat.le_refl _) fun b hb=>S.lt hb,fun o O h=>(S.sites o O h).goes G (Nat.le_refl _) (fun b hb=>S.lt hb) rfl (fun _ _ _=>rfl),S.c',S.b2,⟨S.frame.os,S.frame.tape,S.frame.output,S.frame.size,S.frame.block⟩,S.old,S.eQ⟩
theorem Up{aE:Type}:∀{us:List (Nat×aE)} {o:Nat} {s:aE},nd us o=some s->o∈keys us:=by
 intro us;induction us with
 |nil=>intro o s h;cases h
 |cons p us ih=>
  obtain⟨k,v⟩:=p;intro o s h;simp only[nd] at h;split at h
  ·rename_i x hx;exact List.mem_cons_of_mem _ (ih hx)
  ·cases hb:k.beq o with
   |true=>rw[<-Nat.eq_of_beq_eq_true hb];exact List.mem_cons_self
   |false=>simp[hb] at h
theorem BA{n:Nat}{l:List Nat}:fE n l=true <-> n∈l:=JS
theorem qK{l m:List Nat}{n:Nat}(h1:n∈l)(h2:n∈m):eL l m=false:=by
 induction l with
 |nil=>cases h1
 |cons k l ih=>
  simp only[eL];rcases List.mem_cons.1 h1 with rfl|h1
  ·rw[BA.2 h2];rfl
  ·rw[ih h1,Bool.and_false]
theorem Js{l:List Nat}{n:Nat}(h1:n∈l)(h2:1000000<=n):tZ l=true:=by
 induction l with
 |nil=>cases h1
 |cons k l ih=>
  simp only[tZ,Bool.or_eq_true];rcases List.mem_cons.1 h1 with rfl|h1
  ·exact .inl (Nat.ble_eq_true_of_le h2)
  ·exact .inr (ih h1)
def Rec.at_(x:Rec):n4->Prop
 |.inl t=>t∈x.kr
 |.inr o=>o∈x.rn\/(x.AE=true/\1000000<=o)
theorem yn{x:Rec}{t:Nat}(h:x.wr (.inl t)≠none):x.D.dst=some t:=by
 simp only[Rec.wr] at h;split at h
 ·rename_i d Y;cases hb:d.beq t with
  |true=>rw[Y,Nat.eq_of_beq_eq_true hb]
  |false=>simp[hb] at h
 ·exact absurd rfl h
theorem ym{x:Rec}{o:Nat}(h:x.wr (.inr o)≠none):o∈keys x.us:=by
 simp only[Rec.wr] at h;cases hl:nd x.us o with
 |none=>simp[hl] at h
 |some s=>exact Up hl
theorem _5{a b:Rec}{l:n4}(h1:a.wr l≠none)(h2:b.at_ l):lv a b=true:=by
 unfold lv;cases l with
 |inl t=>
  have:=yn h1;have h2:t∈b.kr:=h2;simp[this,r6,BA.2 h2]
 |inr o=>
  have:=ym h1;rcases h2 with h2|⟨h2,Z⟩
  ·have:eL (keys a.us) (b.rn++keys b.us)=false:=qK this (List.mem_append.2 (.inl h2));simp[this]
  ·have:=Js this Z;simp[this,h2]
theorem _6{a b:Rec}{l:n4}(h1:a.at_ l)(h2:b.wr l≠none):lv a b=true:=by
 unfold lv;cases l with
 |inl t=>
  have:=yn h2;have h1:t∈a.kr:=h1;simp[this,r6,BA.2 h1]
 |inr o=>
  have:=ym h2;rcases h1 with h2|⟨h2,Z⟩
  ·have:eL (keys b.us) a.rn=false:=qK this h2;simp[this]
  ·have:=Js this Z;simp[this,h2]
theorem _4{a b:Rec}{l:n4}(h1:a.wr l≠none)(h2:b.wr l≠none):lv a b=true:=by
 unfold lv;cases l with
 |inl t=>
  have e1:=yn h1;have e2:=yn h2;simp[e1,e2,r6,fE]
 |inr o=>
  have e1:=ym h1;have e2:=ym h2;have:eL (keys a.us) (b.rn++keys b.us)=false:=qK e1 (List.mem_append.2 (.inr e2));simp[this]
variable {C:Ctx}{ops:Array Oper}{rn:Option Nat}{ds:List Deferred}
def nC(ap:Nat->Bool)(i:Nat):Nat->Bool:=fun j=>ap j||decide (j=i)
theorem Yk(ay:a9 P C){xs:List Rec}{bf:ad}{i:Nat}{D:Oper}{x:Rec}(hx:xs[i]? =some x)(Y:b1 bf D.dst=true)(hr:rU C ops (dX (fun k=>decide (k<i)) 0 xs bf) D x)
  (lu:∀j y,xs[j]? =some y->∀k z,k<j->xs[k]? =some z->sO ops k j\/lv z y=false) {ap:Nat->Bool} (hc:zd ops ap) (hi:ap i=false) (hf:zZ ops ap i) (aip:ops[i]? =some D)
  (S:af L J X B (dX ap 0 xs bf) tm w) {Q:Exit->Act->World->Prop} {K:Act->World->Prop} (bn:∀ax bO w',af L J X ax (dX (nC ap i) 0 xs bf) bO w'->(∀t,t∉D.dst.toList->bO.getD t undef=tm.getD t undef)->K ⟨bO,ds⟩ w'):wpOpIn (eo rn) 0 P ops Q i K ⟨tm,ds⟩ w:=by
 have Gd:∀l,x.at_ l->dk (dX (fun k=>decide (k<i)) 0 xs bf) l=dk (dX ap 0 xs bf) l:=fun l hl=>by
  refine(Bl rfl fun j y aj hw=>?_).symm
  simp only[Nat.zero_add];rcases Nat.lt_trichotomy j i with h|h|h
  ·rcases lu i x hx j y h aj with h1|h1
   ·rw[h1 ap hc hf];simp[h]
   ·rw[_5 hw hl] at h1;cases h1
  ·subst h;rw[hi];simp
  ·have:ap j=false:=by
    cases qb:ap j with
    |false=>rfl
    |true=>
     rcases lu j y aj i x h hx with h1|h1
     ·have:=h1 ap hc (hc j qb);rw[hi] at this;cases this
     ·rw[_6 hl hw] at h1;cases h1
   rw[this];simp;omega
 have N0:∀t,t∈x.kr->(dX (fun k=>decide (k<i)) 0 xs bf).get t=(dX ap 0 xs bf).get t:=fun t aC=>by
  have:=Gd (.inl t) aC;simpa[dk] using this
 have zh:∀l,dk ((dX ap 0 xs bf).cz x.D.dst x.v x.us) l=dk (dX (nC ap i) 0 xs bf) l:=fun l=>by
  rw[wY];cases hw:x.wr l with
  |none=>
   simp only;refine Bl rfl fun j y aj Gw=>?_
   simp only[Nat.zero_add,nC];by_cases h:j=i
   ·subst h;rw[hx] at aj;cases aj;exact absurd hw Gw
   ·simp[h]
  |some u=>
   simp only;refine(WS hx (by simp[nC]) hw fun j y hij aj Gw=>?_).symm
   simp only[Nat.zero_add,nC];have:ap j=false:=by
    cases qb:ap j with
    |false=>rfl
    |true=>
     rcases lu j y aj i x hij hx with h1|h1
     ·have:=h1 ap hc (hc j qb);rw[hi] at this;cases this
     ·rw[_4 (by rw[hw];intro h;cases h) Gw] at h1;cases h1
   rw[this];simp;omega
 have R6:b1 (dX ap 0 xs bf) D.dst=true:=by revert Y;cases D.dst<;>simp[b1,Cv]
 have fin:∀ax bO w',af L J X ax ((dX ap 0 xs bf).cz x.D.dst x.v x.us) bO w'->(∀t,t∉D.dst.toList->bO.getD t undef=tm.getD t undef)->K ⟨bO,ds⟩ w':=fun ax bO w' bV=>bn ax bO w' (bV.same zh (by rw[Ev,Cv,Cv]))
 unfold wpOpIn;rw[aip];simp only;have zj:Region.wanted D (yielded ops tm)=x.go:=by
  cases hg:D.guard with
  |none=>rw[hr.free hg];simp[Region.wanted,hg]
  |some HL=>
   obtain⟨j,want⟩:=HL;obtain⟨t,h1,h2,Z⟩:=hr.guard j want hg;rw[show Region.wanted D (yielded ops tm)=(yielded ops tm j==some want) by simp[Region.wanted,hg]]
   have is:=S.cC t;rw[<-N0 t h2] at is;rcases Z with⟨b,Z,aI⟩|⟨⟨u,Z⟩,aI⟩
   ·rw[Z] at is;have hv:=iL is;have aj:yielded ops tm j=some b:=by
     have aC:t<tm.size:=by
      rcases Nat.lt_or_ge t tm.size with ab|ab
      ·exact ab
      ·simp[Array.getD,Nat.not_lt.2 ab,undef] at hv
     have:tm[t]? =some (.bool b):=by
      rw[Array.getElem?_eq_getElem aC];simpa[Array.getD,aC] using hv
     simp[yielded,h1,this]
    rw[aj,aI];cases b<;>cases want<;>rfl
   ·rw[Z] at is;have hv:tm.getD t undef=.tuple u:=is;have aj:yielded ops tm j=none:=by
     simp only[yielded,h1,Option.bind_some];cases aC:tm[t]? with
     |none=>rfl
     |some v=>
      have:tm.getD t undef=v:=by simp[Array.getD_eq_getD_getElem?,aC]
      rw[this] at hv;rw[hv]
    rw[aj,aI];rfl
 cases sH:x.go with
 |false=>
  rw[sH] at zj;rw[if_neg (by rw[zj];decide)]
  obtain⟨e1,e2⟩:=hr.skip sH;refine⟨fun f _=>zz rn f,wA (R:=ad) (r:=(dX ap 0 xs bf).cz D.dst yo []) S (K:=some) (by simp[rf,R6]) fun dK fI de b0 h1 cZ=>?_⟩
  cases h1;refine fin fI de b0 ?_
  rw[hr.gL,e1,e2];exact cZ
 |true=>
  rw[sH] at zj;rw[if_pos zj];obtain⟨y,g1,g2,g3,eF,nV,v5,v4⟩:=hr.run sH;have c9:step C (dX (fun k=>decide (k<i)) 0 xs bf) D=step C (dX ap 0 xs bf) D:=by
   refine V5 (fun t aC=>N0 t (nV t aC)) (fun o a_=>?_) fun acC o a_=>?_
   ·have:=Gd (.inr o) (.inl (v5 o a_));simpa[dk] using this
   ·have:=Gd (.inr o) (.inr ⟨v4 acC,a_⟩);simpa[dk] using this
  revert y
  rw[c9];intro y g1 g2 g3 eF;refine m_ (R:=ad) (r:=(dX ap 0 xs bf).cz D.dst x.v x.us) S ay (K:=some) ?_ fun dK fI de b0 h1 cZ=>?_
  ·unfold jX;rw[R6,cond_true,g1];simp only[Option.bind_some,g2,cond_true,g3,eF]
  ·cases h1;refine fin fI de b0 ?_
   rw[hr.gL];exact cZ
def uT(listed:Array Bool):Nat:=listed.toList.count false
def gi(listed:Array Bool):Nat->Bool:=fun j=>listed.getD j false
theorem Z'{listed:Array Bool}{i:Nat}(h:listed.getD i true=false):uT (listed.setIfInBounds i true)+1=uT listed:=by
 unfold uT;have aW:i<listed.size:=by
  rcases Nat.lt_or_ge i listed.size with ab|ab
  ·exact ab
  ·simp[Array.getD,Nat.not_lt.2 ab] at h
 have hv:listed.toList[i]'(by simpa using aW)=false:=by simpa[Array.getD,aW] using h
 rw[Array.toList_setIfInBounds,List.count_set (by simpa using aW)]
 rw[hv];have:0<listed.toList.count false:=List.count_pos_iff.2 (by rw[<-hv];exact List.getElem_mem _)
 have e1:(if(false==false)=true then 1 else 0)=1:=rfl
 have e2:(if(true==false)=true then 1 else 0)=0:=rfl
 rw[e1,e2];omega
theorem J6{D:Oper}{t:Nat}:∀{l:List Oper},D∈l->t∈D.dst.toList->t∈hO l:=by
 intro l;induction l with
 |nil=>intro h;cases h
 |cons p l ih=>
  intro h aC;simp only[hO,List.mem_append];rcases List.mem_cons.1 h with rfl|h
  ·exact .inl aC
  ·exact .inr (ih h aC)
theorem ZP(ay:a9 P C){bf z6:ad}{xs:List Rec}(aY:ky C ops ops.toList 0 [] bf xs z6){Q:Exit->Act->World->Prop}{et:Array Value}(AP:∀B tm w,af L J X B z6 tm w->(∀t,t∉hO ops.toList->tm.getD t undef=et.getD t undef)->Q .normal ⟨tm,ds⟩ w):
  ∀(oE:Nat) (listed:Array Bool) (B:Nat->Value) (tm:Array Value) (w:World),listed.size=ops.size->uT listed<=oE->zd ops (gi listed)->af L J X B (dX (gi listed) 0 xs bf) tm w->
   (∀t,t∉hO ops.toList->tm.getD t undef=et.getD t undef)->wpAnyIn (eo rn) 0 P .any ops Q oE listed ⟨tm,ds⟩ w:=by
 have hlen:xs.length=ops.size:=by rw[aY.length];simp
 have lu:∀j y,xs[j]? =some y->∀k z,k<j->xs[k]? =some z->sO ops k j\/lv z y=false:=fun j y aj k z ag hz=>by
  have:=aY.ahA [] rfl (fun j=>by simp) (fun k y h=>by simp at h) (fun k x b h=>by simp at h) j y aj k z (by omega) (by simpa using hz)
  simpa using this
 have all:∀listed:Array Bool,listed.size=ops.size->(∀j,j<ops.size->gi listed j=true)->∀B tm w,af L J X B (dX (gi listed) 0 xs bf) tm w->(∀t,t∉hO ops.toList->tm.getD t undef=et.getD t undef)->Q .normal ⟨tm,ds⟩ w:=fun listed M hl B tm w S aC=>by
  refine AP B tm w ?_ aC;rw[<-aY.ae3 0];rw[IZ (L':=gi listed) (k':=0) fun j hj=>by simp only[Nat.zero_add];rw[hl j (by omega)]]
  exact S
 have done:∀listed:Array Bool,listed.size=ops.size->Region.ready .any ops listed=[]->∀j,j<ops.size->gi listed j=true:=fun listed M hr j=>by
  induction j using Nat.strongRecOn with
  |_ j ih=>
   intro hj;cases qb:gi listed j with
   |true=>rfl
   |false=>
    exfalso
    have hx:xs[j]? =some (xs[j]'(by omega)):=List.getElem?_eq_getElem _
    obtain⟨D,h1,_,Z,_⟩:=aY.at_ j _ hx;have h1:ops[j]? =some D:=by simpa using h1
    have hm:j∈Region.ready .any ops listed:=by
     rw[mem_ready];refine⟨?_,D,h1,fun e he hb=>?_⟩
     ·have aW:j<listed.size:=by omega
      simpa[gi,Array.getD,aW] using qb
     ·have:e.on<j:=by
       have lR:e∈D.after.toList:=by simpa using he
       clear he hr;revert Z
       simp only[Nat.zero_add];generalize D.after.toList=es at lR;induction es with
       |nil=>cases lR
       |cons bY es ah2=>
        intro Z;simp only[q6,Bool.and_eq_true] at Z;rcases List.mem_cons.1 lR with rfl|lR
        ·rw[hb] at Z;simpa using Z.1
        ·exact ah2 lR Z.2
      have:=ih e.on this (by omega)
      simpa[gi] using this
    rw[hr] at hm;cases hm
 intro oE;induction oE with
 |zero=>
  intro listed B tm w M hu hc S aC;have mC:∀j,j<ops.size->gi listed j=true:=fun j hj=>by
   have h0:listed.toList.count false=0:=Nat.le_zero.1 hu;rw[List.count_eq_zero] at h0;cases qb:gi listed j with
   |true=>rfl
   |false=>
    exfalso
    have aW:j<listed.size:=by omega
    apply h0;have:listed.toList[j]'(by simpa using aW)=false:=by simpa[gi,Array.getD,aW] using qb
    rw[<-this];exact List.getElem_mem _
  refine⟨?_,all listed M mC B tm w S aC⟩;rw[List.eq_nil_iff_forall_not_mem];intro j hj;rw[mem_ready] at hj;obtain⟨h1,D,h2,_⟩:=hj;have hj:j<ops.size:=(Array.getElem?_eq_some_iff.1 h2).1;have:=mC j hj;have aW:j<listed.size:=by omega
  simp[gi,Array.getD,aW] at this h1;rw[h1] at this;cases this
 |succ oE ih=>
  intro listed B tm w M hu hc S aC;refine⟨fun hr=>all listed M (done listed M hr) B tm w S aC,fun i hi=>?_⟩
  have hS:=mem_ready.1 hi;obtain⟨h1,D,h2,Z⟩:=hS;have kg:i<ops.size:=(Array.getElem?_eq_some_iff.1 h2).1;have hx:xs[i]? =some (xs[i]'(by omega)):=List.getElem?_eq_getElem _
  obtain⟨cY,g1,g2,g3,eF⟩:=aY.at_ i _ hx;have g1:ops[i]? =some cY:=by simpa using g1
  rw[h2] at g1;cases g1;have aW:i<listed.size:=by omega
  have aiV:gi listed i=false:=by simpa[gi,Array.getD,aW] using h1
  have hf:zZ ops (gi listed) i:=fun o2 kd e he hb=>by
   rw[h2] at kd;cases kd;have:=Z e (by simpa using he) hb
   simpa[gi] using this
  have mA:gi (listed.setIfInBounds i true)=nC (gi listed) i:=by
   funext j
   simp only[gi,nC];by_cases h:j=i
   ·subst h;simp[aW]
   ·simp[h,Array.getElem?_setIfInBounds_ne (show i≠j from fun e=>h e.symm)]
  refine Yk ay hx g2 eF lu hc aiV hf h2 S fun ax bO w' bV vi=>ih _ ax bO w' (by simpa using M) (by have:=Z' h1;omega) ?_ (by rw[mA];exact bV) fun t htn=>(vi t fun ab=>htn (J6 (l:=ops.toList) (by simpa using Array.mem_of_getElem? h2) ab)).trans (aC t htn)
  rw[mA];intro j hj o2 kd e he hb;simp only[nC,Bool.or_eq_true,decide_eq_true_eq] at hj;simp only[nC,Bool.or_eq_true,decide_eq_true_eq];rcases hj with hj|hj
  ·exact .inl (hc j hj o2 kd e he hb)
  ·subst hj;exact .inl (hf o2 kd e he hb)
theorem Yd:∀l:List Nat,di st.sites (y2 st l):=by
 intro l;induction l with
 |nil=>exact .nil
 |cons t l ih=>
  refine di.append ?_ ih;unfold Nx;split
  ·rename_i o s _;split
   ·rename_i am t xs M;cases hb:am.beq s with
    |false=>exact .nil
    |true=>
     intro F O hm;simp only[cond_true,List.mem_singleton,Prod.mk.injEq] at hm;obtain⟨rfl,rfl⟩:=hm;exact⟨am,t,xs,rfl,.inl M⟩
   ·exact .nil
  ·exact .nil
theorem WI(ay:a9 P C)(hm:P.follows .mixedOrders=true){R:Type}{r:R}{K:ad->Option R}{id:Nat}{Q:Exit->Act->World->Prop}(S:af L J X B st tm w)(h:LG C ops st K=some r)
  (bn:∀ae ax bO w',K ae=some r->af L J X ax ae bO w'->(∀t,t∉hO ops.toList->bO.getD t undef=tm.getD t undef)->Q .normal ⟨bO,ds⟩ w'):fP rn P (Code.region id ops true) Q ⟨tm,ds⟩ w:=by
 obtain⟨xs,z6,aY,ag⟩:=Yl h;have S:af L J X B (st.ha (y2 st (B5 ops.toList ops.toList))) tm w:=by rw[ad.tx];exact S.yg (Yd _)
 refine wpIn_region_any hm (ZP ay aY (fun B tm w S=>bn z6 B tm w ag S) _ _ B tm _ (by simp) ?_ ?_ ?_ (fun _ _=>rfl))
 ·unfold uT;simp
 ·intro j hj;simp only[gi] at hj;exfalso
  rw[Array.getD_eq_getD_getElem?,Array.getElem?_replicate] at hj;split at hj<;>cases hj
 ·rw[Bm fun j _=>by
   simp only[gi];rw[Array.getD_eq_getD_getElem?,Array.getElem?_replicate];split<;>rfl]
  exact S.drawn _
end
def rZ(r:Option Nat)(c:Code):Prop:=r=none\/gx c=true
theorem rZ.left{r:Option Nat}{a b:Bool}(h:r=none\/(a&&b)=true):r=none\/a=true:=by
 rcases h with h|h
 ·exact .inl h
 ·simp only[Bool.and_eq_true] at h;exact .inr h.1
theorem rZ.right{r:Option Nat}{a b:Bool}(h:r=none\/(a&&b)=true):r=none\/b=true:=by
 rcases h with h|h
 ·exact .inl h
 ·simp only[Bool.and_eq_true] at h;exact .inr h.2
theorem iJ{P:Program}{C:gY}(ay:a9 P C.toCtx){R:Type}{r:R}{rn:Option Nat}:∀(c:Code) (p:Nat),(rn=none\/gx c=true)->fV P C c p->∀(L:World) (J:List Nat) (X:Nat->Prop) (st:ad) (B:Nat->Value) (tm:Array Value) (w:World)
  (ds:List Deferred) (K:Out->Option R)
  (Q:Exit->Act->World->Prop),exec C c p st K=some r->af L J X B st tm w->(∀D e a w',K D=some r->eX L J X ds tm (cj c) D e a w'->Q e a w')->fP rn P c Q ⟨tm,ds⟩ w:=by
 have piece:∀(c:Code) (p:Nat),(rn=none\/gx c=true)->(∀f,C.nF p=some f->bl P c f)->∀(L:World) (J:List Nat) (X:Nat->Prop) (st:ad) (B:Nat->Value) (tm:Array Value) (w:World) (ds:List Deferred) (K:Out->Option R) (Q:Exit->Act->World->Prop) (x:Option R),
   wrap C p st K x=some r->af L J X B st tm w->(∀D e a w',K D=some r->eX L J X ds tm (cj c) D e a w'->Q e a w')->(x=some r->fP rn P c Q ⟨tm,ds⟩ w)->fP rn P c Q ⟨tm,ds⟩ w:=by
  intro c p hn hf L J X st B tm w ds K Q x h S bn hx;unfold wrap at h;cases aq:C.nF p with
  |none=>simp only[aq] at h;exact hx h
  |some f=>
   simp only[aq] at h;cases hc:(f st).comp with
   |none=>simp[hc] at h
   |some y=>
    simp only[hc,Option.bind_some,(f st).run_eq] at h;exact wpIn_mono (hf f aq rn hn L J X st y hc B tm w ds S) fun e a w' hl=>bn _ e a w' h hl
 intro c;induction c with
 |skip=>
  intro p _ _ L J X st B tm w ds K Q h S bn;exact wpIn_skip (bn (.norm st) .normal _ _ h (ec.of S fun _ _=>rfl))
 |region id ops draw=>
  intro p hn dT L J X st B tm w ds K Q h S bn;cases draw with
  |false=>
   simp only[exec] at h;refine piece _ p hn dT L J X st B tm w ds K Q _ h S bn fun ab=>?_
   refine wpIn_region ?_
   rw[List.range_eq_range'];refine XD ay (W:=hO ops.toList) ops.size 0 (by omega) (fun D aq t aC=>J6 (by simpa using aq) aC) st B tm w _ Q S ab ?_
   intro ae ax bO w' ag bV aC;exact bn (.norm ae) .normal _ _ ag (ec.of bV aC)
  |true=>
   simp only[exec] at h;refine piece _ p hn dT L J X st B tm w ds K Q _ h S bn fun ab=>?_
   exact WI ay ay.AO S ab fun ae ax bO w' ag bV aC=>bn (.norm ae) .normal _ _ ag (ec.of bV aC)
 |seq a b lG pT=>
  intro p hn dT L J X st B tm w ds K Q h S bn;simp only[exec] at h;refine piece _ p hn dT.1 L J X st B tm w ds K Q _ h S bn fun ab=>?_
  refine wpIn_seq (lG _ (rZ.left hn) dT.2.1 L J X st B tm w ds _ _ ab S ?_);intro D e fe w' ag hl;have up:∀{D e fe w'},eX L J X ds tm (cj a) D e fe w'->eX L J X ds tm (cj (.seq a b)) D e fe w':=fun hl=>hl.mono fun t aC=>List.mem_append.2 (.inl aC)
  cases D with
  |norm ae=>
   cases e<;>try exact hl.elim
   obtain⟨b0,dl,cP,ax,dp,h1,h2,Z,bV,bp⟩:=hl;obtain⟨bO,HV⟩:=fe;obtain⟨Z,ai6⟩:=Z;have Z:HV=dp.map mark++ds:=Z;subst Z;exact pT _ (rZ.right hn) dT.2.2 b0 dl cP ae ax bO w' _ K Q ag bV fun D e a2 w2 hR lM=>bn D e a2 w2 hR (eX.trans h1 h2 ai6 bp lM)
  |exit id ae=>
   cases e<;>try exact hl.elim
   exact bn _ _ _ _ ag (up hl)
  |ret ae=>
   cases e<;>try exact hl.elim
   exact bn _ _ _ _ ag (up hl)
 |cond D a b lG pT=>
  intro p hn dT L J X st B tm w ds K Q h S bn;simp only[exec] at h;refine piece _ p hn dT.1 L J X st B tm w ds K Q _ h S bn fun ab=>?_
  split at ab
  ·rename_i t aC;have hv:=DD S aC;have hv:Act.eval ⟨tm,ds⟩ D=.bool t:=by cases D<;>exact hv
   cases t with
   |true=>exact wpIn_cond hv (lG _ (rZ.left hn) dT.2.1 L J X st B tm w ds K Q ab S fun D e a2 w2 hR lM=>bn D e a2 w2 hR (lM.mono fun t aC=>List.mem_append.2 (.inl aC)))
   |false=>exact wpIn_cond hv (pT _ (rZ.right hn) dT.2.2 L J X st B tm w ds K Q ab S fun D e a2 w2 hR lM=>bn D e a2 w2 hR (lM.mono fun t aC=>List.mem_append.2 (.inr aC)))
  ·cases ab
 |block id a lG=>
  intro p hn dT L J X st B tm w ds K Q h S bn;simp only[exec] at h;refine piece _ p hn dT.1 L J X st B tm w ds K Q _ h S bn fun ab=>?_
  refine wpIn_block (lG _ hn dT.2 L J X st B tm w ds _ _ ab S ?_);intro D e fe w' ag hl;cases D with
  |norm ae=>
   cases e<;>try exact hl.elim
   exact bn _ _ _ _ ag hl
  |exit h9 ae=>
   cases e<;>try exact hl.elim
   rename_i amU;obtain⟨rfl,hl⟩:=hl;simp only[Exit.inBlock];cases hb:h9.beq id with
   |true=>
    simp only[hb,cond_true] at ag;have:=Nat.eq_of_beq_eq_true hb;subst this;simp only[if_true];exact bn _ _ _ _ ag hl
   |false=>
    simp only[hb,cond_false] at ag;have:h9≠id:=by rintro rfl;rw[Nat.beq_refl] at hb;cases hb
    simp only[this,if_false];exact bn _ _ _ _ ag ⟨rfl,hl⟩
  |ret ae=>
   cases e<;>try exact hl.elim
   exact bn _ _ _ _ ag hl
 |loop a _=>
  intro p hn dT L J X st B tm w ds K Q h S bn;simp only[exec] at h;exact piece _ p hn dT L J X st B tm w ds K Q _ h S bn fun ab=>by cases ab
 |rangeFunc=>
  intro p hn dT L J X st B tm w ds K Q h S bn;simp only[exec] at h;exact piece _ p hn dT L J X st B tm w ds K Q _ h S bn fun ab=>by cases ab
 |exit id=>
  intro p _ _ L J X st B tm w ds K Q h S bn;exact wpIn_exit (bn (.exit id st) (.exit id) _ _ h ⟨rfl,ec.of S fun _ _=>rfl⟩)
 |ret=>
  intro p _ _ L J X st B tm w ds K Q h S bn;exact wpIn_ret (bn (.ret st) .ret _ _ h (ec.of S fun _ _=>rfl))
 |_=>
  intro p _ _ L J X st B tm w ds K Q h S bn;simp only[exec] at h;cases h
inductive dn:Type where
 |int (k:IntKind)
 |bool
 |str
 |sl (t:aG)
 |map (t:aG)
 |err (T:Nat)
@[reducible] def dn.H:dn->Type
 |.int _=>Int
 |.bool=>Bool
 |.str=>ak
 |.sl t=>List (den t)
 |.map t=>List (ak×den t)
 |.err _=>Option Int
def dn.mk:(s:dn)->s.H->aL
 |.int k,n=>.int k n
 |.bool,b=>.bool b
 |.str,s=>.str s
 |.sl t,xs=>.sl t xs
 |.map t,es=>.map t es
 |.err T,D=>.err T D
def dn.ex:(s:dn)->aL->Option s.H
 |.int k,.int k' n=>if k=k' then some n else none
 |.bool,.bool b=>some b
 |.str,.str s=>some s
 |.sl t,.sl bc xs=>if h:bc=t then some (h▸xs) else none
 |.map t,.map bc es=>if h:bc=t then some (h▸es) else none
 |.err T,.err fy D=>if fy=T then some D else none
 |_,_=>none
theorem dn.Nd{s:dn}{d:aL}{y:s.H}(h:s.ex d=some y):s.mk y=d:=by
 unfold dn.ex at h;split at h
 ·split at h
  ·rename_i e;cases h;subst e;rfl
  ·cases h
 ·cases h;rfl
 ·cases h;rfl
 ·split at h
  ·rename_i e;cases h;subst e;rfl
  ·cases h
 ·split at h
  ·rename_i e;cases h;subst e;rfl
  ·cases h
 ·split at h
  ·rename_i e;cases h;subst e;rfl
  ·cases h
 ·cases h
@[reducible] def kj:List dn->Type
 |[]=>Unit
 |s::r=>s.H×kj r
def fh:(aP:List dn)->kj aP->List aL
 |[],_=>[]
 |s::r,(y,z)=>s.mk y::fh r z
def uK:(aP:List dn)->List aL->Option (kj aP)
 |[],[]=>some ()
 |s::r,d::ds=>match s.ex d,uK r ds with
  |some y,some z=>some (y,z)
  |_,_=>none
 |_,_=>none
theorem Lv:∀{aP:List dn} {ds:List aL} {y:kj aP},uK aP ds=some y->fh aP y=ds:=by
 intro aP;induction aP with
 |nil=>intro ds y h;cases ds with
  |nil=>rfl
  |cons=>cases h
 |cons s aP ih=>
  intro ds y h;cases ds with
  |nil=>cases h
  |cons d ds=>
   simp only[uK] at h;split at h
   ·rename_i a b h1 h2;cases h;simp only[fh,dn.Nd h1,ih h2]
   ·cases h
@[reducible] def uL:List (List dn)->Type
 |[]=>Unit
 |s::r=>kj s×uL r
def uh:(aP:List (List dn))->uL aP->List (List aL)
 |[],_=>[]
 |s::r,(y,z)=>fh s y::uh r z
def zt:(aP:List (List dn))->List (List aL)->Option (uL aP)
 |[],[]=>some ()
 |s::r,d::ds=>match uK s d,zt r ds with
  |some y,some z=>some (y,z)
  |_,_=>none
 |_,_=>none
theorem Zv:∀{aP:List (List dn)} {ds:List (List aL)} {y:uL aP},zt aP ds=some y->uh aP y=ds:=by
 intro aP;induction aP with
 |nil=>intro ds y h;cases ds with
  |nil=>rfl
  |cons=>cases h
 |cons s aP ih=>
  intro ds y h;cases ds with
  |nil=>cases h
  |cons d ds=>
   simp only[zt] at h;split at h
   ·rename_i a b h1 h2;cases h;simp only[uh,Lv h1,ih h2]
   ·cases h
inductive dV:Type where
 |any
 |d (s:dn)
 |fn (g:FuncId) (cp:List (List dn))
 |ee (aP:List dn) (off:Nat)
 |own (n:Nat)
 |ptr (n off:Nat)
 |clo (g:FuncId) (aA:List Nat)
 |eu
 |O3 -- mG nil interface
 |ej (n:Nat) (t:aG)
@[reducible] def dV.H:dV->Type
 |.d s=>s.H
 |.fn _ cp=>uL cp
 |.ee aP _=>kj aP
 |_=>Unit
def dV.mk:(s:dV)->s.H->au
 |.any,_=>.any
 |.d s,y=>.d (s.mk y)
 |.fn g cp,y=>.d (.fn g (uh cp y))
 |.ee aP off,y=>.ee (fh aP y) off
 |.own n,_=>.own n 0
 |.ptr n off,_=>.ptr n 0 off
 |.clo g aA,_=>.clo g (aA.map fun n=>(n,0))
 |.eu,_=>.eu
 |.O3,_=>.cx .nilIface
 |.ej n t,_=>.ej n 0 t 0 0
abbrev Ren:=List (Nat×Option (Nat×Nat))
def mn(aN:Ren)(n o s:Nat):Bool:=match look aN n with
 |some (some (F_,am))=>F_.beq o&&am.beq s
 |_=>false
def tC(aN:Ren):List Nat->List (Nat×Nat)->Bool
 |[],[]=>true
 |n::aA,(o,s)::cs=>mn aN n o s&&tC aN aA cs
 |_,_=>false
def ma(aN:Ren):List Nat
 :=match aN with
 |[]=>[]
 |(_,some (o,_))::r=>o::ma r
 |(_,none)::r=>ma r
def dV.ex(st:ad)(aN:Ren):(s:dV)->au->Option s.H
 |.any,_=>some ()
 |.d s,.d v=>s.ex v
 |.d (.sl t),.nil _=>some ([]:List (den t))
 |.d (.err _),.cx .nilIface=>some (none:Option Int)
 |.d (.sl t),.own o s=>match st.O o with
  |some (.cQ am bc xs)=>bif am.beq s then(if h:bc=t then some (h▸xs:List (den t)) else none) else none
  |_=>none
 |.d (.map t),.own o s=>match st.O o with
  |some (.map am bc es)=>bif am.beq s&&!fE o (ma aN) then(if h:bc=t then some (h▸es:List (ak×den t)) else none) else none
  |_=>none
 |.fn g cp,.d (.fn cr cs)=>bif Nat.beq g cr then zt cp cs else none
 |.fn g [],.clo cr []=>bif Nat.beq g cr then some () else none
 |.ee aP off,.ee ds oz=>bif Nat.beq off oz then uK aP ds else none
 |.own n,.own o s=>bif mn aN n o s then some () else none
 |.own n,.nil _=>match look aN n with|some none=>some ()|_=>none
 |.ptr n off,.ptr o s oz=>bif mn aN n o s&&Nat.beq off oz then some () else none
 |.clo g aA,.clo cr cs=>bif Nat.beq g cr&&tC aN aA cs then some () else none
 |.eu,.eu=>some ()
 |.O3,.cx .nilIface=>some ()
 |.ej n t,.ej o s bc 0 0=>bif mn aN n o s then(if bc=t then some () else none) else none
 |_,_=>none
@[reducible] def pO:List dV->Type
 |[]=>Unit
 |s::r=>s.H×pO r
def rH:(aP:List dV)->pO aP->List au
 |[],_=>[]
 |s::r,(y,z)=>s.mk y::rH r z
def pD(st:ad)(aN:Ren):(aP:List dV)->List au->Option (pO aP)
 |[],[]=>some ()
 |s::r,l::U=>match s.ex st aN l,pD st aN r U with
  |some y,some z=>some (y,z)
  |_,_=>none
 |_,_=>none
inductive e6:Type where
 |ai (s:dV)
 |agg (aP:List dV)
@[reducible] def e6.H:e6->Type
 |.ai s=>s.H
 |.agg aP=>pO aP
def e6.mk:(s:e6)->s.H->aK
 |.ai s,y=>bJ (s.mk y)
 |.agg aP,y=>.av (.agg (rH aP y))
def e6.ex(st:ad)(aN:Ren):(s:e6)->aK->Option s.H
 |.ai s,.av (.ai l)=>s.ex st aN l
 |.agg aP,.av (.agg U)=>pD st aN aP U
 |_,_=>none
@[reducible] def t_:List (Nat×e6)->Type
 |[]=>Unit
 |s::r=>s.2.H×t_ r
def tG:(aP:List (Nat×e6))->t_ aP->List (Nat×aK)
 |[],_=>[]
 |s::r,(y,z)=>(s.1,s.2.mk y)::tG r z
def yh(st:ad)(aN:Ren):(aP:List (Nat×e6))->Option (t_ aP)
 |[]=>some ()
 |s::r=>match s.2.ex st aN (st.get s.1),yh st aN r with
  |some y,some z=>some (y,z)
  |_,_=>none
inductive dN:Type where
 |row (t:aG)
 |rX (t:aG) (n:Nat) -- anw alZ row,al8 length gL told
 |deep (t:aG)
 |box (aP:List dV)
 |map (t:aG)
@[reducible] def dN.H:dN->Type
 |.row t=>List (den t)
 |.rX t _=>List (den t)
 |.deep t=>List (den t)
 |.box aP=>pO aP
 |.map t=>List (ak×den t)
def zD{aE:Type}(z:aE):Nat->List aE->List aE
 |0,_=>[]
 |n+1,xs=>xs.headD z::zD z n xs.tail
theorem Lo{aE:Type}(z:aE):∀(xs:List aE),zD z xs.length xs=xs
 |[]=>rfl
 |x::xs=>by simp only[List.length_cons,zD,List.headD_cons,List.tail_cons,Lo z xs]
def pad{t:aG}(n:Nat)(xs:List (den t)):List (den t):=match vS t with
 |some z=>zD z n xs
 |none=>xs
theorem abb{t:aG}{n:Nat}{xs:List (den t)}(h:xs.length=n):pad n xs=xs:=by
 subst h;unfold pad;split
 ·exact Lo _ _
 ·rfl
def dN.mk:(s:dN)->s.H->Site
 |.row t,xs=>.row 0 t xs
 |.rX t n,xs=>.row 0 t (pad n xs)
 |.deep t,xs=>.deep 0 t xs
 |.box aP,y=>.box 0 (rH aP y)
 |.map t,es=>.map 0 t es
def dN.ex(st:ad)(aN:Ren):(s:dN)->Option (Nat×Nat)->Option s.H
 |.row t,none=>some ([]:List (den t))
 |.row t,some (o,s)=>match st.O o with
  |some (.row am bc xs)=>bif am.beq s then(if h:bc=t then some (h▸xs:List (den t)) else none) else none
  |_=>none
 |.deep t,none=>some ([]:List (den t))
 |.deep t,some (o,s)=>match st.O o with
  |some (.deep am bc xs)=>bif am.beq s then(if h:bc=t then some (h▸xs:List (den t)) else none) else none
  |_=>none
 |.rX _ _,none=>none
 |.rX t n,some (o,s)=>match st.O o with
  |some (.row am bc xs)=>bif am.beq s then(if h:bc=t then(if xs.length=n then some (h▸xs:List (den t)) else none) else none) else none
  |_=>none
 |.box aP,some (o,s)=>match fq st o s with
  |some cells=>pD st aN aP cells
  |none=>none
 |.box _,none=>none
 |.map t,some (o,s)=>match st.O o with
  |some (.map am bc es)=>bif am.beq s then(if h:bc=t then some (h▸es:List (ak×den t)) else none) else none
  |_=>none
 |.map _,none=>none
inductive Loc:Type where
 |same
 |slot (t j:Nat)
 |cell (o j:Nat)
def aci(st:ad):Loc->Option au
 |.same=>none
 |.slot t j=>match st.get t with
  |.av (.ai l)=>bif Nat.beq j 0 then some l else none
  |.av (.agg U)=>U[j]?
  |_=>none
 |.cell o j=>match st.O o with
  |some (.box _ cells)=>cells[j]?
  |_=>none
def EE(st:ad)(n:Nat)(l:Loc):Option (Option (Nat×Nat)):=
 match l with
 |.same=>match st.O n with|some s=>some (some (n,s.bX))|none=>none
 |l=>match aci st l with
  |some (.own o s)=>some (some (o,s))
  |some (.ptr o s _)=>some (some (o,s))
  |some (.ej o s _ _ _)=>some (some (o,s))
  |some (.nil _)=>some none
  |_=>none
@[reducible] def ry:List (Nat×dN×Loc)->Type
 |[]=>Unit
 |s::r=>s.2.1.H×ry r
def fA:(aP:List (Nat×dN×Loc))->ry aP->List (Nat×Site)
 |[],_=>[]
 |s::r,(y,z)=>(s.1,s.2.1.mk y)::fA r z
def yi(st:ad)(aN:Ren):(aP:List (Nat×dN×Loc))->Option (ry aP)
 |[]=>some ()
 |s::r=>match(look aN s.1).bind fun D=>s.2.1.ex st aN D,yi st aN r with
  |some y,some z=>some (y,z)
  |_,_=>none
def pv(st:ad):List (Nat×dN×Loc)->Option Ren
 |[]=>some []
 |s::r=>match EE st s.1 s.2.2,pv st r with
  |some D,some aN=>some ((s.1,D)::aN)
  |_,_=>none
structure Shape where
 cC:List (Nat×e6)
 sites:List (Nat×dN×Loc)
 nt:Nat
@[reducible] def Shape.H(aM:Shape):Type:=t_ aM.cC×ry aM.sites
def Shape.st(aM:Shape)(y:aM.H):ad:=⟨tG aM.cC y.1,fA aM.sites y.2,aM.nt⟩
def zP(st:ad):dV->au->List (Nat×Site)
 |.d (.sl _),.own o s=>match st.O o with
  |some (.row am t xs)=>bif am.beq s then [(o,.cQ s t xs)] else []
  |some (.deep am t xs)=>bif am.beq s then [(o,.cQ s t xs)] else []
  |_=>[]
 |_,_=>[]
def zO(st:ad):List dV->List au->List (Nat×Site)
 |s::aP,l::U=>zP st s l++zO st aP U
 |_,_=>[]
def Pw(st:ad):e6->aK->List (Nat×Site)
 |.ai s,.av (.ai l)=>zP st s l
 |.agg aP,.av (.agg U)=>zO st aP U
 |_,_=>[]
def pe(st:ad):List (Nat×e6)->List (Nat×Site)
 |[]=>[]
 |s::r=>Pw st s.2 (st.get s.1)++pe st r
def Pv(st:ad):dN->Option (Option (Nat×Nat))->List (Nat×Site)
 |.box aP,some (some (o,s))=>match fq st o s with
  |some cells=>zO st aP cells
  |none=>[]
 |_,_=>[]
def pf(st:ad):List (Nat×dN×Loc)->List (Nat×Site)
 |[]=>[]
 |s::r=>Pv st s.2.1 (EE st s.1 s.2.2)++pf st r
def Shape.ex(aM:Shape)(bf:ad):Option aM.H:=
 let st:=bf.ha (pe bf aM.cC++pf bf aM.sites)
 bif st.nt.beq aM.nt then
  match pv st aM.sites with
  |some aN=>bif eH (keys aN)&&eH (ma aN) then
    match yh st aN aM.cC,yi st aN aM.sites with
    |some y,some z=>some (y,z)
    |_,_=>none
   else none
  |none=>none
 else none
theorem LC{st:ad}{s:dV}{l:au}:di st.sites (zP st s l):=by
 unfold zP;split
 ·rename_i o s;split
  ·rename_i am t xs hl;cases hb:am.beq s with
   |false=>exact .nil
   |true=>
    have:=Nat.eq_of_beq_eq_true hb;subst this;intro F O hm;simp only[cond_true,List.mem_singleton,Prod.mk.injEq] at hm;obtain⟨rfl,rfl⟩:=hm;exact⟨_,_,_,rfl,.inl hl⟩
  ·rename_i am t xs hl;cases hb:am.beq s with
   |false=>exact .nil
   |true=>
    have:=Nat.eq_of_beq_eq_true hb;subst this;intro F O hm;simp only[cond_true,List.mem_singleton,Prod.mk.injEq] at hm;obtain⟨rfl,rfl⟩:=hm;exact⟨_,_,_,rfl,.inr (.inr hl)⟩
  ·exact .nil
 ·exact .nil
theorem LB{st:ad}:∀{aP:List dV} {U:List au},di st.sites (zO st aP U):=by
 intro aP;induction aP with
 |nil=>intro U;cases U<;>exact .nil
 |cons s aP ih=>
  intro U;cases U with
  |nil=>exact .nil
  |cons l U=>exact LC.append ih
theorem VG{st:ad}:∀{aP:List (Nat×e6)},di st.sites (pe st aP):=by
 intro aP;induction aP with
 |nil=>exact .nil
 |cons s aP ih=>
  refine di.append ?_ ih;unfold Pw;split
  ·exact LC
  ·exact LB
  ·exact .nil
theorem VH{st:ad}:∀{aP:List (Nat×dN×Loc)},di st.sites (pf st aP):=by
 intro aP;induction aP with
 |nil=>exact .nil
 |cons s aP ih=>
  refine di.append ?_ ih;unfold Pv;split
  ·split
   ·exact LB
   ·exact .nil
  ·exact .nil
def rT(st:ad)(aN:Ren)(bi:List (Nat×Site)):Prop:=
 ∀n D,look aN n=some D->(∃am,look bi n=some am/\am.bX=0)/\∀o s,D=some (o,s)->∃O,look st.sites o=some O/\O.bX=s/\O.live=true
def eK(B:Nat->Value)(aN:Ren)(bi:List (Nat×Site))(n:Nat):Value:=
 match look aN n with
 |some (some (o,_))=>B o
 |some none=>match look bi n with
  |some (.deep _ _ _)=>.tuple #[.slice none 0 0]
  |_=>.slice none 0 0
 |none=>undef
theorem JR{B:Nat->Value}{aN:Ren}{bi:List (Nat×Site)}{n:Nat}(h:look aN n=some none):bT (eK B aN bi n)=.slice none 0 0/\bA (eK B aN bi n)=[]:=by
 unfold eK;rw[h];simp only;split<;>exact⟨rfl,rfl⟩
theorem Wd{aN:Ren}{n o s:Nat}(h:mn aN n o s=true):look aN n=some (some (o,s)):=by
 unfold mn at h;split at h
 ·rename_i F_ am hl;simp only[Bool.and_eq_true] at h;rw[hl,Nat.eq_of_beq_eq_true h.1,Nat.eq_of_beq_eq_true h.2]
 ·cases h
section
variable {L:World}{J:List Nat}{X:Nat->Prop}{B:Nat->Value}{st:ad}{tm:Array Value}{w:World}{aN:Ren}{bi:List (Nat×Site)}{bN:Nat->Prop}
theorem xM(S:af L J X B st tm w)(dt:rT st aN bi){n o s:Nat}(h:mn aN n o s=true){p qs:Prop}(hr:Ref st.sites o s p)(al:eK B aN bi n=B o->p->qs):Ref bi n 0 qs:=by
 have hl:=Wd h;obtain⟨⟨am,h1,h2⟩,Z⟩:=dt n _ hl;obtain⟨O,aI,bp,_⟩:=Z o s rfl;exact Ref.mk h1 h2 (al (by simp[eK,hl]) (Ref.at hr aI bp))
theorem We(S:af L J X B st tm w)(dt:rT st aN bi):∀{aA:List Nat} {cs:List (Nat×Nat)} {vs:List Value},tC aN aA cs=true->vs.length=cs.length->
  (∀i (h:i<cs.length) (ab:i<vs.length),Ref st.sites (cs[i]).1 (cs[i]).2 (vs[i]=bT (B (cs[i]).1)))->
  vs.length=(aA.map fun n=>(n,0)).length/\∀i (h:i<(aA.map fun n=>((n,0):Nat×Nat)).length) (ab:i<vs.length),Ref bi ((aA.map fun n=>((n,0):Nat×Nat))[i]).1 ((aA.map fun n=>((n,0):Nat×Nat))[i]).2 (vs[i]=bT (eK B aN bi ((aA.map fun n=>((n,0):Nat×Nat))[i]).1)):=by
 intro aA;induction aA with
 |nil=>
  intro cs vs h hl _;match cs,h with
  |[],_=>exact⟨by simpa using hl,fun i h=>by simp at h⟩
 |cons n aA ih=>
  intro cs vs h hl hr;match cs,h with
  |(o,s)::cs,h=>
   simp only[tC,Bool.and_eq_true] at h;match vs,hl with
   |v::vs,hl=>
    obtain⟨aB,ao⟩:=ih (vs:=vs) h.2 (by simpa using hl) (fun i g1 g2=>hr (i+1) (by simpa using g1) (by simpa using g2))
    refine⟨by simpa using aB,fun i g1 g2=>?_⟩
    cases i with
    |zero=>exact xM S dt h.1 (hr 0 (by simp) (by simp)) (fun e p=>p.trans (congrArg bT e.symm))
    |succ i=>exact ao i (by simpa using g1) (by simpa using g2)
def zA(B:Nat->Value)(st:ad)(aN:Ren)(bN:Nat->Prop):Prop:=∀o,bS st.sites o->fE o (ma aN)=false->∀b,b∈bA (B o)->¬bN b
theorem dV.fT(S:af L J X B st tm w)(dt:rT st aN bi)(bW:∀b,bN b->an X B st.sites b)(dT:zA B st aN bN){s:dV}{l:au}{y:s.H}{v:Value}(h:s.ex st aN l=some y)(hv:dd B st.sites w (an X B st.sites) l v):
  dd (eK B aN bi) bi w bN (s.mk y) v:=by
 have fr:∀{d:aL} {v:Value},ba w (an X B st.sites) d v->ba w bN d v:=fun h=>b9.fr (B:=B) (sites:=[]) (a:=one _) bW (fun b hb=>S.lt (bW b hb)) h
 unfold dV.ex at h;split at h
 ·trivial
 ·rename_i s v';have:s.mk y=v':=dn.Nd h;show ba w bN (s.mk y) v;rw[this];exact fr hv
 ·rename_i t u;cases h;have hv:v=.slice none 0 0:=hv;rw[hv];exact ba.nil t
 ·rename_i T;cases h;have hv:v=.nilIface:=hv;rw[hv];exact ba.pN T
 ·rename_i t o s;split at h
  ·rename_i am bc xs hl;cases hb:am.beq s with
   |false=>simp[hb] at h
   |true=>
    simp only[hb,cond_true] at h;split at h
    ·rename_i e;subst e;cases h;have M:=Nat.eq_of_beq_eq_true hb;subst M;have hl:look st.sites o=some (.cQ am bc xs):=hl;have iC:v=bT (B o):=Ref.at hv.2 hl rfl;rw[iC];exact fr (S.sites o _ hl).1
    ·cases h
  ·cases h
 ·rename_i t o s;split at h
  ·rename_i am bc es hl;cases hb:(am.beq s&&!fE o (ma aN)) with
   |false=>simp[hb] at h
   |true=>
    simp only[hb,cond_true] at h;simp only[Bool.and_eq_true,Bool.not_eq_true'] at hb;split at h
    ·rename_i e;subst e;cases h;have M:=Nat.eq_of_beq_eq_true hb.1;subst M;have hl:look st.sites o=some (.map am bc es):=hl;have iC:v=bT (B o):=Ref.at hv.2 hl rfl;obtain⟨b,h1,h2⟩:=S.sites o _ hl;rw[iC,h1];exact ba.map bc es b (dT o ⟨_,hl,rfl⟩ hb.2 b (fR (by rw[h1];rfl))) h2
    ·cases h
  ·cases h
 ·rename_i g cp cr cs;cases hb:Nat.beq g cr with
  |false=>simp[hb] at h
  |true=>
   simp only[hb,cond_true] at h;have:=Nat.eq_of_beq_eq_true hb;subst this;show ba w bN (.fn g (uh cp y)) v;rw[Zv h];exact fr hv
 ·rename_i g cr;cases hb:Nat.beq g cr with
  |false=>simp[hb] at h
  |true=>
   have:=Nat.eq_of_beq_eq_true hb;subst this;obtain⟨vs,h1,h2,_⟩:=hv;rw[List.eq_nil_of_length_eq_zero h2] at h1;rw[h1];exact j1.fn (bq:=[]) (vs:=[]) trivial
 ·rename_i aP off ds oz;cases hb:Nat.beq off oz with
  |false=>simp[hb] at h
  |true=>
   simp only[hb,cond_true] at h;have:=Nat.eq_of_beq_eq_true hb;subst this;have e:=Lv h;obtain⟨b,D,h1,h2,Z,cs,aI,bp,db⟩:=hv;show dd (eK B aN bi) bi w bN (.ee (fh aP y) off) v;rw[e];exact⟨b,D,h1,fun hx=>h2 (bW b hx),Z,cs,aI,bp,fun j g1 g2=>fr (db j g1 g2)⟩
 ·rename_i n o s;cases hb:mn aN n o s with
  |false=>simp[hb] at h
  |true=>exact⟨hv.1,xM S dt hb hv.2 (fun e p=>p.trans (by rw[e]))⟩
 ·rename_i n t;split at h
  ·rename_i hl;have hv:v=.slice none 0 0:=hv;obtain⟨⟨am,h1,h2⟩,_⟩:=dt n _ hl;exact⟨by rw[hv];rfl,Ref.mk h1 h2 (by rw[(JR hl).1,hv])⟩
  ·cases h
 ·rename_i n off o s oz;cases hb:(mn aN n o s&&Nat.beq off oz) with
  |false=>simp[hb] at h
  |true=>
   simp only[Bool.and_eq_true] at hb;have:=Nat.eq_of_beq_eq_true hb.2;subst this;obtain⟨b,h1,h2⟩:=hv;exact⟨b,h1,xM S dt hb.1 h2 (fun e p=>by rw[e];exact p)⟩
 ·rename_i g aA cr cs;cases hb:(Nat.beq g cr&&tC aN aA cs) with
  |false=>simp[hb] at h
  |true=>
   simp only[Bool.and_eq_true] at hb;have:=Nat.eq_of_beq_eq_true hb.1;subst this;obtain⟨vs,h1,h2,Z⟩:=hv;obtain⟨aB,ao⟩:=We S dt hb.2 h2 Z;exact⟨vs,h1,aB,ao⟩
 ·trivial
 ·exact hv
 ·rename_i n t o s bc;cases hb:mn aN n o s with
  |false=>simp[hb] at h
  |true=>
   simp only[hb,cond_true] at h;split at h
   ·rename_i e;subst e;obtain⟨b,h1,h2⟩:=hv;exact⟨b,h1,xM S dt hb h2 (fun e p=>by rw[e];exact p)⟩
   ·cases h
 ·cases h
theorem WG{aP:List dV}{U:List au}{y:pO aP}(h:pD st aN aP U=some y)(bU:(rH aP y).head?=some .eu):U.head?=some .eu:=by
 cases aP with
 |nil=>cases bU
 |cons s aP=>
  cases U with
  |nil=>cases h
  |cons l U=>
   simp only[pD] at h;split at h
   ·rename_i a b h1 h2;cases h;simp only[rH,List.head?_cons,Option.some.injEq] at bU ⊢;cases s with
    |eu=>cases l<;>first|rfl|cases h1
    |_=>cases bU
   ·cases h
theorem KV(S:af L J X B st tm w)(dt:rT st aN bi)(bW:∀b,bN b->an X B st.sites b)(dT:zA B st aN bN):∀{aP:List dV} {U:List au} {y:pO aP} {vs:List Value},pD st aN aP U=some y->
  ch B st.sites w (an X B st.sites) U vs->ch (eK B aN bi) bi w bN (rH aP y) vs:=by
 intro aP;induction aP with
 |nil=>
  intro U y vs h hv;match U,h with
  |[],_=>rw[hv.kJ];exact .nil
 |cons s aP ih=>
  intro U y vs h hv;match U,h with
  |l::U,h=>
   simp only[pD] at h;split at h
   ·rename_i a b h1 h2;cases h;obtain⟨v,cm,rfl,aB,ao⟩:=hv.inv;exact .cons (dV.fT S dt bW dT h1 aB) (ih h2 ao)
   ·cases h
theorem e6.fT(S:af L J X B st tm w)(dt:rT st aN bi)(bW:∀b,bN b->an X B st.sites b)(dT:zA B st aN bN){s:e6}{a:aK}{y:s.H}{v:Value}(h:s.ex st aN a=some y)(hv:b9 B st.sites w (an X B st.sites) a v):
  b9 (eK B aN bi) bi w bN (s.mk y) v:=by
 unfold e6.ex at h;split at h
 ·exact dV.fT S dt bW dT h hv
 ·obtain⟨vs,h1,h2,Z⟩:=hv;have:=KV S dt bW dT h ⟨h2,Z⟩;exact⟨vs,h1,this.1,this.2⟩
 ·cases h
theorem WE:∀{aP:List (Nat×e6)} {y:t_ aP},yh st aN aP=some y->∀t v,look (tG aP y) t=some v->∃s:e6,∃y':s.H,s.ex st aN (st.get t)=some y'/\v=s.mk y':=by
 intro aP;induction aP with
 |nil=>intro y h t v hl;cases hl
 |cons s aP ih=>
  intro y h t v hl;simp only[yh] at h;split at h
  ·rename_i a b h1 h2;cases h;simp only[tG,look] at hl;cases hb:s.1.beq t with
   |true=>
    simp only[hb,cond_true,Option.some.injEq] at hl;have:=Nat.eq_of_beq_eq_true hb;subst this;exact⟨s.2,a,h1,hl.symm⟩
   |false=>
    simp only[hb,cond_false] at hl;exact ih h2 t v hl
  ·cases h
theorem WF:∀{aP:List (Nat×dN×Loc)} {y:ry aP},yi st aN aP=some y->∀n bw,look (fA aP y) n=some bw->∃z:dN,∃y':z.H,∃D,look aN n=some D/\z.ex st aN D=some y'/\bw=z.mk y':=by
 intro aP;induction aP with
 |nil=>intro y h n bw hl;cases hl
 |cons s aP ih=>
  intro y h n bw hl;simp only[yi] at h;split at h
  ·rename_i a b h1 h2;cases h;simp only[fA,look] at hl;cases hb:s.1.beq n with
   |true=>
    simp only[hb,cond_true,Option.some.injEq] at hl;have:=Nat.eq_of_beq_eq_true hb;subst this;obtain⟨D,aB,ao⟩:=Option.bind_eq_some_iff.1 h1;exact⟨s.2.1,a,D,aB,ao,hl.symm⟩
   |false=>
    simp only[hb,cond_false] at hl;exact ih h2 n bw hl
  ·cases h
theorem dN.bX(z:dN)(y:z.H):(z.mk y).bX=0:=by cases z<;>rfl
theorem Wp{dK:ad}:∀{aP:List (Nat×dN×Loc)} {aN:Ren} {y:ry aP},pv dK aP=some aN->∀n D,look aN n=some D->(∃am,look (fA aP y) n=some am/\am.bX=0):=by
 intro aP;induction aP with
 |nil=>intro aN y h n D hl;simp only[pv] at h;cases h;cases hl
 |cons s aP ih=>
  intro aN y h n D hl;simp only[pv] at h;split at h
  ·rename_i a b h1 h2;cases h;obtain⟨h_,eU⟩:=y;simp only[fA,look] at hl ⊢;cases hb:s.1.beq n with
   |true=>simp only[cond_true];exact⟨_,rfl,dN.bX _ _⟩
   |false=>
    simp only[hb,cond_false] at hl ⊢;exact ih h2 n D hl
  ·cases h
theorem Wo{dK:ad}:∀{aP:List (Nat×dN×Loc)} {aN:Ren},pv dK aP=some aN->(keys aN).Nodup->∀n z,(n,z,Loc.same)∈aP->∃s,look aN n=some (some (n,s)):=by
 intro aP;induction aP with
 |nil=>intro aN h _ n z hm;simp at hm
 |cons s aP ih=>
  intro aN h hn n z hm;simp only[pv] at h;split at h
  ·rename_i a b h1 h2;cases h;simp only[keys,List.nodup_cons] at hn;rcases List.mem_cons.1 hm with hm|hm
   ·subst hm;simp only[EE] at h1;split at h1
    ·cases h1;exact⟨_,by simp[look];rfl⟩
    ·cases h1
   ·obtain⟨am,eR⟩:=ih h2 hn.2 n z hm;refine⟨am,?_⟩;simp only[look];have:¬s.1=n:=by
     rintro rfl;have key:∀{aN:Ren} {n:Nat} {D},look aN n=some D->n∈keys aN:=by
      intro aN;induction aN with
      |nil=>intro n D h;cases h
      |cons p aN ah3=>
       obtain⟨m,q⟩:=p;intro n D h;simp only[look] at h;cases hb:m.beq n with
       |true=>have:=Nat.eq_of_beq_eq_true hb;subst this;exact List.mem_cons_self
       |false=>simp only[hb,cond_false] at h;exact List.mem_cons_of_mem _ (ah3 h)
     exact hn.1 (key eR)
    rw[iW this];exact eR
  ·cases h
theorem A5:∀{aN:Ren} {n o s:Nat},look aN n=some (some (o,s))->o∈ma aN:=by
 intro aN;induction aN with
 |nil=>intro n o s h;cases h
 |cons p aN ih=>
  obtain⟨m,D⟩:=p;intro n o s h;simp only[look] at h;cases hb:m.beq n with
  |true=>
   simp only[hb,cond_true,Option.some.injEq] at h;subst h;exact List.mem_cons_self
  |false=>
   simp only[hb,cond_false] at h;have:=ih h;cases D with
   |none=>exact this
   |some q=>exact List.mem_cons_of_mem _ this
theorem Vq:∀{aN:Ren} {n m o s am:Nat},(ma aN).Nodup->look aN n=some (some (o,s))->look aN m=some (some (o,am))->n=m:=by
 intro aN;induction aN with
 |nil=>intro n m o s am _ h;cases h
 |cons p aN ih=>
  obtain⟨k,D⟩:=p;intro n m o s am Y h ab;simp only[look] at h ab;have lS:(ma aN).Nodup:=by
   cases D with
   |none=>exact Y
   |some q=>exact(List.nodup_cons.1 Y).2
  cases hb:k.beq n with
  |true=>
   simp only[hb,cond_true,Option.some.injEq] at h;subst h;cases b5:k.beq m with
   |true=>rw[<-Nat.eq_of_beq_eq_true hb,<-Nat.eq_of_beq_eq_true b5]
   |false=>
    simp only[b5,cond_false] at ab;exact absurd (A5 ab) (List.nodup_cons.1 Y).1
  |false=>
   simp only[hb,cond_false] at h;cases b5:k.beq m with
   |true=>
    simp only[b5,cond_true,Option.some.injEq] at ab;subst ab;exact absurd (A5 h) (List.nodup_cons.1 Y).1
   |false=>
    simp only[b5,cond_false] at ab;exact ih lS h ab
theorem Shape.fT(S:af L J X B st tm w){aM:Shape}{y:aM.H}(h:aM.ex st=some y):∃ax,af L J X ax (aM.st y) tm w/\∀n z,(n,z,Loc.same)∈aM.sites->ax n=B n:=by
 unfold Shape.ex at h;have fv:di st.sites (pe st aM.cC++pf st aM.sites):=VG.append VH;have cZ:=S.yg fv;rw[<-ad.tx] at cZ;generalize st.ha (pe st aM.cC++pf st aM.sites)=dK at h cZ;cases p2:dK.nt.beq aM.nt with
 |false=>simp[p2] at h
 |true=>
  simp only[p2,cond_true] at h;split at h
  ·rename_i aN u3;cases hc:(eH (keys aN)&&eH (ma aN)) with
   |false=>simp[hc] at h
   |true=>
    simp only[hc,cond_true] at h;simp only[Bool.and_eq_true,n6] at hc;split at h
    ·rename_i h_ eU h1 h2;cases h;have facts:=WF h2;have M0:∀{z:dN} {y':z.H} {o s:Nat},z.ex dK aN (some (o,s))=some y'->∃O,look dK.sites o=some O/\O.bX=s/\O.live=true:=by
      intro z y' o s hz;cases z with
      |row t=>
       simp only[dN.ex] at hz;split at hz
       ·rename_i am bc xs hl;cases hb:am.beq s with
        |false=>simp[hb] at hz
        |true=>exact⟨_,hl,Nat.eq_of_beq_eq_true hb,rfl⟩
       ·cases hz
      |rX t n=>
       simp only[dN.ex] at hz;split at hz
       ·rename_i am bc xs hl;cases hb:am.beq s with
        |false=>simp[hb] at hz
        |true=>exact⟨_,hl,Nat.eq_of_beq_eq_true hb,rfl⟩
       ·cases hz
      |deep t=>
       simp only[dN.ex] at hz;split at hz
       ·rename_i am bc xs hl;cases hb:am.beq s with
        |false=>simp[hb] at hz
        |true=>exact⟨_,hl,Nat.eq_of_beq_eq_true hb,rfl⟩
       ·cases hz
      |box aP=>
       simp only[dN.ex] at hz;split at hz
       ·rename_i hl;exact⟨_,gu hl,rfl,rfl⟩
       ·cases hz
      |map t=>
       simp only[dN.ex] at hz;split at hz
       ·rename_i am bc xs hl;cases hb:am.beq s with
        |false=>simp[hb] at hz
        |true=>exact⟨_,hl,Nat.eq_of_beq_eq_true hb,rfl⟩
       ·cases hz
     have dt:rT dK aN (fA aM.sites eU):=by
      intro n D hn;obtain⟨am,vk,pY⟩:=Wp (y:=eU) u3 n D hn;refine⟨⟨am,vk,pY⟩,fun o s e=>?_⟩
      obtain⟨z,y',cY,aB,ao,_⟩:=facts n am vk;rw[hn] at aB;cases aB;subst e;exact M0 ao
     have live:∀n,bS (fA aM.sites eU) n->∀b,b∈bA (eK B aN (fA aM.sites eU) n)->∃o s,look aN n=some (some (o,s))/\bS dK.sites o/\eK B aN (fA aM.sites eU) n=B o:=by
      rintro n ⟨bw,hn,_⟩ b hb;obtain⟨z,y',D,aB,ao,_⟩:=facts n bw hn;cases D with
      |none=>rw[(JR aB).2] at hb;cases hb
      |some q=>
       obtain⟨o,s⟩:=q;obtain⟨O,q1,_,dG⟩:=M0 ao;exact⟨o,s,aB,⟨O,q1,dG⟩,by simp[eK,aB]⟩
     have bW:∀b,an X (eK B aN (fA aM.sites eU)) (fA aM.sites eU) b->an X B dK.sites b:=by
      rintro b (hb|⟨n,hn,hb⟩)
      ·exact .inl hb
      ·obtain⟨o,s,_,q2,dG⟩:=live n hn b hb;exact .inr ⟨o,q2,by rw[<-dG];exact hb⟩
     have fr:∀{d:aL} {v:Value},ba w (an X B dK.sites) d v->ba w (an X (eK B aN (fA aM.sites eU)) (fA aM.sites eU)) d v:=
      fun h=>b9.fr (B:=B) (sites:=[]) (a:=one _) bW (fun b hb=>cZ.lt (bW b hb)) h
     have dT:zA B dK aN (an X (eK B aN (fA aM.sites eU)) (fA aM.sites eU)):=by
      rintro o cn hm b hb (hx|⟨n,hn,vr⟩)
      ·exact(cZ.b2 o b cn hb).1 hx
      ·obtain⟨F,s,q1,q2,dG⟩:=live n hn b vr;rw[dG] at vr;have e:=cZ.c' o F b cn q2 hb vr;subst e;have hin:=A5 q1;rw[<-tr] at hin;rw[hm] at hin;cases hin
     refine⟨eK B aN (fA aM.sites eU),⟨?_,fun t=>?_,fun n bw hn=>?_,fun n m b cV ga g1 g2=>?_,fun n b cV g1=>?_,cZ.frame,cZ.old,cZ.eQ⟩,fun n z hm=>?_⟩
     ·rw[cZ.nt];exact Nat.eq_of_beq_eq_true p2
     ·show b9 _ _ _ _ (ad.get _ t) _;unfold ad.get;cases hl:look (tG aM.cC h_) t with
      |none=>simp only[Shape.st,hl];trivial
      |some v=>
       simp only[Shape.st,hl];obtain⟨s,y',aB,ao⟩:=WE h1 t v hl;rw[ao];exact e6.fT cZ dt bW dT aB (cZ.cC t)
     ·have hn:look (fA aM.sites eU) n=some bw:=hn;obtain⟨z,y',D,aB,ao,bj⟩:=facts n bw hn;rw[bj];cases z with
      |row t=>
       cases D with
       |none=>
        simp only[dN.ex] at ao;cases ao;exact⟨0,[],⟨by simp,.inl ⟨by rw[bj] at hn;unfold eK;rw[aB,hn];rfl,rfl⟩⟩,fun j h=>by simp[flat] at h⟩
       |some q=>
        obtain⟨o,s⟩:=q;simp only[dN.ex] at ao;split at ao
        ·rename_i am bc xs hl;cases hb:am.beq s with
         |false=>simp[hb] at ao
         |true=>
          simp only[hb,cond_true] at ao;split at ao
          ·rename_i e;subst e;cases ao;obtain⟨e,cs,q1,q2⟩:=cZ.sites o _ hl;refine⟨e,cs,?_,fun j g1 g2=>fr (q2 j g1 g2)⟩
           have:eK B aN (fA aM.sites eU) n=B o:=by simp[eK,aB]
           rw[this];exact q1
          ·cases ao
        ·cases ao
      |rX t m=>
       cases D with
       |none=>cases ao
       |some q=>
        obtain⟨o,s⟩:=q;simp only[dN.ex] at ao;split at ao
        ·rename_i am bc xs hl;cases hb:am.beq s with
         |false=>simp[hb] at ao
         |true=>
          simp only[hb,cond_true] at ao;split at ao
          ·rename_i e;subst e;split at ao
           ·rename_i hlen;cases ao;obtain⟨e,cs,q1,q2⟩:=cZ.sites o _ hl;simp only[dN.mk,abb hlen];refine⟨e,cs,?_,fun j g1 g2=>fr (q2 j g1 g2)⟩
            have:eK B aN (fA aM.sites eU) n=B o:=by simp[eK,aB]
            rw[this];exact q1
           ·cases ao
          ·cases ao
        ·cases ao
      |deep t=>
       cases D with
       |none=>
        simp only[dN.ex] at ao;cases ao;have e:eK B aN (fA aM.sites eU) n=.tuple #[.slice none 0 0]:=by rw[bj] at hn;unfold eK;rw[aB,hn];rfl
        exact⟨0,.slice none 0 0,[],[],e,by rw[e];exact List.nodup_nil,⟨by simp,.inl ⟨rfl,rfl⟩⟩,.nil⟩
       |some q=>
        obtain⟨o,s⟩:=q;simp only[dN.ex] at ao;split at ao
        ·rename_i am bc xs hl;cases hb:am.beq s with
         |false=>simp[hb] at ao
         |true=>
          simp only[hb,cond_true] at ao;split at ao
          ·rename_i e;subst e;cases ao;obtain⟨e,v,aA,cs,q1,q2,dG,lZ⟩:=cZ.sites o _ hl;have:eK B aN (fA aM.sites eU) n=B o:=by simp[eK,aB]
           exact⟨e,v,aA,cs,this.trans q1,by rw[this];exact q2,dG,lZ.map fr fun _ _ _ _=>rfl⟩
          ·cases ao
        ·cases ao
      |box aP=>
       cases D with
       |none=>cases ao
       |some q=>
        obtain⟨o,s⟩:=q;simp only[dN.ex] at ao;split at ao
        ·rename_i cells hl;obtain⟨b,T,cur,q1,q2,dG,lZ,ahx,qo⟩:=cZ.sites o _ (gu hl);have:=KV cZ dt bW dT ao ⟨dG,qo⟩;exact⟨b,T,cur,by simp[eK,aB,q1],q2,this.1,lZ,fun bU=>ahx (WG ao bU),this.2⟩
        ·cases ao
      |map t=>
       cases D with
       |none=>cases ao
       |some q=>
        obtain⟨o,s⟩:=q;simp only[dN.ex] at ao;split at ao
        ·rename_i am bc es hl;cases hb:am.beq s with
         |false=>simp[hb] at ao
         |true=>
          simp only[hb,cond_true] at ao;split at ao
          ·rename_i e;subst e;cases ao;obtain⟨b,q1,q2⟩:=cZ.sites o _ hl;have:eK B aN (fA aM.sites eU) n=B o:=by simp[eK,aB]
           exact⟨b,this.trans q1,q2⟩
          ·cases ao
        ·cases ao
     ·obtain⟨o,s,a1,a2,gO⟩:=live n cV b g1;obtain⟨F,am,aS,aJ,bM⟩:=live m ga b g2;rw[gO] at g1;rw[bM] at g2;have:=cZ.c' o F b a2 aJ g1 g2;subst this;exact Vq hc.2 a1 aS
     ·obtain⟨o,s,a1,a2,gO⟩:=live n cV b g1;rw[gO] at g1;exact cZ.b2 o b a2 g1
     ·obtain⟨s,M⟩:=Wo u3 hc.1 n z hm;simp[eK,M]
    ·cases h
  ·cases h
end
inductive Kind:Type where
 |norm
 |exit (id:Nat)
 |ret
abbrev be:=Kind×Shape
@[reducible] def aR:List be->Type
 |[]=>Empty
 |[D]=>D.2.H
 |D::cY::r=>Sum D.2.H (aR (cY::r))
def Kind.mk:Kind->ad->Out
 |.norm,st=>.norm st
 |.exit id,st=>.exit id st
 |.ret,st=>.ret st
def kZ:(os:List be)->aR os->Out
 |[D],y=>D.1.mk (D.2.st y)
 |D::cY::r,y=>match y with
  |.inl y=>D.1.mk (D.2.st y)
  |.inr y=>kZ (cY::r) y
def Kind.gL:Kind->Out->Option ad
 |.norm,.norm st=>some st
 |.exit id,.exit h9 st=>bif Nat.beq id h9 then some st else none
 |.ret,.ret st=>some st
 |_,_=>none
def gF:(os:List be)->Out->Option (aR os)
 |[],_=>none
 |[D],x=>match D.1.gL x with
  |some st=>D.2.ex st
  |none=>none
 |D::cY::r,x=>match D.1.gL x with
  |some st=>(D.2.ex st).map Sum.inl
  |none=>(gF (cY::r) x).map Sum.inr
section
variable {L:World}{J:List Nat}{X:Nat->Prop}{ds:List Deferred}{et:Array Value}{W:List Nat}
theorem ec.ex{st:ad}{aM:Shape}{y:aM.H}{a:Act}{w:World}(aj:aM.ex st=some y)(h:ec L J X ds et W st a w):ec L J X ds et W (aM.st y) a w:=by
 obtain⟨b0,dl,cP,B,dp,h1,h2,Z,S,bp⟩:=h;obtain⟨ax,bV,_⟩:=Shape.fT S aj;exact⟨b0,dl,cP,ax,dp,h1,h2,Z,bV,bp⟩
theorem Kind.Ce{k:Kind}{x:Out}{st:ad}{aM:Shape}{y:aM.H}{e:Exit}{a:Act}{w:World}(h:k.gL x=some st)(aj:aM.ex st=some y)(hl:eX L J X ds et W x e a w):eX L J X ds et W (k.mk (aM.st y)) e a w:=by
 cases k<;>cases x<;>simp only[Kind.gL] at h<;>try(cases h;done)
 ·cases h;cases e<;>try exact hl.elim
  exact ec.ex aj hl
 ·rename_i id h9 ae;cases hb:Nat.beq id h9 with
  |false=>simp[hb] at h
  |true=>
   simp only[hb,cond_true,Option.some.injEq] at h;subst h;cases e<;>try exact hl.elim
   exact⟨(Nat.eq_of_beq_eq_true hb).trans hl.1,ec.ex aj hl.2⟩
 ·cases h;cases e<;>try exact hl.elim
  exact ec.ex aj hl
theorem th:∀{os:List be} {x:Out} {y:aR os} {e:Exit} {a:Act} {w:World},gF os x=some y->eX L J X ds et W x e a w->eX L J X ds et W (kZ os y) e a w:=by
 intro os;induction os with
 |nil=>intro x y;exact y.elim
 |cons D os ih=>
  intro x y e a w h hl;cases os with
  |nil=>
   simp only[gF] at h;split at h
   ·rename_i st ag;exact Kind.Ce ag h hl
   ·cases h
  |cons cY r=>
   simp only[gF] at h;split at h
   ·rename_i st ag;obtain⟨h_,aB,ao⟩:=Option.map_eq_some_iff.1 h;subst ao;exact Kind.Ce ag aB hl
   ·obtain⟨h_,aB,ao⟩:=Option.map_eq_some_iff.1 h;subst ao;exact ih aB hl
end
section
variable {H bu:Type}
def iter(f:H->Option (Sum H bu)):Nat->H->Option bu
 |0,_=>none
 |n+1,y=>match f y with
  |none=>none
  |some (.inl y')=>iter f n y'
  |some (.inr b)=>some b
theorem JX{f:H->Option (Sum H bu)}:∀{n m:Nat} {y:H} {b:bu},n<=m->iter f n y=some b->iter f m y=some b:=by
 intro n;induction n with
 |zero=>intro m y b _ h;cases h
 |succ n ih=>
  intro m y b c8 h;obtain⟨m,rfl⟩:∃k,m=k+1:=⟨m-1,by omega⟩
  simp only[iter] at h ⊢;split at h
  ·cases h
  ·exact ih (by omega) h
  ·exact h
open Classical in
noncomputable def bK(f:H->Option (Sum H bu))(y:H):Option bu:=
 if h:∃n b,iter f n y=some b then some (Classical.choose (Classical.choose_spec h)) else none
theorem BD{f:H->Option (Sum H bu)}{y:H}{b:bu}:bK f y=some b <-> ∃n,iter f n y=some b:=by
 unfold bK;constructor
 ·intro h;split at h
  ·rename_i ab;cases h;exact⟨_,Classical.choose_spec (Classical.choose_spec ab)⟩
  ·cases h
 ·rintro⟨n,hn⟩;have h:∃n b,iter f n y=some b:=⟨n,b,hn⟩;rw[dif_pos h];have h1:=Classical.choose_spec (Classical.choose_spec h);have h2:=JX (Nat.le_max_left (Classical.choose h) n) h1;have Z:=JX (Nat.le_max_right (Classical.choose h) n) hn;rw[h2] at Z;exact Z
theorem w8(f:H->Option (Sum H bu))(y:H):bK f y=match f y with
  |none=>none
  |some (.inl y')=>bK f y'
  |some (.inr b)=>some b:=by
 apply Option.ext;intro b;rw[BD];cases hf:f y with
 |none=>
  simp only;constructor
  ·rintro⟨n,hn⟩;cases n with
   |zero=>cases hn
   |succ n=>simp only[iter,hf] at hn;cases hn
  ·intro h;cases h
 |some s=>
  cases s with
  |inl y'=>
   simp only;rw[BD];constructor
   ·rintro⟨n,hn⟩;cases n with
    |zero=>cases hn
    |succ n=>simp only[iter,hf] at hn;exact⟨n,hn⟩
   ·rintro⟨n,hn⟩;exact⟨n+1,by simp only[iter,hf];exact hn⟩
  |inr a6=>
   simp only;constructor
   ·rintro⟨n,hn⟩;cases n with
    |zero=>cases hn
    |succ n=>simp only[iter,hf] at hn;exact hn
   ·intro h;exact⟨1,by simp only[iter,hf];exact h⟩
theorem least{p:Nat->Prop}(h:∃n,p n):∃n,p n/\∀m,p m->n<=m:=by
 obtain⟨n,hn⟩:=h;induction n using Nat.strongRecOn with
 |_ n ih=>
  by_cases ab:∃m,m<n/\p m
  ·obtain⟨m,h1,h2⟩:=ab;exact ih m h1 h2
  ·exact⟨n,hn,fun m hm=>Nat.le_of_not_lt fun aW=>ab ⟨m,aW,hm⟩⟩
end
noncomputable def rh(C:gY)(c:Code)(p:Nat)(aM:Shape)(os:List be)(y:aM.H):Option (Sum aM.H (aR os)):=
 exec C c (2*p) (aM.st y) fun
  |.norm st=>(aM.ex st).map .inl
  |x=>(gF os x).map .inr
def zw:(os:List be)->(R:Type)->aR os->(Out->Option R)->Option R
 |[D],R,y,K=>K (D.1.mk (D.2.st y))
 |D::cY::r,R,y,K=>match y with
  |.inl y=>K (D.1.mk (D.2.st y))
  |.inr y=>zw (cY::r) R y K
theorem KX:∀(os:List be) (R:Type) (y:aR os) (K:Out->Option R),zw os R y K=K (kZ os y):=by
 intro os;induction os with
 |nil=>intro R y;exact y.elim
 |cons D os ih=>
  intro R y K;cases os with
  |nil=>rfl
  |cons cY r=>
   cases y with
   |inl y=>rfl
   |inr y=>exact ih R y K
def bC(aM:Shape)(os:List be)(g:aM.H->Option (aR os)):gG:=fun st=>⟨aR os,(aM.ex st).bind g,kZ os,zw os,KX os⟩
section
variable {P:Program}{C:gY}
theorem X5(ay:a9 P C.toCtx){c:Code}{p:Nat}{aM:Shape}{os:List be}(dT:fV P C c (2*p)){g:aM.H->Option (aR os)}(hg:∀y,g y=bK (rh C c p aM os) y):
  bl P (.loop c) (bC aM os g):=by
 intro rn hn L J X st y aj B tm w ds S;simp only[bC] at aj y ⊢;obtain⟨hs,h1,h2⟩:=Option.bind_eq_some_iff.1 aj;obtain⟨h6,n3,_⟩:=Shape.fT S h1;rw[hg] at h2;obtain⟨n0,GN⟩:=BD.1 h2;have alo:∃fo:Nat->Act->World->Prop,∀n a w,fo n a w <-> ∃z,iter (rh C c p aM os) n z=some y/\ec L J X ds tm (cj c) (aM.st z) a w:=⟨_,fun _ _ _=>Iff.rfl⟩
 obtain⟨fo,l0⟩:=alo;classical
 refine wpIn_loop (I:=fun a w=>∃n,fo n a w) (μ:=fun a w=>if h:∃n,fo n a w then Classical.choose (least h) else 0) ⟨n0,(l0 _ _ _).2 ⟨hs,GN,ec.of n3 fun _ _=>rfl⟩⟩ ?_
 intro a w' cW;have aeB:=(Classical.choose_spec (least cW)).1;obtain⟨z,hz,b0,dl,cP,fI,dp,aS,aJ,bM,cZ,v9⟩:=(l0 _ _ _).1 aeB;obtain⟨de,HV⟩:=a;obtain⟨bM,ajr⟩:=bM;have bM:HV=dp.map mark++ds:=bM;subst bM;have join:∀{D:Out} {e:Exit} {a2:Act} {w2:World},eX b0 dl cP (dp.map mark++ds) de (cj c) D e a2 w2->eX L J X ds tm (cj c) D e a2 w2:=fun hl=>
  (eX.trans aS aJ ajr v9 hl).mono fun t aC=>(List.mem_append.1 aC).elim id id
 cases e4:Classical.choose (least cW) with
 |zero=>rw[e4] at hz;cases hz
 |succ n=>
  rw[e4] at hz;simp only[iter] at hz;have go:∀s,rh C c p aM os z=some s->fP rn P c (fun e a w=>match s with
    |.inl ea=>eX L J X ds tm (cj c) (.norm (aM.st ea)) e a w
    |.inr b=>eX L J X ds tm (cj c) (kZ os b) e a w/\e≠.normal) ⟨de,dp.map mark++ds⟩ w':=by
   intro s M;refine iJ ay c (2*p) hn dT b0 dl cP (aM.st z) fI de w' _ _ _ M cZ ?_
   intro D e a w2 ag hl;have hl:=join hl;cases D with
   |norm pR=>
    obtain⟨ea,q1,q2⟩:=Option.map_eq_some_iff.1 ag;subst q2;exact Kind.Ce (k:=.norm) rfl q1 hl
   |exit id pR=>
    obtain⟨ea,q1,q2⟩:=Option.map_eq_some_iff.1 ag;subst q2;exact⟨th q1 hl,by rintro rfl;exact hl⟩
   |ret pR=>
    obtain⟨ea,q1,q2⟩:=Option.map_eq_some_iff.1 ag;subst q2;exact⟨th q1 hl,by rintro rfl;exact hl⟩
  cases hr:rh C c p aM os z with
  |none=>rw[hr] at hz;cases hz
  |some s=>
   cases s with
   |inl ea=>
    rw[hr] at hz;refine wpIn_mono (go _ hr) fun e a2 w2 hl=>?_
    cases e<;>try exact hl.elim
    have G1:fo n a2 w2:=(l0 _ _ _).2 ⟨ea,hz,hl⟩;refine⟨⟨n,G1⟩,?_⟩;have hex:∃n,fo n a2 w2:=⟨n,G1⟩;simp only[dif_pos hex,dif_pos cW,e4];have:Classical.choose (least hex)<=n:=(Classical.choose_spec (least hex)).2 n G1;omega
   |inr b=>
    rw[hr] at hz;simp only[Option.some.injEq] at hz;subst hz;refine wpIn_mono (go _ hr) fun e a2 w2 hl=>?_
    cases e<;>first|exact absurd rfl hl.2|exact hl.1
noncomputable def L2(C:gY)(c:Code)(p:Nat)(aM:Shape)(os:List be)(y:aM.H):Option (aR os):=exec C c p (aM.st y) (gF os)
theorem Wk(ay:a9 P C.toCtx){c:Code}{p:Nat}{aM:Shape}{os:List be}(dT:fV P C c p){g:aM.H->Option (aR os)}(hg:∀y,g y=L2 C c p aM os y):bl P c (bC aM os g):=by
 intro rn hn L J X st y aj B tm w ds S;simp only[bC] at aj y ⊢;obtain⟨hs,h1,h2⟩:=Option.bind_eq_some_iff.1 aj;obtain⟨h6,n3,_⟩:=Shape.fT S h1;rw[hg] at h2;exact iJ ay c p hn dT L J X (aM.st hs) h6 tm w _ _ _ h2 n3 fun D e a w' ag hl=>th ag hl
end
end Go.Jk
