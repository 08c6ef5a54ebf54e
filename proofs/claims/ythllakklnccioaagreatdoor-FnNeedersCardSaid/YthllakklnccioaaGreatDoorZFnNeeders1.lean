/- Needers is the inverse of Closure: of drawn packs, and a name, who needs it has it in its closure, nobody else does, and the two Needers agree. (part 2 of 6: JnOps14, JnOps15, JnOps16, JnOps17, JnOps18, JnCall1, JnCall2, JnCall3, JnCall4, JnCall5, JnBld, JnCall6, JnDraw1, JnNest, JnLogic, JnWalk0, JnDraw2, JnDraw3) Conditions: none beyond the statement. -/
import Derived.Test.YthllakklnccioaaGreatDoorZFnNeeders0
import Derived.Laws.BytesArg
import Derived.Lib.ConvBytes
import Derived.RangeFuncRecord
import Derived.Below
import Derived.RangeFuncSeq
import Derived.Orders
import Derived.OrdersIn
import Derived.ControlIn
import Derived.LoopIn
import Derived.RangeFuncCalls
set_option linter.unusedVariables false
set_option linter.unusedSimpArgs false
namespace Go.Jk
section
variable {P:Program}{M:World}{J:List Nat}{X:Nat->Prop}{B:Nat->Value}{st:ae}{tm:Array Value}{w:World}{D:Oper}
theorem rB(xs:List Int):flat .u8 xs=xs.map (aR.int .u8):=by
 unfold flat;induction xs with
 |nil=>rfl
 |cons x xs ih=>simp only[List.flatMap_cons,List.map_cons,ih];rfl
theorem L6{w:World}{av:Nat->Prop}{xs:List Int}{cs:List Value}(h:cp w av (flat .u8 xs) cs):cs=xs.map (Value.int .u8):=by
 obtain⟨h1,h2⟩:=h;rw[rB] at h1;apply List.ext_getElem
 ·rw[h1];simp
 ·intro j g1 g2;have g3:j<xs.length:=by simpa using g2
  have:=h2 j (by rw[rB];simpa using g3) g1
  have e:(flat .u8 xs)[j]'(by rw[rB];simpa using g3)=aR.int .u8 xs[j]:=by simp[rB]
  rw[e] at this;rw[jC this];simp
theorem Hu{src dst e:TypeId}{a:Addr}{len cap:Nat}{xs:List Int}(H:P.underlying src=some (.slice e))(he:P.underlying e=some (.int .u8))(Y:P.underlying dst=some .string)
  (hlen:xs.length=len) (hc:∀j u,(xs.map (Value.int .u8))[j]? =some u->w.cell? (a.add j)=some u):
  ∃b:ByteArray,(convert src dst (.slice (some a) len cap)).run P w=.ok (.string b) w/\b.data.toList=strOf xs:=by
 have hl:(loadCells a len).run P w=.ok (xs.map (Value.int .u8)).toArray w:=by
  have:=run_loadCells_list (P:=P) w a (xs.map (Value.int .u8)) hc;simpa[hlen] using this
 rw[run_convert_bytes_string w src dst e _ len cap H he Y,run_bytesToString w a len cap xs hl,foldl_push_bytes];exact⟨_,rfl,by simp[strOf]⟩
theorem wF{ti:cj}(h:isByte ti=true):ti=.int .u8:=by
 unfold isByte at h;split at h
 ·rfl
 ·cases h
theorem Xv(s:E):(bytesOf s).length=s.length:=by simp[bytesOf]
theorem Y1(S:ag M J X B st tm w){C:Ctx}(aD:CtxOk P C){src dst:TypeId}{x:Operand}{o:Nat}(al:D.op=.convert src dst x)(di:D.dst=some o)(Y:ca st D.dst=true):
  Holds (sg C src dst o st (aP C st src x)) (cA P M J X st tm w D):=by
 have bp:=cV S C src x;have H:=aD.tt src;have aC:=aD.tt dst;have run:∀{vv:Value} {w':World},(convert src dst (Act.eval ⟨tm,[]⟩ x)).run P w=.ok vv w'->(execOp (Act.eval ⟨tm,[]⟩) D).run P w=.ok (.value vv) w':=by
  intro vv w' h;unfold execOp;simp only[al,Sem.run_bind,h,Result.andThen_ok,Sem.run_pure]
 have QP:∀{ti:cj},ti.ok P src->ti≠.none->∃d,P.underlying src=some d:=by
  intro ti h hn;cases ti with
  |none=>exact absurd rfl hn
  |int k=>exact⟨_,h.1⟩
  |bool=>exact⟨_,h.1⟩
  |str=>exact⟨_,h.1⟩
  |ptr=>obtain⟨_,h⟩:=h;exact⟨_,h.1⟩
  |func=>obtain⟨_,_,_,h⟩:=h;exact⟨_,h.1⟩
  |iface=>obtain⟨_,h⟩:=h;exact⟨_,h.1⟩
  |slice e t b=>exact⟨_,h.1.1⟩
  |map k e t=>exact⟨_,h.1.1⟩
  |struct bR n z eq=>obtain⟨f,h,_⟩:=h;exact⟨_,h⟩
  |arr e t n=>exact⟨_,h.1⟩
 unfold sg;split
 ·exact .fail
 ·rename_i k k' n ak hx hn;rw[hx] at bp;rw[ak] at aC;obtain⟨d,my⟩:=QP H (by rintro h;exact absurd h (by simpa using hn))
  refine Holds.ok (dC S Y (run (vv:=.int k (k.wrap n)) ?_) (.int _ _));rw[jC bp];simp[convert,run_underlying my,run_underlying aC.1,Conv.intToInt]
 ·rename_i s ak hx hn;rw[hx] at bp;rw[ak] at aC;obtain⟨b,hb,dx⟩:=gw bp;obtain⟨d,my⟩:=QP H (by rintro h;exact absurd h (by simpa using hn))
  refine Holds.ok (dC S Y (run (vv:=.string b) ?_) (.str _ _ dx));rw[hb];simp[convert,run_underlying my,run_underlying aC.1]
 ·rename_i e b xs dP p8 hx;cases ki:isByte (C.tt e) with
  |false=>exact .fail
  |true=>
   rw[hx] at bp;rw[p8] at aC;rw[dP] at H;have he:=aD.tt e;rw[wF ki] at he;have bp:Rd w (au X B st.sites) (.sl .u8 xs) (Act.eval ⟨tm,[]⟩ x):=bp;have:∃b:ByteArray,(convert src dst (Act.eval ⟨tm,[]⟩ x)).run P w=.ok (.string b) w/\b.data.toList=strOf xs:=by
    generalize Act.eval ⟨tm,[]⟩ x=v at bp;cases bp with
    |nil=>exact⟨_,run_convert_bytes_nil w src e H.1.1 he.1 _ _ dst aC.1,rfl⟩
    |sl _ _ a cap cs n hn hcap hb hl hc hr=>
     have:=L6 (xs:=xs) ⟨hl,hr⟩;subst this;exact Hu H.1.1 he.1 aC.1 hn.symm hc
   obtain⟨b,h1,h2⟩:=this;exact Holds.ok (dC S Y (run h1) (.str _ _ h2))
 ·rename_i e b u dP p8 hx;cases ki:isByte (C.tt e) with
  |false=>exact .fail
  |true=>
   rw[hx] at bp;rw[p8] at aC;rw[dP] at H;have he:=aD.tt e;rw[wF ki] at he;have bp:Act.eval ⟨tm,[]⟩ x=.slice none 0 0:=bp;refine Holds.ok (dC S Y (run (vv:=.string ByteArray.empty) ?_) (.str _ _ rfl));rw[bp];exact run_convert_bytes_nil w src e H.1.1 he.1 _ _ dst aC.1
 ·rename_i e b F s dP p8 hx;split
  ·rename_i xs c5;cases ki:isByte (C.tt e) with
   |false=>exact .fail
   |true=>
    rw[hx] at bp;rw[p8] at aC;rw[dP] at H;have he:=aD.tt e;rw[wF ki] at he;have ab:=Z9 bp c5;have:∃b:ByteArray,(convert src dst (Act.eval ⟨tm,[]⟩ x)).run P w=.ok (.string b) w/\b.data.toList=strOf xs:=by
     rw[ab];obtain⟨cs,h1,hc⟩:=S.row c5;rcases hc with⟨h2,aa⟩|⟨a',c,h2,aa,aN⟩
     ·subst aa;rw[h2];exact⟨_,run_convert_bytes_nil w src e H.1.1 he.1 _ _ dst aC.1,rfl⟩
     ·have:=L6 (xs:=xs) (il h1);subst this;rw[h2];exact Hu H.1.1 he.1 aC.1 rfl (fun j u hu=>by rw[gy];exact aa j u hu)
    obtain⟨b,h1,h2⟩:=this;exact Holds.ok (dC S Y (run h1) (.str _ _ h2))
  ·exact .fail
 ·rename_i e b s dP p8 hx;cases ki:isByte (C.tt e) with
  |false=>exact .fail
  |true=>
   rw[hx] at bp;rw[p8] at aC;rw[dP] at H;have he:=aD.tt e;rw[wF ki] at he;obtain⟨g',hb,dx⟩:=gw bp;have cN:(convert src dst (Act.eval ⟨tm,[]⟩ x)).run P w=.ok (.slice (some ⟨w.heap.size,0,none⟩) g'.size (grownCap w g'.size 0 e)) (Go.Lib.bytesWorld w e g'):=by
    rw[hb];exact Go.Lib.run_convert_string_bytes w src dst e g' H.1 aC.1.1 he.1
   have hcap:g'.size<=grownCap w g'.size 0 e:=grownCap_ge w g'.size 0 e;refine Holds.ew fun r hr=>?_
   have uT:g'.size<=maxLen:=by
    have hr:(if s.length<=maxLen then some () else none)=some r:=hr
    split at hr
    ·rename_i h;rw[<-dx] at h;simpa using h
    ·cases hr
   have eX:(Go.Lib.bytesCells w e g').size=grownCap w g'.size 0 e:=by
    simp only[Go.Lib.bytesCells,Array.size_append,Array.size_map,Array.size_replicate];have:g'.data.size=g'.size:=rfl;omega
   have hlen:g'.size=(bytesOf s).length:=by rw[Xv,<-dx];rfl
   have hG:ag M J X (fun F=>if F=o then .slice (some ⟨w.heap.size,0,none⟩) g'.size (grownCap w g'.size 0 e) else B F) {st with sites:=cd st.sites o (.row (aU st o) .u8 (bytesOf s))} tm (Go.Lib.bytesWorld w e g'):=by
    refine S.make (fun b hb=>Go.Lib.bytesWorld_at_old w e g' b hb) rfl rfl rfl (by rw[Go.Lib.bytesWorld_size];omega) (fun O H=>jg H)
     (fun b hb=>by have hb:=List.mem_singleton.1 hb;subst hb;exact⟨Nat.le_refl _,by rw[Go.Lib.bytesWorld_size];exact Nat.lt_succ_self _⟩) ?_
    intro bi az ed d' go ajs ajy;refine⟨e,g'.data.toList.map fun b=>Value.int .u8 b.toNat,⟨?_,.inr ⟨_,_,Go.Lib.bytesCells w e g',_,d'.trans (by rw[hlen]),⟨(fun h=>by obtain⟨_,z,_,_,eQ⟩:=aC;exact eQ h),.inr ⟨rfl,Nat.le_refl _⟩⟩,Go.Lib.bytesWorld_at_new w e g',by rw[<-hlen];exact hcap,grownCap_le_maxLen w g'.size 0 e uT,?_,?_⟩⟩,fun j g1 g2=>?_⟩
    ·rw[List.length_map,<-hlen];exact(Nat.mul_one _).symm
    ·rw[eX];exact(Nat.mul_one _).symm
    ·have h1:(bytesOf s).length*ax .u8=(g'.data.toList.map fun b=>Value.int .u8 b.toNat).length:=by rw[List.length_map,<-hlen];exact Nat.mul_one _
     rw[h1];simp only[Go.Lib.bytesCells,Array.toList_append,Array.toList_map];exact List.take_left
    ·subst dx;simp only[rB,bytesOf,List.getElem_map];exact .int _ _
   refine hU (us:=[(o,.row (aU st o) .u8 (bytesOf s))]) hG Y (run cN) ?_
   refine⟨rfl,Ref.mk (O:=.row (aU st o) .u8 (bytesOf s)) ?_ rfl (by simp[bO])⟩
   simp only[aZ,cr];simp
 ·exact .fail
end
section
variable {P:Program}{M:World}{J:List Nat}{X:Nat->Prop}{B:Nat->Value}{st:ae}{tm:Array Value}{w:World}{D:Oper}
theorem Lc(S:ag M J X B st tm w){C:Ctx}{x:Operand}(al:D.op=.move x\/D.op=.assign x)(Y:ca st D.dst=true)(T:TypeId):cA P M J X st tm w D (aP C st T x) []:=by
 refine dC S Y (vv:=Act.eval ⟨tm,[]⟩ x) ?_ (cV S C T x);unfold execOp;rcases al with h|h<;>simp only[h,Sem.run_pure]
theorem K7(S:ag M J X B st tm w){C:Ctx}{c a b:Operand}{t:Bool}{T:TypeId}(al:D.op=.pick c a b)(Y:ca st D.dst=true)(hc:aP C st T c=.av (.aq (.d (.bool t)))):
  cA P M J X st tm w D (aP C st T (if t then a else b)) []:=by
 refine dC S Y (vv:=Act.eval ⟨tm,[]⟩ (if t then a else b)) ?_ (cV S C T _)
 unfold execOp;have:=Dx S hc;cases t<;>simp[al,this,asBool]
theorem Ud(S:ag M J X B st tm w){C:Ctx}{x:Operand}{t:Bool}{T et:TypeId}(al:D.op=.unOp .not et x)(Y:ca st D.dst=true)(hc:aP C st T x=.av (.aq (.d (.bool t)))):
  cA P M J X st tm w D (one (.bool (!t))) []:=by
 refine dC S Y (vv:=.bool (!t)) ?_ (.bool _);unfold execOp;simp[al,Dx S hc,Op.unary]
theorem Ue(S:ag M J X B st tm w){C:Ctx}{x:Operand}{k:IntKind}{n:Int}{T et:TypeId}(al:D.op=.unOp .neg et x)(Y:ca st D.dst=true)(hc:aP C st T x=.av (.aq (.d (.int k n)))):
  cA P M J X st tm w D (one (.int k (k.wrap (0-n)))) []:=by
 refine dC S Y (vv:=.int k (k.wrap (0-n))) ?_ (.int _ _);unfold execOp;simp[al,j3 S hc,Op.unary,Op.intArith]
theorem A'(S:ag M J X B st tm w){C:Ctx}{x:Operand}{v:aL}{T:TypeId}(al:D.op=.nilCheck x)(Y:ca st D.dst=true)(hc:aP C st T x=v)
  (ab:∀vv,cc B st.sites w (au X B st.sites) v vv->∃a,vv=.pointer (some a)):cA P M J X st tm w D v []:=by
 have:=cV S C T x;rw[hc] at this;obtain⟨a,bm⟩:=ab _ this;refine dC S Y (vv:=Act.eval ⟨tm,[]⟩ x) ?_ this;unfold execOp;simp[al,bm]
theorem VI(S:ag M J X B st tm w){C:Ctx}{x:Operand}{i:Nat}{as:List bF}{a:bF}{T:TypeId}(al:D.op=.extract x i)(Y:ca st D.dst=true)(hc:aP C st T x=.ju as)(bm:as[i]? =some a):
  cA P M J X st tm w D (.av a) []:=by
 have bp:=cV S C T x;rw[hc] at bp;obtain⟨vs,h1,h2,aa⟩:=bp;obtain⟨am,agR⟩:=List.getElem?_eq_some_iff.1 bm;have lF:i<vs.length:=by omega
 refine dC S Y (vv:=vs[i]) ?_ (by rw[<-agR];exact aa i am lF)
 unfold execOp;simp[al,h1,Instr.extract,lF]
theorem Jb(S:ag M J X B st tm w){C:Ctx}{x y:Operand}{k k':IntKind}{a b:Int}{T:TypeId}{sb:Bool}{c0:Array TypeId}(al:D.op=.call {callee:=.builtin (if sb then .max else .min),args:=#[x,y],argTypes:=c0})(Y:ca st D.dst=true)
  (hx:aP C st T x=.av (.aq (.d (.int k a)))) (an:aP C st T y=.av (.aq (.d (.int k' b)))):cA P M J X st tm w D (one (.int k (if sb then hp a b else zK a b))) []:=by
 refine dC S Y (vv:=.int k (if sb then hp a b else zK a b)) ?_ (.int _ _)
 unfold execOp;cases sb<;>simp[al,resolve,invoke,builtin,j3 S hx,j3 S an,Builtin.max_,Builtin.min_,Builtin.max2,Builtin.min2,hp,zK]
theorem _d(S:ag M J X B st tm w){C:Ctx}{x y z u v:Operand}{k aw aj bA cD:IntKind}{a b c d e:Int}{T:TypeId}{c0:Array TypeId}(al:D.op=.call {callee:=.builtin .max,args:=#[x,y,z,u,v],argTypes:=c0})(Y:ca st D.dst=true)
  (hx:aP C st T x=.av (.aq (.d (.int k a)))) (an:aP C st T y=.av (.aq (.d (.int aw b)))) (aK:aP C st T z=.av (.aq (.d (.int aj c)))) (hu:aP C st T u=.av (.aq (.d (.int bA d)))) (ab:aP C st T v=.av (.aq (.d (.int cD e)))):
  cA P M J X st tm w D (one (.int k (hp (hp (hp (hp a b) c) d) e))) []:=by
 refine dC S Y (vv:=.int k (hp (hp (hp (hp a b) c) d) e)) ?_ (.int _ _);unfold execOp;simp[al,resolve,invoke,builtin,j3 S hx,j3 S an,j3 S aK,j3 S hu,j3 S ab,Builtin.max_,Builtin.max2,hp]
theorem Y4(S:ag M J X B st tm w){C:Ctx}:∀{xs:List Operand} {bG:List (Nat×Nat)},step.nV C st xs=some bG->xs.length=bG.length/\
  ∀i (h:i<bG.length) (af:i<xs.length),Ref st.sites (bG[i]).1 (bG[i]).2 (Act.eval ⟨tm,[]⟩ (xs[i])=bO (B (bG[i]).1)):=by
 intro xs;induction xs with
 |nil=>intro bG h;simp only[step.nV] at h;cases h;exact⟨rfl,fun i h=>by simp at h⟩
 |cons x xs ih=>
  intro bG h;simp only[step.nV] at h;split at h
  ·rename_i o s l hx hl;cases h;obtain⟨h1,h2⟩:=ih hl;refine⟨by simp[h1],fun i g1 g2=>?_⟩
   cases i with
   |zero=>
    have:=cV S C 0 x;rw[hx] at this;obtain⟨b,hb,O,cy,b',dy⟩:=this;exact⟨O,cy,b',fun e=>by simp only[List.getElem_cons_zero];rw[dy e];exact hb⟩
   |succ i=>simpa using h2 i (by simpa using g1) (by simpa using g2)
  ·cases h
theorem Uy(S:ag M J X B st tm w){C:Ctx}{g:FuncId}{first captured:Array Operand}{bG:List (Nat×Nat)}(al:D.op=.makeFunc (.func g) first captured)(Y:ca st D.dst=true)(hf:first.toList.isEmpty=true)
  (hc:step.nV C st captured.toList=some bG):cA P M J X st tm w D (b0 (.clo g bG)) []:=by
 obtain⟨h1,h2⟩:=Y4 S hc;refine dC S Y (vv:=.func (.func g) #[] (captured.toList.map (Act.eval ⟨tm,[]⟩)).toArray) ?_ ⟨captured.toList.map (Act.eval ⟨tm,[]⟩),rfl,by simpa using h1,fun i g1 g2=>?_⟩
 ·have:first=#[]:=by simpa using hf
  unfold execOp;simp only[al,Instr.makeFunc,Sem.run_bind,Sem.run_pure,Result.andThen_ok,this];simp;apply Array.ext';simp
 ·have:=h2 i g1 (by simpa using g2)
  simpa using this
theorem JA(S:ag M J X B st tm w){C:Ctx}{bR:List (Nat×Nat)}:∀(parts:List (Nat×Operand)) (z:List ay) (cells:Array Value),ct B st.sites w (au X B st.sites) z cells.toList->
  Holds (step.mS C st bR z parts) (fun v us=>us=[]/\∃jE,Instr.fill (bR.toArray[·]?) cells (parts.map fun p=>(p.1,Act.eval ⟨tm,[]⟩ p.2))=some jE/\cc B st.sites w (au X B st.sites) v (.agg jE)):=by
 intro parts;induction parts with
 |nil=>intro z cells h;exact Holds.ok ⟨rfl,cells,rfl,cells.toList,by simp,h.1,h.2⟩
 |cons p parts ih=>
  obtain⟨i,x⟩:=p;intro z cells h;simp only[step.mS];split
  ·rename_i off n a hf bm;cases hb:(a.cells.length.beq n&&gR a.cells&&Nat.ble (off+n) z.length) with
   |false=>exact .fail
   |true=>
    simp only[cond_true];simp only[Bool.and_eq_true] at hb;obtain⟨⟨a7,aM⟩,b9⟩:=hb;have a7:=Nat.eq_of_beq_eq_true a7;have b9:=Nat.le_of_ble_eq_true b9;have bp:=cV S C 0 x;rw[pN bm] at bp;have oW:=gE.cells (bp:gE B st.sites w _ a _) aM;have eX:(Act.eval ⟨tm,[]⟩ x).cells.size=n:=by rw[<-a7,<-oW.1];simp
    have dc:off+(Act.eval ⟨tm,[]⟩ x).cells.size<=cells.size:=by
     have:=h.1;simp at this;omega
    have:=ih (Jk.cg z off a.cells) (Jk.cg cells.toList off (Act.eval ⟨tm,[]⟩ x).cells.toList).toArray (by simpa using ct.cg off h oW)
    intro y an hc;obtain⟨g1,jE,g2,g3⟩:=this y an hc;refine⟨g1,jE,?_,g3⟩;simp only[List.map_cons,Instr.fill];have vJ:bR.toArray[i]? =some (off,n):=by simpa using hf
    simp only[vJ];have bD:¬((Act.eval ⟨tm,[]⟩ x).cells.size≠n\/off+(Act.eval ⟨tm,[]⟩ x).cells.size>cells.size):=by omega
    have bM:(decide ((Act.eval ⟨tm,[]⟩ x).cells.size≠n)||decide (off+(Act.eval ⟨tm,[]⟩ x).cells.size>cells.size))=false:=by
     simp;omega
    have jp:off+n<=cells.size:=by omega
    rw[H0 _ _ _ dc];simp only[Bool.decide_or,eX] at*;simpa[bM,jp] using g2
  ·exact .fail
theorem Y7(S:ag M J X B st tm w){C:Ctx}(aD:CtxOk P C){T:TypeId}{parts:Array (Nat×Operand)}{bR:List (Nat×Nat)}{n:Nat}{z:List ay}{eq:Bool}(aY:C.tt T=.struct bR n z eq)(al:D.op=.build T parts)
  (Y:ca st D.dst=true):Holds (step.mS C st bR z parts.toList) (cA P M J X st tm w D):=by
 have bt:=aD.tt T;rw[aY] at bt;obtain⟨fields,ea,⟨hf,_⟩,⟨fP,aK,ob,Ao⟩,_⟩:=bt;obtain⟨aw,aj,bA⟩:=q_ ob;intro y an hc;obtain⟨g1,jE,g2,g3⟩:=JA S parts.toList z fP ⟨aw,fun j h af=>bA _ _ _ _ j h af⟩ y an hc
 rw[g1];refine dC S Y (vv:=.agg jE) ?_ g3;cases am:P.info? T with
 |none=>simp[am] at aK
 |some GY=>
  simp only[am,Option.map_some,Option.some.injEq,Prod.mk.injEq] at aK;have hb:P.built T (parts.toList.map fun p=>(p.1,Act.eval ⟨tm,[]⟩ p.2))=some jE:=by
   unfold Program.built;simp only[am,ea,aK.2,hf];exact g2
  have ck:P.built T (parts.map fun p=>(p.1,Act.eval ⟨tm,[]⟩ p.2)).toList=some jE:=by simpa using hb
  unfold execOp;simp only[al,Sem.run_bind,run_build w T _ jE ck,Result.andThen_ok,Sem.run_pure]
end
def j0(w:World)(b:Nat)(D:Obj):World:={w with heap:=w.heap.setIfInBounds b D}
theorem rs{b:ByteArray}{l:E}(h:b.data.toList=l):Value.string b=eo l:=by
 subst h;rfl
def gz{aJ:Type}:List (E×aJ)->E->Nat->Option (Nat×aJ)
 |[],_,_=>none
 |(k,v)::r,n,i=>bif k==n then some (i,v) else gz r n (i+1)
theorem W_{aJ:Type}(n:E):∀(es:List (E×aJ)) (i:Nat),(gz es n i).map (·.2)=cU es n:=by
 intro es;induction es with
 |nil=>intro i;rfl
 |cons p es ih=>
  intro i;simp only[gz,cU];cases p.1==n with
  |true=>rfl
  |false=>exact ih (i+1)
theorem Ux{aJ:Type}(n:E)(v:aJ):∀(es:List (E×aJ)) (i:Nat),gz es n i=none->c3 es n v=es++[(n,v)]:=by
 intro es;induction es with
 |nil=>intro i _;rfl
 |cons p es ih=>
  intro i h;simp only[gz] at h;simp only[c3];cases ai:(p.1==n) with
  |true=>rw[ai] at h;cases h
  |false=>rw[ai] at h;simp only[cond_false,ih (i+1) h,List.cons_append]
theorem Vw{aJ:Type}(n:E)(v:aJ):∀(es:List (E×aJ)) (i j:Nat) (v0:aJ),gz es n i=some (j,v0)->i<=j/\(∃p,es[j-i]? =some p/\p.1=n)/\c3 es n v=es.modify (j-i) fun p=>(p.1,v):=by
 intro es;induction es with
 |nil=>intro i j v0 h;cases h
 |cons p es ih=>
  intro i j v0 h;simp only[gz] at h;simp only[c3];cases ai:(p.1==n) with
  |true=>
   rw[ai] at h;cases h;refine⟨Nat.le_refl _,⟨p,by simp,eq_of_beq ai⟩,?_⟩
   simp
  |false=>
   rw[ai] at h;obtain⟨h1,⟨q,h2,aa⟩,aN⟩:=ih (i+1) j v0 h;have e:j-i=(j-(i+1))+1:=by omega
   refine⟨by omega,⟨q,by rw[e];simpa using h2,aa⟩,?_⟩
   rw[e,cond_false,aN,List.modify_succ_cons]
theorem W9{aJ iA:Type}(g:aJ->iA)(n:E):∀(es:List (E×aJ)) (i:Nat),gz (es.map fun p=>(p.1,g p.2)) n i=(gz es n i).map fun p=>(p.1,g p.2):=by
 intro es;induction es with
 |nil=>intro i;rfl
 |cons p es ih=>
  intro i;simp only[List.map_cons,gz];cases p.1==n with
  |true=>rfl
  |false=>exact ih (i+1)
theorem Ij{aJ iA:Type}(g:aJ->iA)(n:E)(x:aJ):∀(es:List (E×aJ)),c3 (es.map fun p=>(p.1,g p.2)) n (g x)=(c3 es n x).map fun p=>(p.1,g p.2):=by
 intro es;induction es with
 |nil=>rfl
 |cons p es ih=>
  simp only[List.map_cons,c3];cases p.1==n with
  |true=>rfl
  |false=>simp only[cond_false,List.map_cons,ih]
theorem C2{t:aG}(es:List (E×den t)):nR t es=iT (es.map fun p=>(p.1,nt t p.2)):=by simp[nR,iT]
theorem Ju(n:E):∀(es:List (E×Value)) (jd:List MapEntry) (i:Nat),jd.map (fun e=>(e.key,e.val))=iT es->
  Instr.findNow .string (eo n) jd i=some (gz es n i)
 |[],jd,i,h=>by
  have:jd=[]:=by simpa[iT] using h
  subst this;rfl
 |(k,v)::es,[],i,h=>by simp[iT] at h
 |(k,v)::es,m::jd,i,h=>by
  simp only[iT,List.map_cons,List.cons.injEq,Prod.mk.injEq] at h;obtain⟨⟨h1,h2⟩,aa⟩:=h;have ih:=Ju n es jd (i+1) aa;have H:Instr.sameNow .string (eo n) m.key=some (k==n):=by
   rw[h1];show some ((⟨n.toArray⟩:ByteArray)==⟨k.toArray⟩)=_;rw[bytes_beq];congr 1
   rw[Bool.eq_iff_iff];simp only[beq_iff_eq];exact eq_comm
  unfold Instr.findNow gz;rw[H];cases k==n with
  |true=>simp only[cond_true,h2]
  |false=>simp only[cond_false];exact ih
section
variable {P:Program}{w:World}{e0 fF T:TypeId}{t:aG}
theorem U9{e0:TypeId}(ak:P.underlying e0=some .string)(c:Bool)(s:E)(n:Nat):(Instr.checkKey c (n+1) e0 (eo s)).run P w=.ok () w:=by
 simp[Instr.checkKey,run_underlying ak,eo,Result.andThen]
theorem mJ{e0:TypeId}(ak:P.underlying e0=some .string)(c:Bool)(s:E):(Instr.checkKey c 10000 e0 (eo s)).run P w=.ok () w:=U9 ak c s 9999
theorem rh{e0:TypeId}(ak:P.underlying e0=some .string){es:List (E×Value)}{arr:Array MapEntry}(h:ir arr=iT es)(n:E):
  (Instr.findKey e0 (eo n) arr.toList).run P w=.ok (gz es n 0) w:=by
 simp[Instr.findKey,run_underlying ak,Ju n es arr.toList 0 h,Result.andThen]
theorem Ki{e0:TypeId}(ak:P.underlying e0=some .string){es:List (E×den t)}{arr:Array MapEntry}(h:ir arr=nR t es)(n:E):
  (Instr.findKey e0 (eo n) arr.toList).run P w=.ok ((gz es n 0).map fun p=>(p.1,nt t p.2)) w:=by
 rw[rh ak (h.trans (C2 es)),W9]
theorem WD(s:E):(Instr.keyThatStays (eo s) (eo s)).run P w=.ok (eo s) w:=by
 have:Instr.sameBits 10000 (eo s) (eo s)=true:=by
  show((⟨s.toArray⟩:ByteArray)==⟨s.toArray⟩)=true;rw[bytes_beq];simp
 simp[Instr.keyThatStays,this]
theorem abI{t:aG}{d:aR}{x:den t}{v:Value}{av:Nat->Prop}(h:EK t d=some x)(hr:Rd w av d v):v=nt t x:=by
 unfold EK at h;split at h
 ·cases h;cases hr;rfl
 ·cases h;cases hr;rfl
 ·cases h
theorem HM(aY:P.underlying T=some (.map e0 fF))(ak:P.underlying e0=some .string){b:Nat}{arr:Array MapEntry}{clock:Nat}{es:List (E×Value)}(hb:w.heap[b]? =some (.map arr clock))(he:ir arr=iT es)(n:E)(x:Value):
  ∃jr jD,(Instr.mapUpdate T (.map (some b)) (eo n) x).run P w=.ok () (j0 w b (.map jr jD))/\ir jr=iT (c3 es n x):=by
 cases hm:gz es n 0 with
 |none=>
  refine⟨arr.push ⟨eo n,x,clock⟩,clock+1,?_,?_⟩
  ·have hf:=rh (w:=w) ak he n;rw[hm] at hf;simp[Instr.mapUpdate,run_underlying aY,MapKept.run_getObj_map hb,mJ ak,hf,MapKept.run_setObj_map _ hb,Result.andThen,j0]
  ·rw[Ux n x es 0 hm];unfold ir iT at he ⊢;simp[he]
 |some p=>
  obtain⟨j,v0⟩:=p;obtain⟨_,⟨q,h2,aa⟩,aN⟩:=Vw n x es 0 j v0 hm;rw[Nat.sub_zero] at h2 aN;have hlen:arr.size=es.length:=by have:=congrArg List.length he;simpa[ir,iT] using this
  have bv:j<arr.size:=by rw[hlen];exact(List.getElem?_eq_some_iff.1 h2).1
  have adK:((arr[j]?).map (·.key)).getD (eo n)=eo n:=by
   have bn:=congrArg (fun l=>l[j]?) he
   simp only[ir,iT,List.getElem?_map,h2,Option.map_some,Array.getElem?_toList] at bn;cases bm:arr[j]? with
   |none=>rfl
   |some e=>
    rw[bm] at bn;simp only[Option.map_some,Option.some.injEq,Prod.mk.injEq] at bn;simp[bn.1,aa]
  refine⟨arr.modify j fun e=>{e with key:=eo n,val:=x},clock,?_,?_⟩
  ·have hf:=rh (w:=w) ak he n;rw[hm] at hf;simp[Instr.mapUpdate,run_underlying aY,MapKept.run_getObj_map hb,mJ ak,hf,MapKept.run_setObj_map _ hb,Result.andThen,j0,adK,WD]
  ·rw[aN];unfold ir iT at he ⊢;apply List.ext_getElem?;intro i;have bn:=congrArg (fun l=>l[i]?) he
   simp only[List.getElem?_map,Array.getElem?_toList] at bn;simp only[List.getElem?_map,Array.getElem?_toList,Array.getElem?_modify,List.getElem?_modify];by_cases pn:j=i
   ·subst pn;simp only[if_true,h2,Option.map_some,<-aa];cases bm:arr[j]? with
    |none=>rw[bm,h2] at bn;cases bn
    |some e=>rfl
   ·simp only[pn,if_false];cases bm:arr[i]? <;>cases ck:es[i]? <;>rw[bm,ck] at bn<;>simp_all
theorem U7(aY:P.underlying T=some (.map e0 fF))(ak:P.underlying e0=some .string){b:Nat}{arr:Array MapEntry}{clock:Nat}{es:List (E×den t)}(hb:w.heap[b]? =some (.map arr clock))(he:ir arr=nR t es)(n:E)(x:den t):
  ∃jr jD,(Instr.mapUpdate T (.map (some b)) (eo n) (nt t x)).run P w=.ok () (j0 w b (.map jr jD))/\ir jr=nR t (c3 es n x):=by
 obtain⟨jr,jD,h1,h2⟩:=HM (T:=T) aY ak hb (he.trans (C2 es)) n (nt t x);exact⟨jr,jD,h1,by rw[h2,Ij (nt t),<-C2]⟩
end
section
variable {P:Program}{M:World}{J:List Nat}{X:Nat->Prop}{B:Nat->Value}{st:ae}{tm:Array Value}{w:World}{D:Oper}
theorem tz(w:World)(b a':Nat)(D:Obj)(h:a'≠b):(j0 w b D).heap[a']? =w.heap[a']? :=by
 simp only[j0,Array.getElem?_setIfInBounds];rw[if_neg (fun e=>h e.symm)]
theorem Hj(w:World)(b:Nat)(D cW:Obj)(h:w.heap[b]? =some cW):(j0 w b D).heap[b]? =some D:=by
 have:=(Array.getElem?_eq_some_iff.1 h).1;simp[j0,Array.getElem?_setIfInBounds,this]
theorem ag.aal(S:ag M J X B st tm w){o s b:Nat}{t:aG}{es hB:List (E×den t)}{D:Obj}{jr:Array MapEntry}{jD:Nat}(hl:look st.sites o=some (.map s t es))(bH:B o=.map (some b))(aF:w.heap[b]? =some D)
  (he:ir jr=nR t hB):ag M J X B {st with sites:=cd st.sites o (.map s t hB)} tm (j0 w b (.map jr jD)):=by
 have vO:b∈bf (B o):=fS (by rw[bH];rfl)
 have cZ:bT st.sites o:=⟨_,hl,rfl⟩;have ma:∀F,bT (cd st.sites o (.map s t hB)) F <-> bT st.sites F:=Iq hl rfl;have b5:∀a',au X B (cd st.sites o (.map s t hB)) a' <-> au X B st.sites a':=by
  intro a';unfold au;simp only[ma]
 have cE:∀a',¬au X B st.sites a'->a'≠b:=by
  rintro a' h rfl;exact h (.inr ⟨o,cZ,vO⟩)
 have eX:(j0 w b (.map jr jD)).heap.size=w.heap.size:=by simp[j0]
 refine S.nY (fun F ap bk=>?_) (fun a' h _=>tz w b a' _ (cE a' h)) (fun a' h _=>by rw[b5];exact h) (fun go F ap bk=>?_) (fun F aI a' h1 h2=>S.dp F aI a' ((ma F).1 h1) ((ma aI).1 h2))
  (fun F a' h=>S.ci F a' ((ma F).1 h)) (fun F a' h hb=>by rw[eX];exact S.dS ((ma F).1 h) hb) ?_ (by rw[eX];exact Nat.le_refl _)
 ·rw[cr];by_cases e:o=F
  ·subst e;rw[hl] at bk;cases bk;exact⟨.map s t hB,by simp,Nat.le_refl _,fun _=>rfl⟩
  ·exact⟨ap,by simp[e,bk],Nat.le_refl _,fun _=>rfl⟩
 ·rw[cr] at bk;by_cases e:o=F
  ·subst e;simp only[if_true,Option.some.injEq] at bk;subst bk;exact .inr ⟨b,bH,jr,jD,Hj w b _ _ aF,he⟩
  ·simp only[e,if_false] at bk;refine .inl ⟨bk,rfl,fun sx a' ck=>tz w b a' _ ?_⟩
   rintro rfl;exact e (S.dp o F _ cZ ⟨ap,bk,sx⟩ vO ck)
 ·have aB:=S.frame;refine⟨aB.os,aB.tape,aB.output,by rw[eX];exact aB.size,fun a' h1 h2=>?_⟩
  rw[tz w b a' _ ?_]
  ·exact aB.block a' h1 h2
  ·rintro rfl;rcases(S.ci o _ cZ vO).2 with h|h
   ·exact h2 h
   ·omega
theorem ag.makeMap(S:ag M J X B st tm w){o:Nat}{t:aG}:
  ag M J X (fun F=>if F=o then .map (some w.heap.size) else B F) {st with sites:=cd st.sites o (.map (aU st o) t [])} tm (w.alloc (.map #[] 0)):=
 S.make (fun b hb=>RowKit.Below.heap_alloc w _ b hb) rfl rfl rfl (by simp) (fun O H=>jg H) (fun b hb=>by have hb:=List.mem_singleton.1 hb;subst hb;exact⟨Nat.le_refl _,by simp⟩)
  (fun H bH go _ _=>⟨w.heap.size,bH,#[],0,heap_alloc_new w _,rfl⟩)
theorem ag.YF(S:ag M J X B st tm w){o:Nat}:
  ag M J X (fun F=>if F=o then .tuple [.map (some w.heap.size)].toArray else B F) {st with sites:=cd st.sites o (.ey (aU st o) [])} tm (w.alloc (.map #[] 0)):=
 S.make (fun b hb=>RowKit.Below.heap_alloc w _ b hb) rfl rfl rfl (by simp) (fun O H=>jg H) (fun b hb=>by
   have hb:=List.mem_singleton.1 hb;subst hb;exact⟨Nat.le_refl _,by simp⟩)
  (fun H bH go _ _=>⟨w.heap.size,#[],0,[],bH,by rw[bH];simp[bf,ba],heap_alloc_new w _,[],rfl,.nil⟩)
end
section
variable {P:Program}{M:World}{J:List Nat}{X:Nat->Prop}{B:Nat->Value}{st:ae}{tm:Array Value}{w:World}{D:Oper}
theorem Ik(S:ag M J X B st tm w){T:TypeId}{e0 fF:TypeId}{t:aG}{r:Option Operand}{o:Nat}(al:D.op=.makeMap T r)(di:D.dst=some o)(Y:ca st D.dst=true)(aY:P.underlying T=some (.map e0 fF))
  (hr:∀x,r=some x->∃k n,Act.eval ⟨tm,[]⟩ x=.int k n):cA P M J X st tm w D (b0 (.own o (aU st o))) [(o,yM (aU st o) t)]:=by
 have cN:(execOp (Act.eval ⟨tm,[]⟩) D).run P w=.ok (.value (.map (some w.heap.size))) (w.alloc (.map #[] 0)):=by
  unfold execOp;cases r with
  |none=>simp[al,Instr.makeMap]
  |some x=>
   obtain⟨k,n,hx⟩:=hr x rfl;simp[al,Instr.makeMap,hx,run_underlying aY,asInt,asIntOf,Result.andThen]
 have fin:∀{O:Site} {nv:Value},O.b2=aU st o->bO nv=.map (some w.heap.size)->ag M J X (fun F=>if F=o then nv else B F) {st with sites:=cd st.sites o O} tm (w.alloc (.map #[] 0))->
   cA P M J X st tm w D (b0 (.own o (aU st o))) [(o,O)]:=by
  intro O nv h1 h2 bY;refine hU (us:=[(o,O)]) bY Y cN ?_
  refine⟨rfl,Ref.mk (O:=O) ?_ h1 (by simp[h2])⟩
  simp only[aZ,cr];simp
 by_cases aC:t=.strs
 ·subst aC;exact fin rfl rfl S.YF
 ·have e:yM (aU st o) t=.map (aU st o) t []:=by cases t<;>first|rfl|exact absurd rfl aC
  rw[e];exact fin rfl rfl (S.makeMap (t:=t))
theorem ag.ad6(S:ag M J X B st tm w){o dst:Nat}{O bw hY:Site}{nv sL:Value}(cE:o≠dst)(hl:look st.sites o=some O)(fJ:O.live=true)(dB:bw.b2=O.b2)(sX:bO nv=bO (B o))
  (zQ:∀s,look st.sites dst=some s->s.b2<hY.b2) (dI:∀b,b∈bf nv->b∈bf (B o)) (abV:∀b,b∈bf sL->b∈bf (B o)/\b∉bf nv)
  (dR:∀{bi:List (Nat×Site)} {az:Nat->Value},az o=nv->az dst=sL->(∀{a v},cc B st.sites w (au X B st.sites) a v->cc az bi w (au X az bi) a v)->
   hW az bi w (au X az bi) o bw/\hW az bi w (au X az bi) dst hY):
  ag M J X (fun F=>if F=dst then sL else if F=o then nv else B F) {st with sites:=aZ st.sites [(o,bw),(dst,hY)]} tm w:=by
 have be:bT st.sites o:=⟨_,hl,fJ⟩;have h0:∀F,look (aZ st.sites [(o,bw),(dst,hY)]) F=if dst=F then some hY else if o=F then some bw else look st.sites F:=by
  intro F;simp only[aZ,cr]
 have hold:∀F b,bT (aZ st.sites [(o,bw),(dst,hY)]) F->b∈bf (if F=dst then sL else if F=o then nv else B F)->
   (F=dst/\b∈bf (B o)/\b∉bf nv)\/(F=o/\F≠dst/\b∈bf nv)\/(F≠dst/\F≠o/\bT st.sites F/\b∈bf (B F)):=by
  rintro F b ⟨s,h1,h2⟩ hb;rw[h0] at h1;by_cases e:F=dst
  ·rw[if_pos e] at hb;exact .inl ⟨e,abV b hb⟩
  ·rw[if_neg e] at hb;rw[if_neg (fun h=>e h.symm)] at h1
   by_cases e2:F=o
   ·rw[if_pos e2] at hb;exact .inr (.inl ⟨e2,e,hb⟩)
   ·rw[if_neg e2] at hb;rw[if_neg (fun h=>e2 h.symm)] at h1
    exact .inr (.inr ⟨e,e2,⟨s,h1,h2⟩,hb⟩)
 have FO:∀F b,bT (aZ st.sites [(o,bw),(dst,hY)]) F->b∈bf (if F=dst then sL else if F=o then nv else B F)->∃aI,bT st.sites aI/\b∈bf (B aI):=by
  intro F b h1 h2;rcases hold F b h1 h2 with⟨_,h,_⟩|⟨_,_,h⟩|⟨_,_,h,af⟩
  ·exact⟨o,be,h⟩
  ·exact⟨o,be,dI b h⟩
  ·exact⟨F,h,af⟩
 refine S.nY (fun F s bk=>?_) (fun b _ _=>rfl) (fun b h hb af=>?_) (fun go F s bk=>?_) (fun F aI b h1 h2 g1 g2=>?_) (fun F b h1 g1=>?_) (fun F b h1 g1=>?_) S.frame (Nat.le_refl _)
 ·rw[h0];by_cases e:dst=F
  ·subst e;exact⟨hY,by simp,Nat.le_of_lt (zQ s bk),fun h=>by have:=zQ s bk;omega⟩
  ·have bK:¬F=dst:=fun h=>e h.symm
   by_cases e2:o=F
   ·subst e2;rw[hl] at bk;cases bk;exact⟨bw,by simp[e],Nat.le_of_eq dB.symm,fun _=>by simp[bK,sX]⟩
   ·have Gu:¬F=o:=fun h=>e2 h.symm
    exact⟨s,by simp[e,e2,bk],Nat.le_refl _,fun _=>by simp[bK,Gu]⟩
 ·rcases af with af|⟨F,h1,h2⟩
  ·exact h (.inl af)
  ·obtain⟨aI,aw,aj⟩:=FO F b h1 h2;exact h (.inr ⟨aI,aw,aj⟩)
 ·rw[h0] at bk;by_cases e:dst=F
  ·subst e;simp only[if_true,Option.some.injEq] at bk;subst bk;exact .inr (dR (by simp[cE]) (by simp) go).2
  ·have bK:¬F=dst:=fun h=>e h.symm
   by_cases e2:o=F
   ·subst e2;simp only[e,if_false,if_true,Option.some.injEq] at bk;subst bk;exact .inr (dR (by simp[cE]) (by simp) go).1
   ·have Gu:¬F=o:=fun h=>e2 h.symm
    simp only[e,e2,if_false] at bk;exact .inl ⟨bk,by simp[bK,Gu],fun _ _ _=>rfl⟩
 ·rcases hold F b h1 g1 with⟨rfl,aw,aj⟩|⟨rfl,nu,aw⟩|⟨nu,aw,aj,bA⟩<;>rcases hold aI b h2 g2 with⟨rfl,fD,gN⟩|⟨rfl,GV,fD⟩|⟨GV,fD,gN,mE⟩
  ·rfl
  ·exact absurd fD aj
  ·exact absurd (S.dp o aI b be gN aw mE).symm fD
  ·exact absurd aw gN
  ·rfl
  ·exact absurd (S.dp _ aI b be gN (dI b aw) mE).symm fD
  ·exact absurd (S.dp F o b aj be bA fD) aw
  ·exact absurd (S.dp F _ b aj be bA (dI b fD)) aw
  ·exact S.dp F aI b aj gN bA mE
 ·obtain⟨aI,aw,aj⟩:=FO F b h1 g1;exact S.ci aI b aw aj
 ·obtain⟨aI,aw,aj⟩:=FO F b h1 g1;exact S.dS aw aj
theorem fM.map{w':World}{av bP:Nat->Prop}{ps:List (E×Value)}{es:List (E×Option (List E))}{ao:List Value}(h:fM w av ps es ao)(go:∀{d v},Rd w av d v->Rd w' bP d v):
  (∀n,n∈ao->∀b,ba n=some b->w'.heap[b]? =w.heap[b]?)->fM w' bP ps es ao:=by
 induction h with
 |nil=>intro _;exact .nil
 |lr k v _ ih=>intro ak;exact .lr k v (ih ak)
 |row k v xs e U h hr _ ih=>intro ak;exact .row k v xs e U (nD h (ak _ List.mem_cons_self)) ⟨hr.1,fun j g1 g2=>go (hr.2 j g1 g2)⟩ (ih fun n hn=>ak n (List.mem_cons_of_mem _ hn))
theorem fM.get{av:Nat->Prop}{ps:List (E×Value)}{es:List (E×Option (List E))}{ao:List Value}(h:fM w av ps es ao)(n:E):∀i,(cU es n=none->gz ps n i=none)/\
  ∀xs,cU es n=some (some xs)->∃j v e U fh kc,gz ps n i=some (j,v)/\rowAt w false e 1 v xs.length U/\cp w av (flat .str xs) U/\ao=fh++v::kc/\fM w av ps (c3 es n none) (fh++kc):=by
 induction h with
 |nil=>intro i;exact⟨fun _=>rfl,fun xs h=>by cases h⟩
 |lr k v r ih=>
  intro i;simp only[cU,gz,c3];cases k==n with
  |true=>exact⟨(fun h=>by cases h),(fun xs h=>by cases h)⟩
  |false=>
   simp only[cond_false];obtain⟨h1,h2⟩:=ih (i+1);refine⟨h1,fun xs h=>?_⟩
   obtain⟨j,v',e,U,fh,kc,a1,a2,a3,a4,a5⟩:=h2 xs h;exact⟨j,v',e,U,fh,kc,a1,a2,a3,a4,.lr k v a5⟩
 |row k v ys gP Al c5 db r ih=>
  rename_i ps es ao;intro i;simp only[cU,gz,c3];cases k==n with
  |true=>
   simp only[cond_true];refine⟨fun h=>(by cases h),fun xs h=>?_⟩
   cases h;exact⟨i,v,gP,Al,[],ao,rfl,c5,db,rfl,.lr k v r⟩
  |false=>
   simp only[cond_false];obtain⟨h1,h2⟩:=ih (i+1);refine⟨h1,fun xs h=>?_⟩
   obtain⟨j,v',e,U,fh,kc,a1,a2,a3,a4,a5⟩:=h2 xs h;exact⟨j,v',e,U,v::fh,kc,a1,a2,a3,by rw[a4];rfl,.row k v ys gP Al c5 db a5⟩
theorem fM.put{av:Nat->Prop}{ps:List (E×Value)}{es:List (E×Option (List E))}{ao:List Value}(h:fM w av ps es ao)(n:E){v:Value}{xs:List E}{e:TypeId}{U:List Value}(c5:rowAt w false e 1 v xs.length U)(db:cp w av (flat .str xs) U):
  ∃cu D dX,ao=cu++(D++dX)/\fM w av (c3 ps n v) (c3 es n (some xs)) (cu++v::dX):=by
 induction h with
 |nil=>exact⟨[],[],[],rfl,.row n v xs e U c5 db .nil⟩
 |lr k v0 r ih=>
  rename_i ps es ao;simp only[c3];cases k==n with
  |true=>exact⟨[],[],ao,rfl,.row k v xs e U c5 db r⟩
  |false=>
   obtain⟨cu,D,dX,h1,h2⟩:=ih;exact⟨cu,D,dX,h1,.lr k v0 h2⟩
 |row k v0 ys gP Al abX adq r ih=>
  rename_i ps es ao;simp only[c3];cases k==n with
  |true=>exact⟨[],[v0],ao,rfl,.row k v xs e U c5 db r⟩
  |false=>
   obtain⟨cu,D,dX,h1,h2⟩:=ih;exact⟨v0::cu,D,dX,by rw[h1];rfl,.row k v0 ys gP Al abX adq h2⟩
theorem fM.keys{av:Nat->Prop}{ps:List (E×Value)}{es:List (E×Option (List E))}{ao:List Value}(h:fM w av ps es ao):ps.map (·.1)=es.map (·.1)/\ps.length=es.length:=by
 induction h with
 |nil=>exact⟨rfl,rfl⟩
 |lr _ _ _ ih=>exact⟨by simp[ih.1],by simp[ih.2]⟩
 |row _ _ _ _ _ _ _ _ ih=>exact⟨by simp[ih.1],by simp[ih.2]⟩
theorem Uw{l:ay}{o s:Nat}{es:List (E×Option (List E))}(h:oU st l=some (o,s,es)):l=.own o s/\look st.sites o=some (.ey s es):=by
 cases l<;>first|(cases h;done)|skip
 rename_i F u;simp only[oU] at h;split at h
 ·rename_i ap hB hl;cases hb:ap.beq u with
  |false=>simp[hb] at h
  |true=>
   simp only[hb,cond_true,Option.some.injEq,Prod.mk.injEq] at h;obtain⟨rfl,rfl,rfl⟩:=h;have:=Nat.eq_of_beq_eq_true hb;subst this;exact⟨rfl,hl⟩
 ·cases h
theorem U1(S:ag M J X B st tm w){C:Ctx}(aD:CtxOk P C){T e0 fF:TypeId}{m k:Operand}{l:ay}{n:E}{o s dst:Nat}{es:List (E×Option (List E))}(al:D.op=.lookup T m k false)(di:D.dst=some dst)(Y:ca st D.dst=true)
  (aY:C.tt T=.map e0 fF .strs) (hm:aP C st T m=.av (.aq l)) (ak:aP C st 0 k=.av (.aq (.d (.str n)))) (nf:oU st l=some (o,s,es)) (cE:o≠dst):
  Holds (.ew (pS es n) (fun _=>b0 (.own dst (aU st dst))) fun r=>[(o,.ey s r.1),(dst,.row (aU st dst) .str r.2)]) (cA P M J X st tm w D):=by
 have bt:=aD.tt T;rw[aY] at bt;obtain⟨rfl,hl⟩:=Uw nf;have em:=cV S C T m;rw[hm] at em;have jy:=cV S C 0 k;rw[ak] at jy;obtain⟨bs,kh,gI⟩:=gw (s:=n) jy;have mu:Act.eval ⟨tm,[]⟩ k=eo n:=by rw[kh];exact rs gI
 obtain⟨b,arr,clock,ao,h1,h2,aa,ps,aN,bn⟩:=S.sites o _ hl;have lD:Act.eval ⟨tm,[]⟩ m=.map (some b):=(Ref.at em.2 hl rfl:_=bO (B o)).trans (by rw[h1];rfl)
 obtain⟨bK,aK⟩:∃bK,h5 P fF (.slice bK) (.slice none 0 0):=bt.2.2;have An:(zeroValue fF).run P w=.ok (.slice none 0 0) w:=by
  obtain⟨_,_,_,h⟩:=aK;cases am:P.info? fF with
  |none=>simp[am] at h
  |some i=>
   simp only[am,Option.map_some,Option.some.injEq,Prod.mk.injEq] at h;simp[zeroValue,jY am,h.2]
 have hf:=rh (w:=w) bt.2.1 aN n;have dN:(b::ao.flatMap fun v=>(ba v).toList).Nodup:=by rw[h1] at h2;simpa[bf,ba] using h2
 refine Holds.ew fun r hr=>?_
 obtain⟨hB,xs⟩:=r;have hr:pS es n=some (hB,xs):=hr;have main:∃v e U m_,(Instr.lookup T (.map (some b)) (eo n) false).run P w=.ok v w/\rowAt w false e 1 v xs.length U/\cp w (au X B st.sites) (flat .str xs) U/\fM w (au X B st.sites) ps hB m_/\
   (∀q,ba v=some q->q∈bf (B o))/\(b::m_.flatMap fun v=>(ba v).toList).Nodup/\(∀q,q∈(m_.flatMap fun v=>(ba v).toList)->q∈(ao.flatMap fun v=>(ba v).toList))/\∀q,ba v=some q->q∉(b::m_.flatMap fun v=>(ba v).toList):=by
  unfold pS at hr;split at hr
  ·rename_i aF;cases hr;rw[(bn.get n 0).1 aF] at hf;refine⟨.slice none 0 0,0,[],ao,?_,pJ w _ _ _,⟨rfl,fun j h=>by simp[flat] at h⟩,bn,fun q aA=>(by cases aA),dN,fun q aA=>aA,fun q aA=>(by cases aA)⟩
   simp[Instr.lookup,run_underlying bt.1.1,MapKept.run_getObj_map aa,mJ bt.2.1,hf,An,Result.andThen]
  ·cases hr
  ·rename_i ys aF;cases hr;obtain⟨j,v,e,U,fh,kc,g1,g2,g3,g4,g5⟩:=(bn.get n 0).2 _ aF;rw[g1] at hf;subst g4;have sv:∀q,ba v=some q->q∈((fh++v::kc).flatMap fun v=>(ba v).toList):=fun q aA=>by
    rw[List.flatMap_append,List.flatMap_cons,aA];simp
   refine⟨v,e,U,fh++kc,?_,g2,g3,g5,fun q aA=>?_,?_,fun q aA=>?_,fun q aA hm=>?_⟩
   ·simp[Instr.lookup,run_underlying bt.1.1,MapKept.run_getObj_map aa,mJ bt.2.1,hf,Result.andThen]
   ·rw[h1];exact hH.2 (.inr ⟨v,by simp,aA⟩)
   ·refine dN.sublist (List.Sublist.cons_cons b ?_);rw[List.flatMap_append,List.flatMap_append,List.flatMap_cons];exact(List.Sublist.refl _).append (List.sublist_append_right _ _)
   ·rw[List.flatMap_append] at aA ⊢;rw[List.flatMap_cons];rcases List.mem_append.1 aA with aA|aA
    ·exact List.mem_append.2 (.inl aA)
    ·exact List.mem_append.2 (.inr (List.mem_append.2 (.inr aA)))
   ·rw[List.flatMap_append,List.flatMap_cons,aA] at dN;rcases List.mem_cons.1 hm with rfl|hm
    ·exact(List.nodup_cons.1 dN).1 (by simp)
    ·have h:=(List.nodup_cons.1 dN).2;rw[List.flatMap_append] at hm;have h:=List.nodup_append.1 h;rcases List.mem_append.1 hm with hm|hm
     ·exact h.2.2 q hm q (by simp) rfl
     ·have:=h.2.1;simp only[Option.toList_some,List.singleton_append,List.nodup_cons] at this;exact this.1 hm
 obtain⟨v,e,U,m_,cy,b',dy,eZ,r5,ns,r7,GQ⟩:=main;have gY:∀{l:List Value},bf (.tuple (.map (some b)::l).toArray)=b::l.flatMap fun v=>(ba v).toList:=by intro l;simp[bf,ba]
 have ph:bf v=(ba v).toList:=(hK b').2;have bY:=S.ad6 (o:=o) (dst:=dst) (bw:=.ey s hB) (hY:=.row (aU st dst) .str xs) (nv:=.tuple (.map (some b)::m_).toArray) (sL:=v) cE hl rfl rfl (by rw[h1];rfl) (fun O H=>jg H)
  (fun q aA=>by rw[h1,gY];rw[gY] at aA;exact(List.mem_cons.1 aA).elim (fun h=>List.mem_cons.2 (.inl h)) fun h=>List.mem_cons_of_mem _ (r7 q h))
  (fun q aA=>by
   rw[ph] at aA;have aA:ba v=some q:=by simpa using aA
   exact⟨r5 q aA,by rw[gY];exact GQ q aA⟩)
  (fun bH zP go=>⟨⟨b,arr,clock,m_,bH,by rw[bH,gY];exact ns,aa,ps,aN,eZ.map (fun h=>hX go h) fun _ _ _ _=>rfl⟩,e,U,by rw[zP];exact b',fun j g1 g2=>hX go (dy.2 j g1 g2)⟩)
 refine hU (us:=[(o,.ey s hB),(dst,.row (aU st dst) .str xs)]) bY Y (vv:=v) ?_ ?_
 ·unfold execOp;simp only[al,lD,mu,Sem.run_bind,cy,Result.andThen_ok,Sem.run_pure]
 ·refine⟨by rcases b'.2 with⟨h,_⟩|⟨_,_,_,_,h,_⟩<;>rw[h]<;>rfl,Ref.mk (O:=.row (aU st dst) .str xs) ?_ rfl (by simp[(hK b').1])⟩
  simp only[aZ,cr];simp
theorem Jc(S:ag M J X B st tm w){C:Ctx}(aD:CtxOk P C){T:TypeId}{m k x:Operand}(al:D.op=.mapUpdate T m k x\/D.op=.insert T m k x)(Y:ca st D.dst=true):
  Holds (la.rS C st T m k x) (cA P M J X st tm w D):=by
 have bt:=aD.tt T;unfold la.rS;split
 ·rename_i e0 fF t o s n d aY hm ak hx;rw[aY] at bt;split
  ·rename_i ap u es hl;cases hb:(ap.beq s&&decide (u=t)) with
   |false=>exact .fail
   |true=>
    simp only[cond_true];simp only[Bool.and_eq_true,decide_eq_true_eq] at hb;have H:=Nat.eq_of_beq_eq_true hb.1;subst H;split
    ·rename_i v ab;refine Holds.e' ?_
     have em:=cV S C T m;rw[hm] at em;have jy:=cV S C 0 k;rw[ak] at jy;have ex:=cV S C 0 x;rw[hx] at ex;have hl:look st.sites o=some (.map ap u es):=hl;obtain⟨b,h1,arr,clock,h2,aa⟩:=S.sites o _ hl;have lD:Act.eval ⟨tm,[]⟩ m=B o:=(Ref.at em.2 hl rfl:_=bO (B o)).trans (by rw[h1];rfl)
     obtain⟨bs,kh,gI⟩:=gw (s:=n) jy;have mu:Act.eval ⟨tm,[]⟩ k=eo n:=by rw[kh];exact rs gI
     have qt:Act.eval ⟨tm,[]⟩ x=nt u v:=abI ab (av:=au X B st.sites) ex;obtain⟨jr,jD,cy,b'⟩:=U7 (T:=T) bt.1.1 bt.2.1 h2 aa n v;have bY:=S.aal hl h1 h2 (jD:=jD) b';refine pG (us:=[(o,.map ap u (c3 es n v))]) bY Y ?_
     unfold execOp;rcases al with al|al
     ·simp only[al,lD,h1,mu,qt,Sem.run_bind,cy,Result.andThen_ok,Sem.run_pure]
     ·simp only[al,lD,h1,mu,qt,Sem.run_bind,cy,Result.andThen_ok,Sem.run_pure]
    ·exact .fail
  ·exact .fail
 ·rename_i e0 fF o s n F u aY hm ak hx;rw[aY] at bt;split
  ·rename_i ap es bS ys hl iv;cases hb:(ap.beq s&&bS.beq u) with
   |false=>exact .fail
   |true=>
    simp only[cond_true];simp only[Bool.and_eq_true] at hb;have H:=Nat.eq_of_beq_eq_true hb.1;have hu:=Nat.eq_of_beq_eq_true hb.2;subst H hu;refine Holds.e' ?_
    have em:=cV S C T m;rw[hm] at em;have jy:=cV S C 0 k;rw[ak] at jy;have ex:=cV S C 0 x;rw[hx] at ex;have hl:look st.sites o=some (.ey ap es):=hl;have iv:look st.sites F=some (.row bS .str ys):=iv;obtain⟨b,arr,clock,ao,h1,h2,aa,ps,aN,bn⟩:=S.sites o _ hl;obtain⟨e,U,cy,b'⟩:=S.sites F _ iv;have lD:Act.eval ⟨tm,[]⟩ m=.map (some b):=(Ref.at em.2 hl rfl:_=bO (B o)).trans (by rw[h1];rfl)
    obtain⟨bs,kh,gI⟩:=gw (s:=n) jy;have mu:Act.eval ⟨tm,[]⟩ k=eo n:=by rw[kh];exact rs gI
    have qt:Act.eval ⟨tm,[]⟩ x=B F:=(Ref.at ex.2 iv rfl:_=bO (B F)).trans (hK cy).1;have cE:F≠o:=by rintro rfl;rw[hl] at iv;cases iv
    obtain⟨jr,jD,q1,q2⟩:=HM (T:=T) bt.1.1 bt.2.1 aa aN n (B F);obtain⟨cu,cW,dX,rfl,aj⟩:=bn.put n cy ⟨by rw[dM];exact cy.1,b'⟩
    have gY:∀{l:List Value},bf (.tuple (.map (some b)::l).toArray)=b::l.flatMap fun v=>(ba v).toList:=by intro l;simp[bf,ba]
    have ph:bf (B F)=(ba (B F)).toList:=(hK cy).2;have be:bT st.sites o:=⟨_,hl,rfl⟩;have bk:bT st.sites F:=⟨_,iv,rfl⟩;have dN:((b::(cu++dX).flatMap fun v=>(ba v).toList)++(ba (B F)).toList).Nodup:=by
     have h:=S.DU (ks:=[o,F]) (fun aI h=>by simp only[List.mem_cons,List.not_mem_nil,or_false] at h;rcases h with rfl|rfl<;>assumption) (by simp;exact fun h=>cE h.symm)
     have e1:cw B [o,F]=bf (B o)++bf (B F):=by simp[cw]
     rw[e1,h1,gY,ph] at h;refine h.sublist (List.Sublist.append (List.Sublist.cons_cons b ?_) (List.Sublist.refl _));rw[List.flatMap_append,List.flatMap_append,List.flatMap_append];exact(List.Sublist.refl _).append (List.sublist_append_right _ _)
    have Pr:(b::(cu++B F::dX).flatMap fun v=>(ba v).toList).Nodup:=by
     refine(List.Perm.nodup_iff ?_).2 dN;rw[List.flatMap_append,List.flatMap_append,List.flatMap_cons,List.cons_append,List.append_assoc];exact List.Perm.cons _ (List.Perm.append_left _ List.perm_append_comm)
    have n8:b∈bf (B o):=by rw[h1,gY];exact List.mem_cons_self
    have bY:=S.sz (o:=o) (bw:=.ey ap (c3 es n (some ys))) (nv:=.tuple (.map (some b)::(cu++B F::dX)).toArray) (w':=j0 w b (.map jr jD)) (ks:=[(F,.dead bS)]) (K:=[F,o])
     (fun aI s2 hm=>by
      simp only[List.mem_singleton,Prod.mk.injEq] at hm;obtain⟨rfl,rfl⟩:=hm;exact⟨_,iv,rfl,rfl⟩)
     (fun aI=>by
      simp only[keys,List.mem_cons,List.not_mem_nil,or_false];exact⟨fun h=>h.imp id fun h=>⟨h,be⟩,fun h=>h.imp id fun h=>h.1⟩)
     (fun q aA hn=>tz w b q _ (by rintro rfl;exact hn o (by simp) n8)) rfl rfl rfl (by simp[j0]) rfl
     (fun O H=>by rw[hl] at H;cases H;exact .inr ⟨rfl,by rw[h1];rfl⟩)
     (fun q aA=>by
      rw[gY] at aA;have oj:∃aI,aI∈[F,o]/\q∈bf (B aI):=by
       rcases List.mem_cons.1 aA with rfl|aA
       ·exact⟨o,by simp,n8⟩
       ·rw[List.flatMap_append,List.flatMap_cons] at aA;rcases List.mem_append.1 aA with aA|aA
        ·exact⟨o,by simp,by rw[h1,gY,List.flatMap_append];exact List.mem_cons_of_mem _ (List.mem_append.2 (.inl aA))⟩
        ·rcases List.mem_append.1 aA with aA|aA
         ·exact⟨F,by simp,by rw[ph];exact aA⟩
         ·exact⟨o,by simp,by rw[h1,gY,List.flatMap_append,List.flatMap_append];exact List.mem_cons_of_mem _ (List.mem_append.2 (.inr (List.mem_append.2 (.inr aA))))⟩
      obtain⟨aI,g1,g2⟩:=oj;refine⟨?_,.inl ⟨aI,g1,g2⟩⟩;have:bT st.sites aI:=by simp only[List.mem_cons,List.not_mem_nil,or_false] at g1;rcases g1 with rfl|rfl<;>assumption
      have:=S.dS this g2;simpa[j0] using this)
     (fun bH go=>⟨b,jr,jD,_,bH,by rw[bH,gY];exact Pr,Hj w b _ _ aa,_,q2,aj.map (fun h=>hX go h) fun v ab q aA=>tz w b q _ (by
      rintro rfl;exact(List.nodup_cons.1 Pr).1 (List.mem_flatMap.2 ⟨v,ab,by rw[aA];simp⟩))⟩)
    refine pG (us:=[(F,.dead bS),(o,.ey ap (c3 es n (some ys)))]) bY Y ?_
    unfold execOp;rcases al with al|al
    ·simp only[al,lD,mu,qt,Sem.run_bind,q1,Result.andThen_ok,Sem.run_pure]
    ·simp only[al,lD,mu,qt,Sem.run_bind,q1,Result.andThen_ok,Sem.run_pure]
  ·exact .fail
 ·exact .fail
theorem Xc(S:ag M J X B st tm w){C:Ctx}(aD:CtxOk P C){T e0 fF:TypeId}{t:aG}{m k:Operand}{c:Bool}{l:ay}{n:E}{es:List (E×den t)}{d:aR}(al:D.op=.lookup T m k c)(Y:ca st D.dst=true)
  (aC:t≠.strs) (aY:C.tt T=.map e0 fF t) (hm:aP C st T m=.av (.aq l)) (ak:aP C st 0 k=.av (.aq (.d (.str n)))) (nf:mapOf st l=some ⟨t,es⟩) (vK:si t (cU es n)=some d):
  cA P M J X st tm w D (bif c then .ju [.aq (.d d),.aq (.d (.bool (cU es n).isSome))] else one d) []:=by
 have bt:=aD.tt T;rw[aY] at bt;have em:=cV S C T m;rw[hm] at em;have jy:=cV S C 0 k;rw[ak] at jy;obtain⟨bs,kh,gI⟩:=gw (s:=n) jy;have mu:Act.eval ⟨tm,[]⟩ k=eo n:=by rw[kh];exact rs gI
 have aK:∀cW:Option (den t),si t cW=some d->(∀x,cW=some x->∀av,Rd w av d (nt t x))/\(cW=none->∃z,(zeroValue fF).run P w=.ok z w/\∀av,Rd w av d z):=by
  intro cW h;have he:=bt.2.2;have key:∀{SU:TypeDesc} {z:Value},h5 P fF SU z->(zeroValue fF).run P w=.ok z w:=by
   intro SU z h;obtain⟨_,_,_,h⟩:=h;cases am:P.info? fF with
   |none=>simp[am] at h
   |some i=>
    simp only[am,Option.map_some,Option.some.injEq,Prod.mk.injEq] at h;simp[zeroValue,jY am,h.2]
  cases t<;>first|(exact he.elim)|(exact absurd rfl aC)|skip
  ·simp only[si,Option.some.injEq] at h;subst h;refine⟨fun x hx av=>by subst hx;exact .int _ _,fun hn=>?_⟩
   subst hn;exact⟨_,key he,fun av=>.int _ _⟩
  ·simp only[si,Option.some.injEq] at h;subst h;refine⟨fun x hx av=>by subst hx;exact .bool _,fun hn=>?_⟩
   subst hn;exact⟨_,key he,fun av=>.bool _⟩
 obtain⟨pe,lz⟩:=aK _ vK;have main:∃v,(Instr.lookup T (Act.eval ⟨tm,[]⟩ m) (Act.eval ⟨tm,[]⟩ k) c).run P w=.ok (if c then .tuple #[v,.bool (cU es n).isSome] else v) w/\∀av,Rd w av d v:=by
  rw[mu];rcases Le S aC em nf with⟨h1,rfl⟩|⟨b,h1,arr,clock,h2,aa⟩
  ·obtain⟨z,lM,z2⟩:=lz rfl;refine⟨z,?_,z2⟩;have hf:=Ki (w:=w) (t:=t) bt.2.1 (es:=[]) (arr:=#[]) rfl n;have vJ:(Instr.findKey e0 (eo n) []).run P w=.ok none w:=hf;simp[Instr.lookup,run_underlying bt.1.1,h1,mJ bt.2.1,vJ,lM,cU,Result.andThen]
  ·have hf:=Ki (w:=w) bt.2.1 aa n;have aF:=W_ n es 0;cases bm:gz es n 0 with
   |none=>
    rw[bm] at hf aF;have aF:cU es n=none:=aF.symm;obtain⟨z,lM,z2⟩:=lz aF;refine⟨z,?_,z2⟩;simp[Instr.lookup,run_underlying bt.1.1,h1,MapKept.run_getObj_map h2,mJ bt.2.1,hf,lM,aF,Result.andThen]
   |some p=>
    rw[bm] at hf aF;have aF:cU es n=some p.2:=aF.symm;refine⟨nt t p.2,?_,pe p.2 aF⟩;simp[Instr.lookup,run_underlying bt.1.1,h1,MapKept.run_getObj_map h2,mJ bt.2.1,hf,aF,Result.andThen]
 obtain⟨v,cy,b'⟩:=main;refine dC S Y (vv:=if c then .tuple #[v,.bool (cU es n).isSome] else v) ?_ ?_
 ·unfold execOp;simp only[al,Sem.run_bind,cy,Result.andThen_ok,Sem.run_pure]
 ·cases c with
  |true=>
   refine⟨[v,.bool (cU es n).isSome],rfl,rfl,fun j g1 g2=>?_⟩
   match j,g1 with
   |0,_=>exact b' _
   |1,_=>exact Rd.bool _
  |false=>exact b' _
theorem Vx(S:ag M J X B st tm w){C:Ctx}(aD:CtxOk P C){T e0 fF:TypeId}{m k:Operand}{c:Bool}{l:ay}{n:E}{es:List (E×List E)}(al:D.op=.lookup T m k c)(Y:ca st D.dst=true)
  (aY:C.tt T=.map e0 fF .strs) (hm:aP C st T m=.av (.aq l)) (ak:aP C st 0 k=.av (.aq (.d (.str n)))) (nf:mapOf st l=some ⟨.strs,es⟩):
  cA P M J X st tm w D (bif c then .ju [.aq (.d (.sl .str ((cU es n).getD []))),.aq (.d (.bool (cU es n).isSome))] else one (.sl .str ((cU es n).getD []))) []:=by
 have bt:=aD.tt T;rw[aY] at bt;have em:=cV S C T m;rw[hm] at em;have jy:=cV S C 0 k;rw[ak] at jy;obtain⟨bs,kh,gI⟩:=gw (s:=n) jy;have mu:Act.eval ⟨tm,[]⟩ k=eo n:=by rw[kh];exact rs gI
 obtain⟨bK,aK⟩:∃bK,h5 P fF (.slice bK) (.slice none 0 0):=bt.2.2;have An:(zeroValue fF).run P w=.ok (.slice none 0 0) w:=by
  obtain⟨_,_,_,h⟩:=aK;cases am:P.info? fF with
  |none=>simp[am] at h
  |some i=>
   simp only[am,Option.map_some,Option.some.injEq,Prod.mk.injEq] at h;simp[zeroValue,jY am,h.2]
 have main:∃v,(Instr.lookup T (Act.eval ⟨tm,[]⟩ m) (Act.eval ⟨tm,[]⟩ k) c).run P w=.ok (if c then .tuple #[v,.bool (cU es n).isSome] else v) w/\Rd w (au X B st.sites) (.sl .str ((cU es n).getD [])) v:=by
  rw[mu];rcases Km S em nf with⟨h1,rfl⟩|⟨b,arr,clock,ps,h1,h2,aa,aN,bn,dY⟩
  ·refine⟨.slice none 0 0,?_,.nil _⟩;have vJ:(Instr.findKey e0 (eo n) []).run P w=.ok none w:=rh (w:=w) bt.2.1 (es:=[]) (arr:=#[]) rfl n;simp[Instr.lookup,run_underlying bt.1.1,h1,mJ bt.2.1,vJ,An,cU,Result.andThen]
  ·have hf:=rh (w:=w) bt.2.1 aN n;have key:∀(ps:List (E×Value)) (es:List (E×List E)) (i:Nat),ps.map (·.1)=es.map (·.1)->ps.length=es.length->(∀i (h1:i<es.length) (h2:i<ps.length),Rd w (au X B st.sites) (.sl .str (es[i]).2) (ps[i]).2)->
     (cU es n=none/\gz ps n i=none)\/∃xs j v,cU es n=some xs/\gz ps n i=some (j,v)/\Rd w (au X B st.sites) (.sl .str xs) v:=by
    intro ps;induction ps with
    |nil=>
     intro es i h1 h2 _;match es,h2 with
     |[],_=>exact .inl ⟨rfl,rfl⟩
    |cons p ps ih=>
     intro es i h1 h2 aa;match es,h2 with
     |q::es,h2=>
      simp only[List.map_cons,List.cons.injEq] at h1;obtain⟨k,v⟩:=p;obtain⟨k',xs⟩:=q;obtain⟨e1,e2⟩:=h1;have e1:k=k':=e1;subst e1;simp only[cU,gz];cases k==n with
      |true=>exact .inr ⟨xs,i,v,rfl,rfl,aa 0 (by simp) (by simp)⟩
      |false=>exact ih es (i+1) e2 (by simpa using h2) fun j g1 g2=>aa (j+1) (by simpa using g1) (by simpa using g2)
   rcases key ps es 0 bn aa dY with⟨g1,g2⟩|⟨xs,j,v,g1,g2,g3⟩
   ·rw[g2] at hf;refine⟨.slice none 0 0,?_,by rw[g1];exact .nil _⟩
    simp[Instr.lookup,run_underlying bt.1.1,h1,MapKept.run_getObj_map h2,mJ bt.2.1,hf,An,g1,Result.andThen]
   ·rw[g2] at hf;refine⟨v,?_,by rw[g1];exact g3⟩
    simp[Instr.lookup,run_underlying bt.1.1,h1,MapKept.run_getObj_map h2,mJ bt.2.1,hf,g1,Result.andThen]
 obtain⟨v,cy,b'⟩:=main;refine dC S Y (vv:=if c then .tuple #[v,.bool (cU es n).isSome] else v) ?_ ?_
 ·unfold execOp;simp only[al,Sem.run_bind,cy,Result.andThen_ok,Sem.run_pure]
 ·cases c with
  |true=>
   refine⟨[v,.bool (cU es n).isSome],rfl,rfl,fun j g1 g2=>?_⟩
   match j,g1 with
   |0,_=>exact b'
   |1,_=>exact Rd.bool _
  |false=>exact b'
theorem Vu(S:ag M J X B st tm w){C:Ctx}(aD:CtxOk P C)(Y:ca st D.dst=true):Holds (la C st D) (cA P M J X st tm w D):=by
 unfold la;split
 ·rename_i t r al;split
  ·rename_i o e0 fF ty di aY;have bt:=aD.tt t;rw[aY] at bt;split
   ·exact Holds.e' (Ik S al di Y bt.1.1 (fun x h=>by cases h))
   ·rename_i x;split
    ·rename_i k n hx;refine Holds.e' (Ik S al di Y bt.1.1 (fun y h=>?_))
     cases h;have ex:=cV S C 0 x;rw[hx] at ex;exact⟨k,n,jC ex⟩
    ·exact .fail
  ·exact .fail
 ·rename_i t m k x al;exact Jc S aD (.inl al) Y
 ·rename_i t m k x al;exact Jc S aD (.inr al) Y
 ·rename_i t m k c al;split
  ·rename_i e0 fF ty l n aY hm ak;split
   ·rename_i u es nf;cases hu:decide (u=ty) with
    |false=>exact .fail
    |true=>
     have hu:=of_decide_eq_true hu;subst hu;simp only[cond_true];split
     ·rename_i d vK;by_cases aC:u=.strs
      ·subst aC;simp only[si,Option.some.injEq] at vK;subst vK;exact Holds.ok (Vx S aD al Y aY hm ak nf)
      ·exact Holds.ok (Xc S aD al Y aC aY hm ak nf vK)
     ·exact .fail
   ·split
    ·rename_i o s es d nf di;cases hc:(c||o.beq d) with
     |true=>exact .fail
     |false=>
      simp only[cond_false];simp only[Bool.or_eq_false_iff] at hc;rw[hc.1] at al;exact U1 S aD al di Y aY hm ak nf (by rintro rfl;simp at hc)
    ·exact .fail
  ·exact .fail
 ·rename_i t x al;split
  ·rename_i bR q z e n aY hx;exact Holds.ok (S9 S aD al Y aY hx)
  ·exact .fail
 ·exact .fail
end
theorem ny{P:Program}{e:TypeId}{t:aG}(h:DB P e t):ax t=1/\(∃d z,h5 P e d z)/\∃l eB,sG t=some l/\v7 t=some eB/\cq (enc t eB)=[l]:=by
 cases t<;>first|exact h.elim|exact⟨rfl,⟨_,_,h⟩,_,_,rfl,rfl,rfl⟩
theorem Iy{P:Program}{e:TypeId}{t:aG}{T:TypeId}(h:DB P e t):t.ft=true->T=lH:=by intro af;cases t<;>first|exact h.elim|cases af
theorem BP(t:aG)(x:den t)(xs:List (den t)):flat t (x::xs)=enc t x++flat t xs:=by simp[flat]
theorem DA(a b:List aR):cq (a++b)=cq a++cq b:=by simp[cq]
theorem LK{t:aG}{z:den t}(aK:v7 t=some z)(xs:List (den t)):zX t xs xs.length=cq (flat t xs):=by
 unfold zX;rw[aK];suffices h:∀(ys gu:List (den t)),xs=gu++ys->((List.range' gu.length ys.length).flatMap fun j=>cq (enc t (xs.getD j z)))=cq (flat t ys) by
  have:=h xs [] rfl;rw[List.length_nil,<-List.range_eq_range'] at this;exact this
 intro ys;induction ys with
 |nil=>intro gu _;rfl
 |cons y ys ih=>
  intro gu hx;rw[List.length_cons,List.range'_succ,List.flatMap_cons,BP,DA];have e1:xs.getD gu.length z=y:=by rw[hx];simp[List.getD]
  have e2:=ih (gu++[y]) (by rw[hx];simp)
  rw[List.length_append,List.length_singleton] at e2;rw[e1,e2]
theorem Dy{t:aG}:∀{U:List ay} {xs:List (den t)},sC t U=some xs->U=cq (flat t xs):=by
 intro U;induction U with
 |nil=>intro xs h;cases h;rfl
 |cons l U ih=>
  intro xs h;cases l<;>try(cases h;done)
  rename_i d;simp only[sC] at h;split at h
  ·rename_i x ys h1 h2;cases h;rw[BP,DA,<-ih h2,nM _ _ _ h1];rfl
  ·cases h
theorem tD{aJ:Type}{n:Nat}{xs ys:List aJ}(h:long n xs=some ys):ys=xs/\xs.length=n:=by
 unfold long at h;split at h
 ·cases h;exact⟨rfl,by assumption⟩
 ·cases h
section
variable {P:Program}{M:World}{J:List Nat}{X:Nat->Prop}{B:Nat->Value}{st:ae}{tm:Array Value}{w:World}{D:Oper}
theorem ag.kp(S:ag M J X B st tm w):pv w/\∀b,b∈oo->¬au X B st.sites b/\b<w.heap.size:=by
 have bN:=S.fY;refine⟨ab9 (fun b hb=>S.frame.block b (bN.lt b hb) (bN.J b hb)) bN.ok,fun b hb=>⟨?_,Nat.lt_of_lt_of_le (bN.lt b hb) S.frame.size⟩⟩
 rintro(h|⟨o,h1,h2⟩)
 ·exact bN.X b hb h
 ·rcases(S.ci o b h1 h2).2 with h|h
  ·exact bN.J b hb h
  ·have:=bN.lt b hb;omega
theorem aao{ds:List aR}{vs:List Value}{av:Nat->Prop}(h:cp w av ds vs):∀u∈vs,u.oneCell'=true:=by
 intro u hu;obtain⟨j,bv,rfl⟩:=List.getElem_of_mem hu;exact(h.2 j (by rw[<-h.1];exact bv) bv).iJ
theorem La(S:ag M J X B st tm w){T:TypeId}{o n:Nat}{t:aG}{xs:List (den t)}{vs:List Value}(he:ax t=1)(eQ:t.ft=true->T=lH)(ab:cp w (au X B st.sites) (flat t xs) vs)(Y:ca st D.dst=true)
  (cN:(execOp (Act.eval ⟨tm,[]⟩) D).run P w=.ok (.value (.pointer (some ⟨w.heap.size,0,none⟩))) (w.alloc (.cells vs.toArray T (0,0)))):Holds (qg o st t n xs) (cA P M J X st tm w D):=by
 unfold qg;cases hc:(xs.length.beq n&&Nat.ble n 1000) with
 |false=>exact .fail
 |true=>
  simp only[Bool.and_eq_true] at hc;have h1:=Nat.eq_of_beq_eq_true hc.1;have h2:=Nat.le_of_ble_eq_true hc.2;simp only[cond_true];have hl:vs.length=xs.length:=by rw[ab.1,dM,he,Nat.mul_one]
  have bY:=S.C3 (o:=o) (T:=T) (rest:=[]) (cap:=n) ab (by rw[he,hl,h1];simp) (by unfold maxLen;omega) eQ
  rw[List.append_nil] at bY;refine Holds.e' (hU (us:=[(o,.row (aU st o) t xs)]) bY Y cN ?_);refine⟨w.heap.size,0,by simp,Ref.mk (O:=.row (aU st o) t xs) ?_ rfl ⟨xs.length,n,by simp[bO]⟩⟩
  simp only[aZ,cr];simp
theorem Xy(S:ag M J X B st tm w){C:Ctx}(aD:CtxOk P C){elem e:TypeId}{t:aG}{n o:Nat}(aY:C.tt elem=.arr e t n)(al:D.op=.alloc elem)(Y:ca st D.dst=true):Holds (r0 o st t n) (cA P M J X st tm w D):=by
 have bt:=aD.tt elem;rw[aY] at bt;obtain⟨_,_,mx⟩:=id bt;obtain⟨he,_,l,eB,Ao,kd,ob⟩:=ny mx;unfold r0;rw[kd];obtain⟨v,ab,mm⟩:=cj.xd (w:=w) bt (z:=List.replicate n l) (by simp only[cj.zero,Ao,Option.map_some])
 obtain⟨h1,h2,aa⟩:=q_ mm;have hr:cp w (au X B st.sites) (flat t (List.replicate n eB)) v.cells.toList:=by
  have:=aa B st.sites w (au X B st.sites);have e1:∀n,cq (flat t (List.replicate n eB))=List.replicate n l:=by
   intro n;induction n with
   |zero=>rfl
   |succ n ih=>rw[List.replicate_succ,BP,DA,ob,List.replicate_succ,ih];rfl
  refine il (B:=B) (sites:=st.sites) ?_
  rw[e1];exact⟨h1,this⟩
 refine La (T:=elem) S he (Iy mx) hr Y ?_
 unfold execOp;simp[al,Instr.alloc,ab,newVar,newRow]
theorem _F(S:ag M J X B st tm w){C:Ctx}(aD:CtxOk P C){elem e:TypeId}{t:aG}{n o:Nat}{x:Operand}(aY:C.tt elem=.arr e t n)(al:D.op=.box elem x)(Y:ca st D.dst=true):Holds (sF o st t n (aP C st elem x)) (cA P M J X st tm w D):=by
 have bt:=aD.tt elem;rw[aY] at bt;have he:=(ny bt.2.2).1;have bp:=cV S C elem x;unfold sF;split
 ·rename_i U hx;rw[hx] at bp;split
  ·rename_i xs qu;obtain⟨vs,ab,hl,hr⟩:∃vs:List Value,Act.eval ⟨tm,[]⟩ x=.agg vs.toArray/\vs.length=U.length/\∀j (h:j<U.length) (af:j<vs.length),dv B st.sites w (au X B st.sites) (U[j]) (vs[j]):=bp;have nd:ct B st.sites w (au X B st.sites) U vs:=⟨hl,hr⟩;rw[Dy qu] at nd;refine La (T:=elem) S he (Iy bt.2.2) (il nd) Y ?_
   unfold execOp;simp[al,Instr.box,newVar,newRow,ab,Value.cells]
  ·exact .fail
 ·exact .fail
theorem ag.arr(S:ag M J X B st tm w){o s:Nat}{t:aG}{xs:List (den t)}{v:Value}(hr:rowOf st o s=some ⟨t,xs⟩)(ab:dv B st.sites w (au X B st.sites) (.eI o s t 0 0) v):
  ∃b c,∃cs:List Value,v=.pointer (some ⟨b,0,none⟩)/\bO (B o)=.slice (some ⟨b,0,none⟩) xs.length c/\hk w b 0 cs/\cp w (au X B st.sites) (flat t xs) cs:=by
 obtain⟨cs,hl,iQ⟩:=S.row hr;obtain⟨O,fA,jv⟩:∃O,look st.sites o=some O/\O.b2=s:=by
  rcases jZ hr with h|h<;>exact⟨_,h,rfl⟩
 obtain⟨b,D,ab,uY⟩:=ab;obtain⟨n,c,bH⟩:=Ref.at uY fA jv;rcases iQ with⟨o',_⟩|⟨a',fm,d',ee,_⟩
 ·rw[o'] at bH;cases bH
 ·have zP:=bH;rw[d'] at zP;cases zP;exact⟨b,c,cs,by simpa using ab,d',ee,il hl⟩
theorem YH(S:ag M J X B st tm w){C:Ctx}(aD:CtxOk P C){T e:TypeId}{t:aG}{n:Nat}{x:Operand}(aY:C.tt T=.arr e t n)(al:D.op=.load T x)(Y:ca st D.dst=true):Holds (sa st t n (aP C st T x)) (cA P M J X st tm w D):=by
 have bt:=aD.tt T;rw[aY] at bt;obtain⟨he,_,_,eB,_,kd,_⟩:=ny bt.2.2;have bp:=cV S C T x;unfold sa;split
 ·rename_i o s u hx;rw[hx] at bp;split
  ·rename_i bj xs c5;split
   ·rename_i gW;obtain⟨rfl,rfl⟩:=gW;refine Holds.eA fun y an=>?_
    obtain⟨rfl,hlen⟩:=tD (an:long n xs=some y);obtain⟨b,c,cs,ab,_,hc,hr⟩:=S.arr c5 bp;have gr:cs.length=n:=by rw[hr.1,dM,he,hlen,Nat.mul_one]
    refine dC S Y (vv:=.agg cs.toArray) ?_ ?_
    ·have cN:=tr (P:=P) (w:=w) bt (by rintro h;cases h) ⟨b,0,none⟩ cs gr (fun j u hu=>by rw[gy];exact hc j u hu)
     unfold execOp;simp only[al,Instr.loadAt,Instr.sureAddr,ab,Sem.run_bind,Sem.run_pure,Result.andThen_ok,cN];rfl
    ·subst hlen;have:=gh (B:=B) (sites:=st.sites) hr.1 hr.2;rw[<-LK kd] at this;exact⟨cs,rfl,this.1,this.2⟩
   ·exact .fail
  ·exact .fail
 ·exact .fail
theorem Wv(S:ag M J X B st tm w){C:Ctx}(aD:CtxOk P C){T e:TypeId}{t:aG}{n:Nat}{a x:Operand}{v:bF}(aY:C.tt T=.arr e t n)(al:D.op=.store T a x)(Y:ca st D.dst=true)(ab:mg (aP C st T x)=some v):
  Holds (rI st t n (aP C st T a) v) (cA P M J X st tm w D):=by
 have bt:=aD.tt T;rw[aY] at bt;have he:=(ny bt.2.2).1;have om:=cV S C T a;have hex:=cV S C T x;rw[pN ab] at hex;unfold rI;split
 ·rename_i o s u U hx;rw[hx] at om;split
  ·rename_i ap bj xs fp;have fp:look st.sites o=some (.row ap bj xs):=fp;split
   ·rename_i gW;obtain⟨rfl,rfl,rfl⟩:=gW;split
    ·rename_i ys agj;cases hc:ys.length.beq n with
     |false=>exact .fail
     |true=>
      have Ap:=Nat.eq_of_beq_eq_true hc;refine Holds.ew fun r hr=>?_
      obtain⟨_,hlen⟩:=tD (hr:long n xs=some r);obtain⟨vs,oc,hl,db⟩:∃vs:List Value,Act.eval ⟨tm,[]⟩ x=.agg vs.toArray/\vs.length=U.length/\∀j (h:j<U.length) (af:j<vs.length),dv B st.sites w (au X B st.sites) (U[j]) (vs[j]):=hex;have nd:ct B st.sites w (au X B st.sites) U vs:=⟨hl,db⟩;rw[Dy agj] at nd;have nc:=il nd;have mr:vs.length=n:=by rw[nc.1,dM,he,Ap,Nat.mul_one]
      obtain⟨b,q0,agy,uY⟩:=om;obtain⟨m,c,bH⟩:=Ref.at uY fp rfl;obtain⟨bK,cs,hq,ee⟩:=S.sites o _ fp;rcases hq.2 with⟨hn,_⟩|⟨g,cap,cur,bC,iy,aK,aF,gH,ja,jM,gX⟩
      ·rw[hn] at bH;cases bH
      ·have po:=bH;rw[iy] at po;cases po;have agY:cur.size=c:=by rw[jM,he,Nat.mul_one]
       have ls:0+vs.length<=cur.toList.length:=by
        have:cur.toList.length=cur.size:=Array.length_toList;omega
       have bY:ag M J X B {st with sites:=cd st.sites o (.row ap bj ys)} tm (w.setRow b (cg cur.toList 0 vs).toArray):=by
        refine S.write fp rfl rfl rfl (fS (by rw[iy];rfl)) aF (fun H hw kW go=>?_)
        refine⟨bK,vs,⟨by rw[he,Ap,Nat.mul_one];exact mr,.inr ⟨b,c,_,bC,by rw[iy,hlen,Ap],?_,kW,by omega,ja,?_,?_⟩⟩,fun j g1 g2=>hX go (nc.2 j g1 g2)⟩
        ·refine⟨aK.1,aK.2.imp id fun h=>⟨h.1,?_⟩⟩
         rw[List.size_toArray,mI _ _ _ ls];simpa using h.2
        ·rw[List.size_toArray,mI _ _ _ ls,Array.length_toList,agY,he,Nat.mul_one]
        ·rw[he,Nat.mul_one,Ap,<-mr];simp[cg]
       refine pG (us:=[(o,.row ap bj ys)]) bY Y ?_
       have cN:=Hi (P:=P) (w:=w) bt (by rintro h;cases h) (vv:=.agg vs.toArray) (cur:=cur.toList) (off:=0) (by simpa using aF) (by simpa using aK) (by simpa[Value.cells,cj.size] using mr) (by simpa[Value.cells] using ls) (by simpa[Value.cells] using aao nc)
       unfold execOp;simp only[al,agy,oc,Instr.storeAt,Instr.sureAddr,Sem.run_bind,Sem.run_pure,Result.andThen_ok,Nat.zero_mul,Nat.zero_add,cN];simp[Value.cells]
    ·exact .fail
   ·exact .fail
  ·exact .fail
 ·exact .fail
theorem Tr(S:ag M J X B st tm w){C:Ctx}(aD:CtxOk P C){T e:TypeId}{t:aG}{m:Nat}{x i:Operand}{k:IntKind}{n:Int}(aY:C.tt T=.arr e t m)(am:aP C st 0 i=.av (.aq (.d (.int k n))))(al:D.op=.indexAddr T x i)(Y:ca st D.dst=true):
  Holds (ra C st t m (aP C st T x) n) (cA P M J X st tm w D):=by
 have bt:=aD.tt T;rw[aY] at bt;obtain⟨ea,_,mx⟩:=bt;obtain⟨he,⟨d,z0,nb⟩,_⟩:=ny mx;have uX:=j3 S am;have bp:=cV S C T x;obtain⟨inf,jK,gD⟩:∃inf,P.info? e=some inf/\inf.size=1:=by
  have:=nb.2.2.2;cases aA:P.info? e with
  |none=>simp[aA] at this
  |some i=>simp only[aA,Option.map_some,Option.some.injEq,Prod.mk.injEq] at this;exact⟨i,rfl,this.1⟩
 have run:∀{b:Nat},Act.eval ⟨tm,[]⟩ x=.pointer (some ⟨b,0,none⟩)->0<=n->n<m->(execOp (Act.eval ⟨tm,[]⟩) D).run P w=.ok (.value (.pointer (some ⟨b,n.toNat,none⟩))) w:=by
  intro b hx a8 h1;unfold execOp;simp[al,hx,uX,Instr.indexAt,Instr.sureAddr,asIntOf,run_underlying ea,a8,h1,sizeOf,jY jK,gD,gy]
 unfold ra;split
 ·rename_i o s u hx;rw[hx] at bp;split
  ·rename_i bj xs c5;split
   ·rename_i gW;obtain⟨rfl,rfl⟩:=gW;refine Holds.eA fun y an=>?_
    obtain⟨gu,pe,lz⟩:=Option.bind_eq_some_iff.1 (an:(long m xs).bind (fun xs=>hy xs.length n)=some y)
    obtain⟨rfl,hlen⟩:=tD pe;unfold hy at lz;split at lz
    ·rename_i hb;cases lz;obtain⟨b,c,cs,ab,bH,_⟩:=S.arr c5 bp;refine dC S Y (run ab hb.1 (by rw[<-hlen];exact hb.2)) ⟨b,0,?_,?_⟩
     ·rw[he,Nat.mul_one,Nat.add_zero,Nat.zero_add]
     ·rcases jZ c5 with h|h<;>exact Ref.mk h rfl ⟨_,_,bH⟩
    ·cases lz
   ·exact .fail
  ·exact .fail
 ·rename_i g hx;rw[hx] at bp;split
  ·rename_i bj xs AA;cases hc:(decide (bj=t)&&xs.length.beq m) with
   |false=>exact .fail
   |true=>
    simp only[Bool.and_eq_true,decide_eq_true_eq] at hc;obtain⟨rfl,hlen⟩:=hc;have hlen:=Nat.eq_of_beq_eq_true hlen;refine Holds.eA fun y an=>?_
    have dV:bd xs n=some y:=an;unfold bd at dV;split at dV
    ·rename_i a8;have bb:n.toNat<xs.length:=by
      rcases Nat.lt_or_ge n.toNat xs.length with h|h
      ·exact h
      ·rw[List.getElem?_eq_none h] at dV;cases dV
     obtain⟨RI,sY⟩:=aD.gt g _ _ AA;obtain⟨dR,b5⟩:=S.kp;obtain⟨ga,s9,cs,aF,db⟩:=sY w (au X B st.sites) dR;have ab:Act.eval ⟨tm,[]⟩ x=.pointer (some ⟨g,0,none⟩):=bp;refine dC S Y (run ab a8 (by omega)) ⟨g,n.toNat,rfl,(b5 g RI).1,(b5 g RI).2,(cs.drop n.toNat).take 1,?_,fun j u hu=>?_,?_⟩
     ·have:cs.length=xs.length:=by rw[db.1,dM,he,Nat.mul_one]
      rw[fy,he];simp;omega
     ·exact(((hk.row aF).drop n.toNat).take 1) j u hu|>fun h=>by simpa using h
     ·have H:=tA bj xs n.toNat y dV;rw[he,Nat.mul_one] at H;have it:cp w (au X B st.sites) (flat bj xs) cs:=db;have ab6:=gh (B:=B) (sites:=st.sites) it.1 it.2;have h2:=il (ds:=((flat bj xs).drop n.toNat).take 1) (by
       have:=(ab6.drop n.toNat).take 1;simpa[cq,List.map_drop,List.map_take] using this)
      rw[H] at h2;exact h2.2
    ·cases dV
  ·exact .fail
 ·exact .fail
theorem Xf(S:ag M J X B st tm w){C:Ctx}(aD:CtxOk P C){T e:TypeId}{t:aG}{m:Nat}{x i:Operand}{k:IntKind}{n:Int}(aY:C.tt T=.arr e t m)(am:aP C st 0 i=.av (.aq (.d (.int k n))))(al:D.op=.index T x i)(Y:ca st D.dst=true):
  Holds (D4 t m (aP C st T x) n) (cA P M J X st tm w D):=by
 have bt:=aD.tt T;rw[aY] at bt;obtain⟨ea,_,mx⟩:=bt;obtain⟨he,⟨d,z0,nb⟩,_⟩:=ny mx;have uX:=j3 S am;have bp:=cV S C T x;obtain⟨inf,jK,gD⟩:∃inf,P.info? e=some inf/\inf.size=1:=by
  have:=nb.2.2.2;cases aA:P.info? e with
  |none=>simp[aA] at this
  |some i=>simp only[aA,Option.map_some,Option.some.injEq,Prod.mk.injEq] at this;exact⟨i,rfl,this.1⟩
 unfold D4;split
 ·rename_i U hx;rw[hx] at bp;split
  ·rename_i xs qu;cases hc:xs.length.beq m with
   |false=>exact .fail
   |true=>
    have hlen:=Nat.eq_of_beq_eq_true hc;refine Holds.eA fun y an=>?_
    have dV:bd xs n=some y:=an;unfold bd at dV;split at dV
    ·rename_i a8;have bb:n.toNat<xs.length:=by
      rcases Nat.lt_or_ge n.toNat xs.length with h|h
      ·exact h
      ·rw[List.getElem?_eq_none h] at dV;cases dV
     obtain⟨vs,ab,hl,hr⟩:∃vs:List Value,Act.eval ⟨tm,[]⟩ x=.agg vs.toArray/\vs.length=U.length/\∀j (h:j<U.length) (af:j<vs.length),dv B st.sites w (au X B st.sites) (U[j]) (vs[j]):=bp;have nd:ct B st.sites w (au X B st.sites) U vs:=⟨hl,hr⟩;rw[Dy qu] at nd;have nc:=il nd;have mr:vs.length=xs.length:=by rw[nc.1,dM,he,Nat.mul_one]
     obtain⟨d1,gq⟩:∃d1,enc t y=[d1]:=by
      have:=fy t y;rw[he] at this;match h:enc t y,this with
      |[d1],_=>exact⟨d1,rfl⟩
     simp only[gq];have cZ:n.toNat<vs.length:=by omega
     refine dC S Y (vv:=vs[n.toNat]) ?_ ?_
     ·have Fg:(isAgg e).run P w=.ok false w:=by
       have h1:=nb.1;simp only[isAgg,Sem.run_bind,run_underlying h1,Result.andThen_ok];have g1:=nb.2.1;have g2:=nb.2.2.1;cases d<;>first|rfl|exact absurd rfl (g1 _)|exact absurd rfl (g2 _ _)
      have h1:n<(m:Int):=by omega
      unfold execOp;simp[al,ab,uX,Instr.index,asIntOf,run_underlying ea,a8,h1,sizeOf,jY jK,gD,part,Fg,cZ]
     ·have H:=tA t xs n.toNat y dV;rw[he,Nat.mul_one,gq] at H;have pq:n.toNat<(flat t xs).length:=by rw[dM,he,Nat.mul_one];exact bb
      have e1:(flat t xs)[n.toNat]=d1:=by
       have:=congrArg (fun l=>l[0]?) H
       simp only[List.getElem?_take,List.getElem?_drop] at this;rw[if_pos (by decide),Nat.add_zero,List.getElem?_eq_getElem pq] at this
       simpa using this
      have:=nc.2 n.toNat pq cZ;rw[e1] at this;exact this
    ·cases dV
  ·exact .fail
 ·exact .fail
theorem Wz(S:ag M J X B st tm w){C:Ctx}(aD:CtxOk P C){T e:TypeId}{t:aG}{m:Nat}{x:Operand}{cl am:Option Operand}(aY:C.tt T=.arr e t m)(al:D.op=.slice T x cl am none)(Y:ca st D.dst=true):
  Holds (rN st t m (aP C st T x) (cl.map (aP C st 0)) (am.map (aP C st 0))) (cA P M J X st tm w D):=by
 have bt:=aD.tt T;rw[aY] at bt;obtain⟨ea,_,mx⟩:=bt;obtain⟨he,⟨d,z0,nb⟩,_⟩:=ny mx;have bp:=cV S C T x;obtain⟨inf,jK,gD⟩:∃inf,P.info? e=some inf/\inf.size=1:=by
  have:=nb.2.2.2;cases aA:P.info? e with
  |none=>simp[aA] at this
  |some i=>simp only[aA,Option.map_some,Option.some.injEq,Prod.mk.injEq] at this;exact⟨i,rfl,this.1⟩
 have n6:∀{cl:Option Operand} {jq l:Int},h3 jq (cl.map (aP C st 0))=some l->(cl.map (Act.eval ⟨tm,[]⟩)=none/\l=jq)\/∃k,cl.map (Act.eval ⟨tm,[]⟩)=some (.int k l):=by
  intro cl jq l h;rcases Cp S h with⟨rfl,af⟩|⟨x,k,rfl,af⟩
  ·exact .inl ⟨rfl,af⟩
  ·exact .inr ⟨k,by simp[af]⟩
 unfold rN;split
 ·rename_i o s u hx;rw[hx] at bp;split
  ·rename_i bj xs l h c5 fO ix;split
   ·rename_i gW;obtain⟨rfl,rfl⟩:=gW;refine Holds.ew fun r hr=>?_
    obtain⟨gu,pe,lz⟩:=Option.bind_eq_some_iff.1 (hr:(long m xs).bind (fun xs=>cB xs l h)=some r)
    obtain⟨rfl,hlen⟩:=tD pe;unfold cB at lz;split at lz
    ·rename_i hb;obtain⟨a8,h1,h2⟩:=hb;cases lz;obtain⟨b,c,cs,ab,bH,_⟩:=S.arr c5 bp;refine IW (us:=[(o,.c' s bj gu)]) (Kw c5).symm ?_
     have gJ:dE st.sites [(o,.c' s bj gu)]:=by
      intro F O hm;simp only[List.mem_singleton,Prod.mk.injEq] at hm;obtain⟨rfl,rfl⟩:=hm;exact⟨s,bj,gu,rfl,(jZ c5).elim .inl fun h=>.inr (.inl h)⟩
     have aB:k3 M J X B st tm w [(o,.c' s bj gu)]:=⟨S,gJ⟩;have pm:=wu gJ (List.mem_singleton.2 rfl);obtain⟨db,NO⟩:=aB.new.sites o _ pm;rw[bH] at db;generalize Rn:Value.slice (some ⟨b,0,none⟩) gu.length c=v at db;cases db with
     |nil=>cases Rn
     |sl _ _ a cap jT k ak hcap ck hl hc hr=>
      cases Rn;have ag5:=wD (P:=P) (w:=w) false m m (cl.map (Act.eval ⟨tm,[]⟩)) (am.map (Act.eval ⟨tm,[]⟩)) l h (n6 fO) (n6 ix) a8 h1 (by omega) (Nat.le_refl _)
      refine hU (us:=[(o,.c' s bj gu)]) aB.new Y (vv:=.slice (if m=l.toNat then some ⟨b,0,none⟩ else(some (⟨b,0,none⟩:Addr)).map (·.add (l.toNat*ax bj))) (h.toNat-l.toNat) (m-l.toNat)) ?_ ?_
      ·unfold execOp;simp only[al,Option.map_none,Sem.run_bind,Instr.sliceAt,run_underlying ea,Result.andThen_ok,ab,Instr.sureAddr,Sem.run_pure,ag5,sizeOf,jY jK,gD,he];split<;>simp
      ·exact C0 ck ⟨hl,hr⟩ hc l.toNat h.toNat m (by omega) (by omega) (by omega)
    ·cases lz
   ·exact .fail
  ·exact .fail
 ·exact .fail
theorem Xl{f g:Nat->Option (Nat×Nat)}(h:∀i p,f i=some p->g i=some p):∀(l:List (Nat×Value)) (cs jT:Array Value),Instr.fill f cs l=some jT->Instr.fill g cs l=some jT:=by
 intro l;induction l with
 |nil=>intro cs jT k;exact k
 |cons p l ih=>
  obtain⟨i,v⟩:=p;intro cs jT k;simp only[Instr.fill] at k ⊢;cases hf:f i with
  |none=>simp[hf] at k
  |some q=>
   obtain⟨off,size⟩:=q;rw[h i _ hf];rw[hf] at k;simp only at k ⊢;split at k
   ·cases k
   ·rename_i hn;rw[if_neg hn];exact ih _ _ k
theorem Xw(S:ag M J X B st tm w){C:Ctx}(aD:CtxOk P C){T e:TypeId}{t:aG}{n:Nat}{z:ay}{parts:Array (Nat×Operand)}(aY:C.tt T=.arr e t n)(aK:sG t=some z)(al:D.op=.build T parts)(Y:ca st D.dst=true):
  Holds (step.mS C st ((List.range n).map fun j=>(j,1)) (List.replicate n z) parts.toList) (cA P M J X st tm w D):=by
 have bt:=aD.tt T;rw[aY] at bt;obtain⟨ea,⟨fP,lM,jK,pe,ob⟩,mx⟩:=bt;rw[aK] at pe;cases pe;obtain⟨he,⟨d,z0,nb⟩,_⟩:=ny mx;obtain⟨akD,agQ,adL⟩:∃inf,P.info? e=some inf/\inf.size=1:=by
  have:=nb.2.2.2;cases aA:P.info? e with
  |none=>simp[aA] at this
  |some i=>simp only[aA,Option.map_some,Option.some.injEq,Prod.mk.injEq] at this;exact⟨i,rfl,this.1⟩
 obtain⟨aw,aj,bA⟩:=q_ ob;intro y an hc;obtain⟨g1,jE,g2,g3⟩:=JA S parts.toList (List.replicate n z) fP ⟨aw,fun j h af=>bA _ _ _ _ j h af⟩ y an hc
 rw[g1];refine dC S Y (vv:=.agg jE) ?_ g3;cases am:P.info? T with
 |none=>simp[am] at jK
 |some GY=>
  simp only[am,Option.map_some,Option.some.injEq,Prod.mk.injEq] at jK;have hb:P.built T (parts.toList.map fun p=>(p.1,Act.eval ⟨tm,[]⟩ p.2))=some jE:=by
   unfold Program.built;simp only[am,ea,jK.2,agQ,adL];refine Xl (fun i p ai=>?_) _ _ _ g2
   simp only[List.getElem?_toArray,List.getElem?_map,Option.map_eq_some_iff] at ai;obtain⟨a,bm,rfl⟩:=ai;have:=List.getElem?_eq_some_iff.1 bm;obtain⟨h1,h2⟩:=this;simp at h2;subst h2;simp
  have ck:P.built T (parts.map fun p=>(p.1,Act.eval ⟨tm,[]⟩ p.2)).toList=some jE:=by simpa using hb
  unfold execOp;simp only[al,Sem.run_bind,run_build w T _ jE ck,Result.andThen_ok,Sem.run_pure]
theorem Uc(S:ag M J X B st tm w){C:Ctx}{x:Operand}{k:IntKind}{n:Int}{T et:TypeId}(al:D.op=.unOp .xor et x)(Y:ca st D.dst=true)(hc:aP C st T x=.av (.aq (.d (.int k n)))):
  cA P M J X st tm w D (one (.int k (mY k (if k.signed then-1 else k.max) n))) []:=by
 refine dC S Y (vv:=.int k (mY k (if k.signed then-1 else k.max) n)) ?_ (.int _ _)
 unfold execOp;simp[al,j3 S hc,Op.unary,Op.intBits,mY]
end
def n0:Nat->Value:=fun _=>undef
def l7(w:World)(av:Nat->Prop)(l:ay)(v:Value)(bs:List Nat):Prop:=
 match l with
 |.fresh t xs=>bs=(ba v).toList/\∃e,∃cs:List Value,rowAt w t.ft e (ax t) v xs.length cs/\cp w av (flat t xs) cs
 |.iq t xs=>∃e,∃cs ao:List Value,bs=bf (.tuple (v::ao).toArray)/\rowAt w t.ft e (ax t) v xs.length cs/\Deep w av (flat t xs) cs ao
 |l=>bs=[]/\dv n0 [] w av l v
def gB(w:World)(av:Nat->Prop):List ay->List Value->List Nat->Prop
 |[],[],bs=>bs=[]
 |l::U,v::vs,bs=>∃a7 aM,bs=a7++aM/\l7 w av l v a7/\gB w av U vs aM
 |_,_,_=>False
def zD(w:World)(av:Nat->Prop):bF->Value->List Nat->Prop
 |.aq l,v,bs=>l7 w av l v bs
 |.agg U,v,bs=>∃vs:List Value,v=.agg vs.toArray/\gB w av U vs bs
def li(w:World)(av:Nat->Prop):List bF->List Value->List Nat->Prop
 |[],[],bs=>bs=[]
 |l::U,v::vs,bs=>∃a7 aM,bs=a7++aM/\zD w av l v a7/\li w av U vs aM
 |_,_,_=>False
def DE(w:World)(av:Nat->Prop)(b:Nat)(cells:List ay)(bs:List Nat):Prop:=
 ∃T,∃cur:List Value,∃ot,bs=b::ot/\w.heap[b]? =some (.cells cur.toArray T (0,0))/\(∀u∈cur,u.oneCell'=true)/\mX cells T cur b/\gB w av cells cur ot
def LL(w:World)(av:Nat->Prop):Arg->Value->List Nat->Prop
 |.av a,v,bs=>zD w av a v bs
 |.dZ cells,v,bs=>∃b,v=.pointer (some ⟨b,0,none⟩)/\DE w av b cells bs
def iI(w:World)(av:Nat->Prop):List Arg->List Value->List Nat->Prop
 |[],[],bs=>bs=[]
 |l::U,v::vs,bs=>∃a7 aM,bs=a7++aM/\LL w av l v a7/\iI w av U vs aM
 |_,_,_=>False
def d_:List Arg->List Value->List Nat
 |.dZ _::as,.pointer (some a)::vs=>a.block::d_ as vs
 |_::as,_::vs=>d_ as vs
 |_,_=>[]
def l1(w:World)(av:Nat->Prop):List Nat->List (List ay)->List Nat->Prop
 |[],[],bs=>bs=[]
 |b::du,cs::cG,bs=>∃a7 aM,bs=a7++aM/\DE w av b cs a7/\l1 w av du cG aM
 |_,_,_=>False
def hM:Value->List Value
 |.agg vs=>vs.toList
 |v=>[v]
def fc:List Arg->List Value->List Value
 |.av a::as,v::vs=>(bif gd a.cells then [] else hM v)++fc as vs
 |.dZ _::as,_::vs=>fc as vs
 |_,_=>[]
def p1(w:World)(av:Nat->Prop)(du:List Nat)(cG:List (List ay))(rv:List Value)(eP:List ay)(bs:List Nat):Prop:=
 ∃bD bM,bs=bD++bM/\l1 w av du cG bD/\(eP=[]/\bM=[]\/gB w av eP rv bM)
theorem p1.of{w:World}{av:Nat->Prop}{du:List Nat}{cG:List (List ay)}{rv:List Value}{bs:List Nat}(h:l1 w av du cG bs):p1 w av du cG rv [] bs:=⟨bs,[],by simp,h,.inl ⟨rfl,rfl⟩⟩
def oS:List Value->Value
 |[v]=>v
 |vs=>.tuple vs.toArray
def Enters(P:Program)(g:FuncId)(vs:Array Value)(w:World)(R:Value->World->Prop):Prop:=
 ((callFunc g vs).run P w=.ok (.enter g vs) w/\Calls P g vs w fun|.returned v,w'=>R v w'|_,_=>False)\/(∃v w',(callFunc g vs).run P w=.ok (.value v) w'/\R v w')
def bc(P:Program)(g:FuncId)(S:bg):Prop:=
 ∀as y,(S as).comp=some y->∀(w:World) (X:Nat->Prop) (vs:List Value) (dO:List Nat),iI w (fun b=>X b\/b∈dO) as vs dO->dO.Nodup->(∀b,b∈dO->¬X b)->(∀b,X b->b<w.heap.size)->iN w dO X->
  Enters P g vs.toArray w fun v w'=>∃eY ej rv,Fr dO w w'/\p1 w' (fun b=>X b\/b∈eY++ej) (d_ as vs) ((S as).dZ y) (fc as vs) ((S as).eP y) eY/\li w' (fun b=>X b\/b∈eY++ej) ((S as).e_ y) rv ej/\
   v=oS rv/\(eY++ej).Nodup/\∀b,b∈eY++ej->¬X b/\(b∈dO\/w.heap.size<=b)
section
variable {M:World}{J:List Nat}{X:Nat->Prop}{B:Nat->Value}{st:ae}{tm:Array Value}{w:World}
theorem cc.fg{sites:List (Nat×Site)}{av bP:Nat->Prop}(h:∀b,bP b->av b)(bb:∀b,bP b->b<w.heap.size){a:aL}{v:Value}(k:cc B sites w av a v):cc B sites w bP a v:=by
 have bN:ht B B sites sites w w av bP:=⟨fun o O H=>⟨O,H,Nat.le_refl _,fun _=>rfl⟩,fun _ _ _=>rfl,fun b hb _ af=>hb (h b af)⟩
 exact k.goes bN (Nat.le_refl _) bb
theorem hW.fg{sites:List (Nat×Site)}{av bP:Nat->Prop}(h:∀b,bP b->av b)(bb:∀b,bP b->b<w.heap.size){o:Nat}{O:Site}(k:hW B sites w av o O):hW B sites w bP o O:=by
 have bN:ht B B sites sites w w av bP:=⟨fun o O H=>⟨O,H,Nat.le_refl _,fun _=>rfl⟩,fun _ _ _=>rfl,fun b hb _ af=>hb (h b af)⟩
 exact k.goes bN (Nat.le_refl _) bb rfl (fun _ _ _=>rfl)
theorem ag.lt(S:ag M J X B st tm w){b:Nat}(h:au X B st.sites b):b<w.heap.size:=by
 rcases h with h|⟨o,h1,h2⟩
 ·exact S.old b h
 ·exact S.dS h1 h2
theorem ag.shrink(S:ag M J X B st tm w){X':Nat->Prop}(h:∀b,X' b->X b):ag M J X' B st tm w:=by
 have b5:∀b,au X' B st.sites b->au X B st.sites b:=by
  rintro b (hb|hb)
  ·exact .inl (h b hb)
  ·exact .inr hb
 have bb:=fun b hb=>S.lt (b5 b hb)
 exact⟨S.bl,fun t=>(S.c4 t).fg b5 bb,fun o O H=>(S.sites o O H).fg b5 bb,S.dp,fun o b h1 h2=>⟨fun hx=>(S.ci o b h1 h2).1 (h b hx),(S.ci o b h1 h2).2⟩,S.frame,fun b hb=>S.old b (h b hb),S.fY.less fun b _=>h b⟩
theorem ag.kill(S:ag M J X B st tm w){o:Nat}{O:Site}(hl:look st.sites o=some O)(fJ:O.live=true):
  ag M J (fun b=>X b\/b∈bf (B o)) B {st with sites:=cd st.sites o (.dead O.b2)} tm w:=by
 have cZ:∀F,bT (cd st.sites o (.dead O.b2)) F->F≠o/\bT st.sites F:=by
  rintro F ⟨s,h1,h2⟩;rw[cr] at h1;by_cases e:o=F
  ·subst e;simp at h1;subst h1;cases h2
  ·simp only[e,if_false] at h1;exact⟨fun h=>e h.symm,s,h1,h2⟩
 have b5:∀b,au (fun b=>X b\/b∈bf (B o)) B (cd st.sites o (.dead O.b2)) b->au X B st.sites b:=by
  rintro b ((h|h)|⟨F,h1,h2⟩)
  ·exact .inl h
  ·exact .inr ⟨o,⟨O,hl,fJ⟩,h⟩
  ·exact .inr ⟨F,(cZ F h1).2,h2⟩
 have bb:=fun b hb=>S.lt (b5 b hb)
 have bY:ag M J X B {st with sites:=cd st.sites o (.dead O.b2)} tm w:=by
  have u0:∀b,au X B (cd st.sites o (.dead O.b2)) b->au X B st.sites b:=by
   rintro b (h|⟨F,h1,h2⟩)
   ·exact .inl h
   ·exact .inr ⟨F,(cZ F h1).2,h2⟩
  refine S.nY (fun F s H=>?_) (fun _ _ _=>rfl) (fun b hb _ af=>hb (u0 b af)) (fun go F s H=>?_) (fun F aI b h1 h2 g1 g2=>S.dp F aI b (cZ F h1).2 (cZ aI h2).2 g1 g2) (fun F b h1 h2=>S.ci F b (cZ F h1).2 h2)
   (fun F b h1 h2=>S.dS (cZ F h1).2 h2) S.frame (Nat.le_refl _)
  ·rw[cr];by_cases e:o=F
   ·subst e;rw[hl] at H;cases H;exact⟨.dead O.b2,by simp,Nat.le_refl _,fun _=>rfl⟩
   ·exact⟨s,by simp[e,H],Nat.le_refl _,fun _=>rfl⟩
  ·rw[cr] at H;by_cases e:o=F
   ·simp only[e,if_true,Option.some.injEq] at H;subst H;exact .inr trivial
   ·simp only[e,if_false] at H;exact .inl ⟨H,rfl,fun _ _ _=>rfl⟩
 refine⟨bY.bl,fun t=>?_,fun F s H=>?_,bY.dp,fun F b h1 h2=>⟨?_,(bY.ci F b h1 h2).2⟩,bY.frame,?_,S.fY.less fun b hb hx=>hx.elim id fun e=>absurd (.inr ⟨o,⟨O,hl,fJ⟩,e⟩) (S.kp.2 b hb).1⟩
 ·have bN:ht B B st.sites (cd st.sites o (.dead O.b2)) w w (au X B st.sites) (au (fun b=>X b\/b∈bf (B o)) B (cd st.sites o (.dead O.b2))):=
   ⟨fun F s H=>by
    rw[cr];by_cases e:o=F
    ·subst e;rw[hl] at H;cases H;exact⟨.dead O.b2,by simp,Nat.le_refl _,fun _=>rfl⟩
    ·exact⟨s,by simp[e,H],Nat.le_refl _,fun _=>rfl⟩,fun _ _ _=>rfl,fun b hb _ af=>hb (b5 b af)⟩
  exact(S.c4 t).goes bN (Nat.le_refl _) bb
 ·have ed:look (cd st.sites o (.dead O.b2)) F=some s:=H;rw[cr] at ed;by_cases e:o=F
  ·simp only[e,if_true,Option.some.injEq] at ed;subst ed;trivial
  ·simp only[e,if_false] at ed;have bN:ht B B st.sites (cd st.sites o (.dead O.b2)) w w (au X B st.sites) (au (fun b=>X b\/b∈bf (B o)) B (cd st.sites o (.dead O.b2))):=
    ⟨fun F s H=>by
     rw[cr];by_cases e:o=F
     ·subst e;rw[hl] at H;cases H;exact⟨.dead O.b2,by simp,Nat.le_refl _,fun _=>rfl⟩
     ·exact⟨s,by simp[e,H],Nat.le_refl _,fun _=>rfl⟩,fun _ _ _=>rfl,fun b hb _ af=>hb (b5 b af)⟩
   exact(S.sites F s ed).goes bN (Nat.le_refl _) bb rfl (fun _ _ _=>rfl)
 ·rintro(hx|hx)
  ·exact(bY.ci F b h1 h2).1 hx
  ·exact(cZ F h1).1 (S.dp F o b (cZ F h1).2 ⟨O,hl,fJ⟩ h2 hx)
 ·rintro b (hb|hb)
  ·exact S.old b hb
  ·exact S.dS ⟨O,hl,fJ⟩ hb
theorem ag.jump(S:ag M J X B st tm w){w':World}(h:∀b,¬X b->b<w.heap.size->w'.heap[b]? =w.heap[b]?)(H:w.heap.size<=w'.heap.size)(hf:Fr J M w'):
  ag M J (fun b=>X b\/(w.heap.size<=b/\b<w'.heap.size)) B st tm w':=by
 have bb:∀b,au (fun b=>X b\/(w.heap.size<=b/\b<w'.heap.size)) B st.sites b->b<w'.heap.size:=by
  rintro b ((hb|hb)|⟨F,h1,h2⟩)
  ·exact Nat.lt_of_lt_of_le (S.old b hb) H
  ·exact hb.2
  ·exact Nat.lt_of_lt_of_le (S.dS h1 h2) H
 have bN:ht B B st.sites st.sites w w' (au X B st.sites) (au (fun b=>X b\/(w.heap.size<=b/\b<w'.heap.size)) B st.sites):=
  ⟨fun F s h=>⟨s,h,Nat.le_refl _,fun _=>rfl⟩,fun b hb ck=>h b (fun hx=>hb (.inl hx)) ck,fun b hb ck af=>by
   rcases af with(af|af)|af
   ·exact hb (.inl af)
   ·omega
   ·exact hb (.inr af)⟩
 refine⟨S.bl,fun t=>(S.c4 t).goes bN H bb,fun o s h1=>(S.sites o s h1).goes bN H bb rfl (fun hl b hb=>?_),S.dp,fun o b h1 h2=>⟨?_,(S.ci o b h1 h2).2⟩,hf,?_,S.fY.less fun b hb hx=>hx.elim id fun e=>absurd (S.kp.2 b hb).2 (by omega)⟩
 ·exact h b (S.ci o b ⟨s,h1,hl⟩ hb).1 (S.dS ⟨s,h1,hl⟩ hb)
 ·rintro(hx|hx)
  ·exact(S.ci o b h1 h2).1 hx
  ·have:=S.dS h1 h2;omega
 ·rintro b (hb|hb)
  ·exact Nat.lt_of_lt_of_le (S.old b hb) H
  ·exact hb.2
theorem ag.uI(S:ag M J X B st tm w){X':Nat->Prop}{n:Nat}{bw:Site}{nv:Value}(ie:∀b,X' b->X b)
  (dB:(∀O,look st.sites n=some O->O.b2<bw.b2)\/(bO (B n)=bO nv/\∀O,look st.sites n=some O->O.b2=bw.b2/\O.live=false))
  (hb:∀b,b∈bf nv->X b/\¬X' b/\(b∈J\/M.heap.size<=b))
  (dR:∀{bi:List (Nat×Site)} {az:Nat->Value},bi=cd st.sites n bw->az n=nv->(∀{a v},cc B st.sites w (au X B st.sites) a v->cc az bi w (au X' az bi) a v)->
   (∀b,au X' az bi b->au X B st.sites b)->hW az bi w (au X' az bi) n bw):
  ag M J X' (fun F=>if F=n then nv else B F) {st with sites:=cd st.sites n bw} tm w/\
   (∀b,au X' (fun F=>if F=n then nv else B F) (cd st.sites n bw) b->au X B st.sites b)/\
   (∀{a v},cc B st.sites w (au X B st.sites) a v->cc (fun F=>if F=n then nv else B F) (cd st.sites n bw) w (au X' (fun F=>if F=n then nv else B F) (cd st.sites n bw)) a v):=by
 have cZ:∀F,bT (cd st.sites n bw) F->F=n\/(F≠n/\bT st.sites F):=by
  rintro F ⟨s,h1,h2⟩;rw[cr] at h1;by_cases e:n=F
  ·exact .inl e.symm
  ·simp only[e,if_false] at h1;exact .inr ⟨fun h=>e h.symm,s,h1,h2⟩
 have b5:∀b,au X' (fun F=>if F=n then nv else B F) (cd st.sites n bw) b->au X B st.sites b:=by
  rintro b (h|⟨F,h1,h2⟩)
  ·exact .inl (ie b h)
  ·rcases cZ F h1 with rfl|⟨aa,aN⟩
   ·simp at h2;exact .inl (hb b h2).1
   ·simp only[aa,if_false] at h2;exact .inr ⟨F,aN,h2⟩
 have qj:∀o O,look st.sites o=some O->∃ap,look (cd st.sites n bw) o=some ap/\O.b2<=ap.b2/\(ap.b2=O.b2->bO ((fun F=>if F=n then nv else B F) o)=bO (B o)):=by
  intro F s H;rw[cr];by_cases e:n=F
  ·subst e;refine⟨bw,by simp,?_,fun h=>?_⟩
   ·rcases dB with h|⟨_,h⟩
    ·exact Nat.le_of_lt (h s H)
    ·exact Nat.le_of_eq (h s H).1
   ·rcases dB with af|⟨af,_⟩
    ·have:=af s H;omega
    ·simp[af]
  ·have bK:¬F=n:=fun h=>e h.symm
   exact⟨s,by simp[e,H],Nat.le_refl _,fun _=>by simp[bK]⟩
 have bN:ht B (fun F=>if F=n then nv else B F) st.sites (cd st.sites n bw) w w (au X B st.sites) (au X' (fun F=>if F=n then nv else B F) (cd st.sites n bw)):=
  ⟨qj,fun _ _ _=>rfl,fun b hb _ af=>hb (b5 b af)⟩
 have bb:=fun b hb=>S.lt (b5 b hb)
 refine⟨⟨S.bl,fun t=>(S.c4 t).goes bN (Nat.le_refl _) bb,fun F s H=>?_,fun F aI b h1 h2 g1 g2=>?_,fun F b h1 h2=>?_,S.frame,fun b h=>S.old b (ie b h),S.fY.less fun b _=>ie b⟩,b5,fun h=>h.goes bN (Nat.le_refl _) bb⟩
 ·have ed:look (cd st.sites n bw) F=some s:=H;rw[cr] at ed;by_cases e:n=F
  ·subst e;simp only[if_true,Option.some.injEq] at ed;subst ed;exact dR rfl (by simp) (fun h=>h.goes bN (Nat.le_refl _) bb) b5
  ·have bK:¬F=n:=fun h=>e h.symm
   simp only[e,if_false] at ed;exact(S.sites F s ed).goes bN (Nat.le_refl _) bb (by simp[bK]) (fun _ _ _=>rfl)
 ·rcases cZ F h1 with rfl|⟨b6,cu⟩<;>rcases cZ aI h2 with rfl|⟨cX,dX⟩
  ·rfl
  ·simp only[if_true] at g1;simp only[cX,if_false] at g2;exact absurd (hb b g1).1 (S.ci aI b dX g2).1
  ·simp only[if_true] at g2;simp only[b6,if_false] at g1;exact absurd (hb b g2).1 (S.ci F b cu g1).1
  ·simp only[b6,if_false] at g1;simp only[cX,if_false] at g2;exact S.dp F aI b cu dX g1 g2
 ·rcases cZ F h1 with rfl|⟨b6,cu⟩
  ·simp only[if_true] at h2;exact⟨(hb b h2).2.1,(hb b h2).2.2⟩
  ·simp only[b6,if_false] at h2;exact⟨fun hx=>(S.ci F b cu h2).1 (ie b hx),(S.ci F b cu h2).2⟩
end
def kD(w:World)(av:Nat->Prop):List (List aR)->List Value->Prop
 |[],[]=>True
 |ds::r,v::vs=>(∃b,∃cs:List Value,v=.pointer (some ⟨b,0,none⟩)/\¬av b/\b<w.heap.size/\hk w b 0 cs/\cp w av ds cs)/\kD w av r vs
 |_,_=>False
theorem kD.fn{w:World}{av:Nat->Prop}{g:FuncId}:∀{bG:List (List aR)} {vs:List Value},kD w av bG vs->Rd w av (.fn g bG) (.func (.func g) #[] vs.toArray):=by
 intro bG vs h;have key:∀{bG:List (List aR)} {vs:List Value},kD w av bG vs->∃oA:List Nat,∃fj:List (List Value),vs=oA.map (fun b=>Value.pointer (some ⟨b,0,none⟩))/\oA.length=bG.length/\fj.length=bG.length/\
   (∀b,b∈oA->¬av b/\b<w.heap.size)/\(∀i (h:i<oA.length) (af:i<fj.length),hk w oA[i] 0 fj[i])/\(∀i (h:i<bG.length) (af:i<fj.length),cp w av bG[i] fj[i]):=by
  intro bG;induction bG with
  |nil=>
   intro vs h;match vs,h with
   |[],_=>exact⟨[],[],rfl,rfl,rfl,fun b h=>by simp at h,fun i h=>by simp at h,fun i h=>by simp at h⟩
  |cons ds bG ih=>
   intro vs h;match vs,h with
   |v::vs,⟨⟨b,cs,h1,h2,aa,aN,bn⟩,dY⟩=>
    obtain⟨oA,fj,aw,aj,bA,cD,eJ,ic⟩:=ih dY;refine⟨b::oA,cs::fj,by simp[h1,aw],by simp[aj],by simp[bA],fun c hc=>?_,fun i g1 g2=>?_,fun i g1 g2=>?_⟩
    ·rcases List.mem_cons.1 hc with rfl|hc
     ·exact⟨h2,aa⟩
     ·exact cD c hc
    ·cases i with
     |zero=>exact aN
     |succ i=>exact eJ i (by simpa using g1) (by simpa using g2)
    ·cases i with
     |zero=>exact bn
     |succ i=>exact ic i (by simpa using g1) (by simpa using g2)
 obtain⟨oA,fj,aw,aj,bA,cD,eJ,ic⟩:=key h;refine .fn g bG oA (fun i=>fj.getD i []) _ (by rw[aw]) aj (fun b hb=>(cD b hb).1) (fun b hb=>(cD b hb).2) (fun i am=>?_) (fun i am j u hu=>?_) (fun i am j h1 h2=>?_)
 ·have af:i<fj.length:=by omega
  have:=(ic i am af).1;simpa[List.getD,af] using this
 ·have af:i<fj.length:=by omega
  have:=eJ i am af j u (by simpa[List.getD,af] using hu)
  simpa using this
 ·have af:i<fj.length:=by omega
  have h2':j<fj[i].length:=by simpa[List.getD,af] using h2
  have:=(ic i am af).2 j h1 h2';simpa[List.getD,af] using this
theorem kD.Nt{w:World}{av:Nat->Prop}{g:FuncId}{bG:List (List aR)}{v:Value}(h:Rd w av (.fn g bG) v):∃vs:List Value,v=.func (.func g) #[] vs.toArray/\kD w av bG vs:=by
 cases h with
 |fn _ _ bs je pD Ax gY hb bb hl hc hr=>
  refine⟨bs.map fun b=>Value.pointer (some ⟨b,0,none⟩),by rw[Ax],?_⟩
  have key:∀(bG:List (List aR)) (bs:List Nat) (je:Nat->List Value),bs.length=bG.length->(∀b,b∈bs->¬av b/\b<w.heap.size)->(∀i (h:i<bG.length),(je i).length=(bG[i]).length)->
    (∀i (h:i<bs.length) j u,(je i)[j]? =some u->w.cell? ⟨bs[i],j,none⟩=some u)->(∀i (h:i<bG.length) j (h1:j<(bG[i]).length) (h2:j<(je i).length),Rd w av ((bG[i])[j]) ((je i)[j]))->
    kD w av bG (bs.map fun b=>Value.pointer (some ⟨b,0,none⟩)):=by
   intro bG;induction bG with
   |nil=>intro bs je h _ _ _ _;rw[List.eq_nil_of_length_eq_zero h];trivial
   |cons ds bG ih=>
    intro bs je h h1 h2 aa aN;match bs,h with
    |b::bs,h=>
     refine⟨⟨b,je 0,rfl,(h1 b List.mem_cons_self).1,(h1 b List.mem_cons_self).2,fun j u hu=>?_,h2 0 (by simp),fun j g1 g2=>aN 0 (by simp) j g1 g2⟩,?_⟩
     ·have:=aa 0 (by simp) j u hu
      simpa using this
     ·exact ih bs (fun i=>je (i+1)) (by simpa using h) (fun c hc=>h1 c (List.mem_cons_of_mem _ hc)) (fun i am=>h2 (i+1) (by simpa using am)) (fun i am j u hu=>aa (i+1) (by simpa using am) j u hu)
       (fun i am j g1 g2=>aN (i+1) (by simpa using am) j g1 g2)
  exact key bG bs je gY (fun b h=>⟨hb b h,bb b h⟩) hl hc hr
section
variable {M:World}{J:List Nat}{X:Nat->Prop}{B:Nat->Value}{st:ae}{tm:Array Value}{w:World}
structure fe(M:World)(J:List Nat)(X:Nat->Prop)(B:Nat->Value)(st:ae)(tm:Array Value)(w:World)(c1:List (Nat×Site))(eH:List Nat)(av:Nat->Prop):Prop where
 bC:k3 M J X B st tm w c1
 le:∀b,av b->au X B (aZ st.sites c1) b
 AQ:∀o,o∈eH->∀b,ba (B o)=some b->¬av b
variable {c1:List (Nat×Site)}{eH:List Nat}{av:Nat->Prop}
theorem fe.lt(L:fe M J X B st tm w c1 eH av){b:Nat}(h:av b):b<w.heap.size:=L.bC.new.lt (L.le b h)
theorem fe.sub(L:fe M J X B st tm w c1 eH av){b:Nat}(h:av b):au X B st.sites b:=by
 rcases L.le b h with h|⟨o,⟨O,h1,h2⟩,aa⟩
 ·exact .inl h
 ·refine .inr ⟨o,?_,aa⟩;rcases lR L.bC.bC o with h|⟨s,t,xs,aN,bn⟩
  ·exact⟨O,h▸h1,h2⟩
  ·rw[bn] at h1;cases h1;cases h2
theorem fe.rd(L:fe M J X B st tm w c1 eH av){d:aR}{v:Value}(h:Rd w (au X B (aZ st.sites c1)) d v):Rd w av d v:=
 cc.fg (B:=B) (sites:=[]) (a:=one d) (v:=v) L.le (fun b hb=>L.lt hb) h
theorem fe.sK(L:fe M J X B st tm w c1 eH av){d:aR}{v:Value}(h:Rd w (au X B st.sites) d v):Rd w av d v:=
 cc.fg (B:=B) (sites:=[]) (a:=one d) (v:=v) (fun b hb=>L.sub hb) (fun b hb=>L.lt hb) h
theorem Jy(L:fe M J X B st tm w c1 eH av):∀{bG:List (Nat×Nat)} {cs:List (List aR)} {us:List (Nat×Site)} {bs:List Nat} {vs:List Value},lh st bG=some (cs,us,bs)->
  (∀p,p∈us->p∈c1)->(∀o,o∈bs->o∈eH)->vs.length=bG.length->(∀i (h:i<bG.length) (af:i<vs.length),Ref st.sites (bG[i]).1 (bG[i]).2 (vs[i]=bO (B (bG[i]).1)))->kD w av cs vs:=by
 intro bG;induction bG with
 |nil=>
  intro cs us bs vs h _ _ hl _;simp only[lh] at h;cases h;rw[List.eq_nil_of_length_eq_zero hl];trivial
 |cons c bG ih=>
  obtain⟨o,s⟩:=c;intro cs us bs vs h ec dx hl hr;simp only[lh] at h;split at h
  ·rename_i cells mc;split at h
   ·rename_i ds u1 rest u2 aM eE ln;cases h;match vs,hl with
    |v::vs,hl=>
     have h0:=hd mc;obtain⟨b,T,cur,h1,h2,aa,aN,_,bn⟩:=L.bC.old.sites o _ h0;have ab:v=B o:=(Ref.at (hr 0 (by simp) (by simp)) h0 rfl:v=bO (B o)).trans (by rw[h1];rfl)
     have db:=yo eE ⟨aa,bn⟩ L.bC (fun p ai=>ec p (List.mem_append.2 (.inl ai)))
     refine⟨⟨b,cur,by rw[ab,h1],L.AQ o (dx o List.mem_cons_self) b (by rw[h1];rfl),L.bC.old.dS ⟨_,h0,rfl⟩ (fS (by rw[h1];rfl)),.row h2,db.1,fun j g1 g2=>L.rd (db.2 j g1 g2)⟩,?_⟩
     exact ih ln (fun p ai=>ec p (List.mem_append.2 (.inr ai))) (fun F bk=>dx F (List.mem_cons_of_mem _ bk)) (by simpa using hl) (fun i g1 g2=>hr (i+1) (by simpa using g1) (by simpa using g2))
   ·cases h
  ·cases h
theorem C4(L:fe M J X B st tm w c1 eH av){l fE:ay}{us:List (Nat×Site)}{bs:List Nat}{v:Value}(h:m3 st l=some (fE,us,bs))(ec:∀p,p∈us->p∈c1)(dx:∀o,o∈bs->o∈eH)
  (ab:dv B st.sites w (au X B st.sites) l v):l7 w av fE v []:=by
 unfold m3 at h;split at h
 ·rename_i cells;cases h;obtain⟨b,D,h1,h2,aa,cs,aN,bn,dY⟩:=ab;exact⟨rfl,b,D,h1,fun hx=>h2 (L.sub hx),aa,cs,aN,bn,fun j g1 g2=>L.sK (dY j g1 g2)⟩
 ·rename_i g c cs;split at h
  ·rename_i ds u b hc;cases h;obtain⟨vs,h1,h2,aa⟩:=ab;rw[h1];exact⟨rfl,(Jy L hc ec dx h2 aa).fn⟩
  ·cases h
 ·split at h
  ·rename_i d u Y;cases h;exact⟨rfl,L.rd (M0 Y ab L.bC ec)⟩
  ·cases h
theorem YI(L:fe M J X B st tm w c1 eH av):∀{U dA:List ay} {us:List (Nat×Site)} {bs:List Nat} {vs:List Value},l2 st U=some (dA,us,bs)->(∀p,p∈us->p∈c1)->(∀o,o∈bs->o∈eH)->
  ct B st.sites w (au X B st.sites) U vs->gB w av dA vs []:=by
 intro U;induction U with
 |nil=>intro dA us bs vs h _ _ ab;simp only[l2] at h;cases h;rw[ab.lb];rfl
 |cons l U ih=>
  intro dA us bs vs h ec dx ab;simp only[l2] at h;split at h
  ·rename_i a u1 a7 as u2 aM h1 h2;cases h;obtain⟨v,cC,rfl,jO,ke⟩:=ab.inv;exact⟨[],[],rfl,C4 L h1 (fun p ai=>ec p (List.mem_append.2 (.inl ai))) (fun p ai=>dx p (List.mem_append.2 (.inl ai))) jO,
    ih h2 (fun p ai=>ec p (List.mem_append.2 (.inr ai))) (fun p ai=>dx p (List.mem_append.2 (.inr ai))) ke⟩
  ·cases h
theorem Z_(L:fe M J X B st tm w c1 eH av){o s:Nat}{t:aG}{xs:List (den t)}(hl:look st.sites o=some (.row s t xs)):
  ∃e,∃cs:List Value,rowAt w t.ft e (ax t) (B o) xs.length cs/\cp w av (flat t xs) cs:=by
 obtain⟨e,cs,h1,h2⟩:=L.bC.old.sites o _ hl;refine⟨e,cs,h1,by rw[dM];exact h1.1,fun j g1 g2=>L.sK (h2 j g1 g2)⟩
theorem xi(L:fe M J X B st tm w c1 eH av){l fE:ay}{us:List (Nat×Site)}{v:Value}(h:mV st l=some (fE,us))(ab:dv B st.sites w (au X B st.sites) l v):
  l7 w av fE v (cw B (keys us))/\e7 st.sites us:=by
 unfold mV at h;split at h
 ·cases h;exact⟨⟨rfl,L.sK ab⟩,.nil⟩
 ·rename_i t;cases h;have ab:v=.slice none 0 0:=ab;subst ab;exact⟨⟨rfl,0,[],⟨by simp,.inl ⟨rfl,rfl⟩⟩,rfl,fun j g=>by simp[flat] at g⟩,.nil⟩
 ·rename_i o s;split at h
  ·rename_i ap t xs hl;cases hb:ap.beq s with
   |false=>simp[hb] at h
   |true=>
    simp only[hb,cond_true,Option.some.injEq,Prod.mk.injEq] at h;obtain⟨rfl,rfl⟩:=h;have H:=Nat.eq_of_beq_eq_true hb;subst H;have hl:look st.sites o=some (.row ap t xs):=hl;obtain⟨e,cs,h1,h2⟩:=Z_ L hl;have hz:v=B o:=(Ref.at ab.2 hl rfl:v=bO (B o)).trans (hK h1).1;refine⟨⟨?_,e,cs,by rw[hz];exact h1,h2⟩,fun F afL hm=>?_⟩
    ·simp only[keys,cw,List.flatMap_cons,List.flatMap_nil,hz,(hK h1).2,List.append_nil]
    ·simp only[List.mem_singleton,Prod.mk.injEq] at hm;obtain⟨rfl,rfl⟩:=hm;exact⟨_,hl,rfl,rfl⟩
  ·rename_i ap t xs hl;cases hb:ap.beq s with
   |false=>simp[hb] at h
   |true=>
    simp only[hb,cond_true,Option.some.injEq,Prod.mk.injEq] at h;obtain⟨rfl,rfl⟩:=h;have H:=Nat.eq_of_beq_eq_true hb;subst H;have hl:look st.sites o=some (.c' ap t xs):=hl;have hz:v=bO (B o):=Ref.at ab.2 hl rfl;refine⟨⟨rfl,?_⟩,.nil⟩;rw[hz];exact L.sK (L.bC.old.sites o _ hl).1
  ·rename_i ap t xs hl;cases hb:ap.beq s with
   |false=>simp[hb] at h
   |true=>
    simp only[hb,cond_true,Option.some.injEq,Prod.mk.injEq] at h;obtain⟨rfl,rfl⟩:=h;have H:=Nat.eq_of_beq_eq_true hb;subst H;have hl:look st.sites o=some (.deep ap t xs):=hl;obtain⟨e,v',ao,cs,h1,_,h2,aa⟩:=L.bC.old.sites o _ hl;have hz:v=v':=(Ref.at ab.2 hl rfl:v=bO (B o)).trans (by rw[h1];rfl)
    subst hz;refine⟨⟨e,cs,ao,?_,h2,aa.map (fun h=>L.sK h) fun _ _ _ _=>rfl⟩,fun F afL hm=>?_⟩
    ·simp only[keys,cw,List.flatMap_cons,List.flatMap_nil,List.append_nil,h1]
    ·simp only[List.mem_singleton,Prod.mk.injEq] at hm;obtain⟨rfl,rfl⟩:=hm;exact⟨_,hl,rfl,rfl⟩
  ·cases h
 ·cases h;exact⟨⟨rfl,trivial⟩,.nil⟩
 ·cases h;exact⟨⟨rfl,ab⟩,.nil⟩
 ·cases h
theorem Jm{U dA:List ay}{us:List (Nat×Site)}(h:j_ st U=some (dA,us))(b4:dA.head?=some .eN):U.head?=some .eN:=by
 cases U with
 |nil=>simp only[j_] at h;cases h;cases b4
 |cons l U=>
  simp only[j_] at h;split at h
  ·rename_i a u1 as u2 h1 h2;cases h;simp only[List.head?_cons,Option.some.injEq] at b4 ⊢;subst b4;unfold mV at h1;split at h1<;>try(cases h1;done)
   ·split at h1;all_goals first|cases h1;done|skip
    all_goals
     rename_i ap t xs _;revert h1
     generalize ap.beq _=q;intro h1;cases q<;>cases h1
   ·rfl
  ·cases h
theorem x6(L:fe M J X B st tm w c1 eH av):∀{U dA:List ay} {us:List (Nat×Site)} {vs:List Value},j_ st U=some (dA,us)->ct B st.sites w (au X B st.sites) U vs->
  gB w av dA vs (cw B (keys us))/\e7 st.sites us:=by
 intro U;induction U with
 |nil=>intro dA us vs h ab;simp only[j_] at h;cases h;rw[ab.lb];exact⟨rfl,.nil⟩
 |cons l U ih=>
  intro dA us vs h ab;simp only[j_] at h;split at h
  ·rename_i a u1 as u2 h1 h2;cases h;obtain⟨v,cC,rfl,jO,ke⟩:=ab.inv;obtain⟨aw,aj⟩:=xi L h1 jO;obtain⟨bA,cD⟩:=ih h2 ke;exact⟨⟨_,_,by rw[gQ,kr],aw,bA⟩,aj.append cD⟩
  ·cases h
theorem iI.append{as jU:List Arg}{vs cC:List Value}{bs ot:List Nat}(h:iI w av as vs bs)(af:iI w av jU cC ot):iI w av (as++jU) (vs++cC) (bs++ot):=by
 induction as generalizing vs bs with
 |nil=>
  match vs,h with
  |[],h=>have h:bs=[]:=h;subst h;exact af
 |cons a as ih=>
  match vs,h with
  |v::vs,⟨a7,aM,h1,h2,aa⟩=>exact⟨a7,aM++ot,by rw[h1,List.append_assoc],h2,ih aa⟩
theorem VW{cs:List (List aR)}{vs:List Value}(h:kD w av cs vs):iI w av (ld cs) vs []:=by
 induction cs generalizing vs with
 |nil=>
  match vs,h with
  |[],_=>rfl
 |cons ds cs ih=>
  match vs,h with
  |v::vs,⟨⟨b,cur,h1,h2,aa,aN,bn⟩,dY⟩=>
   refine⟨[],[],rfl,⟨rfl,b,0,by rw[h1],h2,aa,cur,by rw[bn.1],fun j u hu=>aN j u hu,bn.2⟩,ih dY⟩
theorem HB{as jU:List Arg}{vs cC:List Value}(hl:as.length=vs.length):d_ (as++jU) (vs++cC)=d_ as vs++d_ jU cC:=by
 induction as generalizing vs with
 |nil=>rw[List.eq_nil_of_length_eq_zero hl.symm];rfl
 |cons a as ih=>
  match vs,hl with
  |v::vs,hl=>
   have:=ih (vs:=vs) (by simpa using hl)
   cases a with
   |av a=>cases v<;>simp[d_,this]
   |dZ c=>
    cases v<;>try(simp[d_,this];done)
    rename_i p;cases p<;>simp[d_,this]
theorem VY(cs:List (List aR))(vs:List Value):d_ (ld cs) vs=[]:=by
 induction cs generalizing vs with
 |nil=>cases vs<;>rfl
 |cons c cs ih=>cases vs<;>simp[ld,d_,ih]
theorem TQ{as jU:List Arg}{vs cC:List Value}(hl:as.length=vs.length):fc (as++jU) (vs++cC)=fc as vs++fc jU cC:=by
 induction as generalizing vs with
 |nil=>rw[List.eq_nil_of_length_eq_zero hl.symm];rfl
 |cons a as ih=>
  match vs,hl with
  |v::vs,hl=>
   have:=ih (vs:=vs) (by simpa using hl)
   cases a<;>simp[fc,this]
theorem U_(cs:List (List aR))(vs:List Value):fc (ld cs) vs=[]:=by
 induction cs generalizing vs with
 |nil=>cases vs<;>rfl
 |cons c cs ih=>cases vs<;>simp[ld,fc,ih,bF.cells,gd,ay.pU]
def h'(B:Nat->Value):List (Option (Nat×Nat))->List Value->Prop
 |[],_=>True
 |none::r,_::vs=>h' B r vs
 |some p::r,v::vs=>v=bO (B p.1)/\h' B r vs
 |_::_,[]=>False
theorem h'.append{B:Nat->Value}{r kk:List (Option (Nat×Nat))}{vs cC:List Value}(hl:r.length=vs.length)(h:h' B r vs)(af:h' B kk cC):h' B (r++kk) (vs++cC):=by
 induction r generalizing vs with
 |nil=>rw[List.eq_nil_of_length_eq_zero hl.symm];exact af
 |cons D r ih=>
  match vs,hl with
  |v::vs,hl=>
   cases D with
   |none=>exact ih (by simpa using hl) h
   |some p=>exact⟨h.1,ih (by simpa using hl) h.2⟩
theorem iI.length{as:List Arg}{vs:List Value}{bs:List Nat}(h:iI w av as vs bs):as.length=vs.length:=by
 induction as generalizing vs bs with
 |nil=>
  match vs,h with
  |[],_=>rfl
 |cons a as ih=>
  match vs,h with
  |v::vs,⟨_,_,_,_,h⟩=>simp[ih h]
theorem W4(L:fe M J X B st tm w c1 eH av):∀{cO:List aL} {a:ka} {vs:List Value},jj st cO=some a->cO.length=vs.length->
  (∀i (h:i<cO.length) (af:i<vs.length),cc B st.sites w (au X B st.sites) (cO[i]) (vs[i]))->(∀p,p∈a.eL->p∈c1)->(∀o,o∈a.fU->o∈eH)->
  iI w av a.as vs (cw B (keys a.gone))/\e7 st.sites a.gone/\d_ a.as vs=cw B (keys a.boxes)/\(∀o s,(o,s)∈a.boxes->(o,.dead s)∈a.gone/\∃b,B o=.pointer (some ⟨b,0,none⟩))/\a.rows=[]:=by
 intro cO;induction cO with
 |nil=>
  intro a vs h hl _ _ _;simp only[jj] at h;cases h;rw[List.eq_nil_of_length_eq_zero hl.symm];exact⟨rfl,.nil,rfl,fun o s hm=>by simp at hm,rfl⟩
 |cons qU cO ih=>
  intro a vs h hl ab ec dx;match vs,hl with
  |v::vs,hl=>
   have lB:=ab 0 (by simp) (by simp)
   have lA:∀i (h:i<cO.length) (af:i<vs.length),cc B st.sites w (au X B st.sites) (cO[i]) (vs[i]):=fun i g1 g2=>ab (i+1) (by simpa using g1) (by simpa using g2)
   have fB:cO.length=vs.length:=by simpa using hl
   simp only[List.getElem_cons_zero] at lB;unfold jj at h;split at h
   ·cases ‹qU::cO=[]›
   ·rename_i o s cC b1;cases b1;split at h
    ·rename_i cells r mc hr;split at h
     ·rename_i cs gone aF;cases h;obtain⟨aw,aj,bA,cD,eJ⟩:=ih hr fB lA ec dx;have h0:=hd mc;obtain⟨b,T,cur,e1,e2,ce,fG,gO⟩:=L.bC.old.box h0 lB;have E2:mX cells T cur b:=by
       obtain⟨aM,dK,PF,q1,q2,_,_,eg,_⟩:=L.bC.old.sites o _ h0;rw[e1] at q1;cases q1;rw[ce] at q2;cases q2;exact eg
      obtain⟨g1,g2⟩:=x6 L aF gO;subst e2;refine⟨⟨b::cw B (keys gone),_,?_,⟨b,rfl,T,cur,_,rfl,ce,fG,fun b4=>E2 (Jm aF b4),g1⟩,aw⟩,?_,?_,?_,eJ⟩
      ·show cw B (keys (((o,Site.dead s)::gone)++r.gone))=_;rw[gQ,kr];congr 1
       simp[keys,cw,e1,ba,bf]
      ·refine e7.append ?_ aj;intro F ap hm;rcases List.mem_cons.1 hm with hm|hm
       ·cases hm;exact⟨_,h0,rfl,rfl⟩
       ·exact g2 F ap hm
      ·simp[d_,bA,keys,cw,e1,ba,bf]
      ·intro F ap hm;rcases List.mem_cons.1 hm with hm|hm
       ·cases hm;exact⟨by simp,b,e1⟩
       ·obtain⟨q1,q2⟩:=cD F ap hm;exact⟨List.mem_append.2 (.inr q1),q2⟩
     ·cases h
    ·cases h
   ·rename_i l cC _ b1;cases b1;split at h
    ·rename_i fE us bs r h1 hr;cases h;obtain⟨aw,aj,bA,cD,_⟩:=ih hr fB lA (fun p ai=>ec p (List.mem_append.2 (.inr ai))) (fun p ai=>dx p (List.mem_append.2 (.inr ai)))
     have:=C4 L h1 (fun p ai=>ec p (List.mem_append.2 (.inl ai))) (fun p ai=>dx p (List.mem_append.2 (.inl ai))) lB
     refine⟨⟨[],_,rfl,this,aw⟩,aj,?_,cD,rfl⟩;cases v<;>simp[d_,bA]
    ·cases h
   ·rename_i U cC b1;cases b1;split at h
    ·rename_i dA us bs r h1 hr;cases h;obtain⟨aw,aj,bA,cD,_⟩:=ih hr fB lA (fun p ai=>ec p (List.mem_append.2 (.inr ai))) (fun p ai=>dx p (List.mem_append.2 (.inr ai)))
     obtain⟨jN,e1,e2,ce⟩:=lB;have:=YI L h1 (fun p ai=>ec p (List.mem_append.2 (.inl ai))) (fun p ai=>dx p (List.mem_append.2 (.inl ai))) ⟨e2,ce⟩
     refine⟨⟨[],_,rfl,⟨jN,e1,this⟩,aw⟩,aj,?_,cD,rfl⟩;cases v<;>simp[d_,bA]
    ·cases h
   ·cases h
theorem Jn(L:fe M J X B st tm w c1 eH av){l fE:ay}{gs us:List (Nat×Site)}{bs:List Nat}{v:Value}(h:lY st l=some (fE,gs,us,bs))(ec:∀p,p∈us->p∈c1)(dx:∀o,o∈bs->o∈eH)
  (ab:dv B st.sites w (au X B st.sites) l v):l7 w av fE v (cw B (keys gs))/\e7 st.sites gs:=by
 unfold lY at h;split at h
 ·split at h
  ·rename_i aF;cases h;exact xi L aF ab
  ·cases h
 ·cases h;exact xi (l:=.nil _) (us:=[]) L rfl ab
 ·split at h
  ·rename_i hl;cases h;exact⟨C4 L hl ec dx ab,.nil⟩
  ·cases h
theorem Is(L:fe M J X B st tm w c1 eH av){l fE:ay}{gs us:List (Nat×Site)}{bs:List Nat}{v:Value}(h:lY st l=some (fE,gs,us,bs))(ab:dv B st.sites w (au X B st.sites) l v):
  ∀o s,lp st l=some (o,s)->v=bO (B o)/\(o,.dead s)∈gs:=by
 intro o s aF;unfold lp at aF;split at aF
 ·rename_i FN ap;unfold lY at h;simp only[mV] at h;split at aF
  ·rename_i u t xs hl;cases aF;rw[hl] at h;simp only at h;cases hb:u.beq s with
   |false=>simp[hb] at h
   |true=>
    have H:=Nat.eq_of_beq_eq_true hb;subst H;simp only[hb,cond_true] at h;cases h;exact⟨Ref.at ab.2 hl rfl,List.mem_singleton.2 rfl⟩
  ·rename_i u t xs hl;cases aF;rw[hl] at h;simp only at h;cases hb:u.beq s with
   |false=>simp[hb] at h
   |true=>
    have H:=Nat.eq_of_beq_eq_true hb;subst H;simp only[hb,cond_true] at h;cases h;exact⟨Ref.at ab.2 hl rfl,List.mem_singleton.2 rfl⟩
  ·cases aF
 ·cases aF
theorem VE(L:fe M J X B st tm w c1 eH av):∀{U dA:List ay} {gs us:List (Nat×Site)} {bs:List Nat} {vs:List Value},lW st U=some (dA,gs,us,bs)->(∀p,p∈us->p∈c1)->(∀o,o∈bs->o∈eH)->
  ct B st.sites w (au X B st.sites) U vs->gB w av dA vs (cw B (keys gs))/\e7 st.sites gs/\h' B (U.map (lp st)) vs/\∀o s,some (o,s)∈U.map (lp st)->(o,.dead s)∈gs:=by
 intro U;induction U with
 |nil=>intro dA gs us bs vs h _ _ ab;simp only[lW] at h;cases h;rw[ab.lb];exact⟨rfl,.nil,trivial,fun o s h=>by simp at h⟩
 |cons l U ih=>
  intro dA gs us bs vs h ec dx ab;simp only[lW] at h;split at h
  ·rename_i a u1 f1 a7 as u2 f2 aM h1 h2;cases h;obtain⟨v,cC,rfl,jO,ke⟩:=ab.inv;obtain⟨aw,aj⟩:=Jn L h1 (fun p ai=>ec p (List.mem_append.2 (.inl ai))) (fun p ai=>dx p (List.mem_append.2 (.inl ai))) jO
   obtain⟨bA,cD,eJ,ic⟩:=ih h2 (fun p ai=>ec p (List.mem_append.2 (.inr ai))) (fun p ai=>dx p (List.mem_append.2 (.inr ai))) ke
   have hr:=Is L h1 jO;refine⟨⟨_,_,by rw[gQ,kr],aw,bA⟩,aj.append cD,?_,fun o s hm=>?_⟩
   ·simp only[List.map_cons];cases aA:lp st l with
    |none=>exact eJ
    |some p=>exact⟨(hr p.1 p.2 aA).1,eJ⟩
   ·simp only[List.map_cons,List.mem_cons] at hm;rcases hm with hm|hm
    ·exact List.mem_append.2 (.inl (hr o s hm.symm).2)
    ·exact List.mem_append.2 (.inr (ic o s hm))
  ·cases h
theorem BQ{v:Value}(h:v.oneCell'=true):hM v=[v]:=by
 cases v<;>first|rfl|cases h
theorem Xg{l:ay}{v:Value}{bs:List Nat}(hn:l.pU=false)(h:l7 w av l v bs):v.oneCell'=true:=by
 cases l with
 |fresh t xs=>
  obtain⟨_,e,cs,k,_⟩:=h;rcases k.2 with⟨h,_⟩|⟨g,cap,cur,bC,h,_⟩<;>rw[h]<;>rfl
 |iq t xs=>
  obtain⟨e,cs,ao,_,k,_⟩:=h;rcases k.2 with⟨h,_⟩|⟨g,cap,cur,bC,h,_⟩<;>rw[h]<;>rfl
 |_=>cases hn
theorem gB.length{U:List ay}{vs:List Value}{bs:List Nat}(h:gB w av U vs bs):vs.length=U.length:=by
 induction U generalizing vs bs with
 |nil=>
  match vs,h with
  |[],_=>rfl
 |cons l U ih=>
  match vs,h with
  |v::vs,⟨_,_,_,_,h⟩=>simp[ih h]
theorem Vs(L:fe M J X B st tm w c1 eH av):∀{cO:List aL} {a:ka} {vs:List Value},kv st cO=some a->cO.length=vs.length->
  (∀i (h:i<cO.length) (af:i<vs.length),cc B st.sites w (au X B st.sites) (cO[i]) (vs[i]))->(∀p,p∈a.eL->p∈c1)->(∀o,o∈a.fU->o∈eH)->
  iI w av a.as vs (cw B (keys a.gone))/\e7 st.sites a.gone/\d_ a.as vs=cw B (keys a.boxes)/\(∀o s,(o,s)∈a.boxes->(o,.dead s)∈a.gone/\∃b,B o=.pointer (some ⟨b,0,none⟩))/\
   h' B a.rows (fc a.as vs)/\∀o s,some (o,s)∈a.rows->(o,.dead s)∈a.gone:=by
 intro cO;induction cO with
 |nil=>
  intro a vs h hl _ _ _;simp only[kv] at h;cases h;rw[List.eq_nil_of_length_eq_zero hl.symm];exact⟨rfl,.nil,rfl,fun o s hm=>by simp at hm,trivial,fun o s hm=>by simp at hm⟩
 |cons qU cO ih=>
  intro a vs h hl ab ec dx;match vs,hl with
  |v::vs,hl=>
   have lB:=ab 0 (by simp) (by simp)
   have lA:∀i (h:i<cO.length) (af:i<vs.length),cc B st.sites w (au X B st.sites) (cO[i]) (vs[i]):=fun i g1 g2=>ab (i+1) (by simpa using g1) (by simpa using g2)
   have fB:cO.length=vs.length:=by simpa using hl
   simp only[List.getElem_cons_zero] at lB;unfold kv at h;split at h
   ·cases ‹qU::cO=[]›
   ·rename_i l cC b1;cases b1;split at h
    ·rename_i fE gs us bs r h1 hr;cases h;obtain⟨aw,aj,bA,cD,eJ,ic⟩:=ih hr fB lA (fun p ai=>ec p (List.mem_append.2 (.inr ai))) (fun p ai=>dx p (List.mem_append.2 (.inr ai)))
     obtain⟨g1,g2⟩:=Jn L h1 (fun p ai=>ec p (List.mem_append.2 (.inl ai))) (fun p ai=>dx p (List.mem_append.2 (.inl ai))) lB
     have c5:=Is L h1 lB;refine⟨⟨_,_,by rw[gQ,kr],g1,aw⟩,g2.append aj,?_,fun F ap hm=>?_,?_,fun F ap hm=>?_⟩
     ·cases v<;>simp[d_,bA]
     ·obtain⟨q1,q2⟩:=cD F ap hm;exact⟨List.mem_append.2 (.inr q1),q2⟩
     ·simp only[fc,bF.cells,nQ];cases hn:gd [fE] with
      |true=>exact eJ
      |false=>
       have fv:fE.pU=false:=by simpa[gd] using hn
       simp only[cond_false,BQ (Xg fv g1)];refine h'.append (by simp) ?_ eJ
       simp only[List.map_cons,List.map_nil];cases aA:lp st l with
       |none=>trivial
       |some p=>exact⟨(c5 p.1 p.2 aA).1,trivial⟩
     ·simp only[nQ] at hm;rcases List.mem_append.1 hm with hm|hm
      ·cases hn:gd [fE] with
       |true=>rw[hn] at hm;simp at hm
       |false=>
        rw[hn] at hm;simp only[cond_false,List.map_cons,List.map_nil,List.mem_singleton] at hm;exact List.mem_append.2 (.inl (c5 F ap hm.symm).2)
      ·exact List.mem_append.2 (.inr (ic F ap hm))
    ·cases h
   ·rename_i U cC b1;cases b1;split at h
    ·rename_i dA gs us bs r h1 hr;cases h;obtain⟨aw,aj,bA,cD,eJ,ic⟩:=ih hr fB lA (fun p ai=>ec p (List.mem_append.2 (.inr ai))) (fun p ai=>dx p (List.mem_append.2 (.inr ai)))
     obtain⟨jN,e1,e2,ce⟩:=lB;obtain⟨g1,g2,g3,g4⟩:=VE L h1 (fun p ai=>ec p (List.mem_append.2 (.inl ai))) (fun p ai=>dx p (List.mem_append.2 (.inl ai))) ⟨e2,ce⟩
     subst e1;refine⟨⟨_,_,by rw[gQ,kr],⟨jN,rfl,g1⟩,aw⟩,g2.append aj,?_,fun F ap hm=>?_,?_,fun F ap hm=>?_⟩
     ·simp[d_,bA]
     ·obtain⟨q1,q2⟩:=cD F ap hm;exact⟨List.mem_append.2 (.inr q1),q2⟩
     ·simp only[fc,bF.cells,nQ];cases hn:gd dA with
      |true=>exact eJ
      |false=>
       simp only[cond_false,hM];exact h'.append (by simp[e2]) g3 eJ
     ·simp only[nQ] at hm;rcases List.mem_append.1 hm with hm|hm
      ·cases hn:gd dA with
       |true=>rw[hn] at hm;simp at hm
       |false=>
        rw[hn] at hm;exact List.mem_append.2 (.inl (g4 F ap hm))
      ·exact List.mem_append.2 (.inr (ic F ap hm))
    ·cases h
   ·cases h
theorem Ii{b:Bool}(L:fe M J X B st tm w c1 eH av){cO:List aL}{a:ka}{vs:List Value}(h:ry b st cO=some a)(hl:cO.length=vs.length)
  (ab:∀i (h:i<cO.length) (af:i<vs.length),cc B st.sites w (au X B st.sites) (cO[i]) (vs[i])) (h1:∀p,p∈a.eL->p∈c1) (h2:∀o,o∈a.fU->o∈eH):
  iI w av a.as vs (cw B (keys a.gone))/\e7 st.sites a.gone/\d_ a.as vs=cw B (keys a.boxes)/\(∀o s,(o,s)∈a.boxes->(o,.dead s)∈a.gone/\∃b,B o=.pointer (some ⟨b,0,none⟩))/\
   h' B a.rows (fc a.as vs)/\∀o s,some (o,s)∈a.rows->(o,.dead s)∈a.gone:=by
 cases b
 ·obtain⟨aw,aj,bA,cD,eJ⟩:=W4 L h hl ab h1 h2;exact⟨aw,aj,bA,cD,by rw[eJ];trivial,by rw[eJ];intro o s h;simp at h⟩
 ·exact Vs L h hl ab h1 h2
end
theorem Jw(l m:List Nat):fq l m=true <-> ∀n,n∈l->n∉m:=by
 induction l with
 |nil=>simp[fq]
 |cons n l ih=>
  simp only[fq,Bool.and_eq_true,ih,Bool.not_eq_true',List.mem_cons];constructor
  ·rintro⟨h1,h2⟩ k (rfl|ak)
   ·intro h;rw[(tI k m).2 h] at h1;cases h1
   ·exact h2 k ak
  ·intro h;refine⟨?_,fun k ak=>h k (.inr ak)⟩
   cases af:fX n m with
   |false=>rfl
   |true=>exact absurd ((tI n m).1 af) (h n (.inl rfl))
section
variable {M:World}{J:List Nat}{X:Nat->Prop}{B:Nat->Value}{st:ae}{tm:Array Value}{w:World}
theorem ag.abN:∀{us:List (Nat×Site)} {st:ae} {X:Nat->Prop},ag M J X B st tm w->e7 st.sites us->(keys us).Nodup->
  ag M J (fun b=>X b\/b∈cw B (keys us)) B {st with sites:=aZ st.sites us} tm w:=by
 intro us;induction us with
 |nil=>intro st X S _ _;exact S.shrink fun b h=>by rcases h with h|h;exact h;simp[keys,cw] at h
 |cons p us ih=>
  obtain⟨o,ap⟩:=p;intro st X S aF hn;obtain⟨O,h1,h2,rfl⟩:=aF o ap List.mem_cons_self;simp only[keys,List.nodup_cons] at hn;have c9:=S.kill h1 h2;have gv:=ih c9 (fun F s hm=>by
   obtain⟨t,aw,aj,bA⟩:=aF F s (List.mem_cons_of_mem _ hm);have:¬o=F:=fun e=>hn.1 (by rw[e];exact B8 hm)
   exact⟨t,by simp[cr,this,aw],aj,bA⟩) hn.2
  refine gv.shrink fun b h=>?_
  rcases h with h|h
  ·exact .inl (.inl h)
  ·simp only[keys,cw,List.flatMap_cons,List.mem_append] at h;rcases h with h|h
   ·exact .inl (.inr h)
   ·exact .inr h
structure fZ(M:World)(J:List Nat)(X X':Nat->Prop)(B az:Nat->Value)(st:ae)(tm:Array Value)(w:World)(us:List (Nat×Site)):Prop where
 gG:ag M J X' az {st with sites:=aZ st.sites us} tm w
 le:∀c,au X' az (aZ st.sites us) c->au X B st.sites c
 go:∀{a v},cc B st.sites w (au X B st.sites) a v->cc az (aZ st.sites us) w (au X' az (aZ st.sites us)) a v
 same:∀o,o∉keys us->az o=B o
theorem fZ.nil{X':Nat->Prop}(S:ag M J X B st tm w)(h:∀b,X' b->X b):fZ M J X X' B B st tm w []:=
 ⟨S.shrink h,fun c hc=>by
  rcases hc with hc|hc
  ·exact .inl (h c hc)
  ·exact .inr hc,fun k=>k.fg (fun c hc=>by
   rcases hc with hc|hc
   ·exact .inl (h c hc)
   ·exact .inr hc) (fun c hc=>(S.shrink h).lt hc),fun _ _=>rfl⟩
theorem fZ.trans{dr dJ:Nat->Prop}{gp gn:Nat->Value}{us vs:List (Nat×Site)}(A:fZ M J X dr B gp st tm w us)(cz:fZ M J dr dJ gp gn {st with sites:=aZ st.sites us} tm w vs):
  fZ M J X dJ B gn st tm w (us++vs):=by
 refine⟨?_,?_,?_,fun o h=>?_⟩
 ·rw[iH];exact cz.gG
 ·rw[iH];exact fun c hc=>A.le c (cz.le c hc)
 ·rw[iH];exact fun h=>cz.go (A.go h)
 ·rw[gQ,List.mem_append,not_or] at h;rw[cz.same o h.2,A.same o h.1]
theorem fZ.one{X':Nat->Prop}{n:Nat}{bw:Site}{nv:Value}(S:ag M J X B st tm w)(ie:∀b,X' b->X b)
  (dB:(∀O,look st.sites n=some O->O.b2<bw.b2)\/(bO (B n)=bO nv/\∀O,look st.sites n=some O->O.b2=bw.b2/\O.live=false))
  (hb:∀b,b∈bf nv->X b/\¬X' b/\(b∈J\/M.heap.size<=b))
  (dR:∀{bi:List (Nat×Site)} {az:Nat->Value},bi=cd st.sites n bw->az n=nv->(∀{a v},cc B st.sites w (au X B st.sites) a v->cc az bi w (au X' az bi) a v)->
   (∀b,au X' az bi b->au X B st.sites b)->hW az bi w (au X' az bi) n bw):
  fZ M J X X' B (fun F=>if F=n then nv else B F) st tm w [(n,bw)]:=by
 obtain⟨h1,h2,aa⟩:=S.uI ie dB hb dR;exact⟨h1,h2,aa,fun o h=>by
  simp only[keys,List.mem_singleton] at h;simp[h]⟩
theorem Bk{av bP:Nat->Prop}{l:ay}{v:Value}{sites:List (Nat×Site)}(hf:∀t xs,l≠.fresh t xs)(AB:∀t xs,l≠.iq t xs)(h:dv n0 [] w av l v)(dc:∀b,bP b->av b)(bb:∀b,bP b->b<w.heap.size):dv B sites w bP l v:=by
 have fg:∀{d:aR} {v:Value},Rd w av d v->Rd w bP d v:=fun h=>cc.fg (B:=B) (sites:=[]) (a:=one _) dc bb h
 cases l with
 |d x=>exact fg h
 |nil t=>exact h
 |own o s=>obtain⟨_,_,h,_⟩:=h;cases h
 |ptr o s off=>obtain⟨_,_,_,h,_⟩:=h;cases h
 |e8 cells off=>
  obtain⟨b,D,h1,h2,aa,cs,aN,bn,dY⟩:=h;exact⟨b,D,h1,fun hx=>h2 (dc b hx),aa,cs,aN,bn,fun j g1 g2=>fg (dY j g1 g2)⟩
 |eI o s t k off=>obtain⟨_,_,_,_,h,_⟩:=h;cases h
 |clo g bG=>
  obtain⟨vs,h1,h2,aa⟩:=h;match bG,vs,h2 with
  |[],[],_=>exact⟨[],h1,rfl,fun i h=>by simp at h⟩
  |c::bG,v::vs,_=>obtain⟨_,h,_⟩:=aa 0 (by simp) (by simp);cases h
 |cL u=>exact h
 |fresh t xs=>exact absurd rfl (hf t xs)
 |iq t xs=>exact absurd rfl (AB t xs)
 |eN=>trivial
 |any=>trivial
theorem ct.go{az:Nat->Value}{sites bi:List (Nat×Site)}{w':World}{av bP:Nat->Prop}(go:∀{a:aL} {v:Value},cc B sites w av a v->cc az bi w' bP a v){U:List ay}{vs:List Value}
  (h:ct B sites w av U vs):ct az bi w' bP U vs:=yN go h
structure Left(M:World)(J:List Nat)(X:Nat->Prop)(B:Nat->Value)(st:ae)(av:Nat->Prop)(bs:List Nat):Prop where
 nodup:bs.Nodup
 ci:∀b,b∈bs->¬X b/\(b∈J\/M.heap.size<=b)
 le:∀c,au (fun b=>X b\/b∈bs) B st.sites c->av c
def jH(br:ae)(sites:List (Nat×Site))(ks:List Nat):Prop:=∀m,m∈ks->∀O,look sites m=some O->O.b2<aU br m
theorem jH.step{br:ae}{sites us:List (Nat×Site)}{ks:List Nat}(h:jH br sites ks)(Y:∀n,n∈keys us->n∉ks):jH br (aZ sites us) ks:=by
 intro m hm O H;rw[k5 (fun af=>Y m af hm)] at H
 exact h m hm O H
theorem A_{u:Bool}{e:TypeId}{s:Nat}{v:Value}{n:Nat}{cs:List Value}(h:rowAt w u e s v n cs):v.oneCell'=true:=by
 rcases h.2 with⟨h,_⟩|⟨g,cap,cur,bC,h,_⟩<;>rw[h]<;>rfl
theorem KJ{av:Nat->Prop}(br:ae):∀(U:List ay) (n:Nat) {B:Nat->Value} {st:ae} {vs:List Value} {bs rest:List Nat},ag M J (fun b=>X b\/b∈bs++rest) B st tm w->gB w av U vs bs->
  Left M J X B st av (bs++rest)->jH br st.sites (keys (take br n U).2)->(keys (take br n U).2).Nodup->
  ∃az,fZ M J (fun b=>X b\/b∈bs++rest) (fun b=>X b\/b∈rest) B az st tm w (take br n U).2/\ct az (aZ st.sites (take br n U).2) w (au (fun b=>X b\/b∈rest) az (aZ st.sites (take br n U).2)) (take br n U).1 vs/\
   Left M J X az {st with sites:=aZ st.sites (take br n U).2} av rest:=by
 intro U;induction U with
 |nil=>
  intro n B st vs bs rest S h L fb Y;match vs,h with
  |[],h=>
   have h:bs=[]:=h;subst h;exact⟨B,.nil S (fun b hb=>hb),.nil,L⟩
 |cons l U ih=>
  intro n B st vs bs rest S h L fb Y;match vs,h with
  |v::vs,⟨a7,aM,dx,h1,h2⟩=>
   subst dx;by_cases hf:∃t xs,l=.fresh t xs
   ·obtain⟨t,xs,rfl⟩:=hf;obtain⟨f_,e,cs,al,hr⟩:=h1;simp only[take,keys,List.nodup_cons] at Y fb;have dN:=L.nodup;rw[List.append_assoc,f_] at dN;have cY:fZ M J (fun b=>X b\/b∈a7++aM++rest) (fun b=>X b\/b∈aM++rest) B (fun F=>if F=n then v else B F) st tm w [(n,.row (aU br n) t xs)]:=by
     refine .one S (fun b hb=>?_) (.inl fun O H=>fb n List.mem_cons_self O H) (fun b hb=>?_) (fun ed d' go le=>?_)
     ·rcases hb with hb|hb
      ·exact .inl hb
      ·exact .inr (by rw[List.append_assoc];exact List.mem_append.2 (.inr hb))
     ·have hb:ba v=some b:=tO al hb;have hm:b∈a7:=by rw[f_,hb];simp
      have hA:b∈a7++aM++rest:=by rw[List.append_assoc];exact List.mem_append.2 (.inl hm)
      refine⟨.inr hA,?_,(L.ci b hA).2⟩;rintro(hx|hx)
      ·exact(L.ci b hA).1 hx
      ·rw[hb] at dN;simp only[Option.toList_some,List.singleton_append,List.nodup_cons] at dN;exact dN.1 hx
     ·refine⟨e,cs,by rw[d'];exact al,fun j g1 g2=>?_⟩
      have k:=hr.2 j g1 g2;have dc:∀b,au (fun b=>X b\/b∈aM++rest) _ _ b->av b:=fun b hb=>L.le b (le b hb)
      exact cc.fg (B:=B) (sites:=[]) (a:=one _) dc (fun b hb=>S.lt (le b hb)) k
    have k2:Left M J X (fun F=>if F=n then v else B F) {st with sites:=aZ st.sites [(n,.row (aU br n) t xs)]} av (aM++rest):=by
     refine⟨(List.nodup_append.1 (by rw[List.append_assoc] at L;exact L.nodup)).2.1,fun b hb=>L.ci b (by rw[List.append_assoc];exact List.mem_append.2 (.inr hb)),fun c hc=>L.le c (cY.le c hc)⟩
    obtain⟨az,dK,aa,aN⟩:=ih (n+1) (st:={st with sites:=aZ st.sites [(n,.row (aU br n) t xs)]}) cY.gG h2 k2
     (jH.step (us:=[(n,.row (aU br n) t xs)]) (fun m hm=>fb m (List.mem_cons_of_mem _ hm)) (fun m hm=>by simp only[keys,List.mem_singleton] at hm;subst hm;exact Y.1)) Y.2
    refine⟨az,cY.trans dK,?_,aN⟩;refine ct.cons ?_ aa;have:dv (fun F=>if F=n then v else B F) (aZ st.sites [(n,.row (aU br n) t xs)]) w (au (fun b=>X b\/b∈aM++rest) (fun F=>if F=n then v else B F) (aZ st.sites [(n,.row (aU br n) t xs)])) (.own n (aU br n)) v:=
     ⟨A_ al,Ref.mk (O:=.row (aU br n) t xs) (by simp[aZ,cr]) rfl (by simp[(hK al).1])⟩
    exact dK.go (a:=b0 (.own n (aU br n))) (v:=v) this
   ·by_cases AB:∃t xs,l=.iq t xs
    ·obtain⟨t,xs,rfl⟩:=AB;obtain⟨e,cs,ao,f_,al,hr⟩:=h1;simp only[take,keys,List.nodup_cons] at Y fb;have dN:=L.nodup;rw[List.append_assoc,f_] at dN;have cY:fZ M J (fun b=>X b\/b∈a7++aM++rest) (fun b=>X b\/b∈aM++rest) B (fun F=>if F=n then .tuple (v::ao).toArray else B F) st tm w [(n,.deep (aU br n) t xs)]:=by
      refine .one S (fun b hb=>?_) (.inl fun O H=>fb n List.mem_cons_self O H) (fun b hb=>?_) (fun ed d' go le=>?_)
      ·rcases hb with hb|hb
       ·exact .inl hb
       ·exact .inr (by rw[List.append_assoc];exact List.mem_append.2 (.inr hb))
      ·have hm:b∈a7:=by rw[f_];exact hb
       have hA:b∈a7++aM++rest:=by rw[List.append_assoc];exact List.mem_append.2 (.inl hm)
       refine⟨.inr hA,?_,(L.ci b hA).2⟩;rintro(hx|hx)
       ·exact(L.ci b hA).1 hx
       ·exact(List.nodup_append.1 dN).2.2 b hb b hx rfl
      ·have dc:∀b,au (fun b=>X b\/b∈aM++rest) _ _ b->av b:=fun b hb=>L.le b (le b hb)
       exact⟨e,v,ao,cs,d',by rw[d'];exact(List.nodup_append.1 dN).1,al,hr.map (fun k=>cc.fg (B:=B) (sites:=[]) (a:=one _) dc (fun b hb=>S.lt (le b hb)) k) fun _ _ _ _=>rfl⟩
     have k2:Left M J X (fun F=>if F=n then .tuple (v::ao).toArray else B F) {st with sites:=aZ st.sites [(n,.deep (aU br n) t xs)]} av (aM++rest):=by
      refine⟨(List.nodup_append.1 (by rw[List.append_assoc] at L;exact L.nodup)).2.1,fun b hb=>L.ci b (by rw[List.append_assoc];exact List.mem_append.2 (.inr hb)),fun c hc=>L.le c (cY.le c hc)⟩
     obtain⟨az,dK,aa,aN⟩:=ih (n+1) (st:={st with sites:=aZ st.sites [(n,.deep (aU br n) t xs)]}) cY.gG h2 k2
      (jH.step (us:=[(n,.deep (aU br n) t xs)]) (fun m hm=>fb m (List.mem_cons_of_mem _ hm)) (fun m hm=>by simp only[keys,List.mem_singleton] at hm;subst hm;exact Y.1)) Y.2
     refine⟨az,cY.trans dK,?_,aN⟩;refine ct.cons ?_ aa;have:dv (fun F=>if F=n then .tuple (v::ao).toArray else B F) (aZ st.sites [(n,.deep (aU br n) t xs)]) w (au (fun b=>X b\/b∈aM++rest) (fun F=>if F=n then .tuple (v::ao).toArray else B F) (aZ st.sites [(n,.deep (aU br n) t xs)])) (.own n (aU br n)) v:=
      ⟨A_ al,Ref.mk (O:=.deep (aU br n) t xs) (by simp[aZ,cr]) rfl (by simp[bO])⟩
     exact dK.go (a:=b0 (.own n (aU br n))) (v:=v) this
    ·have Gd:∀t xs,l≠.fresh t xs:=fun t xs h=>hf ⟨t,xs,h⟩
     have E_:∀t xs,l≠.iq t xs:=fun t xs h=>AB ⟨t,xs,h⟩
     have acb:take br n (l::U)=(l::(take br (n+1) U).1,(take br (n+1) U).2):=by
      cases l<;>first|rfl|exact absurd rfl (Gd _ _)|exact absurd rfl (E_ _ _)
     have h1':a7=[]/\dv n0 [] w av l v:=by
      cases l<;>first|exact h1|exact absurd rfl (Gd _ _)|exact absurd rfl (E_ _ _)
     obtain⟨rfl,h1'⟩:=h1';rw[acb] at Y fb ⊢;simp only[List.nil_append] at S L ⊢;obtain⟨az,dK,aa,aN⟩:=ih (n+1) S h2 L fb Y;refine⟨az,dK,?_,aN⟩;refine ct.cons ?_ aa;exact Bk Gd E_ h1' (fun b hb=>L.le b (dK.le b hb)) (fun b hb=>dK.gG.lt hb)
end
section
variable {M:World}{J:List Nat}{X:Nat->Prop}{B:Nat->Value}{st:ae}{tm:Array Value}{w:World}
def nX(B:Nat->Value)(sites:List (Nat×Site))(w:World)(av:Nat->Prop)(as:List bF)(vs:List Value):Prop:=
 vs.length=as.length/\∀j (h:j<as.length) (af:j<vs.length),gE B sites w av (as[j]) (vs[j])
theorem nX.cons{sites:List (Nat×Site)}{av:Nat->Prop}{a:bF}{as:List bF}{v:Value}{vs:List Value}(h:gE B sites w av a v)(H:nX B sites w av as vs):nX B sites w av (a::as) (v::vs):=
 ⟨by simp[H.1],fun j h1 h2=>by
  cases j with
  |zero=>exact h
  |succ j=>exact H.2 j (by simpa using h1) (by simpa using h2)⟩
theorem Left.rest{av:Nat->Prop}{a b:List Nat}(L:Left M J X B st av (a++b)){az:Nat->Value}{ad:ae}(h:∀c,au (fun c=>X c\/c∈b) az ad.sites c->au (fun c=>X c\/c∈a++b) B st.sites c):Left M J X az ad av b:=
 ⟨(List.nodup_append.1 L.nodup).2.1,fun c hc=>L.ci c (List.mem_append.2 (.inr hc)),fun c hc=>L.le c (h c hc)⟩
theorem Wr{br:ae}{n:Nat}{U:List ay}(h:(take br n U).1.head?=some .eN):U.head?=some .eN:=by
 cases U with
 |nil=>cases h
 |cons l U=>cases l<;>first|exact h|cases h
theorem take_one(br:ae)(n:Nat)(l:ay):∃fE,(take br n [l]).1=[fE]:=by cases l<;>exact⟨_,rfl⟩
theorem JM{av:Nat->Prop}(br:ae):∀(as:List bF) (n:Nat) {B:Nat->Value} {st:ae} {vs:List Value} {bs rest:List Nat},ag M J (fun b=>X b\/b∈bs++rest) B st tm w->li w av as vs bs->
  Left M J X B st av (bs++rest)->jH br st.sites (keys (dU br n as).2)->(keys (dU br n as).2).Nodup->
  ∃az,fZ M J (fun b=>X b\/b∈bs++rest) (fun b=>X b\/b∈rest) B az st tm w (dU br n as).2/\nX az (aZ st.sites (dU br n as).2) w (au (fun b=>X b\/b∈rest) az (aZ st.sites (dU br n as).2)) (dU br n as).1 vs/\
   Left M J X az {st with sites:=aZ st.sites (dU br n as).2} av rest:=by
 intro as;induction as with
 |nil=>
  intro n B st vs bs rest S h L fb Y;match vs,h with
  |[],h=>
   have h:bs=[]:=h;subst h;exact⟨B,.nil S (fun b hb=>hb),⟨rfl,fun j h=>by simp[dU] at h⟩,L⟩
 |cons a as ih=>
  intro n B st vs bs rest S h L fb Y;match vs,h with
  |v::vs,⟨a7,aM,dx,h1,h2⟩=>
   subst dx;have go:∀(U:List ay) (us:List Value),gB w av U us a7->(dU br n (a::as)).2=(take br n U).2++(dU br (n+100) as).2->
     ∃az,fZ M J (fun b=>X b\/b∈a7++aM++rest) (fun b=>X b\/b∈rest) B az st tm w (dU br n (a::as)).2/\ct az (aZ st.sites (dU br n (a::as)).2) w (au (fun b=>X b\/b∈rest) az (aZ st.sites (dU br n (a::as)).2)) (take br n U).1 us/\
      nX az (aZ st.sites (dU br n (a::as)).2) w (au (fun b=>X b\/b∈rest) az (aZ st.sites (dU br n (a::as)).2)) (dU br (n+100) as).1 vs/\Left M J X az {st with sites:=aZ st.sites (dU br n (a::as)).2} av rest:=by
    intro U us b4 e;rw[e] at fb Y ⊢;rw[gQ] at fb Y;obtain⟨d1,d2,d3⟩:=List.nodup_append.1 Y;rw[List.append_assoc] at S L ⊢;obtain⟨gp,cY,aw,k2⟩:=KJ br U n S b4 L (fun m hm=>fb m (List.mem_append.2 (.inl hm))) d1
    obtain⟨gn,dK,aj,pE⟩:=ih (n+100) (st:={st with sites:=aZ st.sites (take br n U).2}) cY.gG h2 k2
     (jH.step (fun m hm=>fb m (List.mem_append.2 (.inr hm))) (fun m hm hA=>d3 m hm m hA rfl)) d2
    refine⟨gn,cY.trans dK,?_,?_,?_⟩
    ·rw[iH];exact aw.go dK.go
    ·rw[iH];exact aj
    ·rw[iH];exact pE
   cases a with
   |aq l=>
    have h1:l7 w av l v a7:=h1;obtain⟨az,T,aw,aj,bA⟩:=go [l] [v] ⟨a7,[],by simp,h1,rfl⟩ rfl
    refine⟨az,T,?_,bA⟩;obtain⟨fE,fB⟩:=take_one br n l;have:(dU br n (bF.aq l::as)).1=bF.aq fE::(dU br (n+100) as).1:=by simp only[dU,fB]
    rw[this];refine nX.cons ?_ aj;rw[fB] at aw;exact aw.2 0 (by simp) (by simp)
   |agg U=>
    obtain⟨us,e,h1⟩:=h1;obtain⟨az,T,aw,aj,bA⟩:=go U us h1 rfl;refine⟨az,T,?_,bA⟩;have:(dU br n (bF.agg U::as)).1=bF.agg (take br n U).1::(dU br (n+100) as).1:=rfl;rw[this];exact nX.cons ⟨us,e,aw.1,aw.2⟩ aj
def nn(B:Nat->Value):List (Nat×Nat)->List Nat->Prop
 |[],[]=>True
 |p::r,b::du=>B p.1=.pointer (some ⟨b,0,none⟩)/\nn B r du
 |_,_=>False
theorem nn.of:∀{boxes:List (Nat×Nat)},(∀o s,(o,s)∈boxes->∃b,B o=.pointer (some ⟨b,0,none⟩))->nn B boxes (cw B (keys boxes)):=by
 intro boxes;induction boxes with
 |nil=>intro _;trivial
 |cons q boxes ih=>
  obtain⟨aI,r⟩:=q;intro h;obtain⟨c,hc⟩:=h aI r List.mem_cons_self;have:=ih fun o s hm=>h o s (List.mem_cons_of_mem _ hm)
  have e:cw B (keys ((aI,r)::boxes))=c::cw B (keys boxes):=by simp[cw,keys,hc,ba,bf]
  rw[e];exact⟨hc,this⟩
theorem nn.congr{az:Nat->Value}:∀{boxes:List (Nat×Nat)} {du:List Nat},nn B boxes du->(∀F,F∈keys boxes->az F=B F)->nn az boxes du:=by
 intro boxes;induction boxes with
 |nil=>
  intro du h _;match du,h with
  |[],_=>trivial
 |cons q boxes ih=>
  intro du h af;match du,h with
  |b::du,⟨h1,h2⟩=>exact⟨by rw[af q.1 List.mem_cons_self];exact h1,ih h2 fun F bk=>af F (List.mem_cons_of_mem _ bk)⟩
theorem Ia{av:Nat->Prop}{br:ae}{F:Nat}:∀{boxes:List (Nat×Nat)} {cG:List (List ay)} {du bs:List Nat},nn B boxes du->l1 w av du cG bs->F∈keys boxes->F∈keys (fo br boxes cG):=by
 intro boxes;induction boxes with
 |nil=>intro cG du bs _ _ h;simp[keys] at h
 |cons q boxes ih=>
  obtain⟨aI,r⟩:=q;intro cG du bs hl b4 hm;match du,cG,hl,b4 with
  |c::du,cs::cG,⟨_,hl⟩,⟨_,_,_,_,b4⟩=>
   simp only[fo,gQ,keys,List.mem_append,List.mem_cons];rcases List.mem_cons.1 hm with rfl|hm
   ·exact .inr (.inl rfl)
   ·exact .inr (.inr (ih hl b4 hm))
theorem JL{av:Nat->Prop}(br:ae):∀(boxes:List (Nat×Nat)) {cG:List (List ay)} {B:Nat->Value} {st:ae} {du bs rest:List Nat},ag M J (fun b=>X b\/b∈bs++rest) B st tm w->nn B boxes du->l1 w av du cG bs->
  (∀o s,(o,s)∈boxes->look st.sites o=some (.dead s))->
  Left M J X B st av (bs++rest)->jH br st.sites (keys (fo br boxes cG))->(keys (fo br boxes cG)).Nodup->
  ∃az,fZ M J (fun b=>X b\/b∈bs++rest) (fun b=>X b\/b∈rest) B az st tm w (fo br boxes cG)/\Left M J X az {st with sites:=aZ st.sites (fo br boxes cG)} av rest:=by
 intro boxes;induction boxes with
 |nil=>
  intro cG B st du bs rest S h9 h fk L fb Y;match du,cG,h9,h with
  |[],[],_,h=>
   have h:bs=[]:=h;subst h;exact⟨B,.nil S (fun b hb=>hb),L⟩
 |cons p boxes ih=>
  obtain⟨o,s⟩:=p;intro cG B st du bs rest S h9 h fk L fb Y;have be:=fk o s List.mem_cons_self;match du,cG,h9,h with
  |b::du,cs::cG,⟨hb,h9⟩,⟨a7,aM,dx,⟨T,cur,py,e1,e2,ce,fG⟩,h2⟩=>
   subst dx e1;have hb:B o=.pointer (some ⟨b,0,none⟩):=hb;have jy:fo br ((o,s)::boxes) (cs::cG)=(take br (1000000+o*100) cs).2++([(o,Site.box s (take br (1000000+o*100) cs).1)]++fo br boxes cG):=rfl;rw[jy] at fb Y ⊢;rw[gQ,gQ] at fb Y;obtain⟨d1,d2,d3⟩:=List.nodup_append.1 Y;obtain⟨d4,d5,d6⟩:=List.nodup_append.1 d2;have zs:∀c,c∈b::py++aM++rest <-> c∈py++(b::(aM++rest)):=by intro c;simp[or_assoc,or_left_comm]
   have ahQ:=L.nodup;have c9:ag M J (fun c=>X c\/c∈py++(b::(aM++rest))) B st tm w:=S.shrink fun c hc=>hc.imp id (zs c).2
   have k2:Left M J X B st av (py++(b::(aM++rest))):=by
    refine⟨?_,fun c hc=>L.ci c ((zs c).2 hc),fun c hc=>L.le c ?_⟩
    ·have:List.Perm (b::py++aM++rest) (py++(b::(aM++rest))):=by
      simp only[List.cons_append,List.append_assoc];exact List.perm_middle.symm
     exact this.nodup_iff.1 ahQ
    ·rcases hc with hc|hc
     ·exact .inl (hc.imp id (zs c).2)
     ·exact .inr hc
   obtain⟨gp,cY,aw,pE⟩:=KJ br cs (1000000+o*100) c9 fG.2 k2 (fun m hm=>fb m (List.mem_append.2 (.inl hm))) d1
   have Pk:o∉keys (take br (1000000+o*100) cs).2:=fun h=>d3 o h o (by simp[keys]) rfl
   have adl:gp o=B o:=cY.same o Pk;have hQ:look (aZ st.sites (take br (1000000+o*100) cs).2) o=some (.dead s):=by rw[k5 Pk,be]
   have AG:=pE.nodup;simp only[List.nodup_cons] at AG;have dK:fZ M J (fun c=>X c\/c∈b::(aM++rest)) (fun c=>X c\/c∈aM++rest) gp (fun F=>if F=o then B o else gp F) {st with sites:=aZ st.sites (take br (1000000+o*100) cs).2} tm w [(o,Site.box s (take br (1000000+o*100) cs).1)]:=by
    refine .one cY.gG (fun c hc=>hc.imp id (List.mem_cons_of_mem _)) (.inr ⟨by rw[adl],fun O H=>?_⟩) (fun c hc=>?_) (fun ed d' go le=>?_)
    ·have H:look (aZ st.sites (take br (1000000+o*100) cs).2) o=some O:=H;rw[hQ] at H;cases H;exact⟨rfl,rfl⟩
    ·rw[hb] at hc;have hc:c=b:=List.mem_singleton.1 hc;rw[hc];refine⟨.inr List.mem_cons_self,?_,(pE.ci b List.mem_cons_self).2⟩;rintro(hx|hx)
     ·exact(pE.ci b List.mem_cons_self).1 hx
     ·exact AG.1 hx
    ·have:=yN go aw;exact⟨b,T,cur,by rw[d',hb],e2,this.1,ce,fun b4=>fG.1 (Wr b4),this.2⟩
   have ai3:Left M J X (fun F=>if F=o then B o else gp F) {st with sites:=aZ (aZ st.sites (take br (1000000+o*100) cs).2) [(o,Site.box s (take br (1000000+o*100) cs).1)]} av (aM++rest):=
    Left.rest (a:=[b]) (st:={st with sites:=aZ st.sites (take br (1000000+o*100) cs).2}) pE dK.le
   have vO:∀F,F∈keys boxes->(fun F=>if F=o then B o else gp F) F=B F:=by
    intro F bk;have ak:=Ia (br:=br) h9 h2 bk;by_cases e:F=o
    ·subst e;simp
    ·simp only[e,if_false];exact cY.same F fun hm=>d3 F hm F (List.mem_append.2 (.inr ak)) rfl
   obtain⟨az,f',ai2⟩:=ih (st:={st with sites:=aZ (aZ st.sites (take br (1000000+o*100) cs).2) [(o,Site.box s (take br (1000000+o*100) cs).1)]}) dK.gG (h9.congr vO) h2
    (fun F r hm=>by
     have ak:=Ia (br:=br) h9 h2 (B8 hm);show look (aZ (aZ st.sites _) _) F=_;rw[k5 (fun h=>d6 F h F ak rfl),k5 (fun h=>d3 F h F (List.mem_append.2 (.inr ak)) rfl)]
     exact fk F r (List.mem_cons_of_mem _ hm))
    ai3
    (jH.step (jH.step (fun m hm=>fb m (List.mem_append.2 (.inr (List.mem_append.2 (.inr hm))))) (fun m hm hA=>d3 m hm m (List.mem_append.2 (.inr hA)) rfl)) (fun m hm hA=>d6 m hm m hA rfl)) d5
   refine⟨az,?_,?_⟩
   ·have ahH:=cY.trans dK;have mG:fZ M J (fun c=>X c\/c∈b::py++aM++rest) (fun c=>X c\/c∈py++(b::(aM++rest))) B B st tm w []:=.nil S fun c hc=>hc.imp id (zs c).2
    have ad8:=mG.trans (vs:=(take br (1000000+o*100) cs).2++[(o,Site.box s (take br (1000000+o*100) cs).1)]) ahH;have:=ad8.trans (vs:=fo br boxes cG) (by simpa only[List.nil_append,iH] using f')
    simpa only[List.nil_append,List.append_assoc] using this
   ·simpa only[iH] using ai2
theorem h'.congr{az:Nat->Value}:∀{rows:List (Option (Nat×Nat))} {vs:List Value},h' B rows vs->(∀o s,some (o,s)∈rows->bO (az o)=bO (B o))->h' az rows vs:=by
 intro rows;induction rows with
 |nil=>intro vs h _;trivial
 |cons D r ih=>
  intro vs h hc;match D,vs,h with
  |none,v::vs,h=>exact ih h fun o s hm=>hc o s (List.mem_cons_of_mem _ hm)
  |some p,v::vs,h=>exact⟨h.1.trans (hc p.1 p.2 List.mem_cons_self).symm,ih h.2 fun o s hm=>hc o s (List.mem_cons_of_mem _ hm)⟩
  |none,[],h=>exact h.elim
  |some p,[],h=>exact h.elim
theorem Ws{U:List ay}:e5 [] U=[]:=by cases U<;>rfl
theorem H'{rows:List (Option (Nat×Nat))}:e5 rows []=[]:=by
 cases rows with
 |nil=>rfl
 |cons D r=>cases D<;>rfl
theorem U0{r:List (Option (Nat×Nat))}{l:ay}{U:List ay}:e5 (none::r) (l::U)=e5 r U:=by cases l<;>rfl
theorem wz{o s:Nat}:∀{rows:List (Option (Nat×Nat))},some (o,s)∈rows->o∈oL rows
 |[],h=>by cases h
 |none::r,h=>by
  rcases List.mem_cons.1 h with h|h
  ·cases h
  ·exact wz (rows:=r) h
 |some p::r,h=>by
  rcases List.mem_cons.1 h with h|h
  ·cases h;exact List.mem_cons_self
  ·exact List.mem_cons_of_mem _ (wz h)
theorem TR{D:Option (Nat×Nat)}{rows:List (Option (Nat×Nat))}(h:(oL (D::rows)).Nodup):(oL rows).Nodup:=by
 cases D with
 |none=>exact h
 |some p=>exact(List.nodup_cons.1 h).2
theorem XQ{av:Nat->Prop}:∀(rows:List (Option (Nat×Nat))) {U:List ay} {B:Nat->Value} {st:ae} {vs:List Value} {bs rest:List Nat},ag M J (fun b=>X b\/b∈bs++rest) B st tm w->gB w av U vs bs->h' B rows vs->
  (∀o s,some (o,s)∈rows->look st.sites o=some (.dead s))->(oL rows).Nodup->Left M J X B st av (bs++rest)->(keys (e5 rows U)).Nodup->
  ∃az,fZ M J (fun b=>X b\/b∈bs++rest) (fun b=>X b\/b∈rest) B az st tm w (e5 rows U)/\Left M J X az {st with sites:=aZ st.sites (e5 rows U)} av rest:=by
 intro rows;have skip:∀{B:Nat->Value} {st:ae} {bs rest:List Nat},ag M J (fun b=>X b\/b∈bs++rest) B st tm w->Left M J X B st av (bs++rest)->
   fZ M J (fun b=>X b\/b∈bs++rest) (fun b=>X b\/b∈rest) B B st tm w []/\Left M J X B st av rest:=by
  intro B st bs rest S L;have T:fZ M J (fun b=>X b\/b∈bs++rest) (fun b=>X b\/b∈rest) B B st tm w []:=.nil S fun b hb=>hb.imp id fun h=>List.mem_append.2 (.inr h)
  exact⟨T,L.rest (fun c hc=>T.le c hc)⟩
 induction rows with
 |nil=>
  intro U B st vs bs rest S h hr eR fb L Y;obtain⟨T,L'⟩:=skip S L;rw[Ws];exact⟨B,T,L'⟩
 |cons D r ih=>
  intro U B st vs bs rest S h hr eR fb L Y;match U,vs,h with
  |[],[],h=>
   obtain⟨T,L'⟩:=skip S L;rw[H'];exact⟨B,T,L'⟩
  |l::U,v::vs,⟨a7,aM,dx,h1,h2⟩=>
   subst dx;have pass:h' B r vs->e5 (D::r) (l::U)=e5 r U->∃az,fZ M J (fun b=>X b\/b∈a7++aM++rest) (fun b=>X b\/b∈rest) B az st tm w (e5 (D::r) (l::U))/\Left M J X az {st with sites:=aZ st.sites (e5 (D::r) (l::U))} av rest:=by
    intro cx e;rw[e] at Y ⊢;have mG:fZ M J (fun b=>X b\/b∈a7++aM++rest) (fun b=>X b\/b∈aM++rest) B B st tm w []:=.nil S fun b hb=>hb.imp id fun h=>by rw[List.append_assoc];exact List.mem_append.2 (.inr h)
    have wm:Left M J X B st av (aM++rest):=Left.rest (a:=a7) (by rw[<-List.append_assoc];exact L) fun c hc=>(mG.le c hc).imp (fun h=>h.imp id fun h=>by rwa[<-List.append_assoc]) id
    obtain⟨az,T,L'⟩:=ih mG.gG h2 cx (fun o s hm=>eR o s (List.mem_cons_of_mem _ hm)) (TR fb) wm Y
    exact⟨az,mG.trans (vs:=e5 r U) T,L'⟩
   have back:∀(o s:Nat) (bw:Site) (nv:Value),D=some (o,s)->bw.b2=s->e5 (D::r) (l::U)=(o,bw)::e5 r U->bO nv=v->(∀b,b∈bf nv->b∈a7)->
     (∀{bi:List (Nat×Site)} {az:Nat->Value},az o=nv->(∀b,au (fun b=>X b\/b∈aM++rest) az bi b->av b)->(∀b,au (fun b=>X b\/b∈aM++rest) az bi b->b<w.heap.size)->hW az bi w (au (fun b=>X b\/b∈aM++rest) az bi) o bw)->
     ∃az,fZ M J (fun b=>X b\/b∈a7++aM++rest) (fun b=>X b\/b∈rest) B az st tm w (e5 (D::r) (l::U))/\Left M J X az {st with sites:=aZ st.sites (e5 (D::r) (l::U))} av rest:=by
    intro o s bw nv al dB e vz gY dR;subst al;rw[e] at Y ⊢;simp only[keys,List.nodup_cons] at Y;have be:=eR o s List.mem_cons_self;have dN:=L.nodup;rw[List.append_assoc] at dN;have cY:fZ M J (fun b=>X b\/b∈a7++aM++rest) (fun b=>X b\/b∈aM++rest) B (fun F=>if F=o then nv else B F) st tm w [(o,bw)]:=by
     refine .one S (fun b hb=>hb.imp id fun h=>by rw[List.append_assoc];exact List.mem_append.2 (.inr h)) (.inr ⟨?_,fun O H=>?_⟩) (fun b hb=>?_) (fun ed d' go le=>?_)
     ·rw[vz];exact hr.1.symm
     ·rw[be] at H;cases H;exact⟨dB.symm,rfl⟩
     ·have hm:=gY b hb;have hA:b∈a7++aM++rest:=by rw[List.append_assoc];exact List.mem_append.2 (.inl hm)
      refine⟨.inr hA,?_,(L.ci b hA).2⟩;rintro(hx|hx)
      ·exact(L.ci b hA).1 hx
      ·exact(List.nodup_append.1 dN).2.2 b hm b hx rfl
     ·exact dR d' (fun b hb=>L.le b (le b hb)) (fun b hb=>S.lt (le b hb))
    have k2:Left M J X (fun F=>if F=o then nv else B F) {st with sites:=aZ st.sites [(o,bw)]} av (aM++rest):=
     ⟨(List.nodup_append.1 dN).2.1,fun b hb=>L.ci b (by rw[List.append_assoc];exact List.mem_append.2 (.inr hb)),fun c hc=>L.le c (cY.le c hc)⟩
    have qB:h' (fun F=>if F=o then nv else B F) r vs:=hr.2.congr fun F t hm=>by
     by_cases e:F=o
     ·subst e;have:=hr.1;simp only[if_true,vz];exact this
     ·simp[e]
    obtain⟨az,dK,pE⟩:=ih (st:={st with sites:=aZ st.sites [(o,bw)]}) cY.gG h2 qB (fun F t hm=>by
     have bK:¬o=F:=fun e=>(List.nodup_cons.1 fb).1 (by subst e;exact wz hm)
     simp only[aZ,cr,bK,if_false];exact eR F t (List.mem_cons_of_mem _ hm)) (List.nodup_cons.1 fb).2 k2 Y.2
    exact⟨az,cY.trans dK,pE⟩
   match D,hr with
   |none,hr=>exact pass hr U0
   |some (o,s),hr=>
    cases l with
    |fresh t xs=>
     obtain⟨f_,e,cs,al,db⟩:=h1;refine back o s (.row s t xs) v rfl rfl rfl (hK al).1 (fun b hb=>by rw[f_,tO al hb];simp) fun d' dc bb=>⟨e,cs,by rw[d'];exact al,fun j g1 g2=>?_⟩
     exact cc.fg (B:=B) (sites:=[]) (a:=one _) dc bb (db.2 j g1 g2)
    |iq t xs=>
     obtain⟨e,cs,ao,f_,al,db⟩:=h1;refine back o s (.deep s t xs) (.tuple (v::ao).toArray) rfl rfl rfl rfl (fun b hb=>by rw[f_];exact hb) fun d' dc bb=>⟨e,v,ao,cs,d',?_,al,db.map (fun k=>cc.fg (B:=B) (sites:=[]) (a:=one _) dc bb k) fun _ _ _ _=>rfl⟩
     rw[d',<-f_];have:=L.nodup;rw[List.append_assoc] at this;exact(List.nodup_append.1 this).1
    |_=>exact pass hr.2 rfl
end
theorem wv{us:List (Nat×Site)}:∀{sites:List (Nat×Site)} {o:Nat} {s:Site},(keys us).Nodup->(o,s)∈us->look (aZ sites us) o=some s:=by
 induction us with
 |nil=>intro sites o s _ h;simp at h
 |cons p us ih=>
  obtain⟨n,ap⟩:=p;intro sites o s hn hm;simp only[keys,List.nodup_cons] at hn;simp only[aZ];rcases List.mem_cons.1 hm with hm|hm
  ·cases hm;rw[k5 hn.1,cr];simp
  ·exact ih hn.2 hm
section plain
variable {w:World}{av bP:Nat->Prop}
theorem tF{d:aR}{v:Value}(h:ay.hJ (.d d)=false)(r:Rd w av d v):Rd w bP d v:=by
 cases r with
 |int k n=>exact .int k n
 |bool b=>exact .bool b
 |str l s H=>exact .str l s H
 |nil t=>cases h
 |sl=>cases h
 |fn=>cases h
 |qi=>cases h
 |map=>cases h
 |maps=>cases h
 |ql T=>exact .ql T
 |err T n=>exact .err T n
theorem Xo{t:aG}(h:t.hJ=false)(x:den t):∀d,d∈enc t x->ay.hJ (.d d)=false:=by
 cases t<;>first|(cases h;done)|(intro d Y;simp only[enc,List.mem_cons,List.not_mem_nil,or_false] at Y;(rcases Y with rfl|rfl|rfl|rfl|rfl);all_goals rfl)|skip
 all_goals(intro d Y;simp only[enc,List.mem_cons,List.not_mem_nil,or_false] at Y)
 all_goals first|(subst Y;rfl)|(rcases Y with rfl|rfl<;>rfl)|(rcases Y with rfl|rfl|rfl<;>rfl)|(rcases Y with rfl|rfl|rfl|rfl<;>rfl)
theorem WJ{t:aG}{xs:List (den t)}{cs:List Value}(h:t.hJ=false)(r:cp w av (flat t xs) cs):cp w bP (flat t xs) cs:=by
 refine⟨r.1,fun j g1 g2=>tF ?_ (r.2 j g1 g2)⟩
 have hm:(flat t xs)[j]∈flat t xs:=List.getElem_mem g1;simp only[flat,List.mem_flatMap] at hm;obtain⟨x,_,hx⟩:=hm;exact Xo h x _ hx
theorem VQ{ds:List aR}{cs ao:List Value}(k:Deep w av ds cs ao):Deep w bP ds cs ao:=by
 have pl:∀{d:aR} {v:Value},d.plain=true->Rd w av d v->Rd w bP d v:=fun {d v} ai r=>tF (by cases d<;>first|rfl|cases ai) r
 induction k with
 |nil=>exact .nil
 |row u ys e U ai h hr _ ih=>exact .row u ys e U ai h ⟨hr.1,fun j g1 g2=>pl (ai _ (List.getElem_mem g1)) (hr.2 j g1 g2)⟩ ih
 |leaf ai h _ ih=>exact .leaf ai (pl ai h) ih
theorem HV{l:ay}{v:Value}{bs:List Nat}(h:l.hJ=false)(k:l7 w av l v bs):l7 w bP l v bs:=by
 cases l with
 |d x=>exact⟨k.1,tF h k.2⟩
 |fresh t xs=>
  obtain⟨h1,e,cs,h2,aa⟩:=k;exact⟨h1,e,cs,h2,WJ h aa⟩
 |iq t xs=>
  obtain⟨e,cs,ao,h1,h2,aa⟩:=k;exact⟨e,cs,ao,h1,h2,VQ aa⟩
 |cL v=>exact k
 |eN=>exact k
 |_=>cases h
theorem Ba:∀{U:List ay} {vs:List Value} {bs:List Nat},nF U=false->gB w av U vs bs->gB w bP U vs bs:=by
 intro U;induction U with
 |nil=>
  intro vs bs _ k;match vs,k with
  |[],k=>exact k
 |cons l U ih=>
  intro vs bs h k;simp only[nF,Bool.or_eq_false_iff] at h;match vs,k with
  |v::vs,⟨a7,aM,aw,aj,bA⟩=>exact⟨a7,aM,aw,HV h.1 aj,ih h.2 bA⟩
theorem T4:∀{as:List bF} {vs:List Value} {bs:List Nat},rc as=false->li w av as vs bs->li w bP as vs bs:=by
 intro as;induction as with
 |nil=>
  intro vs bs _ k;match vs,k with
  |[],k=>exact k
 |cons a as ih=>
  intro vs bs h k;simp only[rc,Bool.or_eq_false_iff] at h;match vs,k with
  |v::vs,⟨a7,aM,aw,aj,bA⟩=>
   refine⟨a7,aM,aw,?_,ih h.2 bA⟩;cases a with
   |aq l=>
    have h1:=h.1;simp only[bF.cells,nF,Bool.or_false] at h1;exact HV h1 aj
   |agg U=>
    obtain⟨us,e,aj⟩:=aj;exact⟨us,e,Ba h.1 aj⟩
theorem T3:∀{cG:List (List ay)} {du bs:List Nat},rb cG=false->l1 w av du cG bs->l1 w bP du cG bs:=by
 intro cG;induction cG with
 |nil=>
  intro du bs _ k;match du,k with
  |[],k=>exact k
 |cons a as ih=>
  intro du bs h k;simp only[rb,Bool.or_eq_false_iff] at h;match du,k with
  |b::du,⟨a7,aM,aw,⟨T,cur,ot,e1,e2,ce,fG,gO⟩,bA⟩=>
   exact⟨a7,aM,aw,⟨T,cur,ot,e1,e2,ce,fG,Ba h.1 gO⟩,ih h.2 bA⟩
theorem Kq{l:ay}{v:Value}{bs:List Nat}(k:l7 w av l v bs):∀b,b∈bs->b<w.heap.size:=by
 cases l with
 |fresh t xs=>
  obtain⟨h1,e,cs,h2,aa⟩:=k;intro b hb;rw[h1] at hb;exact rk h2 (Option.mem_toList.1 hb)
 |iq t xs=>
  obtain⟨e,cs,ao,h1,h2,aa⟩:=k;intro b hb;rw[h1] at hb;rcases hH.1 hb with hb|⟨n,hn,hb⟩
  ·exact rk h2 hb
  ·exact aa.lt n hn b hb
 |_=>intro b hb;rw[k.1] at hb;simp at hb
theorem Cc:∀{U:List ay} {vs:List Value} {bs:List Nat},gB w av U vs bs->∀b,b∈bs->b<w.heap.size:=by
 intro U;induction U with
 |nil=>
  intro vs bs k;match vs,k with
  |[],k=>have k:bs=[]:=k;intro b hb;rw[k] at hb;simp at hb
 |cons l U ih=>
  intro vs bs k;match vs,k with
  |v::vs,⟨a7,aM,aw,aj,bA⟩=>
   intro b hb;rw[aw] at hb;rcases List.mem_append.1 hb with hb|hb
   ·exact Kq aj b hb
   ·exact ih bA b hb
theorem Jl:∀{as:List bF} {vs:List Value} {bs:List Nat},li w av as vs bs->∀b,b∈bs->b<w.heap.size:=by
 intro as;induction as with
 |nil=>
  intro vs bs k;match vs,k with
  |[],k=>have k:bs=[]:=k;intro b hb;rw[k] at hb;simp at hb
 |cons a as ih=>
  intro vs bs k;match vs,k with
  |v::vs,⟨a7,aM,aw,aj,bA⟩=>
   intro b hb;rw[aw] at hb;rcases List.mem_append.1 hb with hb|hb
   ·cases a with
    |aq l=>exact Kq (show l7 w av l v a7 from aj) b hb
    |agg U=>obtain⟨us,e,aj⟩:=aj;exact Cc aj b hb
   ·exact ih bA b hb
theorem Jj:∀{cG:List (List ay)} {du bs:List Nat},l1 w av du cG bs->∀b,b∈bs->b<w.heap.size:=by
 intro cG;induction cG with
 |nil=>
  intro du bs k;match du,k with
  |[],k=>have k:bs=[]:=k;intro b hb;rw[k] at hb;simp at hb
 |cons a as ih=>
  intro du bs k;match du,k with
  |c::du,⟨a7,aM,aw,⟨T,cur,ot,e1,e2,ce,_,fG⟩,bA⟩=>
   intro b hb;rw[aw] at hb;rcases List.mem_append.1 hb with hb|hb
   ·rw[e1] at hb;rcases List.mem_cons.1 hb with rfl|hb
    ·exact(Array.getElem?_eq_some_iff.1 e2).1
    ·exact Cc fG b hb
   ·exact ih bA b hb
end plain
section
variable {P:Program}{M:World}{J:List Nat}{X:Nat->Prop}{B:Nat->Value}{st:ae}{tm:Array Value}{w:World}{D:Oper}
theorem nx{ks:List Nat}{b:Nat}:b∈cw B ks <-> ∃o,o∈ks/\b∈bf (B o):=by simp[cw]
theorem HC(S:ag M J X B st tm w):∀{ks:List Nat},ks.Nodup->(∀o,o∈ks->bT st.sites o)->(cw B ks).Nodup:=by
 intro ks;induction ks with
 |nil=>intro _ _;exact List.nodup_nil
 |cons o ks ih=>
  intro hn hl;rw[List.nodup_cons] at hn;have:=ih hn.2 fun F bk=>hl F (List.mem_cons_of_mem _ bk)
  simp only[cw,List.flatMap_cons] at this ⊢;refine List.nodup_append.2 ⟨S.Mu (hl o List.mem_cons_self),this,fun b hb c hc e=>?_⟩
  subst e;obtain⟨F,h1,h2⟩:=nx.1 hc;have:=S.dp o F b (hl o List.mem_cons_self) (hl F (List.mem_cons_of_mem _ h1)) hb h2;subst this;exact hn.1 h1
structure ad9(M:World)(J:List Nat)(X:Nat->Prop)(B:Nat->Value)(st:ae)(tm:Array Value)(w:World)(a:ka)(vs:List Value):Prop where
 bC:dE st.sites a.eL
 pD:∀o,o∈a.fU->bT st.sites o
 nw:e7 st.sites a.gone
 arg:∀av,fe M J X B st tm w a.eL a.fU av->iI w av a.as vs (cw B (keys a.gone))
 du:d_ a.as vs=cw B (keys a.boxes)
 dZ:∀o s,(o,s)∈a.boxes->(o,.dead s)∈a.gone/\∃b,B o=.pointer (some ⟨b,0,none⟩)
 mD:h' B a.rows (fc a.as vs)
 rg:∀o s,some (o,s)∈a.rows->(o,.dead s)∈a.gone
theorem HZ{us:List (Nat×Site)}{sites:List (Nat×Site)}(aB:dE sites us){o:Nat}(h:bT (aZ sites us) o):bT sites o:=by
 obtain⟨O,h1,h2⟩:=h;rcases lR aB o with h|⟨s,t,xs,aN,bn⟩
 ·exact⟨O,h▸h1,h2⟩
 ·rw[bn] at h1;cases h1;cases h2
theorem Y6(S:ag M J X B st tm w){g:FuncId}{aW:bg}(hG:bc P g aW){a:ka}{vs:List Value}(A:ad9 M J X B st tm w a vs){d:Nat}(Y:ca st D.dst=true)
  (cN:(execOp (Act.eval ⟨tm,[]⟩) D).run P w=(callFunc g vs.toArray).run P w):Holds (o7 d st aW a) (cA P M J X st tm w D):=by
 intro y an hc;simp only[o7] at y an hc ⊢;simp only[Bool.and_eq_true] at hc;obtain⟨⟨⟨⟨⟨bD,bM⟩,cv⟩,fl⟩,jW⟩,c6,SV⟩:=hc;rw[oF] at bD cv c6;rw[Jw] at bM fl SV;have ri:∀o,o∈keys a.gone->bT st.sites o:=fun o be=>by
  obtain⟨s,H⟩:=oH be;obtain⟨O,h1,h2,_⟩:=A.nw o s H;exact⟨O,h1,h2⟩
 have Jf:∀o,o∈keys a.gone->o∉keys a.eL:=fun o h1 h2=>bM o (List.mem_append.2 (.inl h2)) h1
 have aiJ:∃X':Nat->Prop,∀b,X' b <-> (au X B (aZ st.sites a.eL) b/\b∉cw B (keys a.gone)/\∀o,o∈a.fU->b∉bf (B o)):=⟨_,fun b=>Iff.rfl⟩
 obtain⟨X',ni⟩:=aiJ;have dd:fe M J X B st tm w a.eL a.fU (fun b=>X' b\/b∈cw B (keys a.gone)):=by
  refine⟨⟨S,A.bC⟩,fun b hb=>?_,fun o be b hb hx=>?_⟩
  ·rcases hb with hb|hb
   ·exact((ni b).1 hb).1
   ·obtain⟨o,h1,h2⟩:=nx.1 hb;obtain⟨O,aa,aN⟩:=ri o h1;exact .inr ⟨o,⟨O,by rw[k5 (Jf o h1)];exact aa,aN⟩,h2⟩
  ·rcases hx with hx|hx
   ·exact((ni b).1 hx).2.2 o be (fS hb)
   ·obtain⟨F,h1,h2⟩:=nx.1 hx;have:=S.dp o F b (A.pD o be) (ri F h1) (fS hb) h2;subst this;exact bM o (List.mem_append.2 (.inr be)) h1
 have pu:(cw B (keys a.gone)).Nodup:=HC S bD ri;have Cd:∀b,b∈cw B (keys a.gone)->¬X b/\(b∈J\/M.heap.size<=b):=fun b hb=>by
  obtain⟨o,h1,h2⟩:=nx.1 hb;exact S.ci o b (ri o h1) h2
 have R2:∀b,X b->X' b:=fun b hb=>(ni b).2 ⟨.inl hb,fun h=>(Cd b h).1 hb,fun o be h=>(S.ci o b (A.pD o be) h).1 hb⟩
 have jx:iN w (cw B (keys a.gone)) X':=by
  obtain⟨g1,g2⟩:=S.kp;refine⟨g1,fun b hb h=>?_,fun b hb h=>?_,fun b hb=>(g2 b hb).2⟩
  ·obtain⟨o,h1,h2⟩:=nx.1 h;exact(g2 b hb).1 (.inr ⟨o,ri o h1,h2⟩)
  ·rcases((ni b).1 h).1 with h|⟨o,h1,h2⟩
   ·exact(g2 b hb).1 (.inl h)
   ·exact(g2 b hb).1 (.inr ⟨o,HZ A.bC h1,h2⟩)
 have en:=hG a.as y an w X' vs (cw B (keys a.gone)) (A.arg _ dd) pu (fun b hb hx=>((ni b).1 hx).2.1 hb) (fun b hb=>dd.lt (.inl hb)) jx
 intro K Q bL;have core:∀v w',(∃eY ej rv,Fr (cw B (keys a.gone)) w w'/\p1 w' (fun b=>X' b\/b∈eY++ej) (d_ a.as vs) ((aW a.as).dZ y) (fc a.as vs) ((aW a.as).eP y) eY/\li w' (fun b=>X' b\/b∈eY++ej) ((aW a.as).e_ y) rv ej/\
   v=oS rv/\(eY++ej).Nodup/\∀b,b∈eY++ej->¬X' b/\(b∈cw B (keys a.gone)\/w.heap.size<=b))->K ⟨dl tm D.dst v,[]⟩ w':=by
  rintro v w' ⟨eY,ej,rv,aB,fk,iD,rfl,dN,hm⟩;obtain⟨sl,fA⟩:∃sl,(rc ((aW a.as).e_ y)||rb ((aW a.as).dZ y)||nF ((aW a.as).eP y))=sl:=⟨_,rfl⟩;rw[fA] at jW bL;obtain⟨c1,AF⟩:∃c1,(bif sl then a.eL else [])=c1:=⟨_,rfl⟩
  rw[AF] at bL;have PB:dE st.sites c1:=by rw[<-AF];cases sl;exact .nil;exact A.bC
  have abO:∀o,o∈keys c1->o∈keys a.eL:=by rw[<-AF];cases sl;intro o h;simp[keys] at h;exact fun o h=>h
  have c9:ag M J X B {st with sites:=aZ st.sites c1} tm w:=S.yk PB
  have AH:e7 (aZ st.sites c1) a.gone:=fun o s H=>by
   obtain⟨O,h1,h2,aa⟩:=A.nw o s H;exact⟨O,by rw[k5 (fun h=>Jf o (B8 H) (abO o h))];exact h1,h2,aa⟩
  have gv:=c9.abN AH bD;have jf:=gv.jump (w':=w') (fun b hb bb=>aB.block b bb (fun h=>hb (.inr h))) aB.size
   ⟨aB.os.trans S.frame.os,aB.tape.trans S.frame.tape,aB.output.trans S.frame.output,Nat.le_trans S.frame.size aB.size,fun b bb hb=>by
    rw[aB.block b (Nat.lt_of_lt_of_le bb S.frame.size) (fun h=>by rcases(Cd b h).2 with af|af;exact hb af;omega)]
    exact S.frame.block b bb hb⟩
  have af2:∀b,b∈eY++ej->b<w'.heap.size:=fun b hb=>by
   rcases List.mem_append.1 hb with hb|hb
   ·obtain⟨d1,d2,e1,e2,ce⟩:=fk;rw[e1] at hb;rcases List.mem_append.1 hb with hb|hb
    ·exact Jj e2 b hb
    ·rcases ce with⟨_,ce⟩|ce
     ·rw[ce] at hb;simp at hb
     ·exact Cc ce b hb
   ·exact Jl iD b hb
  have mH:ag M J (fun b=>X b\/b∈eY++(ej++[])) B {st with sites:=aZ (aZ st.sites c1) a.gone} tm w':=jf.shrink fun b hb=>by
   rcases hb with hb|hb
   ·exact .inl (.inl hb)
   ·rw[List.append_nil] at hb;rcases(hm b hb).2 with h|h
    ·exact .inl (.inr h)
    ·exact .inr ⟨h,af2 b hb⟩
  obtain⟨av,Py,adV,adU⟩:∃av:Nat->Prop,p1 w' av (d_ a.as vs) ((aW a.as).dZ y) (fc a.as vs) ((aW a.as).eP y) eY/\li w' av ((aW a.as).e_ y) rv ej/\
    ∀c,au (fun b=>X b\/b∈eY++(ej++[])) B (aZ (aZ st.sites c1) a.gone) c->av c:=by
   cases sl with
   |false=>
    rw[Bool.or_eq_false_iff,Bool.or_eq_false_iff] at fA;obtain⟨d1,d2,e1,e2,ce⟩:=fk;exact⟨_,⟨d1,d2,e1,T3 fA.1.2 e2,ce.imp id (Ba fA.2)⟩,T4 fA.1.1 iD,fun c hc=>hc⟩
   |true=>
    refine⟨_,fk,iD,fun c hc=>?_⟩
    rcases hc with(hc|hc)|⟨o,⟨O,h1,h2⟩,aa⟩
    ·exact .inl (R2 c hc)
    ·rw[List.append_nil] at hc;exact .inr hc
    ·refine .inl ((ni c).2 ?_);have be:o∉keys a.gone:=fun h=>by
      obtain⟨s,H⟩:=oH h;rw[wv bD H] at h1;obtain⟨_,_,_,e⟩:=A.nw o s H;cases h1;rw[e] at h2;cases h2
     rw[k5 be] at h1;have ad0:a.eL=c1:=AF;rw[<-ad0] at h1;have live:bT st.sites o:=HZ A.bC ⟨O,h1,h2⟩;refine⟨.inr ⟨o,⟨O,h1,h2⟩,aa⟩,fun h=>?_,fun F bk h=>?_⟩
     ·obtain⟨F,aw,aj⟩:=nx.1 h;have:=S.dp o F c live (ri F aw) aa aj;subst this;exact be aw
     ·simp only[Bool.not_true,Bool.false_or,List.isEmpty_iff] at jW;rw[jW] at bk;simp at bk
  have L:Left M J X B {st with sites:=aZ (aZ st.sites c1) a.gone} av (eY++(ej++[])):=by
   refine⟨by simpa using dN,fun b hb=>?_,adU⟩
   rw[List.append_nil] at hb;obtain⟨h1,h2⟩:=hm b hb;refine⟨fun hx=>h1 (R2 b hx),?_⟩
   rcases h2 with h2|h2
   ·exact(Cd b h2).2
   ·exact .inr (Nat.le_trans S.frame.size h2)
  have uA:∀ks,jH st (aZ (aZ st.sites c1) a.gone) ks:=fun ks m _ O H=>by
   have h1:∀O,look (aZ st.sites c1) m=some O->O.b2<aU st m:=fun O H=>by
    rcases lR PB m with h|⟨s,t,xs,aN,bn⟩
    ·rw[h] at H;exact jg H
    ·rw[bn] at H;cases H;rcases aN with aN|aN|aN<;>(have q:=jg aN;exact q)
   by_cases ak:m∈keys a.gone
   ·obtain⟨s,ed⟩:=oH ak;rw[wv bD ed] at H;obtain⟨bw,e1,_,ce⟩:=AH m s ed;rw[ce] at H;cases H;exact h1 bw e1
   ·rw[k5 ak] at H;exact h1 O H
  rw[gQ,gQ] at cv;obtain⟨d12,d2,d3⟩:=List.nodup_append.1 cv;obtain⟨d1,aiP,d4⟩:=List.nodup_append.1 d12;rw[A.du] at Py;obtain⟨e1,e2,rfl,adT,Ff⟩:=Py;simp only[List.append_assoc] at mH L;obtain⟨jt,mG,wm⟩:=JL st a.boxes (st:={st with sites:=aZ (aZ st.sites c1) a.gone}) mH (nn.of fun o s H=>(A.dZ o s H).2) adT
   (fun o s H=>wv bD (A.dZ o s H).1) L (uA _) d1
  obtain⟨gp,ahI,k2⟩:∃gp,fZ M J (fun b=>X b\/b∈e2++(ej++[])) (fun b=>X b\/b∈ej++[]) jt gp {st with sites:=aZ (aZ (aZ st.sites c1) a.gone) (fo st a.boxes ((aW a.as).dZ y))} tm w' (e5 a.rows ((aW a.as).eP y))/\
    Left M J X gp {st with sites:=aZ (aZ (aZ (aZ st.sites c1) a.gone) (fo st a.boxes ((aW a.as).dZ y))) (e5 a.rows ((aW a.as).eP y))} av (ej++[]):=by
   rcases Ff with⟨q1,q2⟩|Ff
   ·have e:e5 a.rows ((aW a.as).eP y)=[]:=by rw[q1];exact H'
    subst q2;rw[e];exact⟨jt,.nil mG.gG fun b hb=>hb,wm⟩
   ·by_cases cE:e5 a.rows ((aW a.as).eP y)=[]
    ·rw[cE];have T:fZ M J (fun b=>X b\/b∈e2++(ej++[])) (fun b=>X b\/b∈ej++[]) jt jt {st with sites:=aZ (aZ (aZ st.sites c1) a.gone) (fo st a.boxes ((aW a.as).dZ y))} tm w' []:=.nil mG.gG fun b hb=>hb.imp id fun h=>List.mem_append.2 (.inr h)
     exact⟨jt,T,wm.rest fun c hc=>T.le c hc⟩
    have SE:∀o s,some (o,s)∈a.rows->o∉keys (fo st a.boxes ((aW a.as).dZ y)):=fun o s hm ak=>SV o (wz hm) ak
    exact XQ a.rows mG.gG Ff (A.mD.congr fun o s hm=>by rw[mG.same o (SE o s hm)]) (fun o s hm=>by
     rw[k5 (SE o s hm)];exact wv bD (A.rg o s hm)) c6 wm aiP
  have cY:=mG.trans ahI;obtain⟨gn,dK,kM,_⟩:=JM st ((aW a.as).e_ y) (2000000+d*10000) (st:={st with sites:=aZ (aZ (aZ st.sites c1) a.gone) (fo st a.boxes ((aW a.as).dZ y)++e5 a.rows ((aW a.as).eP y))}) cY.gG adV (by rw[iH];exact k2)
   (jH.step (uA _) (fun n h1 h2=>d3 n (by rw[gQ] at h1;exact h1) n h2 rfl)) d2
  have aiY:ag M J X gn {st with sites:=aZ st.sites (c1++a.gone++(fo st a.boxes ((aW a.as).dZ y)++e5 a.rows ((aW a.as).eP y))++(dU st (2000000+d*10000) ((aW a.as).e_ y)).2)} tm w':=by
   have:=dK.gG.shrink (X':=X) fun b hb=>.inl hb
   simpa only[iH] using this
  refine bL gn _ w' (ag.cS aiY Y (v:=Nr (dU st (2000000+d*10000) ((aW a.as).e_ y)).1) ?_);have NL:nX gn (aZ st.sites (c1++a.gone++(fo st a.boxes ((aW a.as).dZ y)++e5 a.rows ((aW a.as).eP y))++(dU st (2000000+d*10000) ((aW a.as).e_ y)).2)) w'
    (au X gn (aZ st.sites (c1++a.gone++(fo st a.boxes ((aW a.as).dZ y)++e5 a.rows ((aW a.as).eP y))++(dU st (2000000+d*10000) ((aW a.as).e_ y)).2))) (dU st (2000000+d*10000) ((aW a.as).e_ y)).1 rv:=by
   have e:(fun b=>X b\/b∈([]:List Nat))=X:=by funext b;simp
   rw[e] at kM;simpa only[iH] using kM
  generalize(dU st (2000000+d*10000) ((aW a.as).e_ y)).1=af4 at NL;match af4,rv,NL with
  |[],[],h=>exact⟨[],rfl,rfl,fun j h=>by simp at h⟩
  |[l],[v],h=>exact h.2 0 (by simp) (by simp)
  |l::dX::U,v::v2::cC,h=>exact⟨v::v2::cC,rfl,h.1,h.2⟩
 rcases en with⟨h1,h2⟩|⟨v,w',h1,h2⟩
 ·unfold Oper.wp;rw[cN,h1,Oper.upon_enter];refine h2.mono fun e w' he=>?_
  cases e with
  |returned v=>
   have:=core v w' he;cases di:D.dst with
   |none=>rw[di] at this;simpa[Act.put,dl] using this
   |some t=>rw[di] at this;simpa[Act.put,dl] using this
  |panicked c=>exact he.elim
  |outgrown=>exact he.elim
 ·exact nN (cN.trans h1) (core v w' h2)
end
def Ei(P:Program)(g:FuncId):Prop:=
 ∀(b:Nat) (p v:Value) (w:World),w.heap[b]? =some (.cells #[p,v] qJ (0,0))->(p=.pointer none\/p=.pointer (some ⟨b,0,none⟩))->
  Enters P g #[.pointer (some ⟨b,0,none⟩)] w fun r w'=>r=.tuple #[]/\w'=w.setRow b #[.pointer (some ⟨b,0,none⟩),v]
def EB(P:Program)(g:FuncId):Prop:=
 ∀(b:Nat) (p v:Value) (T:TypeId) (xs:List Int) (w:World),w.heap[b]? =some (.cells #[p,v] T (0,0))->rowAt w true lH 1 v xs.length (xs.map (Value.int .u8))->
  Enters P g #[.pointer (some ⟨b,0,none⟩)] w fun r w'=>r=.string ⟨(strOf xs).toArray⟩/\w'.os=w.os/\w'.tape=w.tape/\w'.output=w.output/\w.heap.size<=w'.heap.size/\
   (∀c,c<w.heap.size->ba v≠some c->w'.heap[c]? =w.heap[c]?)/\∀c cur e bC,ba v=some c->w.heap[c]? =some (.cells cur e bC)->∃s9,w'.heap[c]? =some (.cells cur e s9)
section
variable {P:Program}{M:World}{J:List Nat}{X:Nat->Prop}{B:Nat->Value}{st:ae}{tm:Array Value}{w:World}{D:Oper}
theorem ag.YQ(S:ag M J X B st tm w){o s:Nat}{t:aG}{xs:List (den t)}(hl:look st.sites o=some (.row s t xs)){w':World}(h1:w'.os=w.os)(h2:w'.tape=w.tape)(aa:w'.output=w.output)(aN:w.heap.size<=w'.heap.size)
  (bn:∀c,c<w.heap.size->ba (B o)≠some c->w'.heap[c]? =w.heap[c]?) (dY:∀c cur e bC,ba (B o)=some c->w.heap[c]? =some (.cells cur e bC)->∃s9,w'.heap[c]? =some (.cells cur e s9)):
  ag M J X B {st with sites:=cd st.sites o (.c' s t xs)} tm w':=by
 have cZ:bT st.sites o:=⟨_,hl,rfl⟩;have dI:∀F,bT (cd st.sites o (.c' s t xs)) F->bT st.sites F/\F≠o:=by
  rintro F ⟨O,h1,h2⟩;rw[cr] at h1;by_cases e:o=F
  ·subst e;simp at h1;subst h1;cases h2
  ·simp only[e,if_false] at h1;exact⟨⟨O,h1,h2⟩,fun h=>e h.symm⟩
 have b5:∀a',au X B (cd st.sites o (.c' s t xs)) a'->au X B st.sites a':=by
  rintro a' (h|⟨F,h1,h2⟩)
  ·exact .inl h
  ·exact .inr ⟨F,(dI F h1).1,h2⟩
 have aB:=S.frame;refine S.nY (fun F O bk=>?_) (fun a' h hb=>bn a' hb (fun af=>h (.inr ⟨o,cZ,fS af⟩))) (fun a' h _ af=>h (b5 a' af)) (fun go F O bk=>?_) (fun F aI a' h1 h2=>S.dp F aI a' (dI F h1).1 (dI aI h2).1)
  (fun F a' h=>S.ci F a' (dI F h).1) (fun F a' h hb=>Nat.lt_of_lt_of_le (S.dS (dI F h).1 hb) aN)
  ⟨h1.trans aB.os,h2.trans aB.tape,aa.trans aB.output,Nat.le_trans aB.size aN,fun b hb hn=>by
   have H:=aB.size;rw[bn b (by omega) (fun af=>by
    rcases(S.ci o b cZ (fS af)).2 with af|af
    ·exact hn af
    ·omega)]
   exact aB.block b hb hn⟩ aN
 ·rw[cr];by_cases e:o=F
  ·subst e;rw[hl] at bk;cases bk;exact⟨.c' s t xs,by simp,Nat.le_refl _,fun _=>rfl⟩
  ·exact⟨O,by simp[e,bk],Nat.le_refl _,fun _=>rfl⟩
 ·rw[cr] at bk;by_cases e:o=F
  ·subst e;simp only[if_true,Option.some.injEq] at bk;subst bk;refine .inr ?_
   show Rd _ _ (.sl t xs) (bO (B o))/\u' (bO (B o));obtain⟨bK,cs,aw,aj⟩:=S.sites o _ hl;rw[(hK aw).1];rcases aw.2 with⟨hn,a8⟩|⟨g,cap,cur,bC,ab,_,aF,gH,_,_,gX⟩
   ·have:xs=[]:=List.eq_nil_of_length_eq_zero a8;subst this;rw[hn];exact⟨.nil t,.inl rfl⟩
   ·obtain⟨s9,kW⟩:=dY g cur bK bC (by rw[ab];rfl) aF
    rw[ab];refine⟨?_,.inr ⟨_,_,_,rfl⟩⟩;have hlen:cs.length=(flat t xs).length:=by rw[dM];exact aw.1
    refine .sl t xs _ cap cs xs.length rfl gH (fun _=>?_) hlen (fun j u hu=>?_) (fun j g1 g2=>hX go (aj j g1 g2))
    ·rintro(hx|⟨F,g1,g2⟩)
     ·exact(S.ci o g cZ (fS (by rw[ab];rfl))).1 hx
     ·obtain⟨g3,g4⟩:=dI F g1;exact g4 (S.dp F o g g3 cZ g2 (fS (by rw[ab];rfl)))
    ·rw[gy,Nat.zero_add,cell_of_row w' g j cur bK s9 kW];rw[<-gX,List.getElem?_take] at hu;split at hu
     ·simpa using hu
     ·cases hu
  ·simp only[e,if_false] at bk;refine .inl ⟨bk,rfl,fun sx b hb=>bn b (S.dS ⟨_,bk,sx⟩ hb) fun h=>e (S.dp o F b cZ ⟨_,bk,sx⟩ (fS h) hb)⟩
theorem w4{g:FuncId}{vs:List Value}{post:Value->World->Prop}(cN:(execOp (Act.eval ⟨tm,[]⟩) D).run P w=(callFunc g vs.toArray).run P w)(hG:Enters P g vs.toArray w post){K:Act->World->Prop}{Q:Exit->Act->World->Prop}
  (core:∀v w',post v w'->K ⟨dl tm D.dst v,[]⟩ w'):D.wp P ⟨tm,[]⟩ w K Q:=by
 rcases hG with⟨h1,h2⟩|⟨v,w',h1,h2⟩
 ·unfold Oper.wp;rw[cN,h1,Oper.upon_enter];refine h2.mono fun e w' he=>?_
  cases e with
  |returned v=>
   have:=core v w' he;cases di:D.dst with
   |none=>rw[di] at this;simpa[Act.put,dl] using this
   |some t=>rw[di] at this;simpa[Act.put,dl] using this
  |panicked c=>exact he.elim
  |outgrown=>exact he.elim
 ·exact nN (cN.trans h1) (core v w' h2)
theorem Y0(S:ag M J X B st tm w){g:FuncId}(hG:Ei P g){cO:List aL}{vs:List Value}(hl:cO.length=vs.length)
  (ab:∀i (h:i<cO.length) (af:i<vs.length),cc B st.sites w (au X B st.sites) (cO[i]) (vs[i])) (Y:ca st D.dst=true) (cN:(execOp (Act.eval ⟨tm,[]⟩) D).run P w=(callFunc g vs.toArray).run P w):
  Holds (copyV st cO) (cA P M J X st tm w D):=by
 unfold copyV;split
 ·rename_i o s;split
  ·rename_i ap l fp;have fp:look st.sites o=some (.box ap [.eN,l]):=fp;cases jv:ap.beq s with
   |false=>exact .fail
   |true=>
    have:=Nat.eq_of_beq_eq_true jv;subst this;refine Holds.e' ?_
    intro K Q bL;match vs,hl,ab,cN with
    |[qT],_,ab,cN=>
    obtain⟨q3,ag7,kg⟩:dv B st.sites w (au X B st.sites) (.ptr o ap 0) qT:=ab 0 (by simp) (by simp)
    have kg:=Ref.at kg fp rfl;obtain⟨b,T,cur,e1,e2,ce,fG,gO,tk⟩:=S.sites o _ fp;rw[e1] at kg;have kg:b=q3:=by cases kg;rfl
    subst kg;subst ag7;match cur,e2,ce,fG,gO,tk with
    |[p,v],e2,_,fG,gO,tk=>
     obtain⟨rfl,ai⟩:=gO rfl;have ai:p=.pointer none\/p=.pointer (some ⟨b,0,none⟩):=by simpa using ai
     refine w4 cN (hG b p v w e2 ai) ?_
     rintro r w' ⟨rfl,rfl⟩;have bY:ag M J X B {st with sites:=cd st.sites o (.box ap [.eN,l])} tm (w.setRow b #[.pointer (some ⟨b,0,none⟩),v]):=by
      refine S.write fp rfl rfl rfl (fS (by rw[e1];rfl)) e2 (fun H hw kW go=>⟨b,qJ,[.pointer (some ⟨b,0,none⟩),v],e1,kW,rfl,fun u hu=>?_,fun _=>⟨rfl,.inr rfl⟩,fun j h af=>?_⟩)
      ·rcases List.mem_cons.1 hu with rfl|hu
       ·rfl
       ·exact fG u (List.mem_cons_of_mem _ hu)
      ·match j,h,af with
       |0,_,_=>trivial
       |1,_,_=>exact go (a:=b0 l) (tk 1 (by simp) (by simp))
     exact bL _ _ _ (ag.cS (us:=[(o,.box ap [.eN,l])]) bY Y (v:=.ju []) ⟨[],rfl,rfl,fun j h=>by simp at h⟩)
  ·exact .fail
 ·exact .fail
theorem XO{av:Nat->Prop}{xs:List Int}{cs:List Value}(a8:cs.length=xs.length)(h:∀j (h:j<(flat .u8 (xs:List (den .u8))).length) (af:j<cs.length),Rd w av ((flat .u8 (xs:List (den .u8)))[j]) (cs[j])):cs=xs.map (Value.int .u8):=by
 refine List.ext_getElem (by rw[List.length_map];exact a8) fun j g1 g2=>?_
 have RW:j<xs.length:=by simpa using g2
 have:=h j (by rw[dM];simpa[ax] using RW) g1
 rw[List.getElem_map];generalize Y:(flat .u8 (xs:List (den .u8)))[j]'(by rw[dM];simpa[ax] using RW)=d at this
 have ng:d=.int .u8 xs[j]:=by
  rw[<-Y];simp only[rB,List.getElem_map]
 subst ng;generalize cs[j]=v at this;cases this;rfl
theorem U2(S:ag M J X B st tm w){g:FuncId}(hG:EB P g){cO:List aL}{vs:List Value}(hl:cO.length=vs.length)
  (ab:∀i (h:i<cO.length) (af:i<vs.length),cc B st.sites w (au X B st.sites) (cO[i]) (vs[i])) (Y:ca st D.dst=true) (cN:(execOp (Act.eval ⟨tm,[]⟩) D).run P w=(callFunc g vs.toArray).run P w):
  Holds (rr st cO) (cA P M J X st tm w D):=by
 unfold rr;split
 ·rename_i o s;match vs,hl,ab,cN with
  |[qT],_,ab,cN=>
  have lB:dv B st.sites w (au X B st.sites) (.ptr o s 0) qT:=ab 0 (by simp) (by simp)
  split
  ·rename_i SJ mc;have fp:=hd mc;obtain⟨b,T,cur,bH,rfl,aF,_,hc⟩:=S.box fp lB;refine Holds.ok ?_
   intro K Q bL;obtain⟨p,cy,rfl,_,hc⟩:=hc.inv;obtain⟨v,b',rfl,vr,hc⟩:=hc.inv;have:b'=[]:=List.eq_nil_of_length_eq_zero hc.1;subst this;have vr:v=.slice none 0 0:=vr;subst vr;refine w4 cN (hG b p _ T [] w aF (pJ w true lH 1)) ?_
   rintro r w' ⟨rfl,aw,aj,bA,cD,eJ,ic⟩;have c9:=S.jump (w':=w') (fun c _ hc=>eJ c hc (by simp[ba])) cD ⟨aw.trans S.frame.os,aj.trans S.frame.tape,bA.trans S.frame.output,Nat.le_trans S.frame.size cD,fun c hc hn=>by
    rw[eJ c (Nat.lt_of_lt_of_le hc S.frame.size) (by simp[ba])]
    exact S.frame.block c hc hn⟩
   have gv:ag M J X B {st with sites:=aZ st.sites []} tm w':=c9.shrink fun b hb=>.inl hb
   exact bL _ _ _ (ag.cS (us:=[]) gv Y (v:=one (.str [])) (Rd.str _ _ rfl))
  ·rename_i SJ F u mc;have fp:=hd mc;obtain⟨b,T,cur,bH,rfl,aF,_,hc⟩:=S.box fp lB;split
   ·rename_i bS xs c5;have c5:look st.sites F=some (.row bS .u8 xs):=c5;cases ags:bS.beq u with
    |false=>exact .fail
    |true=>
     have:=Nat.eq_of_beq_eq_true ags;subst this;refine Holds.e' ?_
     intro K Q bL;obtain⟨p,cy,rfl,_,hc⟩:=hc.inv;obtain⟨v,b',rfl,vr,hc⟩:=hc.inv;have:b'=[]:=List.eq_nil_of_length_eq_zero hc.1;subst this;obtain⟨e,cs,h1,h2⟩:=S.sites F _ c5;have Pm:v=B F:=(Ref.at vr.2 c5 rfl:v=bO (B F)).trans (hK h1).1;have hlen:cs.length=xs.length:=by have:=h1.1;simpa[ax] using this
     have ee:cs=List.map (Value.int .u8) xs:=XO hlen h2;have hq:rowAt w true lH 1 v xs.length (List.map (Value.int .u8) xs):=by
      rw[<-ee,Pm];refine⟨h1.1,?_⟩;rcases h1.2 with h|⟨cI,cap,sD,bC,q1,q2,eg⟩
      ·exact .inl h
      ·have:=q2.1 rfl;subst this;exact .inr ⟨cI,cap,sD,bC,q1,q2,eg⟩
     refine w4 cN (hG b p v T xs w aF hq) ?_
     rintro r w' ⟨rfl,aw,aj,bA,cD,eJ,ic⟩;rw[Pm] at eJ ic;have gv:=S.YQ c5 aw aj bA cD eJ ic;exact bL _ _ _ (ag.cS (us:=[(F,.c' bS .u8 xs)]) gv Y (v:=one (.str (strOf xs))) (Rd.str _ _ (by simp)))
   ·exact .fail
  ·exact .fail
 ·exact .fail
end
def yp(P:Program)(g cI:FuncId):Prop:=
 ∀(a b:ByteArray) (w:World),Enters P g #[.string a,.string b] w fun v w'=>∃cY dK,v=.func (.func cI) #[] #[.pointer (some ⟨w.heap.size+1,0,none⟩),.pointer (some ⟨w.heap.size,0,none⟩),.pointer (some ⟨w.heap.size+2,0,none⟩)]/\
  w'=((w.alloc (.cells #[.string a] cY)).alloc (.cells #[.string b] cY)).alloc (.cells #[.int .i64 0] dK)
def zh(P:Program)(g:FuncId):Prop:=
 ∀(xs:List Int) (v:Value) (w:World) (av:Nat->Prop),Rd w av (.sl .u8 xs) v->Enters P g #[v] w fun v' w'=>∃u T,Rd w av (.sl .u8 (xs.take 2000)) u/\v'=.pointer (some ⟨w.heap.size,0,none⟩)/\w'=w.alloc (.cells #[u,.int .i64 0] T)
structure bz(P:Program)(C:Ctx):Prop extends CtxOk P C where
 bR:∀g S,C.bR g=some S->bc P g S
 GS:P.follows .mixedOrders=true
 lO:∀g cI,C.lO g=some cI->yp P g cI
 op:∀g,C.op g=true->zh P g
 iF:∀g,C.iF g=true->Ei P g
 bs:∀g,C.bs g=true->EB P g
section
variable {P:Program}{M:World}{J:List Nat}{X:Nat->Prop}{B:Nat->Value}{st:ae}{tm:Array Value}{w:World}{D:Oper}
theorem Jz:∀{bG:List (Nat×Nat)} {cs:List (List aR)} {us:List (Nat×Site)} {bs:List Nat},lh st bG=some (cs,us,bs)->dE st.sites us/\∀o,o∈bs->bT st.sites o:=by
 intro bG;induction bG with
 |nil=>intro cs us bs h;simp only[lh] at h;cases h;exact⟨.nil,fun o h=>by simp at h⟩
 |cons c bG ih=>
  obtain⟨o,s⟩:=c;intro cs us bs h;simp only[lh] at h;split at h
  ·rename_i cells mc;split at h
   ·rename_i ds u1 rest u2 aM eE ln;cases h;obtain⟨aw,aj⟩:=ih ln;refine⟨(Dz eE).append aw,fun F bk=>?_⟩
    rcases List.mem_cons.1 bk with rfl|bk
    ·exact⟨_,hd mc,rfl⟩
    ·exact aj F bk
   ·cases h
  ·cases h
theorem C5{l fE:ay}{us:List (Nat×Site)}{bs:List Nat}(h:m3 st l=some (fE,us,bs)):dE st.sites us/\∀o,o∈bs->bT st.sites o:=by
 unfold m3 at h;split at h
 ·cases h;exact⟨.nil,fun o h=>by simp at h⟩
 ·split at h
  ·rename_i hc;cases h;exact Jz hc
  ·cases h
 ·split at h
  ·rename_i Y;cases h;exact⟨M1 Y,fun o h=>by simp at h⟩
  ·cases h
theorem YJ:∀{U dA:List ay} {us:List (Nat×Site)} {bs:List Nat},l2 st U=some (dA,us,bs)->dE st.sites us/\∀o,o∈bs->bT st.sites o:=by
 intro U;induction U with
 |nil=>intro dA us bs h;simp only[l2] at h;cases h;exact⟨.nil,fun o h=>by simp at h⟩
 |cons l U ih=>
  intro dA us bs h;simp only[l2] at h;split at h
  ·rename_i a u1 a7 as u2 aM h1 h2;cases h;obtain⟨aw,aj⟩:=C5 h1;obtain⟨bA,cD⟩:=ih h2;refine⟨aw.append bA,fun o be=>?_⟩
   rcases List.mem_append.1 be with h|h
   ·exact aj o h
   ·exact cD o h
  ·cases h
theorem W5:∀{cO:List aL} {a:ka},jj st cO=some a->dE st.sites a.eL/\∀o,o∈a.fU->bT st.sites o:=by
 intro cO;induction cO with
 |nil=>intro a h;simp only[jj] at h;cases h;exact⟨.nil,fun o h=>by simp at h⟩
 |cons qU cO ih=>
  intro a h;unfold jj at h;split at h
  ·cases ‹qU::cO=[]›
  ·rename_i b1;cases b1;split at h
   ·rename_i hr;split at h
    ·cases h;have q:=ih hr;exact q
    ·cases h
   ·cases h
  ·rename_i b1;cases b1;split at h
   ·rename_i h1 hr;cases h;obtain⟨aw,aj⟩:=C5 h1;obtain⟨bA,cD⟩:=ih hr;refine⟨aw.append bA,fun o be=>?_⟩
    rcases List.mem_append.1 be with h|h
    ·exact aj o h
    ·exact cD o h
   ·cases h
  ·rename_i b1;cases b1;split at h
   ·rename_i h1 hr;cases h;obtain⟨aw,aj⟩:=YJ h1;obtain⟨bA,cD⟩:=ih hr;refine⟨aw.append bA,fun o be=>?_⟩
    rcases List.mem_append.1 be with h|h
    ·exact aj o h
    ·exact cD o h
   ·cases h
  ·cases h
theorem Jo{l fE:ay}{gs us:List (Nat×Site)}{bs:List Nat}(h:lY st l=some (fE,gs,us,bs)):dE st.sites us/\∀o,o∈bs->bT st.sites o:=by
 unfold lY at h;split at h
 ·split at h
  ·cases h;exact⟨.nil,fun o h=>by simp at h⟩
  ·cases h
 ·cases h;exact⟨.nil,fun o h=>by simp at h⟩
 ·split at h
  ·rename_i hl;cases h;exact C5 hl
  ·cases h
theorem VF:∀{U dA:List ay} {gs us:List (Nat×Site)} {bs:List Nat},lW st U=some (dA,gs,us,bs)->dE st.sites us/\∀o,o∈bs->bT st.sites o:=by
 intro U;induction U with
 |nil=>intro dA gs us bs h;simp only[lW] at h;cases h;exact⟨.nil,fun o h=>by simp at h⟩
 |cons l U ih=>
  intro dA gs us bs h;simp only[lW] at h;split at h
  ·rename_i h1 h2;cases h;obtain⟨aw,aj⟩:=Jo h1;obtain⟨bA,cD⟩:=ih h2;refine⟨aw.append bA,fun o be=>?_⟩
   rcases List.mem_append.1 be with h|h
   ·exact aj o h
   ·exact cD o h
  ·cases h
theorem Vt:∀{cO:List aL} {a:ka},kv st cO=some a->dE st.sites a.eL/\∀o,o∈a.fU->bT st.sites o:=by
 intro cO;induction cO with
 |nil=>intro a h;simp only[kv] at h;cases h;exact⟨.nil,fun o h=>by simp at h⟩
 |cons qU cO ih=>
  intro a h;unfold kv at h;split at h
  ·cases ‹qU::cO=[]›
  ·rename_i b1;cases b1;split at h
   ·rename_i h1 hr;cases h;obtain⟨aw,aj⟩:=Jo h1;obtain⟨bA,cD⟩:=ih hr;refine⟨aw.append bA,fun o be=>?_⟩
    rcases List.mem_append.1 be with h|h
    ·exact aj o h
    ·exact cD o h
   ·cases h
  ·rename_i b1;cases b1;split at h
   ·rename_i h1 hr;cases h;obtain⟨aw,aj⟩:=VF h1;obtain⟨bA,cD⟩:=ih hr;refine⟨aw.append bA,fun o be=>?_⟩
    rcases List.mem_append.1 be with h|h
    ·exact aj o h
    ·exact cD o h
   ·cases h
  ·cases h
theorem Vr{b:Bool}{cO:List aL}{a:ka}(h:ry b st cO=some a):dE st.sites a.eL/\∀o,o∈a.fU->bT st.sites o:=by
 cases b
 ·exact W5 h
 ·exact Vt h
theorem aaF(S:ag M J X B st tm w)(C:Ctx):∀(xs:List Operand) (c0:List TypeId),(gK C st xs c0).length=(xs.map (Act.eval ⟨tm,[]⟩)).length/\
  ∀i (h:i<(gK C st xs c0).length) (af:i<(xs.map (Act.eval ⟨tm,[]⟩)).length),cc B st.sites w (au X B st.sites) ((gK C st xs c0)[i]) ((xs.map (Act.eval ⟨tm,[]⟩))[i]):=by
 intro xs;induction xs with
 |nil=>intro c0;cases c0<;>exact⟨rfl,fun i h=>by simp[gK] at h⟩
 |cons x xs ih=>
  intro c0;have key:∀(T:TypeId) (Gy:List TypeId),gK C st (x::xs) c0=aP C st T x::gK C st xs Gy->(gK C st (x::xs) c0).length=((x::xs).map (Act.eval ⟨tm,[]⟩)).length/\
    ∀i (h:i<(gK C st (x::xs) c0).length) (af:i<((x::xs).map (Act.eval ⟨tm,[]⟩)).length),cc B st.sites w (au X B st.sites) ((gK C st (x::xs) c0)[i]) (((x::xs).map (Act.eval ⟨tm,[]⟩))[i]):=by
   intro T Gy e;obtain⟨aw,aj⟩:=ih Gy;refine⟨by rw[e];simp[aw],fun i h af=>?_⟩
   simp only[e];cases i with
   |zero=>exact cV S C T x
   |succ i=>
    simp only[List.getElem_cons_succ,List.map_cons];exact aj i (by simpa[e] using h) (by simpa using af)
  cases c0 with
  |nil=>exact key 0 [] rfl
  |cons T c0=>exact key T c0 rfl
theorem Ww(S:ag M J X B st tm w){g cI:FuncId}(hG:yp P g cI){n:Nat}{cO:List aL}{vs:List Value}(hl:cO.length=vs.length)
  (ab:∀i (h:i<cO.length) (af:i<vs.length),cc B st.sites w (au X B st.sites) (cO[i]) (vs[i])) (Y:ca st D.dst=true) (cN:(execOp (Act.eval ⟨tm,[]⟩) D).run P w=(callFunc g vs.toArray).run P w):
  Holds (rJ cI n st cO) (cA P M J X st tm w D):=by
 unfold rJ;split
 ·rename_i s p;refine Holds.e' ?_
  intro K Q bL;match vs,hl,ab,cN with
  |[qT,AP],_,ab,cN=>
  obtain⟨a,bm,s6⟩:=gw (ab 0 (by simp) (by simp))
  obtain⟨b,hb,ck⟩:=gw (ab 1 (by simp) (by simp))
  simp only[List.getElem_cons_zero,List.getElem_cons_succ] at bm hb;subst bm hb;have core:∀v w',(∃cY dK,v=.func (.func cI) #[] #[.pointer (some ⟨w.heap.size+1,0,none⟩),.pointer (some ⟨w.heap.size,0,none⟩),.pointer (some ⟨w.heap.size+2,0,none⟩)]/\
    w'=((w.alloc (.cells #[.string a] cY)).alloc (.cells #[.string b] cY)).alloc (.cells #[.int .i64 0] dK))->K ⟨dl tm D.dst v,[]⟩ w':=by
   rintro v w' ⟨cY,dK,rfl,hw⟩;have eX:w'.heap.size=w.heap.size+3:=by rw[hw];simp
   have hold:∀b,b<w.heap.size->w'.heap[b]? =w.heap[b]? :=fun b hb=>by
    rw[hw];rw[RowKit.Below.heap_alloc _ _ _ (by simp;omega),RowKit.Below.heap_alloc _ _ _ (by simp;omega),RowKit.Below.heap_alloc _ _ _ hb]
   have a8:w'.heap[w.heap.size]? =some (.cells #[.string a] cY):=by
    rw[hw,RowKit.Below.heap_alloc _ _ _ (by simp only[World.size_alloc];omega),RowKit.Below.heap_alloc _ _ _ (by simp only[World.size_alloc];omega)];exact World.alloc_heap_new w _
   have h1:w'.heap[w.heap.size+1]? =some (.cells #[.string b] cY):=by
    rw[hw,RowKit.Below.heap_alloc _ _ _ (by simp only[World.size_alloc];omega)]
    have:=World.alloc_heap_new (w.alloc (.cells #[.string a] cY)) (.cells #[.string b] cY);rwa[World.size_alloc] at this
   have h2:w'.heap[w.heap.size+2]? =some (.cells #[.int .i64 0] dK):=by
    rw[hw];have:=World.alloc_heap_new ((w.alloc (.cells #[.string a] cY)).alloc (.cells #[.string b] cY)) (.cells #[.int .i64 0] dK);rwa[World.size_alloc,World.size_alloc] at this
   have vG:Fr J M w':=⟨by rw[hw];exact S.frame.os,by rw[hw];exact S.frame.tape,by rw[hw];exact S.frame.output,by have:=S.frame.size;omega,fun b hb hn=>by
    have:=S.frame.size;rw[hold b (by omega)];exact S.frame.block b hb hn⟩
   have jF:=S.frame.size;have c9:=S.jump (w':=w') (fun b _ hb=>hold b hb) (by omega) vG
   have mk:∀{B:Nat->Value} {sites:List (Nat×Site)} {av:Nat->Prop} {m k:Nat} {T:TypeId} {x:Value} {d:aR},B m=.pointer (some ⟨k,0,none⟩)->w'.heap[k]? =some (.cells #[x] T)->Rd w' av d x->
     hW B sites w' av m (.box (aU st m) [.d d]):=by
    intro B sites av m k T x d e1 e2 ce;refine⟨k,T,[x],e1,e2,rfl,fun u hu=>?_,(fun h=>by cases h),fun j h af=>?_⟩
    ·rw[List.mem_singleton.1 hu];exact ce.iJ
    ·match j,h,af with
     |0,_,_=>exact ce
   obtain⟨He,_,_⟩:=c9.uI (X':=fun b=>(X b\/(w.heap.size<=b/\b<w'.heap.size))/\b≠w.heap.size+1) (n:=n) (bw:=.box (aU st n) [.d (.str p)]) (nv:=.pointer (some ⟨w.heap.size+1,0,none⟩)) (fun b h=>h.1)
    (.inl fun O h=>jg h) (fun b h=>by have h:=List.mem_singleton.1 h;simp only at h;subst h;exact⟨.inr ⟨by omega,by omega⟩,fun h=>h.2 rfl,.inr (by omega)⟩) (fun _ e _ _=>mk e h1 (.str _ _ ck))
   obtain⟨ajg,_,_⟩:=He.uI (X':=fun b=>((X b\/(w.heap.size<=b/\b<w'.heap.size))/\b≠w.heap.size+1)/\b≠w.heap.size) (n:=n+1) (bw:=.box (aU st (n+1)) [.d (.str s)]) (nv:=.pointer (some ⟨w.heap.size,0,none⟩)) (fun b h=>h.1)
    (.inl fun O h=>by
     have h:look (cd st.sites n _) (n+1)=some O:=h;rw[cr,if_neg (by omega)] at h
     exact jg h) (fun b h=>by have h:=List.mem_singleton.1 h;simp only at h;subst h;exact⟨⟨.inr ⟨by omega,by omega⟩,by omega⟩,fun h=>h.2 rfl,.inr (by omega)⟩) (fun _ e _ _=>mk e a8 (.str _ _ s6))
   obtain⟨ajf,_,_⟩:=ajg.uI (X':=X) (n:=n+2) (bw:=.box (aU st (n+2)) [.d (.int .i64 0)]) (nv:=.pointer (some ⟨w.heap.size+2,0,none⟩)) (fun b h=>by have:=S.old b h;exact⟨⟨.inl h,by omega⟩,by omega⟩)
    (.inl fun O h=>by
     have h:look (cd (cd st.sites n _) (n+1) _) (n+2)=some O:=h;rw[cr,if_neg (by omega),cr,if_neg (by omega)] at h
     exact jg h) (fun b h=>by have h:=List.mem_singleton.1 h;simp only at h;subst h;exact⟨⟨⟨.inr ⟨by omega,by omega⟩,by omega⟩,by omega⟩,fun h=>by have:=S.old _ h;omega,.inr (by omega)⟩) (fun _ e _ _=>mk e h2 (.int _ _))
   refine bL _ _ w' (ag.cS (us:=[(n,.box (aU st n) [.d (.str p)]),(n+1,.box (aU st (n+1)) [.d (.str s)]),(n+2,.box (aU st (n+2)) [.d (.int .i64 0)])]) ajf Y (v:=b0 (.clo cI _)) ?_);refine⟨[.pointer (some ⟨w.heap.size+1,0,none⟩),.pointer (some ⟨w.heap.size,0,none⟩),.pointer (some ⟨w.heap.size+2,0,none⟩)],rfl,rfl,fun i am lF=>?_⟩
   match i,am,lF with
   |0,_,_=>exact⟨.box (aU st n) [.d (.str p)],by simp[aZ,cr],Nat.le_refl _,fun _=>by simp[bO]⟩
   |1,_,_=>exact⟨.box (aU st (n+1)) [.d (.str s)],by simp[aZ,cr],Nat.le_refl _,fun _=>by simp[bO]⟩
   |2,_,_=>exact⟨.box (aU st (n+2)) [.d (.int .i64 0)],by simp[aZ,cr],Nat.le_refl _,fun _=>by simp[bO]⟩
  rcases hG a b w with⟨h1,h2⟩|⟨v,w',h1,h2⟩
  ·unfold Oper.wp;rw[cN,h1,Oper.upon_enter];refine h2.mono fun e w' he=>?_
   cases e with
   |returned v=>
    have:=core v w' he;cases di:D.dst with
    |none=>rw[di] at this;simpa[Act.put,dl] using this
    |some t=>rw[di] at this;simpa[Act.put,dl] using this
   |panicked c=>exact he.elim
   |outgrown=>exact he.elim
  ·exact nN (cN.trans h1) (core v w' h2)
 ·exact .fail
theorem Yt(S:ag M J X B st tm w){g:FuncId}(hG:zh P g){n:Nat}{cO:List aL}{vs:List Value}(hl:cO.length=vs.length)
  (ab:∀i (h:i<cO.length) (af:i<vs.length),cc B st.sites w (au X B st.sites) (cO[i]) (vs[i])) (Y:ca st D.dst=true) (cN:(execOp (Act.eval ⟨tm,[]⟩) D).run P w=(callFunc g vs.toArray).run P w):
  Holds (r4 n st cO) (cA P M J X st tm w D):=by
 unfold r4;split
 ·rename_i xs;refine Holds.e' ?_
  intro K Q bL;match vs,hl,ab,cN with
  |[qT],_,ab,cN=>
  have db:Rd w (au X B st.sites) (.sl .u8 xs) qT:=ab 0 (by simp) (by simp)
  have core:∀v w',(∃u T,Rd w (au X B st.sites) (.sl .u8 (xs.take 2000)) u/\v=.pointer (some ⟨w.heap.size,0,none⟩)/\w'=w.alloc (.cells #[u,.int .i64 0] T))->K ⟨dl tm D.dst v,[]⟩ w':=by
   rintro v w' ⟨u,T,hu,rfl,hw⟩;have eX:w'.heap.size=w.heap.size+1:=by rw[hw];simp
   have hold:∀b,b<w.heap.size->w'.heap[b]? =w.heap[b]? :=fun b hb=>by
    rw[hw,RowKit.Below.heap_alloc _ _ _ hb]
   have a8:w'.heap[w.heap.size]? =some (.cells #[u,.int .i64 0] T):=by rw[hw];exact World.alloc_heap_new w _
   have vG:Fr J M w':=⟨by rw[hw];exact S.frame.os,by rw[hw];exact S.frame.tape,by rw[hw];exact S.frame.output,by have:=S.frame.size;omega,fun b hb hn=>by
    have:=S.frame.size;rw[hold b (by omega)];exact S.frame.block b hb hn⟩
   have jF:=S.frame.size;have c9:=S.jump (w':=w') (fun b _ hb=>hold b hb) (by omega) vG
   have ie:∀b,X b->b<w.heap.size:=S.old;have adE:∀b,au (fun b=>X b\/(w.heap.size<=b/\b<w'.heap.size)) B st.sites b->b<w'.heap.size:=fun b hb=>c9.lt hb
   have sP:cc B st.sites w' (au (fun b=>X b\/(w.heap.size<=b/\b<w'.heap.size)) B st.sites) (one (.sl .u8 (xs.take 2000))) u:=by
    have bN:ht B B st.sites st.sites w w' (au X B st.sites) (au (fun b=>X b\/(w.heap.size<=b/\b<w'.heap.size)) B st.sites):=
     ⟨fun F s h=>⟨s,h,Nat.le_refl _,fun _=>rfl⟩,fun b _ ck=>hold b ck,fun b hb ck af=>by
      rcases af with(af|af)|af
      ·exact hb (.inl af)
      ·omega
      ·exact hb (.inr af)⟩
    exact cc.goes (a:=one (.sl .u8 (xs.take 2000))) bN (by omega) adE hu
   obtain⟨He,FX,akm⟩:=c9.uI (X':=X) (n:=n) (bw:=.box (aU st n) [.d (.sl .u8 (xs.take 2000)),.d (.int .i64 0)]) (nv:=.pointer (some ⟨w.heap.size,0,none⟩)) (fun b h=>.inl h)
    (.inl fun O h=>jg h) (fun b h=>by have h:=List.mem_singleton.1 h;simp only at h;subst h;exact⟨.inr ⟨by omega,by omega⟩,fun h=>by have:=ie _ h;omega,.inr (by omega)⟩) (fun H e go _=>by
     have qx:=go sP;refine⟨w.heap.size,T,[u,.int .i64 0],e,a8,rfl,fun x hx=>?_,(fun h=>by cases h),fun j h af=>?_⟩
     ·rcases List.mem_cons.1 hx with rfl|hx
      ·exact Rd.iJ hu
      ·rw[List.mem_singleton.1 hx];rfl
     ·match j,h,af with
      |0,_,_=>exact qx
      |1,_,_=>exact Rd.int .i64 0)
   refine bL _ _ w' (ag.cS (us:=[(n,.box (aU st n) [.d (.sl .u8 (xs.take 2000)),.d (.int .i64 0)])]) He Y (v:=b0 (.ptr n (aU st n) 0)) ?_);exact⟨w.heap.size,rfl,.box (aU st n) [.d (.sl .u8 (xs.take 2000)),.d (.int .i64 0)],by simp[aZ,cr],Nat.le_refl _,fun _=>by simp[bO]⟩
  rcases hG xs qT w _ db with⟨h1,h2⟩|⟨v,w',h1,h2⟩
  ·unfold Oper.wp;rw[cN,h1,Oper.upon_enter];refine h2.mono fun e w' he=>?_
   cases e with
   |returned v=>
    have:=core v w' he;cases di:D.dst with
    |none=>rw[di] at this;simpa[Act.put,dl] using this
    |some t=>rw[di] at this;simpa[Act.put,dl] using this
   |panicked c=>exact he.elim
   |outgrown=>exact he.elim
  ·exact nN (cN.trans h1) (core v w' h2)
 ·exact .fail
theorem H3(S:ag M J X B st tm w){C:Ctx}(aD:bz P C){c:Go.Call}{f:Operand}(al:D.op=.call c)(hf:c.callee=.value f)(Y:ca st D.dst=true)(d:Nat)(T:TypeId):
  Holds (lT C d st (aP C st T f) (gK C st c.args.toList c.argTypes.toList)) (cA P M J X st tm w D):=by
 have bp:=cV S C T f;obtain⟨e1,e2⟩:=aaF S C c.args.toList c.argTypes.toList;have run:∀{g:FuncId} {fj:List Value},Act.eval ⟨tm,[]⟩ f=.func (.func g) #[] fj.toArray->
   (execOp (Act.eval ⟨tm,[]⟩) D).run P w=(callFunc g (c.args.toList.map (Act.eval ⟨tm,[]⟩)++fj).toArray).run P w:=by
  intro g fj ab;have wh:(#[]++c.args.map (Act.eval ⟨tm,[]⟩))++fj.toArray=(c.args.toList.map (Act.eval ⟨tm,[]⟩)++fj).toArray:=by apply Array.ext';simp
  unfold execOp;simp only[al,resolve,hf,ab,Deferred.ofValue,Sem.run_bind,Sem.run_pure,Result.andThen_ok,invoke,wh]
 have go:∀{g:FuncId} {aW:bg} {a:ka} {cs:List (List aR)} {us:List (Nat×Site)} {bs:List Nat} {fj:List Value} {gb:Bool},C.bR g=some aW->ry gb st (gK C st c.args.toList c.argTypes.toList)=some a->
   Act.eval ⟨tm,[]⟩ f=.func (.func g) #[] fj.toArray->(dE st.sites us/\∀o,o∈bs->bT st.sites o)->
   (∀{c1 eH av},fe M J X B st tm w c1 eH av->(∀p,p∈us->p∈c1)->(∀o,o∈bs->o∈eH)->kD w av cs fj)->
   Holds (o7 d st aW {a with as:=a.as++ld cs,eL:=a.eL++us,fU:=a.fU++bs}) (cA P M J X st tm w D):=by
  intro g aW a cs us bs fj gb aF bm ab aK hcap;obtain⟨lM,z2⟩:=Vr bm;have gJ:dE st.sites (a.eL++us):=lM.append aK.1;have vS:fe M J X B st tm w (a.eL++us) (a.fU++bs) (fun _=>False):=⟨⟨S,gJ⟩,fun b h=>h.elim,fun _ _ _ _ h=>h⟩
  obtain⟨fD,gN,mE,wb,GU,SH⟩:=Ii vS bm e1 e2 (fun p ai=>List.mem_append.2 (.inl ai)) (fun p ai=>List.mem_append.2 (.inl ai))
  refine Y6 (a:={a with as:=a.as++ld cs,eL:=a.eL++us,fU:=a.fU++bs}) S (aD.bR g aW aF) (vs:=c.args.toList.map (Act.eval ⟨tm,[]⟩)++fj) ⟨gJ,fun o be=>?_,gN,fun av dd=>?_,?_,wb,?_,SH⟩ Y (run ab)
  ·rcases List.mem_append.1 be with h|h
   ·exact z2 o h
   ·exact aK.2 o h
  ·obtain⟨b6,_,_,_,_,_⟩:=Ii dd bm e1 e2 (fun p ai=>List.mem_append.2 (.inl ai)) (fun p ai=>List.mem_append.2 (.inl ai))
   have cX:=VW (hcap dd (fun p ai=>List.mem_append.2 (.inr ai)) (fun p ai=>List.mem_append.2 (.inr ai)))
   have:=b6.append cX;rwa[List.append_nil] at this
  ·show d_ (a.as++ld cs) _=_;rw[HB fD.length,mE,VY,List.append_nil]
  ·show h' B a.rows (fc (a.as++ld cs) _);rw[TQ fD.length,U_,List.append_nil];exact GU
 unfold lT;split
 ·rename_i g bG Gj;rw[Gj] at bp;obtain⟨fj,h1,h2,aa⟩:=bp;split
  ·rename_i cI kR;split
   ·have vM:fj=[]:=List.eq_nil_of_length_eq_zero (by simpa using h2)
    subst vM;have r:=run h1;rw[List.append_nil] at r;exact Ww S (aD.lO g cI kR) e1 e2 Y r
   ·exact .fail
  ·cases agB:C.op g with
   |true=>
    simp only[cond_true];split
    ·have vM:fj=[]:=List.eq_nil_of_length_eq_zero (by simpa using h2)
     subst vM;have r:=run h1;rw[List.append_nil] at r;exact Yt S (aD.op g agB) e1 e2 Y r
    ·exact .fail
   |false=>
    simp only[cond_false];have Nw:bG=[]->(execOp (Act.eval ⟨tm,[]⟩) D).run P w=(callFunc g (c.args.toList.map (Act.eval ⟨tm,[]⟩)).toArray).run P w:=by
     rintro rfl;have vM:fj=[]:=List.eq_nil_of_length_eq_zero (by simpa using h2)
     subst vM;have r:=run h1;rwa[List.append_nil] at r
    cases ag0:C.iF g with
    |true=>
     simp only[cond_true];split
     ·exact Y0 S (aD.iF g ag0) e1 e2 Y (Nw rfl)
     ·exact .fail
    |false=>
     simp only[cond_false];cases dx:C.bs g with
     |true=>
      simp only[cond_true];split
      ·exact U2 S (aD.bs g dx) e1 e2 Y (Nw rfl)
      ·exact .fail
     |false=>
      simp only[cond_false];split
      ·rename_i aW a cs us bs aF bm hc;exact go aF bm h1 (Jz hc) (fun dd hu hb=>Jy dd hc hu hb h2 aa)
      ·exact .fail
 ·rename_i g bG Gj;rw[Gj] at bp;obtain⟨fj,h1,_⟩:=kD.Nt bp;split
  ·rename_i aW a aF bm;have:=go (us:=[]) (bs:=[]) (cs:=bG) (gb:=false) aF bm h1 ⟨.nil,fun o h=>by simp at h⟩ (fun {c1 eH av} dd _ _=>by
    obtain⟨ajS,aw,aj⟩:=kD.Nt (dd.sK (bp:Rd w (au X B st.sites) (.fn g bG) _));rw[h1] at aw;simp only[Value.func.injEq,Fn.func.injEq,true_and] at aw;have e:=congrArg Array.toList aw;simp only at e;rw[e];exact aj)
   simpa only[List.append_nil] using this
  ·exact .fail
 ·exact .fail
theorem Zl(S:ag M J X B st tm w){C:Ctx}(aD:bz P C)(Y:ca st D.dst=true):Holds (step C st D) (cA P M J X st tm w D):=by
 unfold step;split
 ·rename_i x al;exact Holds.ok (Lc S (.inl al) Y _)
 ·rename_i x al;exact Holds.ok (Lc S (.inr al) Y _)
 ·rename_i c a b al;split
  ·rename_i hc;exact Holds.ok (K7 S al Y hc)
  ·rename_i hc;exact Holds.ok (K7 S al Y hc)
  ·exact .fail
 ·rename_i elem al;split
  ·rename_i o e t n di aY;exact Xy S aD.toCtxOk aY al Y
  ·rename_i o di _;split
   ·rename_i z aK;exact Holds.e' (Y' S aD.toCtxOk al di aK Y)
   ·exact .fail
  ·exact .fail
 ·rename_i elem x al;split
  ·rename_i o e t n di aY;exact _F S aD.toCtxOk aY al Y
  ·rename_i o di _;split
   ·rename_i a bm;cases dB:gR a.cells with
    |false=>exact .fail
    |true=>
     have bp:=cV S C elem x;rw[pN bm] at bp;exact Holds.e' (aaM S al di bp dB Y)
   ·exact .fail
  ·exact .fail
 ·rename_i t parts al;split
  ·rename_i bR n z eq aY;exact Y7 S aD.toCtxOk aY al Y
  ·rename_i e ty n aY;split
   ·rename_i z aK;exact Xw S aD.toCtxOk aY aK al Y
   ·exact .fail
  ·exact .fail
 ·rename_i t len parts al;split
  ·rename_i o e ty bytes di aY;cases hb:(parts.toList.length.beq len&&oP 0 parts.toList&&Nat.ble (len*ax ty) 1000) with
   |false=>exact .fail
   |true=>
    simp only[Bool.and_eq_true] at hb;obtain⟨⟨a7,aM⟩,b9⟩:=hb;simp only[cond_true];split
    ·rename_i as has;split
     ·rename_i xs us ez;have ez:mO ty st as=some (xs,us):=by
       cases aA:(C.ek&&ty.hJ) with
       |false=>rw[aA] at ez;cases ez
       |true=>rw[aA] at ez;exact ez
      cases aA:(e4 (keys us)&&(look us o).isNone) with
      |false=>exact .fail
      |true=>
       simp only[Bool.and_eq_true] at aA;exact Holds.e' (Tf S aD.toCtxOk aY al Y (Nat.eq_of_beq_eq_true a7) aM (Nat.le_of_ble_eq_true b9) has ez ((oF _).1 aA.1) (HT aA.2))
     ·split
      ·rename_i xs us ez;exact Holds.e' (Tw S aD.toCtxOk aY al di Y (Nat.eq_of_beq_eq_true a7) aM (Nat.le_of_ble_eq_true b9) has ez)
      ·exact .fail
    ·exact .fail
  ·exact .fail
 ·rename_i t a al;split
  ·rename_i e ty n aY;exact YH S aD.toCtxOk aY al Y
  ·cases ak:(C.tt t).known with
   |false=>exact .fail
   |true=>exact _g S aD.toCtxOk al Y ak
 ·rename_i t a x al;split
  ·rename_i v ab;split
   ·rename_i e ty n aY;exact Wv S aD.toCtxOk aY al Y ab
   ·cases ak:(C.tt t).known with
    |false=>exact .fail
    |true=>exact XS S aD.toCtxOk al Y ak ab
  ·exact .fail
 ·rename_i x al;split
  ·rename_i hx;exact Holds.ok (A' S al Y hx fun vv h=>by obtain⟨b,h,_⟩:=h;exact⟨_,h⟩)
  ·rename_i hx;exact Holds.ok (A' S al Y hx fun vv h=>by obtain⟨b,D,h,_⟩:=h;exact⟨_,h⟩)
  ·rename_i hx;exact Holds.ok (A' S al Y hx fun vv h=>by obtain⟨b,D,h,_⟩:=h;exact⟨_,h⟩)
  ·exact .fail
 ·rename_i op t x y np al;cases hn:yS y with
  |true=>exact Xm S aD.toCtxOk al Y hn
  |false=>exact _J S aD.toCtxOk al Y
 ·rename_i op t x al;split
  ·rename_i b hx;exact Holds.ok (Ud S al Y hx)
  ·rename_i k n hx;exact Holds.ok (Ue S al Y hx)
  ·rename_i k n hx;exact Holds.ok (Uc (T:=D.type) S al Y hx)
  ·exact .fail
 ·rename_i src dst x al;split
  ·rename_i o di;exact Y1 S aD.toCtxOk al di Y
  ·exact .fail
 ·rename_i fn first captured al
  split
  ·rename_i g;cases hf:first.toList.isEmpty with
   |false=>exact .fail
   |true=>
    simp only[cond_true];split
    ·rename_i bG hc;exact Holds.ok (Uy S al Y hf hc)
    ·exact .fail
  ·exact .fail
 ·rename_i t l c al;split
  ·rename_i o e ty bytes kn n km m di aY hl hc;split
   ·rename_i z aK;unfold qh;split
    ·rename_i ds us eE;have eE:sinks st z=some (ds,us):=by
      cases aA:(C.ek&&ty.hJ) with
      |false=>rw[aA] at eE;cases eE
      |true=>rw[aA] at eE;exact eE
     split
     ·rename_i eB kd;cases aA:us.isEmpty with
      |false=>exact .fail
      |true=>exact Holds.ew fun r hr=>Tp S aD.toCtxOk aY al Y hl hc aK eE aA kd r hr
     ·exact .fail
    ·split
     ·rename_i ds us eE;split
      ·rename_i eB kd;exact Holds.ew fun r hr=>TW S aD.toCtxOk aY al di Y hl hc aK eE kd r hr
      ·exact .fail
     ·exact .fail
   ·exact .fail
  ·exact .fail
 ·rename_i t x cl am AR al;split
  ·split
   ·rename_i e ty n aY;exact Wz S aD.toCtxOk aY al Y
   ·rename_i ti hn;cases hb:rT st (aP C st t x) with
    |true=>
     simp only[cond_true];split
     ·rename_i d di;exact Wy S aD.toCtxOk al di Y
     ·exact .fail
    |false=>exact XZ S aD.toCtxOk al Y
  ·exact .fail
 ·rename_i s x f al;split
  ·rename_i bR n z eq aY;split
   ·rename_i off GP hf;exact T5 S aD.toCtxOk aY al Y hf
   ·exact .fail
  ·exact .fail
 ·rename_i t x i al;split
  ·rename_i e ty bytes k n aY am;exact T2 S aD.toCtxOk aY am al Y
  ·rename_i e ty m k n aY am;exact Tr S aD.toCtxOk aY am al Y
  ·exact .fail
 ·rename_i t x i al;split
  ·rename_i s k n aY hx am;exact YL S aD.toCtxOk al Y aY hx am
  ·rename_i e ty m k n aY am;exact Xf S aD.toCtxOk aY am al Y
  ·exact .fail
 ·rename_i t i al;split
  ·rename_i as hx;split
   ·rename_i a bm;exact Holds.ok (VI S al Y hx bm)
   ·exact .fail
  ·exact .fail
 ·rename_i c al;split
  ·rename_i f hf;split
   ·exact H3 S aD al hf Y _ _
   ·exact H3 S aD al hf Y _ _
  ·rename_i b hb;obtain⟨callee,args,argTypes⟩:=c;simp only at hb al ⊢;subst hb;split
   ·rename_i x t j6 E1;have e1:args=#[x]:=Array.ext' j6;have e2:argTypes=#[t]:=Array.ext' E1;subst e1 e2;exact aas S aD.toCtxOk al Y
   ·rename_i o s x t u di j6 E1;have e1:args=#[s,x]:=Array.ext' j6;have e2:argTypes=#[t,u]:=Array.ext' E1;subst e1 e2;split
    ·rename_i aY eQ;cases aA:uf st (aP C st u x) with
     |true=>exact V2 S aD.toCtxOk aY eQ al di Y
     |false=>exact Xx S aD.toCtxOk aY eQ al di Y
    ·rename_i aY eQ;exact V1 S aD.toCtxOk aY eQ al di Y
    ·exact .fail
   ·rename_i x y j6;have e1:args=#[x,y]:=Array.ext' j6;subst e1;split
    ·rename_i hx an;exact Holds.ok (Jb (sb:=true) S al Y hx an)
    ·exact .fail
   ·rename_i x y z u v j6;have e1:args=#[x,y,z,u,v]:=Array.ext' j6;subst e1;split
    ·rename_i hx an aK hu ab;exact Holds.ok (_d S al Y hx an aK hu ab)
    ·exact .fail
   ·rename_i x y j6;have e1:args=#[x,y]:=Array.ext' j6;subst e1;split
    ·rename_i hx an;exact Holds.ok (Jb (sb:=false) S al Y hx an)
    ·exact .fail
   ·exact .fail
  ·exact .fail
 ·exact Vu S aD.toCtxOk Y
end
section
variable {st ad:ae}
theorem nz{o:Nat}(h:st.O o=ad.O o)(s:Nat):rowOf st o s=rowOf ad o s:=by unfold rowOf;rw[h]
theorem tu{o:Nat}(h:st.O o=ad.O o)(s:Nat):lZ st o s=lZ ad o s:=by unfold lZ;rw[h]
theorem UO{o:Nat}(h:st.O o=ad.O o)(s:Nat):qb st o s=qb ad o s:=by unfold qb;rw[nz h,tu h]
theorem wx{o:Nat}(h:st.O o=ad.O o)(s:Nat):nO st o s=nO ad o s:=by unfold nO;rw[h]
theorem U'{o:Nat}(h:st.O o=ad.O o)(s:Nat):nZ st o s=nZ ad o s:=by unfold nZ;rw[nz h,wx h]
theorem H7{o:Nat}(h:st.O o=ad.O o)(s:Nat):qc st o s=qc ad o s:=by unfold qc;rw[UO h,wx h]
theorem tx{o:Nat}(h:st.O o=ad.O o)(s:Nat):fV st o s=fV ad o s:=by unfold fV;rw[h]
theorem kt{o:Nat}(h:st.O o=ad.O o):aU st o=aU ad o:=by unfold aU;rw[h]
abbrev ch(st ad:ae)(N:List Nat):Prop:=∀o,o∈N->st.O o=ad.O o
theorem ch.left{N k4:List Nat}(h:ch st ad (N++k4)):ch st ad N:=fun o be=>h o (List.mem_append.2 (.inl be))
theorem ch.right{N k4:List Nat}(h:ch st ad (N++k4)):ch st ad k4:=fun o be=>h o (List.mem_append.2 (.inr be))
theorem ch.head{n:Nat}{k4:List Nat}(h:ch st ad (n::k4)):st.O n=ad.O n:=h n List.mem_cons_self
theorem ch.tail{n:Nat}{k4:List Nat}(h:ch st ad (n::k4)):ch st ad k4:=fun o be=>h o (List.mem_cons_of_mem _ be)
theorem oG{N:List Nat}(h:ch st ad (eK st N)):ch st ad N:=by
 induction N with
 |nil=>intro o be;cases be
 |cons n N ih=>
  intro o be;rcases List.mem_cons.1 be with rfl|be
  ·exact h.head
  ·exact ih h.tail.right o be
theorem Kz{N:List Nat}(h:ch st ad (eK st N)){o:Nat}(be:o∈N):ch st ad (wJ st o):=by
 induction N with
 |nil=>cases be
 |cons n N ih=>
  rcases List.mem_cons.1 be with rfl|be
  ·exact h.tail.left
  ·exact ih h.tail.right be
theorem w5{N k4:List Nat}:eK st (N++k4)=eK st N++eK st k4:=by
 induction N with
 |nil=>rfl
 |cons n N ih=>simp[eK,ih]
theorem Jx{l:ay}(h:ch st ad l.names):jS st l=jS ad l:=by
 cases l<;>try rfl
 case own o s=>simp only[jS,me];rw[nz (h.head) s,tu h.head s,h.head]
 case clo g bG=>cases bG<;>rfl
theorem wH{U:List ay}(h:ch st ad (cR U)):hN st U=hN ad U:=by
 induction U with
 |nil=>rfl
 |cons l U ih=>
  simp only[cR] at h;simp only[hN,Jx h.left,ih h.right]
theorem U6{l:ay}(h:ch st ad l.names):sink st l=sink ad l:=by
 cases l<;>try rfl
 case own o s=>simp only[sink];rw[h.head]
 case d v=>cases v<;>rfl
theorem A8{U:List ay}(h:ch st ad (cR U)):sinks st U=sinks ad U:=by
 induction U with
 |nil=>rfl
 |cons l U ih=>
  simp only[cR] at h;simp only[sinks,U6 h.left,ih h.right]
theorem Bd{o s:Nat}{cells:List ay}(h:fV st o s=some cells):wJ st o=cR cells:=by
 unfold fV at h;cases H:st.O o with
 |none=>rw[H] at h;cases h
 |some x=>
  rw[H] at h;cases x with
  |box ap cs=>
   have h:(bif ap.beq s then some cs else none)=some cells:=h
   unfold wJ;rw[H];cases hb:ap.beq s with
   |true=>simp only[hb,cond_true,Option.some.injEq] at h;subst h;rfl
   |false=>simp[hb] at h
  |row _ _ _=>cases h
  |c' _ _ _=>cases h
  |deep _ _ _=>cases h
  |map _ _ _=>cases h
  |ey _ _=>cases h
  |tail _ _ _=>cases h
  |dead _=>cases h
theorem Uz{agg:Bool}{n:Nat}{a:aL}(h:ch st ad a.names):r' agg n st a=r' agg n ad a:=by
 unfold r';split
 ·rename_i o s off;rw[tx (show st.O o=ad.O o from h o (by simp[aL.names,bF.cells,cR,ay.names]))]
 ·rfl
 ·rename_i o s u k off;rw[U' (show st.O o=ad.O o from h o (by simp[aL.names,bF.cells,cR,ay.names]))]
 ·rfl
theorem TH{n:Nat}{a:aL}{v:bF}(h:ch st ad a.names)(ab:ch st ad (cR v.cells)):rH n st a v=rH n ad a v:=by
 unfold rH;congr 1
 split
 ·rename_i o s off;rw[tx (show st.O o=ad.O o from h o (by simp[aL.names,bF.cells,cR,ay.names]))]
 ·rename_i o s u k off;rw[show st.O o=ad.O o from h o (by simp[aL.names,bF.cells,cR,ay.names]),wH ab,A8 ab]
 ·rfl
theorem S_{u:aG}{x:aL}{i:Int}(h:ch st ad x.names):q' u st x i=q' u ad x i:=by
 unfold q';split
 ·rfl
 ·rename_i o s;rw[H7 (show st.O o=ad.O o from h o (by simp[aL.names,bF.cells,cR,ay.names]))]
 ·rfl
theorem TL{ti:cj}{x:aL}{cl am:Option aL}(h:ch st ad x.names):rL ti st x cl am=rL ti ad x cl am:=by
 unfold rL;split
 ·rfl
 ·rfl
 ·rfl
 ·rename_i o s;simp only[me];rw[nz (show st.O o=ad.O o from h o (by simp[aL.names,bF.cells,cR,ay.names])),show st.O o=ad.O o from h o (by simp[aL.names,bF.cells,cR,ay.names])]
 ·rfl
theorem TZ{x:aL}(h:ch st ad x.names):rT st x=rT ad x:=by
 unfold rT;split
 ·rename_i o s;rw[wx (show st.O o=ad.O o from h o (by simp[aL.names,bF.cells,cR,ay.names]))]
 ·rfl
theorem TM{ti:cj}{dst:Nat}{x:aL}{cl am:Option aL}(h:ch st ad x.names)(Y:st.O dst=ad.O dst):rM ti dst st x cl am=rM ti dst ad x cl am:=by
 unfold rM;split
 ·rename_i o s;have e:∀v,aU (st.df o (.dead v)) dst=aU (ad.df o (.dead v)) dst:=fun v=>by
   apply kt;rw[ae.k6,ae.k6,Y]
  rw[wx (show st.O o=ad.O o from h o (by simp[aL.names,bF.cells,cR,ay.names]))]
  simp only[e]
 ·rfl
theorem TV{l:ay}(h:ch st ad l.names):oU st l=oU ad l:=by
 cases l<;>try rfl
 case own o s=>simp only[oU];rw[h.head]
theorem HR{l:ay}(h:ch st ad l.names):mapOf st l=mapOf ad l:=by
 cases l<;>try rfl
 case own o s=>simp only[mapOf];rw[h.head]
 case d v=>cases v<;>rfl
theorem Vy{ti:cj}{x:aL}(h:ch st ad x.names):ss ti st x=ss ti ad x:=by
 unfold ss;split<;>try rfl
 rotate_left
 ·rename_i l;rw[HR (l:=l) (fun o be=>h o (by simp[aL.names,bF.cells,cR,be]))]
 rename_i o s;rw[H7 (show st.O o=ad.O o from h o (by simp[aL.names,bF.cells,cR,ay.names]))]
theorem Uj{x:aL}(h:ch st ad x.names):r2 st x=r2 ad x:=by
 unfold r2;split<;>try rfl
 rename_i o s;rw[nz (show st.O o=ad.O o from h o (by simp[aL.names,bF.cells,cR,ay.names]))]
theorem Hf{o dst s:Nat}(Y:st.O dst=ad.O dst):aU (st.df o (.dead s)) dst=aU (ad.df o (.dead s)) dst:=by
 apply kt;rw[ae.k6,ae.k6,Y]
theorem Hq{bytes:Nat}{t:aG}{dst:Nat}{s:aL}{ys:List (den t)}(h:ch st ad s.names)(Y:st.O dst=ad.O dst):pW bytes t dst st s ys=pW bytes t dst ad s ys:=by
 unfold pW;split
 ·simp only[kt Y]
 ·rename_i o s;simp only[show st.O o=ad.O o from h o (by simp[aL.names,bF.cells,cR,ay.names]),Hf Y]
 ·rfl
theorem Tx{bytes:Nat}{t:aG}{dst:Nat}{s x:aL}(h:ch st ad s.names)(hx:ch st ad x.names)(Y:st.O dst=ad.O dst):rD bytes t dst st s x=rD bytes t dst ad s x:=by
 unfold rD;rw[Uj hx];split
 ·rfl
 ·split
  ·split
   ·exact Hq h Y
   ·rfl
  ·rfl
theorem T0{x:aL}(h:ch st ad x.names):uf st x=uf ad x:=by
 unfold uf;split
 ·rename_i o s;rw[tu (show st.O o=ad.O o from h o (by simp[aL.names,bF.cells,cR,ay.names]))]
 ·rfl
theorem Tz{bytes:Nat}{t:aG}{dst:Nat}{s x:aL}(h:ch st ad s.names)(hx:ch st ad x.names)(Y:st.O dst=ad.O dst):rF bytes t dst st s x=rF bytes t dst ad s x:=by
 have e2:∀F u o v,aU ((st.df F (.dead u)).df o (.dead v)) dst=aU ((ad.df F (.dead u)).df o (.dead v)) dst:=fun F u o v=>by
  apply kt;rw[ae.k6,ae.k6,ae.k6,ae.k6,Y]
 unfold rF;split
 ·rename_i F u;rw[tu (show st.O F=ad.O F from hx F (by simp[aL.names,bF.cells,cR,ay.names]))]
  split
  ·split
   ·split
    ·simp only[Hf Y]
    ·rename_i _ o s;rw[tu (show st.O o=ad.O o from h o (by simp[aL.names,bF.cells,cR,ay.names]))]
     simp only[e2]
    ·rfl
   ·rfl
  ·rfl
 ·rfl
theorem Ty{bytes:Nat}{t:aG}{dst:Nat}{s x:aL}(h:ch st ad s.names)(Y:st.O dst=ad.O dst):rE bytes t dst st s x=rE bytes t dst ad s x:=by
 unfold rE;split
 ·split
  ·exact Hq h Y
  ·rfl
 ·rfl
theorem Ih{o:Nat}{t:aG}{n:Nat}{xs:List (den t)}(Y:st.O o=ad.O o):qg o st t n xs=qg o ad t n xs:=by
 unfold qg;rw[kt Y]
theorem T7{o:Nat}{t:aG}{n:Nat}(Y:st.O o=ad.O o):r0 o st t n=r0 o ad t n:=by
 unfold r0;split<;>first|exact Ih Y|rfl
theorem VZ{o:Nat}{t:aG}{n:Nat}{v:aL}(Y:st.O o=ad.O o):sF o st t n v=sF o ad t n v:=by
 unfold sF;split
 ·split<;>first|exact Ih Y|rfl
 ·rfl
theorem UA{t:aG}{n:Nat}{a:aL}(h:ch st ad a.names):sa st t n a=sa ad t n a:=by
 unfold sa;split
 ·rename_i o s u;rw[nz (show st.O o=ad.O o from h o (by simp[aL.names,bF.cells,cR,ay.names]))]
 ·rfl
theorem TI{t:aG}{n:Nat}{a:aL}{v:bF}(h:ch st ad a.names):rI st t n a v=rI ad t n a v:=by
 unfold rI;split
 ·rename_i o s u U;rw[show st.O o=ad.O o from h o (by simp[aL.names,bF.cells,cR,ay.names])]
 ·rfl
theorem S'{C:Ctx}{t:aG}{n:Nat}{x:aL}{i:Int}(h:ch st ad x.names):ra C st t n x i=ra C ad t n x i:=by
 unfold ra;split
 ·rename_i o s u;rw[nz (show st.O o=ad.O o from h o (by simp[aL.names,bF.cells,cR,ay.names]))]
 ·rfl
 ·rfl
theorem TN{t:aG}{n:Nat}{x:aL}{cl am:Option aL}(h:ch st ad x.names):rN st t n x cl am=rN ad t n x cl am:=by
 unfold rN;split
 ·rename_i o s u;simp only[me];rw[nz (show st.O o=ad.O o from h o (by simp[aL.names,bF.cells,cR,ay.names])),show st.O o=ad.O o from h o (by simp[aL.names,bF.cells,cR,ay.names])]
 ·rfl
theorem VR{t:aG}{as:List bF}(h:ch st ad (oI as)):lu t st as=lu t ad as:=by
 induction as with
 |nil=>rfl
 |cons a as ih=>
  simp only[oI] at h;simp only[lu,wH h.left,ih h.right]
theorem TO{t:aG}{as:List bF}(h:ch st ad (oI as)):mO t st as=mO t ad as:=by
 induction as with
 |nil=>rfl
 |cons a as ih=>
  simp only[oI] at h;simp only[mO,A8 h.left,ih h.right]
theorem UK{C:Ctx}{src dst:TypeId}{o:Nat}{x:aL}(h:ch st ad x.names)(Y:st.O o=ad.O o):sg C src dst o st x=sg C src dst o ad x:=by
 unfold sg;split<;>try rfl
 ·rename_i F s _ _;rw[nz (show st.O F=ad.O F from h F (by simp[aL.names,bF.cells,cR,ay.names]))]
 ·rw[kt Y]
theorem HA{bG:List (Nat×Nat)}(h:ch st ad (eK st (keys bG))):lh st bG=lh ad bG:=by
 induction bG with
 |nil=>rfl
 |cons p bG ih=>
  obtain⟨o,s⟩:=p;simp only[keys,eK] at h;simp only[lh];rw[<-tx h.head,<-ih h.tail.right];cases hb:fV st o s with
  |none=>rfl
  |some cells=>
   have:=h.tail.left;rw[Bd hb] at this;simp only[wH this]
theorem Bj{l:ay}(h:ch st ad (eK st l.names)):m3 st l=m3 ad l:=by
 have Y:=Jx (oG h);unfold m3;split
 ·rfl
 ·rename_i g c cs;simp only[ay.names] at h;rw[HA h]
 ·rw[Y]
theorem UB{U:List ay}(h:ch st ad (eK st (cR U))):l2 st U=l2 ad U:=by
 induction U with
 |nil=>rfl
 |cons l U ih=>
  simp only[cR,w5] at h;simp only[l2,Bj h.left,ih h.right]
theorem HW{l:ay}(h:ch st ad l.names):mV st l=mV ad l:=by
 unfold mV;split<;>try rfl
 rename_i o s;rw[show st.O o=ad.O o from h.head]
theorem VD{U:List ay}(h:ch st ad (cR U)):j_ st U=j_ ad U:=by
 induction U with
 |nil=>rfl
 |cons l U ih=>
  simp only[cR] at h;simp only[j_,HW h.left,ih h.right]
def hg:List aL->List Nat
 |[]=>[]
 |v::vs=>v.names++hg vs
theorem Hw{vs:List aL}(h:ch st ad (eK st (hg vs))):jj st vs=jj ad vs:=by
 induction vs with
 |nil=>rfl
 |cons v vs ih=>
  simp only[hg,w5] at h;have ih:=ih h.right;have h:=h.left;cases v with
  |ju as=>rfl
  |av a=>
   cases a with
   |agg U=>
    simp only[jj];rw[UB (by simpa[aL.names,bF.cells] using h),ih]
   |aq l=>
    have hl:ch st ad (eK st l.names):=by simpa[aL.names,bF.cells,cR] using h
    unfold jj;split
    ·rfl
    ·rename_i o s afC b1;cases b1;have hl:ch st ad (eK st [o]):=by simpa[aL.names,bF.cells,cR,ay.names] using h
     simp only[eK] at hl;rw[<-tx hl.head,<-ih];cases hb:fV st o s with
     |none=>rfl
     |some cells=>
      have:=hl.tail.left;rw[Bd hb] at this;cases jj st vs with
      |none=>rfl
      |some r=>simp only[VD this]
    ·rename_i fE afC _ b1;cases b1;rw[Bj hl,ih]
    ·rename_i b1;cases b1
    ·rfl
theorem Hz{l:ay}(h:ch st ad (eK st l.names)):lY st l=lY ad l:=by
 unfold lY;split
 ·rw[HW (oG h)]
 ·rfl
 ·rw[Bj h]
theorem Tu{U:List ay}(h:ch st ad (eK st (cR U))):lW st U=lW ad U:=by
 induction U with
 |nil=>rfl
 |cons l U ih=>
  simp only[cR,w5] at h;simp only[lW,Hz h.left,ih h.right]
theorem UE{l:ay}(h:ch st ad l.names):lp st l=lp ad l:=by
 unfold lp;split<;>try rfl
 rename_i o s;rw[show st.O o=ad.O o from h.head]
theorem HO{U dA:List ay}(h:ch st ad (cR U)):nQ st U dA=nQ ad U dA:=by
 unfold nQ;have:U.map (lp st)=U.map (lp ad):=by
  induction U with
  |nil=>rfl
  |cons l U ih=>
   simp only[cR] at h;simp only[List.map_cons,UE h.left,ih h.right]
 rw[this]
theorem To{vs:List aL}(h:ch st ad (eK st (hg vs))):kv st vs=kv ad vs:=by
 induction vs with
 |nil=>rfl
 |cons v vs ih=>
  simp only[hg,w5] at h;have ih:=ih h.right;have h:=h.left;cases v with
  |ju as=>rfl
  |av a=>
   cases a with
   |agg U=>
    have hl:ch st ad (eK st (cR U)):=by simpa[aL.names,bF.cells] using h
    simp only[kv,Tu hl,ih,HO (oG hl)]
   |aq l=>
    have hl:ch st ad (eK st l.names):=by simpa[aL.names,bF.cells,cR] using h
    have iv:ch st ad (cR [l]):=by simpa[cR] using oG hl
    simp only[kv,Hz hl,ih,HO iv]
theorem Tn{b:Bool}{vs:List aL}(h:ch st ad (eK st (hg vs))):ry b st vs=ry b ad vs:=by
 cases b
 ·exact Hw h
 ·exact To h
theorem tv(hb:∀o,1000000<=o->st.O o=ad.O o){o:Nat}(h:1000000<=o):aU st o=aU ad o:=kt (hb o h)
theorem Be(hb:∀o,1000000<=o->st.O o=ad.O o):∀{U:List ay} {n:Nat},1000000<=n->take st n U=take ad n U:=by
 intro U;induction U with
 |nil=>intro n _;rfl
 |cons l U ih=>
  intro n hn;cases l<;>simp only[take,ih (show 1000000<=n+1 by omega),tv hb hn]
theorem Ug(hb:∀o,1000000<=o->st.O o=ad.O o):∀{as:List bF} {n:Nat},1000000<=n->dU st n as=dU ad n as:=by
 intro as;induction as with
 |nil=>intro n _;rfl
 |cons a as ih=>
  intro n hn;cases a with
  |aq l=>simp only[dU];rw[Be hb hn,ih (show 1000000<=n+100 by omega)]
  |agg U=>simp only[dU];rw[Be hb hn,ih (show 1000000<=n+100 by omega)]
theorem Uf(hb:∀o,1000000<=o->st.O o=ad.O o):∀{bs:List (Nat×Nat)} {cG:List (List ay)},fo st bs cG=fo ad bs cG:=by
 intro bs;induction bs with
 |nil=>intro cG;cases cG<;>rfl
 |cons p bs ih=>
  obtain⟨o,s⟩:=p;intro cG;cases cG with
  |nil=>rfl
  |cons cs cG=>simp only[fo];rw[Be hb (by omega),ih]
theorem H2(hb:∀o,1000000<=o->st.O o=ad.O o){dst:Nat}{S:bg}{a:ka}:o7 dst st S a=o7 dst ad S a:=by
 unfold o7;simp only[Uf hb,Ug hb (show 1000000<=2000000+dst*10000 by omega)]
theorem TJ{g:FuncId}{n:Nat}{vs:List aL}(hb:∀o,1000000<=o->st.O o=ad.O o)(hn:1000000<=n):rJ g n st vs=rJ g n ad vs:=by
 unfold rJ;rw[tv hb hn,tv hb (show 1000000<=n+1 by omega),tv hb (show 1000000<=n+2 by omega)]
theorem Ut{n:Nat}{vs:List aL}(hb:∀o,1000000<=o->st.O o=ad.O o)(hn:1000000<=n):r4 n st vs=r4 n ad vs:=by
 unfold r4;rw[tv hb hn]
theorem UJ{vs:List aL}(h:ch st ad (eK st (hg vs))):copyV st vs=copyV ad vs:=by
 unfold copyV;split
 ·rename_i o s;rw[show st.O o=ad.O o from oG h o (by simp[hg,aL.names,bF.cells,cR,ay.names])]
 ·rfl
theorem Tk{vs:List aL}(h:ch st ad (eK st (hg vs))):rr st vs=rr ad vs:=by
 unfold rr;split
 ·rename_i o s;have a8:o∈hg [aL.av (.aq (.ptr o s 0))]:=by simp[hg,aL.names,bF.cells,cR,ay.names]
  rw[<-tx (oG h o a8)];split
  ·rfl
  ·rename_i SJ F u hb;have:=Kz h a8;rw[Bd hb] at this;rw[show st.O F=ad.O F from this F (by simp[cR,ay.names])]
  ·rfl
 ·rfl
theorem Hl{C:Ctx}(hb:∀o,1000000<=o->st.O o=ad.O o){dst:Nat}{f:aL}{vs:List aL}(hf:ch st ad (eK st f.names))(h:ch st ad (eK st (hg vs))):lT C dst st f vs=lT C dst ad f vs:=by
 unfold lT;split
 ·rename_i g bG;have:ch st ad (eK st (keys bG)):=by simpa[aL.names,bF.cells,cR,ay.names] using hf
  simp only[Tn h,HA this,H2 hb,TJ hb (show 1000000<=3000000+dst*10 by omega),Ut hb (show 1000000<=4000000+dst by omega),UJ h,Tk h]
 ·simp only[Hw h,H2 hb]
 ·rfl
theorem YU{C:Ctx}{x:Operand}{T:TypeId}(h:∀t,x=.tmp t->st.get t=ad.get t):aP C st T x=aP C ad T x:=by
 cases x with
 |tmp t=>exact h t rfl
 |_=>rfl
theorem Tv{ti:cj}{v:Value}:(tZ ti v).names=[]:=by
 unfold tZ;split<;>try rfl
 all_goals(split<;>rfl)
theorem xr{C:Ctx}{x:Operand}{T:TypeId}:∀{xs:List Operand},x∈xs->∀o,o∈(aP C st T x).names->o∈nI st xs:=by
 intro xs;induction xs with
 |nil=>intro h;cases h
 |cons y xs ih=>
  intro h o be;rcases List.mem_cons.1 h with rfl|h
  ·cases x with
   |tmp t=>simp only[nI];exact List.mem_append.2 (.inl be)
   |const v=>simp only[aP,Tv] at be;cases be
   |global g=>simp[aP,aL.names,bF.cells,cR,ay.names,b0] at be
   |func g=>simp[aP,aL.names,bF.cells,cR,ay.names,b0,keys] at be
  ·have:=ih h o be;cases y<;>simp only[nI]<;>first|exact List.mem_append.2 (.inr this)|exact this
theorem Uu{t:Nat}:∀{xs:List Operand},.tmp t∈xs->t∈oN xs:=by
 intro xs;induction xs with
 |nil=>intro h;cases h
 |cons y xs ih=>
  intro h;rcases List.mem_cons.1 h with h|h
  ·subst h;simp only[oN];exact List.mem_cons_self
  ·have:=ih h;cases y<;>simp only[oN]<;>first|exact List.mem_cons_of_mem _ this|exact this
theorem Ix{v:aL}{a:bF}(h:mg v=some a):cR a.cells=v.names:=by
 cases v with
 |av b=>simp only[mg,Option.some.injEq] at h;subst h;rfl
 |ju _=>cases h
theorem H5{vs:List aL}:∀{as:List bF},mW vs=some as->∀o,o∈oI as->o∈hg vs:=by
 induction vs with
 |nil=>intro as h;simp only[mW,Option.some.injEq] at h;subst h;intro o be;cases be
 |cons v vs ih=>
  intro as h o be;simp only[mW] at h;split at h
  ·rename_i a jU h1 h2;simp only[Option.some.injEq] at h;subst h;simp only[oI,List.mem_append] at be;simp only[hg,List.mem_append];rcases be with be|be
   ·exact .inl (by rw[Ix h1] at be;exact be)
   ·exact .inr (ih h2 o be)
  ·cases h
end
theorem U4{C:Ctx}{st ad:ae}{D:Oper}(H:∀t,t∈oN (ll D.op)->st.get t=ad.get t)(hn:ch st ad (Ev C st D))(hb:yT D.op=true->∀o,1000000<=o->st.O o=ad.O o):
  step C st D=step C ad D:=by
 have he:∀x,x∈ll D.op->∀T,aP C st T x=aP C ad T x:=fun x hx T=>YU fun t aC=>H t (Uu (aC▸hx))
 have Pv:looks D.op=true->ch st ad (eK st (nI st (ll D.op))):=fun h=>by have:=hn.left.left;rw[h] at this;exact this
 have Pq:looks D.op=true->∀x,x∈ll D.op->∀T,ch st ad (aP C st T x).names:=fun hl x hx T o be=>oG (Pv hl) o (xr hx o be)
 have MW:looks D.op=true->∀N:List Nat,(∀o,o∈N->o∈nI st (ll D.op))->ch st ad (eK st N):=by
  intro hl N;have vL:=Pv hl;induction N with
  |nil=>intro _ o be;cases be
  |cons n N ih=>
   intro h o be;simp only[eK,List.mem_cons,List.mem_append] at be;rcases be with rfl|be|be
   ·exact oG vL o (h o List.mem_cons_self)
   ·exact Kz vL (h n List.mem_cons_self) o be
   ·exact ih (fun F bk=>h F (List.mem_cons_of_mem _ bk)) o be
 have Y:∀d,D.dst=some d->st.O d=ad.O d:=fun d h=>hn.left.right d (by simp[h])
 have aK:ch st ad (Ej C D.op):=hn.right;obtain⟨dst,op,type,pos,after,guard⟩:=D;simp only at he Pq MW Y hb aK;cases op<;>(try have fu:=Pq rfl)<;>(try have lo:=MW rfl)<;>(try simp only[ll,List.mem_cons,List.not_mem_nil,or_false,forall_eq_or_imp,forall_eq] at he)<;>
  (try simp only[ll,List.mem_cons,List.not_mem_nil,or_false,forall_eq_or_imp,forall_eq] at fu)<;>simp only[step]<;>try rfl
 case move x=>rw[he]
 case assign x=>rw[he]
 case makeMap t r=>
  simp only[la];cases dst with
  |none=>rfl
  |some o=>
   have e:=kt (Y o rfl);cases C.tt t<;>try rfl
   cases r with
   |none=>simp only[e]
   |some x=>simp only[he x (by simp[ll]),e]
 case lookup t m k c=>
  simp only[la];rw[he.1,he.2];have h1:=fu.1 t;rw[he.1] at h1;generalize aP C ad t m=SA at h1 ⊢;split
  ·rename_i ty l n _ _;have hl:ch st ad l.names:=fun o be=>h1 o (by simp[aL.names,bF.cells,cR,be])
   rw[HR hl,TV hl];cases mapOf ad l with
   |some _=>rfl
   |none=>
    cases ty<;>try rfl
    cases oU ad l with
    |none=>rfl
    |some p=>
     cases dst with
     |none=>rfl
     |some d=>simp only[kt (Y d rfl)]
  ·rfl
 case mapUpdate t m k x=>
  simp only[la,la.rS];rw[he.1,he.2.1,he.2.2];have h1:=fu.1 t;rw[he.1] at h1;have h2:=fu.2.2 0;rw[he.2.2] at h2;generalize aP C ad t m=SA at h1 ⊢;generalize aP C ad 0 x=aik at h2 ⊢;split
  ·rename_i o s n d _ _;rw[show st.O o=ad.O o from h1 o (by simp[aL.names,bF.cells,cR,ay.names])]
  ·rename_i o s n F u _ _;rw[show st.O o=ad.O o from h1 o (by simp[aL.names,bF.cells,cR,ay.names]),show st.O F=ad.O F from h2 F (by simp[aL.names,bF.cells,cR,ay.names])]
  ·rfl
 case insert t m k x=>
  simp only[la,la.rS];rw[he.1,he.2.1,he.2.2];have h1:=fu.1 t;rw[he.1] at h1;have h2:=fu.2.2 0;rw[he.2.2] at h2;generalize aP C ad t m=SA at h1 ⊢;generalize aP C ad 0 x=aik at h2 ⊢;split
  ·rename_i o s n d _ _;rw[show st.O o=ad.O o from h1 o (by simp[aL.names,bF.cells,cR,ay.names])]
  ·rename_i o s n F u _ _;rw[show st.O o=ad.O o from h1 o (by simp[aL.names,bF.cells,cR,ay.names]),show st.O F=ad.O F from h2 F (by simp[aL.names,bF.cells,cR,ay.names])]
  ·rfl
 case pick c a b=>rw[he.1,he.2.1,he.2.2]
 case alloc elem=>
  cases dst with
  |none=>rfl
  |some o=>
   have e:=kt (Y o rfl);cases aY:C.tt elem with
   |arr _ t n=>exact T7 (Y o rfl)
   |_=>simp only[e]
 case box elem x=>
  rw[he];cases dst with
  |none=>rfl
  |some o=>
   have e:=kt (Y o rfl);cases aY:C.tt elem with
   |arr _ t n=>exact VZ (Y o rfl)
   |_=>simp only[e]
 case build t ps=>
  have go:∀(bR:List (Nat×Nat)) (r:List (Nat×Operand)) (z:List ay),(∀x,x∈r.map (·.2)->∀T,aP C st T x=aP C ad T x)->step.mS C st bR z r=step.mS C ad bR z r:=by
    intro bR r;induction r with
    |nil=>intro z _;rfl
    |cons p r ih=>
     obtain⟨i,x⟩:=p;intro z h;simp only[step.mS];rw[h x (by simp)]
     split
     ·rw[ih _ fun x hx=>h x (by simp only[List.map_cons,List.mem_cons];exact .inr hx)]
     ·rfl
  split
  ·exact go _ _ _ he
  ·split
   ·exact go _ _ _ he
   ·rfl
  ·rfl
 case buildSlice t len ps=>
  cases dst with
  |none=>rfl
  |some o=>
   cases h2:C.tt t<;>try rfl
   rename_i e ty bytes;simp only;have h1:some o=some o:=rfl;have em:(ps.toList.map fun p=>aP C st e p.2)=ps.toList.map fun p=>aP C ad e p.2:=by
    apply List.map_congr_left;intro p ai;exact he _ (List.mem_map.2 ⟨p,ai,rfl⟩) e
   have i_:ch st ad (hg (ps.toList.map fun p=>aP C st e p.2)):=by
    have:∀l:List (Nat×Operand),(∀p,p∈l->p∈ps.toList)->ch st ad (hg (l.map fun p=>aP C st e p.2)):=by
     intro l;induction l with
     |nil=>intro _ o be;cases be
     |cons p l ih=>
      intro h o be;simp only[List.map_cons,hg,List.mem_append] at be;rcases be with be|be
      ·exact fu _ (List.mem_map.2 ⟨p,h p List.mem_cons_self,rfl⟩) e o be
      ·exact ih (fun q aA=>h q (List.mem_cons_of_mem _ aA)) o be
    exact this _ fun _ h=>h
   rw[<-em,kt (Y o h1)];congr 1
   split
   ·rename_i as has;rw[VR fun F bk=>i_ F (H5 has F bk),TO fun F bk=>i_ F (H5 has F bk)]
   ·rfl
 case load t a=>
  rw[<-he];split
  ·exact UA (fu _)
  ·rw[Uz (fu _)]
 case store t a x=>
  rw[<-he.1,<-he.2];split
  ·rename_i v ab;split
   ·exact TI (fu.1 _)
   ·rw[TH (fu.1 _) (by rw[Ix ab];exact fu.2 _)]
  ·rfl
 case nilCheck x=>rw[he]
 case makeInterface t x=>simp only[la];rw[he]
 case binOp op t x y ty=>rw[he.1,he.2]
 case unOp op t x=>rw[he]
 case convert src akG x=>
  cases dst with
  |none=>rfl
  |some o=>simp only;rw[<-he,UK (fu _) (Y o rfl)]
 case makeFunc fn first captured=>
  split
  ·rename_i g;have go:∀(r:List Operand),(∀x,x∈r->∀T,aP C st T x=aP C ad T x)->step.nV C st r=step.nV C ad r:=by
    intro r;induction r with
    |nil=>intro _;rfl
    |cons x r ih=>
     intro h;simp only[step.nV];rw[h x (by simp),ih fun x hx=>h x (List.mem_cons_of_mem _ hx)]
   rw[go _ he]
  ·rfl
 case makeSlice t l c=>
  rw[<-he.1,<-he.2];cases dst with
  |none=>rfl
  |some o=>
   cases h2:C.tt t<;>try rfl
   rename_i e ty bytes;simp only[Ej,h2] at aK;have e1:=kt (Y o rfl);have e2:∀z n m,(C.tt e).zero=some z->qh C.ek bytes o st ty n m z=qh C.ek bytes o ad ty n m z:=fun z n m ob=>by
    simp only[ob] at aK;unfold qh;rw[wH aK,A8 aK,e1]
   generalize aP C st 0 l=AO;generalize aP C st 0 c=mB;have fG:∀n m:Int,(match(C.tt e).zero with
      |some z=>qh C.ek bytes o st ty n m z
      |none=>.fail)=(match(C.tt e).zero with
      |some z=>qh C.ek bytes o ad ty n m z
      |none=>.fail):=by
    intro n m;cases ob:(C.tt e).zero with
    |none=>rfl
    |some z=>exact e2 z n m ob
   rcases AO with(cu|_)|_<;>try rfl
   cases cu<;>try rfl
   rename_i d1;cases d1<;>try rfl
   rcases mB with(dX|_)|_<;>try rfl
   cases dX<;>try rfl
   rename_i d2;cases d2<;>try rfl
   exact fG _ _
 case slice t x cl am AR=>
  cases AR with
  |some _=>rfl
  |none=>
   simp only;have e1:cl.map (aP C st 0)=cl.map (aP C ad 0):=by
    cases cl with
    |none=>rfl
    |some y=>simp only[Option.map_some];rw[he.2 y (by simp)]
   have e2:am.map (aP C st 0)=am.map (aP C ad 0):=by
    cases am with
    |none=>rfl
    |some y=>simp only[Option.map_some];rw[he.2 y (by simp)]
   rw[<-he.1,e1,e2];rw[TZ (fu.1 t)];split
   ·exact TN (fu.1 _)
   ·cases rT ad (aP C st t x) with
    |true=>
     cases dst with
     |none=>rfl
     |some d=>exact TM (fu.1 _) (Y d rfl)
    |false=>exact TL (fu.1 _)
 case fieldAddr s x f=>rw[he]
 case indexAddr t x i=>
  rw[<-he.1,<-he.2];split
  ·rw[S_ (fu.1 _)]
  ·rw[S' (fu.1 _)]
  ·rfl
 case index t x i=>rw[he.1,he.2]
 case extract t i=>rw[he]
 case call c=>
  obtain⟨ahC,args,FP⟩:=c;simp only;cases ahC with
  |invoke r m=>rfl
  |value f=>
   simp only[ll,List.mem_append,List.mem_cons,List.not_mem_nil,or_false] at lo;simp only[yT,forall_const] at hb;simp only[List.mem_append,List.mem_cons,List.not_mem_nil,or_false] at he;have em:∀(xs:List Operand) (c0:List TypeId),(∀x,x∈xs->∀T,aP C st T x=aP C ad T x)->gK C st xs c0=gK C ad xs c0:=by
    intro xs;induction xs with
    |nil=>intro c0 _;cases c0<;>rfl
    |cons x xs ih=>
     intro c0 h;cases c0 with
     |nil=>simp only[gK];rw[h x (by simp),ih [] fun y an=>h y (List.mem_cons_of_mem _ an)]
     |cons T c0=>simp only[gK];rw[h x (by simp),ih c0 fun y an=>h y (List.mem_cons_of_mem _ an)]
   have G1:∀(xs ys:List Operand) (c0:List TypeId),(∀x,x∈xs->x∈ys)->∀o,o∈hg (gK C st xs c0)->o∈nI st ys:=by
    intro xs ys;induction xs with
    |nil=>intro c0 _ o be;cases c0<;>cases be
    |cons x xs ih=>
     intro c0 h o be;cases c0 with
     |nil=>
      simp only[gK,hg,List.mem_append] at be;rcases be with be|be
      ·exact xr (h x List.mem_cons_self) o be
      ·exact ih [] (fun y an=>h y (List.mem_cons_of_mem _ an)) o be
     |cons T c0=>
      simp only[gK,hg,List.mem_append] at be;rcases be with be|be
      ·exact xr (h x List.mem_cons_self) o be
      ·exact ih c0 (fun y an=>h y (List.mem_cons_of_mem _ an)) o be
   have h1:ch st ad (eK st (aP C st 0 f).names):=lo _ fun o be=>xr (List.mem_append.2 (.inl (by simp))) o be
   have h2:ch st ad (eK st (hg (gK C st args.toList FP.toList))):=lo _ fun o be=>G1 _ _ _ (fun x hx=>List.mem_append.2 (.inr hx)) o be
   have aa:=he f (.inl rfl) 0;have aN:=em args.toList FP.toList fun x hx=>he x (.inr hx)
   cases dst with
   |none=>show lT C 0 st _ _=lT C 0 ad _ _;rw[<-aa,<-aN];exact Hl hb h1 h2
   |some d=>show lT C d st _ _=lT C d ad _ _;rw[<-aa,<-aN];exact Hl hb h1 h2
  |builtin b=>
   simp only[List.nil_append] at he fu;generalize args.toList=xs at he fu;generalize FP.toList=dj;cases b<;>try rfl
   case append=>
    rcases dst with _|o
    ·rfl
    rcases xs with _|⟨s,_|⟨x,_|_⟩⟩<;>try rfl
    rcases dj with _|⟨t,_|⟨u,_|_⟩⟩<;>try rfl
    have e1:=he s (by simp) t
    have e2:=he x (by simp) u
    dsimp only;cases C.tt t<;>try rfl
    cases C.tt u<;>try rfl
    all_goals dsimp only
    all_goals rw[<-e1,<-e2]
    all_goals first|(rw[T0 (fu x (by simp) _),Tz (fu s (by simp) _) (fu x (by simp) _) (Y o rfl),Tx (fu s (by simp) _) (fu x (by simp) _) (Y o rfl)];done)|exact Ty (fu s (by simp) _) (Y o rfl)
   case len=>
    rcases xs with _|⟨s,_|⟨x,_|_⟩⟩<;>try rfl
    rcases dj with _|⟨t,_|⟨u,_|_⟩⟩<;>try rfl
    have e1:=he s (by simp) t
    dsimp only;rw[<-e1];exact Vy (fu s (by simp) _)
   case max=>
    rcases xs with _|⟨s,_|⟨x,_|⟨z,_|⟨u,_|⟨v,_|_⟩⟩⟩⟩⟩<;>try rfl
    ·have e1:=he s (by simp) type
     have e2:=he x (by simp) type
     dsimp only;rw[<-e1,<-e2]
    ·have e1:=he s (by simp) type
     have e2:=he x (by simp) type
     have ce:=he z (by simp) type
     have fG:=he u (by simp) type
     have gO:=he v (by simp) type
     dsimp only;rw[<-e1,<-e2,<-ce,<-fG,<-gO]
   case min=>
    rcases xs with _|⟨s,_|⟨x,_|_⟩⟩<;>try rfl
    have e1:=he s (by simp) type
    have e2:=he x (by simp) type
    dsimp only;rw[<-e1,<-e2]
section
variable {P:Program}{M:World}{J:List Nat}{X:Nat->Prop}{B:Nat->Value}{st:ae}{tm:Array Value}{w:World}{D:Oper}
structure p0(w:World)(av:Nat->Prop)(B:Nat->Value)(o:Nat)(t:aG)(xs:List (den t))(k off:Nat)(x:den t)(u:aG)(ys:List (den u))(e:TypeId)(v0 nv:Value)(b6 cX bD bM:List Value):Prop where
 tj:B o=.tuple (v0::(b6++nv::cX)).toArray
 tf:(bf (B o)).Nodup
 row:rowAt w t.ft e (ax t) v0 xs.length (bD++nv::bM)
 len:bD.length=k*ax t+off
 d1:Deep w av (flat t (xs.take k)++(enc t x).take off) bD b6
 mid:∃bK U,(∀d,d∈flat u ys->d.plain=true)/\rowAt w u.ft bK (ax u) nv ys.length U/\cp w av (flat u ys) U
 d2:Deep w av ((enc t x).drop (off+1)++flat t (xs.drop (k+1))) bM cX
theorem ag.aar(S:ag M J X B st tm w){o s k off:Nat}{t u:aG}{xs:List (den t)}{x:den t}{ys:List (den u)}(hl:look st.sites o=some (.deep s t xs))(hx:xs[k]? =some x)(hu:(enc t x)[off]? =some (.sl u ys)):
  ∃e v0 nv b6 cX bD bM,p0 w (au X B st.sites) B o t xs k off x u ys e v0 nv b6 cX bD bM:=by
 obtain⟨e,v0,ao,cs,a8,dN,c5,lo⟩:=S.sites o _ hl;have ak:k<xs.length:=(List.getElem?_eq_some_iff.1 hx).1;have al:off<(enc t x).length:=(List.getElem?_eq_some_iff.1 hu).1;rw[fy] at al;obtain⟨d0,AC,n7⟩:=MZ (x:=x) al;rw[hu] at AC;cases AC;have pq:flat t xs=(flat t (xs.take k)++(enc t x).take off)++(.sl u ys::((enc t x).drop (off+1)++flat t (xs.drop (k+1)))):=by
  rw[Cn t hx];conv=>lhs;rw[n7]
  simp only[List.append_assoc,List.cons_append]
 rw[pq] at lo;obtain⟨bD,R0,b6,hP,rfl,rfl,d1,d23⟩:=lo.inv;have cu:bD.length=k*ax t+off:=by
  rw[d1.len,List.length_append,dM,List.length_take,List.length_take,fy,Nat.min_eq_left (Nat.le_of_lt ak),Nat.min_eq_left (Nat.le_of_lt al)]
 cases d23 with
 |row bS m7 bK U ai h hr k'=>exact⟨e,v0,_,b6,_,bD,_,a8,dN,c5,cu,d1,⟨bK,U,ai,h,hr⟩,k'⟩
 |leaf ai h k'=>cases ai
theorem p0.ad7{av:Nat->Prop}{o:Nat}{t:aG}{xs:List (den t)}{k off:Nat}{x:den t}{u:aG}{ys:List (den u)}{e:TypeId}{v0 nv:Value}{b6 cX bD bM:List Value}(N:p0 w av B o t xs k off x u ys e v0 nv b6 cX bD bM):
  (∀b,ba nv=some b->b∈bf (B o))/\(∀b,ba v0=some b->ba nv≠some b)/\(∀n,n∈b6->∀b,ba n=some b->ba nv≠some b)/\∀n,n∈cX->∀b,ba n=some b->ba nv≠some b:=by
 have dN:=N.tf;rw[N.tj] at dN;simp only[bf,List.flatMap_cons,List.flatMap_append] at dN;obtain⟨a1,a2,a3⟩:=List.nodup_append.1 dN;obtain⟨a7,aM,b9⟩:=List.nodup_append.1 a2;obtain⟨akr,akq,cv⟩:=List.nodup_append.1 aM;refine⟨fun b hb=>by rw[N.tj];exact hH.2 (.inr ⟨nv,by simp,hb⟩),fun b hb hn=>?_,fun n hn b hb ab=>?_,fun n hn b hb ab=>?_⟩
 ·exact a3 b (by rw[hb];simp) b (List.mem_append.2 (.inr (List.mem_append.2 (.inl (by rw[hn];simp))))) rfl
 ·exact b9 b (List.mem_flatMap.2 ⟨n,hn,by rw[hb];simp⟩) b (List.mem_append.2 (.inl (by rw[ab];simp))) rfl
 ·exact cv b (by rw[ab];simp) b (List.mem_flatMap.2 ⟨n,hn,by rw[hb];simp⟩) rfl
theorem Ip{C:Ctx}{D:Oper}{ek:Nat}{v:aL}(h:ue C st D=some (ek,v)):∃x,D.op=.move x/\D.dst=some ek/\D.guard=none/\Nat.blt ek st.bl=true/\v=aP C st D.type x:=by
 unfold ue at h;split at h
 ·rename_i x d al Y aF;cases hb:Nat.blt d st.bl with
  |false=>rw[hb] at h;cases h
  |true=>
   rw[hb] at h;cases h;exact⟨x,al,Y,aF,hb,rfl⟩
 ·cases h
theorem BC{C:Ctx}{o1 gM o2:Oper}{q:qd}(h:r6 C st o1 gM o2=some q):∃T a e mC a7 c g x,o1.op=.load T a/\o1.dst=some q.d1/\o1.guard=none/\o2.op=.call c/\o2.guard=none/\C.tt T=.slice e mC a7/\aP C st T a=.av (.aq (.eI q.o q.s q.t q.k q.off))/\
  st.O q.o=some (.deep q.s q.t q.xs)/\c.callee=.value (.func g)/\c.args.toList=[.tmp q.d1,x]/\C.bR g=some q.S/\aP C (st.n1 q) 0 x=.av (.aq (.d (.int q.i q.n)))/\Nat.blt q.d1 st.bl=true/\
  ue C (st.set q.d1 (b0 .any)) gM=some (q.ek,q.v)/\q.ek≠q.d1:=by
 unfold r6 at h;split at h
 ·rename_i T a d1 c Av gq iy kT po;split at h
  ·rename_i o s u k off bm;split at h
   ·rename_i ap t xs g d2 x H hc j6;split at h
    ·rename_i ek v hm;split at h
     ·rename_i e mC a7 i n S aY hx hG;cases hb:(d2.beq d1&&ap.beq s&&decide (t=u)&&Nat.blt d1 st.bl&&!ek.beq d1) with
      |false=>rw[hb] at h;cases h
      |true=>
       rw[hb] at h;simp only[cond_true,Option.some.injEq] at h;simp only[Bool.and_eq_true,decide_eq_true_eq,Bool.not_eq_true'] at hb;obtain⟨⟨⟨⟨q1,q2⟩,eg⟩,ox⟩,tc⟩:=hb;have q1:=Nat.eq_of_beq_eq_true q1;have q2:=Nat.eq_of_beq_eq_true q2;subst q1 q2 eg h;exact⟨T,a,e,mC,a7,c,g,x,Av,gq,iy,kT,po,aY,bm,H,hc,j6,hG,hx,ox,hm,fun e=>by
        have e:ek=_:=e;subst e;rw[Nat.beq_refl] at tc;cases tc⟩
     ·cases h
    ·cases h
   ·cases h
  ·cases h
 ·cases h
theorem _c(S:ag M J X B st tm w){C:Ctx}{gM:Oper}{ek:Nat}{v:aL}(h:ue C st gM=some (ek,v)){K:Act->World->Prop}{Q:Exit->Act->World->Prop}
  (bL:∀dQ,ag M J X B (st.set ek v) dQ w->(∀t,t≠ek->dQ.getD t undef=tm.getD t undef)->K ⟨dQ,[]⟩ w):gM.wp P ⟨tm,[]⟩ w K Q:=by
 obtain⟨x,al,Y,aF,bb,rfl⟩:=Ip h;refine nN (vv:=Act.eval ⟨tm,[]⟩ x) ?_ (bL _ ?_ fun t aC=>?_)
 ·unfold execOp;simp only[al,Sem.run_bind,Sem.run_pure]
 ·have my:ca st gM.dst=true:=by rw[Y];exact bb
  have:=ag.cS (us:=[]) S my (cV S C gM.type x);rw[Y] at this ⊢;exact this
 ·rw[Y];have:ek≠t:=fun e=>aC e.symm
  simp[dl,Array.getD_eq_getD_getElem?,Array.getElem?_setIfInBounds_ne this]
theorem Yv(S:ag M J X B st tm w){C:Ctx}(aD:bz P C){o1 gM o2:Oper}{q:qd}(aA:r6 C st o1 gM o2=some q){x:den q.t}(hx:q.xs[q.k]? =some x){u:aG}{ys:List (den u)}(hu:(enc q.t x)[q.off]? =some (.sl u ys))
  {K:Act->World->Prop} {Q:Exit->Act->World->Prop}
  (bL:∀dQ,ag M J X B (st.set q.d1 (b0 .any)) dQ w->(∀t,t≠q.d1->dQ.getD t undef=tm.getD t undef)->(∃e v0 b6 cX bD bM,p0 w (au X B st.sites) B q.o q.t q.xs q.k q.off x u ys e v0 (dQ.getD q.d1 undef) b6 cX bD bM)->K ⟨dQ,[]⟩ w):o1.wp P ⟨tm,[]⟩ w K Q:=by
 obtain⟨T,a,gP,mC,a7,c,g,mB,Av,gq,iy,kT,po,aY,bm,H,hc,j6,hG,F2,bb,lD,cE⟩:=BC aA;have hl:look st.sites q.o=some (.deep q.s q.t q.xs):=H;obtain⟨e,v0,nv,b6,cX,bD,bM,N⟩:=S.aar hl hx hu;have bp:=cV S C T a;rw[bm] at bp;obtain⟨b,q0,ab,hr⟩:=bp;obtain⟨n,aiQ,bH⟩:=Ref.at hr hl rfl;rw[N.tj] at bH;replace bH:v0=.slice (some ⟨b,q0,none⟩) n aiQ:=bH
 have Gb:q0=0:=by
  rcases N.row.2 with⟨h,_⟩|⟨cI,cap,cur,bC,h1,_⟩
  ·rw[h] at bH;cases bH
  ·rw[h1] at bH;cases bH;rfl
 subst Gb;rw[Nat.zero_add] at ab;have iQ:w.cell? ⟨b,q.k*ax q.t+q.off,none⟩=some nv:=by
  rcases N.row.2 with⟨h,_⟩|⟨cI,cap,cur,bC,h1,_,h2,_,_,_,aa⟩
  ·rw[h] at bH;cases bH
  ·rw[h1] at bH;cases bH;rw[cell_of_row w b _ cur e bC h2];have:(cur.toList.take (q.xs.length*ax q.t))[q.k*ax q.t+q.off]? =some nv:=by
    rw[aa,List.getElem?_append_right (by rw[N.len];exact Nat.le_refl _),N.len,Nat.sub_self]
    rfl
   rw[List.getElem?_take] at this;split at this
   ·simpa using this
   ·cases this
 have bt:=aD.tt T;rw[aY] at bt;have cN:=tr (P:=P) (w:=w) bt (by rintro h;cases h) ⟨b,q.k*ax q.t+q.off,none⟩ [nv] rfl (fun j y an=>by
  match j,an with
  |0,an=>
   simp only[List.getElem?_cons_zero,Option.some.injEq] at an;subst an;rw[gy,Nat.add_zero];exact iQ)
 have E4:(dl tm o1.dst nv).getD q.d1 undef=nv:=by
  rw[gq];have:q.d1<tm.size:=by rw[S.bl];exact Nat.le_of_ble_eq_true bb
  simp[dl,Array.getD_eq_getD_getElem?,this]
 refine nN (vv:=nv) ?_ (bL _ ?_ (fun t aC=>?_) ?_)
 ·unfold execOp;simp only[Av,Instr.loadAt,Instr.sureAddr,ab,Sem.run_bind,Sem.run_pure,Result.andThen_ok,cN];rfl
 ·have Y:ca st o1.dst=true:=by rw[gq];exact bb
  have:=ag.cS (us:=[]) (v:=b0 .any) (vv:=nv) S Y trivial;rw[gq] at this ⊢;exact this
 ·rw[gq];have:q.d1≠t:=fun e=>aC e.symm
  simp[dl,Array.getD_eq_getD_getElem?,Array.getElem?_setIfInBounds_ne this]
 ·rw[E4];exact⟨e,v0,b6,cX,bD,bM,N⟩
theorem Yu{dQ:Array Value}{C:Ctx}(aD:bz P C){o1 gM o2:Oper}{q:qd}(aA:r6 C st o1 gM o2=some q)(S:ag M J X B (st.n1 q) dQ w){x:den q.t}(hx:q.xs[q.k]? =some x){u:aG}{ys:List (den u)}(hu:(enc q.t x)[q.off]? =some (.sl u ys))
  {e:TypeId} {v0:Value} {b6 cX bD bM:List Value} (N:p0 w (au X B st.sites) B q.o q.t q.xs q.k q.off x u ys e v0 (dQ.getD q.d1 undef) b6 cX bD bM) {y:(q.S [.av (.aq (.fresh u ys)),.av (.aq (.d (.int q.i q.n)))]).G}
  (an:(q.S [.av (.aq (.fresh u ys)),.av (.aq (.d (.int q.i q.n)))]).comp=some y) {d:aR} {bS:aG} {m7:List (den bS)} (h1:(q.S [.av (.aq (.fresh u ys)),.av (.aq (.d (.int q.i q.n)))]).e_ y=[.aq (.d d)]) (h2:(q.S [.av (.aq (.fresh u ys)),.av (.aq (.d (.int q.i q.n)))]).dZ y=[])
  (aa:(q.S [.av (.aq (.fresh u ys)),.av (.aq (.d (.int q.i q.n)))]).eP y=[.fresh bS m7]) {dn:den q.t} (ez:dec q.t (cg (enc q.t x) q.off [.sl bS m7])=some dn) (pq:d.hM=true) (fA:bS.hJ=false) (Y:ca st o2.dst=true)
  {K:Act->World->Prop} {Q:Exit->Act->World->Prop}
  (bL:∀az b7 w',ag M J X az (((st.n1 q).cS o2.dst (one d) [(q.o,.deep q.s q.t (q.xs.set q.k dn))])) b7 w'->K ⟨b7,[]⟩ w'):o2.wp P ⟨dQ,[]⟩ w K Q:=by
 obtain⟨T,a,gP,mC,a7,c,g,mB,Av,gq,iy,kT,po,aY,bm,H,hc,j6,hG,F2,bb,lD,cE⟩:=BC aA;have hl:look (st.n1 q).sites q.o=some (.deep q.s q.t q.xs):=H;obtain⟨nv,vz⟩:∃nv,dQ.getD q.d1 undef=nv:=⟨_,rfl⟩;rw[vz] at N;have N:p0 w (au X B (st.n1 q).sites) B q.o q.t q.xs q.k q.off x u ys e v0 nv b6 cX bD bM:=N;generalize zR:st.n1 q=eD at S hl F2 N bL;have my:ca eD o2.dst=true:=by rw[<-zR];exact Y
 obtain⟨aw,aj,bA,cD⟩:=N.ad7;have fJ:bT eD.sites q.o:=⟨_,hl,rfl⟩;have ak:q.k<q.xs.length:=(List.getElem?_eq_some_iff.1 hx).1;have al:q.off<ax q.t:=by
  have:=(List.getElem?_eq_some_iff.1 hu).1;rwa[fy] at this
 have pa:=cV S C 0 mB;rw[F2] at pa;have hint:Act.eval ⟨dQ,[]⟩ mB=.int q.i q.n:=by
  have pa:Rd w _ (.int q.i q.n) (Act.eval ⟨dQ,[]⟩ mB):=pa;generalize Act.eval ⟨dQ,[]⟩ mB=v at pa;cases pa;rfl
 have lA:c.args.toList.map (Act.eval ⟨dQ,[]⟩)=[nv,.int q.i q.n]:=by
  rw[j6];simp only[List.map_cons,List.map_nil,hint];have:Act.eval ⟨dQ,[]⟩ (.tmp q.d1)=nv:=vz;rw[this]
 have cN:(execOp (Act.eval ⟨dQ,[]⟩) o2).run P w=(callFunc g #[nv,.int q.i q.n]).run P w:=by
  have hf:Act.eval ⟨dQ,[]⟩ (.func g)=.func (.func g) #[] #[]:=rfl;have wh:(#[]++c.args.map (Act.eval ⟨dQ,[]⟩))++#[]=#[nv,.int q.i q.n]:=by
   apply Array.ext';simpa using lA
  unfold execOp;simp only[kT,resolve,hc,hf,Deferred.ofValue,Sem.run_bind,Sem.run_pure,Result.andThen_ok,invoke,wh]
 obtain⟨bK,U,vw,c5,db⟩:=N.mid;obtain⟨dO,pu⟩:∃dO,(ba nv).toList=dO:=⟨_,rfl⟩;have Pf:∀b,b∈dO <-> ba nv=some b:=fun b=>by rw[<-pu];simp
 obtain⟨X',ni⟩:∃X':Nat->Prop,∀b,X' b <-> (au X B eD.sites b/\b∉dO):=⟨_,fun b=>Iff.rfl⟩
 have L9:∀{av bP:Nat->Prop} {w:World} {t:aG} {gu:List (den t)} {vs:List Value},(∀d,d∈flat t gu->d.plain=true)->cp w av (flat t gu) vs->cp w bP (flat t gu) vs:=fun ai hr=>⟨hr.1,fun j g1 g2=>by
  have sR:=ai _ (List.getElem_mem g1);refine tF ?_ (hr.2 j g1 g2);generalize(flat _ _)[j]=wi at sR ⊢;cases wi<;>first|rfl|cases sR⟩
 have _n:iI w (fun b=>X' b\/b∈dO) [.av (.aq (.fresh u ys)),.av (.aq (.d (.int q.i q.n)))] [nv,.int q.i q.n] dO:=
  ⟨dO,[],by simp,⟨pu.symm,bK,U,c5,L9 vw db⟩,[],[],rfl,⟨rfl,.int _ _⟩,rfl⟩
 have adZ:∀b,X' b->b<w.heap.size:=fun b hb=>S.lt ((ni b).1 hb).1
 have jx:iN w dO X':=by
  obtain⟨g1,g2⟩:=S.kp;refine⟨g1,fun b hb h=>?_,fun b hb h=>(g2 b hb).1 ((ni b).1 h).1,fun b hb=>(g2 b hb).2⟩
  exact(g2 b hb).1 (.inr ⟨q.o,fJ,aw b ((Pf b).1 h)⟩)
 have en:=aD.bR g q.S hG _ y an w X' [nv,.int q.i q.n] dO _n (by rw[<-pu];cases ba nv<;>simp) (fun b hb hx=>((ni b).1 hx).2 hb) adZ jx
 refine w4 (vs:=[nv,.int q.i q.n]) cN en ?_
 rintro v w' ⟨eY,ej,rv,aB,fk,iD,rfl,ajO,hm⟩;obtain⟨lM,z2,rfl,f_,nh⟩:=fk;rw[h2] at f_;rw[h1] at iD;rw[aa] at nh;have nc:fc [.av (.aq (.fresh u ys)),.av (.aq (.d (.int q.i q.n)))] [nv,.int q.i q.n]=[nv]:=by
  simp only[fc,bF.cells,gd,ay.pU,Bool.and_true,cond_false,cond_true,List.append_nil,Bool.true_and];exact BQ (A_ c5)
 rw[nc] at nh;have nh:gB w' (fun b=>X' b\/b∈lM++z2++ej) [.fresh bS m7] [nv] z2:=nh.resolve_left fun h=>by cases h.1
 obtain⟨dG,c7,aK,⟨agl,e2,af3,abW,adp⟩,aj9⟩:=nh;match rv,iD with
 |[lN],⟨a1,a2,ajQ,jO,Gm⟩=>
 have jO:a1=[]/\Rd w' _ d lN:=jO;have agX:ay.hJ (.d d)=false:=by cases d<;>first|rfl|cases pq
 have qC:∀av,Rd w' av d lN:=fun av=>tF agX jO.2
 have zu:enc q.t dn=(enc q.t x).take q.off++.sl bS m7::(enc q.t x).drop (q.off+1):=by rw[nM _ _ _ ez,Ie]
 have o_:flat q.t (q.xs.set q.k dn)=(flat q.t (q.xs.take q.k)++(enc q.t x).take q.off)++(.sl bS m7::((enc q.t x).drop (q.off+1)++flat q.t (q.xs.drop (q.k+1)))):=by
  rw[w3 q.t ak,zu];simp only[List.append_assoc,List.cons_append]
 have zq:∀b,b<w.heap.size->ba nv≠some b->w'.heap[b]? =w.heap[b]? :=fun b hb hn=>aB.block b hb fun h=>hn ((Pf b).1 h)
 have zL:∀b,b∈bf (B q.o)->b<w.heap.size:=fun b hb=>S.dS fJ hb
 have vk:∀n,n∈b6\/n∈cX->∀b,ba n=some b->b∈bf (B q.o):=fun n hn b hb=>by
  rw[N.tj];exact hH.2 (.inr ⟨n,by simp only[List.mem_append,List.mem_cons];exact hn.imp id .inr,hb⟩)
 have bN:=S.sz (o:=q.o) (bw:=.deep q.s q.t (q.xs.set q.k dn)) (nv:=B q.o) (w':=w') (ks:=[]) (K:=[q.o]) .nil (fun F=>by simp[keys];intro e;subst e;exact fJ)
  (fun b hb cE=>zq b hb fun h=>cE q.o (by simp) (aw b h)) aB.os aB.tape aB.output aB.size rfl (fun O H=>by rw[hl] at H;cases H;exact .inr ⟨rfl,rfl⟩)
  (fun b hb=>⟨Nat.lt_of_lt_of_le (zL b hb) aB.size,.inl ⟨q.o,by simp,hb⟩⟩) (fun {bi az} d' go=>?_)
 ·have Es:(fun F=>if F=q.o then B q.o else B F)=B:=by funext F;by_cases e:F=q.o<;>simp[e]
  rw[Es] at bN;exact bL B _ w' (ag.cS (us:=[(q.o,.deep q.s q.t (q.xs.set q.k dn))]) bN my (v:=one d) (qC _))
 ·have jQ:∀{d v},Rd w (au X B eD.sites) d v->Rd _ (au X az bi) d v:=hX go;refine⟨e,v0,b6++nv::cX,bD++nv::bM,d'.trans N.tj,by rw[d'];exact N.tf,?_,?_⟩
  ·rw[List.length_set];refine nD N.row fun b hb=>zq b (zL b ?_) (aj b hb)
   rw[N.tj];exact hH.2 (.inl hb)
  ·rw[o_];refine(N.d1.map jQ fun n hn b hb=>zq b (zL b (vk n (.inl hn) b hb)) (bA n hn b hb)).cS (.row bS m7 e2 af3 (Bo fA) abW (L9 (Bo fA) adp) (N.d2.map jQ fun n hn b hb=>zq b (zL b (vk n (.inr hn) b hb)) (cD n hn b hb)))
end
def eS(r:Option Nat):Fence:={Fence.wide with round:=r}
abbrev ha(r:Option Nat)(P:Program)(c:Code)(Q:Exit->Act->World->Prop)(a:Act)(w:World):Prop:=c.wpIn (eS r) 0 P Q a w
theorem zE(r:Option Nat)(f:FuncId):(eS r).fn f:=trivial
theorem LM(r:Option Nat)(n:Nat):(eS r).room n:=fun _ h=>by simp[eS,Fence.wide] at h
theorem ha.any{r:Option Nat}{P:Program}{c:Code}{Q:Exit->Act->World->Prop}{a:Act}{w:World}(h:ha r P c Q a w)(n:Nat):c.wpIn (eS r) n P Q a w:=
 fun b k cs F_ hb _=>h b k cs F_ hb (LM r _)
theorem ha.of{r:Option Nat}{P:Program}{c:Code}{Q:Exit->Act->World->Prop}{a:Act}{w:World}{n:Nat}(h:c.wpIn (eS r) n P Q a w):ha r P c Q a w:=
 fun b k cs F_ hb _=>h b k cs F_ hb (LM r _)
theorem ha.wp{P:Program}{c:Code}{Q:Exit->Act->World->Prop}{a:Act}{w:World}(h:ha none P c Q a w):c.wp P Q a w:=(wpIn_wide (n:=0)).1 h
theorem VX{r:Option Nat}{n:Nat}{P:Program}{f:FuncId}{args:Array Value}{w:World}{R:Ending->World->Prop}(h:Calls P f args w R):CallsIn (eS r) n P f args w R:=by
 cases r with
 |none=>exact callsIn_wide.2 h
 |some l=>exact CallsIn.inRound l (callsIn_wide.2 h)
theorem WG{r:Option Nat}{n:Nat}{P:Program}{row:String}{args:Array Value}{w:World}{R:Value->World->Prop}(h:Rows P row args w R):RowsIn (eS r) n P row args w R:=by
 intro c cs _;obtain⟨v,w',hr,H⟩:=h c cs;exact⟨v,w',hr,stepsIn_wide.2 H⟩
theorem tG(tm:Array Value)(ds:List Deferred)(dst:Option Nat)(v:Value):(⟨tm,ds⟩:Act).put dst v=⟨dl tm dst v,ds⟩:=by cases dst<;>rfl
theorem uz{P:Program}{D:Oper}{tm:Array Value}{w:World}{K:Act->World->Prop}(bL:∀a w,K a w->a.defers=[])(h:D.wp P ⟨tm,[]⟩ w K (fun _ _ _=>False))(r:Option Nat)(ds:List Deferred){Q:Exit->Act->World->Prop}:
  D.wpIn (eS r) 0 P ⟨tm,ds⟩ w (fun fH w'=>∃v,fH=⟨dl tm D.dst v,ds⟩/\K ⟨dl tm D.dst v,[]⟩ w') Q:=by
 refine⟨fun f _=>zE r f,?_⟩
 have bp:(⟨tm,ds⟩:Act).eval=(⟨tm,[]⟩:Act).eval:=by funext x;cases x<;>rfl
 rw[bp];unfold Oper.wp at h;have Y:∀c,D.op≠.defer c:=by
  intro c al;have:(execOp (Act.eval ⟨tm,[]⟩) D)=(do let d <-resolve (Act.eval ⟨tm,[]⟩) c D.type;pure (.defer d)):=by
   unfold execOp;simp only[al]
  rw[this] at h;simp only[Sem.run_bind] at h;cases hr:(resolve (Act.eval ⟨tm,[]⟩) c D.type).run P w with
  |ok d w'=>
   rw[hr] at h;simp only[Result.andThen_ok,Sem.run_pure,Oper.upon] at h;have:=bL _ _ h;cases di:D.dst<;>rw[di] at this<;>simp[Act.put] at this
  |halt x w'=>
   rw[hr] at h;cases x<;>simp[Result.andThen,Oper.upon] at h
 rw[Oper.semAt_eq _ _ _ Y];generalize(execOp (Act.eval ⟨tm,[]⟩) D).run P w=e_ at h;have ai:∀v,(⟨tm,ds⟩:Act).put D.dst v=⟨dl tm D.dst v,ds⟩:=tG tm ds D.dst;have oh:∀v,(⟨tm,[]⟩:Act).put D.dst v=⟨dl tm D.dst v,[]⟩:=tG tm [] D.dst;cases e_ with
 |ok x w'=>
  cases x with
  |value v=>simp only[Oper.upon,Oper.uponIn,oh] at h ⊢;exact⟨v,ai v,h⟩
  |skip=>simp only[Oper.upon,Oper.uponIn,oh] at h ⊢;exact⟨undef,ai _,h⟩
  |defer d=>
   simp only[Oper.upon] at h;have:=bL _ _ h;cases di:D.dst<;>rw[di] at this<;>simp[Act.put] at this
  |enter f args=>
   simp only[Oper.upon,Oper.uponIn] at h ⊢;refine⟨fun h=>by simp[eS,Fence.wide] at h,(VX h).mono fun e Ag he=>?_⟩
   cases e with
   |returned v=>simp only[oh] at he;exact⟨v,ai v,he⟩
   |panicked c=>exact he.elim
   |outgrown=>obtain⟨a0,M,aA⟩:=he;exact aA.elim
  |row row args=>
   simp only[Oper.upon,Oper.uponIn] at h ⊢;refine⟨fun h=>by simp[eS,Fence.wide] at h,(WG h).mono fun v Ag he=>?_⟩
   simp only[oh] at he;exact⟨v,ai v,he⟩
  |_=>simp only[Oper.upon] at h
 |halt x w'=>
  cases x<;>simp only[Oper.upon] at h
def nU:List Oper->List Nat
 |[]=>[]
 |D::r=>D.dst.toList++nU r
def lS:Nat:=1000000000
def da:Code->List Nat
 |.region _ ops _=>nU ops.toList
 |.seq a b|.cond _ a b=>da a++da b
 |.block _ a|.loop a=>da a
 |.rangeFunc _ ps a b=>lS::(ps.toList++(da a++da b))
 |_=>[]
def ik:Code->Bool
 |.seq a b|.cond _ a b=>ik a&&ik b
 |.block _ a|.loop a=>ik a
 |.rangeFunc _ _ _ _=>false
 |_=>true
def mark(aR:Nat):Deferred:={target:=.collected aR,args:=#[]}
structure iu(M:World)(J:List Nat)(X:Nat->Prop)(cf:World)(ef:List Nat)(dr:Nat->Prop):Prop where
 cP:∀w,Fr ef cf w->Fr J M w
 ci:∀b,(b∈ef\/cf.heap.size<=b)->(b∈J\/M.heap.size<=b)
 x:∀b,X b->dr b
structure Marks(M:World)(dL:List Nat)(cf:World)(ef:List Nat)(dr:Nat->Prop):Prop where
 nodup:dL.Nodup
 new:∀aR,aR∈dL->M.heap.size<=aR
 g_:∀aR,aR∈dL->cf.heap[aR]? =some (.deferred (some []))/\aR∉ef/\dr aR
def At(M:World)(J:List Nat)(X:Nat->Prop)(ds:List Deferred)(eM:Array Value)(W:List Nat)(st:ae)(a:Act)(w:World):Prop:=
 ∃cf ef dr B dL,iu M J X cf ef dr/\Marks M dL cf ef dr/\(a.defers=dL.map mark++ds/\(lS∉W->dL=[]))/\ag cf ef dr B st a.tmps w/\∀t,t∉W->a.tmps.getD t undef=eM.getD t undef
def gi(M:World)(J:List Nat)(X:Nat->Prop)(ds:List Deferred)(eM:Array Value)(W:List Nat):Out->Exit->Act->World->Prop
 |.norm st,.normal,a,w=>At M J X ds eM W st a w
 |.exit id st,.exit iZ,a,w=>id=iZ/\At M J X ds eM W st a w
 |.ret st,.ret,a,w=>At M J X ds eM W st a w
 |_,_,_,_=>False
theorem iu.refl(M:World)(J:List Nat)(X:Nat->Prop):iu M J X M J X:=⟨fun _ h=>h,fun _ h=>h,fun _ h=>h⟩
theorem iu.trans{M cf w2:World}{J ef lI:List Nat}{X dr dJ:Nat->Prop}(h:iu M J X cf ef dr)(k:iu cf ef dr w2 lI dJ):iu M J X w2 lI dJ:=
 ⟨fun w hw=>h.cP w (k.cP w hw),fun b hb=>h.ci b (k.ci b hb),fun b hb=>k.x b (h.x b hb)⟩
theorem Marks.nil(M cf:World)(J:List Nat)(X:Nat->Prop):Marks M [] cf J X:=⟨List.nodup_nil,fun _ h=>by simp at h,fun _ h=>by simp at h⟩
theorem Marks.lt{M cf:World}{J:List Nat}{X:Nat->Prop}{dL:List Nat}(h:Marks M dL cf J X){aR:Nat}(eR:aR∈dL):aR<cf.heap.size:=by
 have:=(h.g_ aR eR).1;exact(Array.getElem?_eq_some_iff.1 this).1
theorem Marks.trans{M cf w2:World}{J ef lI:List Nat}{X dr dJ:Nat->Prop}{dL AM:List Nat}(hb:iu M J X cf ef dr)(h:Marks M dL cf ef dr)(k:iu cf ef dr w2 lI dJ)(m:Marks cf AM w2 lI dJ):
  Marks M (AM++dL) w2 lI dJ:=by
 have hf:Fr ef cf w2:=k.cP w2 (Fr.refl _ _);refine⟨List.nodup_append.2 ⟨m.nodup,h.nodup,fun a bm b hb e=>?_⟩,fun aR eR=>?_,fun aR eR=>?_⟩
 ·subst e;have h1:=m.new a bm;have h2:=h.lt hb;omega
 ·rcases List.mem_append.1 eR with eR|eR
  ·have h1:=m.new aR eR;have h2:Fr J M cf:=hb.cP cf (Fr.refl _ _);have:=h2.size;omega
  ·exact h.new aR eR
 ·rcases List.mem_append.1 eR with eR|eR
  ·exact m.g_ aR eR
  ·obtain⟨h1,h2,aa⟩:=h.g_ aR eR;have bb:=h.lt eR;refine⟨(hf.block aR bb h2).trans h1,fun aN=>?_,k.x aR aa⟩
   rcases k.ci aR (.inl aN) with bn|bn
   ·exact h2 bn
   ·omega
section
variable {M:World}{J:List Nat}{X:Nat->Prop}{ds:List Deferred}{eM:Array Value}{W:List Nat}
theorem At.of{B:Nat->Value}{st:ae}{tm:Array Value}{w:World}(S:ag M J X B st tm w)(aC:∀t,t∉W->tm.getD t undef=eM.getD t undef):At M J X ds eM W st ⟨tm,ds⟩ w:=
 ⟨M,J,X,B,[],iu.refl _ _ _,Marks.nil _ _ _ _,⟨rfl,fun _=>rfl⟩,S,aC⟩
theorem At.mono{de:List Nat}(h:∀t,t∈W->t∈de){st:ae}{a:Act}{w:World}(k:At M J X ds eM W st a w):At M J X ds eM de st a w:=by
 obtain⟨cf,ef,dr,B,dL,h1,h2,aa,aN,bn⟩:=k;exact⟨cf,ef,dr,B,dL,h1,h2,⟨aa.1,fun hn=>aa.2 fun af=>hn (h _ af)⟩,aN,fun t aC=>bn t fun af=>aC (h t af)⟩
theorem gi.mono{de:List Nat}(h:∀t,t∈W->t∈de):∀{D:Out} {e:Exit} {a:Act} {w:World},gi M J X ds eM W D e a w->gi M J X ds eM de D e a w:=by
 intro D e a w k;cases D<;>cases e<;>first|exact At.mono h k|exact⟨k.1,At.mono h k.2⟩|exact k.elim
theorem At.trans{cf:World}{ef:List Nat}{dr:Nat->Prop}{dL:List Nat}{dw jz:List Nat}{dQ:Array Value}(hb:iu M J X cf ef dr)(hm:Marks M dL cf ef dr)(hr:lS∉dw->dL=[])(aC:∀t,t∉dw->dQ.getD t undef=eM.getD t undef)
  {st:ae} {a:Act} {w:World} (k:At cf ef dr (dL.map mark++ds) dQ jz st a w):At M J X ds eM (dw++jz) st a w:=by
 obtain⟨w2,lI,dJ,B,AM,h1,h2,aa,aN,bn⟩:=k;refine⟨w2,lI,dJ,B,AM++dL,hb.trans h1,hm.trans hb h1 h2,⟨by rw[aa.1,List.map_append,List.append_assoc],fun hn=>by
  simp only[List.mem_append,not_or] at hn;rw[aa.2 hn.2,hr hn.1];rfl⟩,aN,fun t F8=>?_⟩
 simp only[List.mem_append,not_or] at F8;rw[bn t F8.2,aC t F8.1]
theorem gi.trans{cf:World}{ef:List Nat}{dr:Nat->Prop}{dL:List Nat}{dw jz:List Nat}{dQ:Array Value}(hb:iu M J X cf ef dr)(hm:Marks M dL cf ef dr)(hr:lS∉dw->dL=[])(aC:∀t,t∉dw->dQ.getD t undef=eM.getD t undef)
  {D:Out} {e:Exit} {a:Act} {w:World} (k:gi cf ef dr (dL.map mark++ds) dQ jz D e a w):gi M J X ds eM (dw++jz) D e a w:=by
 cases D<;>cases e<;>first|exact At.trans hb hm hr aC k|exact⟨k.1,At.trans hb hm hr aC k.2⟩|exact k.elim
end
def bo(P:Program)(c:Code)(f:hC):Prop:=
 ∀r,r=none\/ik c=true->∀M J X st y,(f st).comp=some y->∀B tm w ds,ag M J X B st tm w->ha r P c (gi M J X ds tm (da c) ((f st).out y)) ⟨tm,ds⟩ w
def h6(P:Program)(C:h7):Code->Nat->Prop
 |.seq a b,p=>(∀f,C.n' p=some f->bo P (.seq a b) f)/\h6 P C a (2*p)/\h6 P C b (2*p+1)
 |.cond c a b,p=>(∀f,C.n' p=some f->bo P (.cond c a b) f)/\h6 P C a (2*p)/\h6 P C b (2*p+1)
 |.block id a,p=>(∀f,C.n' p=some f->bo P (.block id a) f)/\h6 P C a (2*p)
 |c,p=>∀f,C.n' p=some f->bo P c f
def gj:Code->Nat->List (Nat×Code)
 |.seq a b,p=>(p,.seq a b)::(gj a (2*p)++gj b (2*p+1))
 |.cond c a b,p=>(p,.cond c a b)::(gj a (2*p)++gj b (2*p+1))
 |.block id a,p=>(p,.block id a)::gj a (2*p)
 |c,p=>[(p,c)]
theorem K'{P:Program}{C:h7}:∀(c:Code) (p:Nat),(∀q fm,(q,fm)∈gj c p->∀f,C.n' q=some f->bo P fm f)->h6 P C c p:=by
 intro c;induction c with
 |seq a b ml qq=>
  intro p h;simp only[gj] at h;exact⟨h p _ List.mem_cons_self,ml _ fun q fm hm=>h q fm (List.mem_cons_of_mem _ (List.mem_append.2 (.inl hm))),qq _ fun q fm hm=>h q fm (List.mem_cons_of_mem _ (List.mem_append.2 (.inr hm)))⟩
 |cond D a b ml qq=>
  intro p h;simp only[gj] at h;exact⟨h p _ List.mem_cons_self,ml _ fun q fm hm=>h q fm (List.mem_cons_of_mem _ (List.mem_append.2 (.inl hm))),qq _ fun q fm hm=>h q fm (List.mem_cons_of_mem _ (List.mem_append.2 (.inr hm)))⟩
 |block id a ml=>
  intro p h;simp only[gj] at h;exact⟨h p _ List.mem_cons_self,ml _ fun q fm hm=>h q fm (List.mem_cons_of_mem _ hm)⟩
 |_=>intro p h;exact h p _ (by simp[gj])
section
variable {P:Program}{M:World}{J:List Nat}{X:Nat->Prop}{B:Nat->Value}{st:ae}{tm:Array Value}{w:World}
theorem ag.oT(S:ag M J X B st tm w){t:Nat}{v:aL}(ab:cc B st.sites w (au X B st.sites) v (tm.getD t undef)):ag M J X B (st.set t v) tm w:=by
 refine⟨S.bl,fun u=>?_,S.sites,S.dp,S.ci,S.frame,S.old,S.fY⟩
 rw[ae.Dm];by_cases h:t=u
 ·subst h;simp only[if_true];exact ab
 ·simp only[h,if_false];exact S.c4 u
variable {R:Type}{C:Ctx}{ops:Array Oper}
theorem I9(S:ag M J X B st tm w)(aD:bz P C){D:Oper}{K:ae->Option R}{r:R}(h:kz C st D K=some r){N:Act->World->Prop}{Q:Exit->Act->World->Prop}
  (bL:∀ad az b7 w',K ad=some r->ag M J X az ad b7 w'->N ⟨b7,[]⟩ w'):D.wp P ⟨tm,[]⟩ w N Q:=by
 unfold kz at h;cases Y:ca st D.dst with
 |false=>simp[Y] at h
 |true=>
  simp only[Y,cond_true] at h;have H:=Zl S aD Y;cases hc:(step C st D).comp with
  |none=>simp[hc] at h
  |some y=>
   simp only[hc,Option.bind_some] at h;cases ak:(step C st D).qL y with
   |false=>simp[ak] at h
   |true=>
    simp only[ak,cond_true] at h;exact H y hc ak N Q fun az b7 w' bY=>bL _ az b7 w' h bY
theorem U8{T e:TypeId}(h:P.underlying T=some (.slice e))(a:Option Addr)(n c:Nat)(neg:Bool):
  (binOp (if neg then .neq else .eql) T (.slice a n c) (.slice none 0 0)).run P w=.ok (.bool (if neg then !a.isNone else a.isNone)) w:=by
 have e:(Op.equal T (.slice a n c) (.slice none 0 0)).run P w=.ok a.isNone w:=by
  have key:∀d:Nat,(Op.equalIn (d+1) T (.slice a n c) (.slice none 0 0)).run P w=.ok a.isNone w:=fun d=>by cases a<;>simp[Op.equalIn,run_underlying h]
  exact key 9999
 cases neg
 ·show((do pure (.bool (<-Op.equal T (.slice a n c) (.slice none 0 0)))):Sem Value).run P w=_
  simp only[Sem.run_bind,e,Result.andThen_ok,Sem.run_pure];rfl
 ·show((do pure (.bool (!(<-Op.equal T (.slice a n c) (.slice none 0 0))))):Sem Value).run P w=_
  simp only[Sem.run_bind,e,Result.andThen_ok,Sem.run_pure];rfl
theorem S7{op:BinOp}{T:TypeId}{x y:Operand}{a b:Option Addr}{n c fC fm:Nat}:(eqGuard op T x y (.slice a n c) (.slice b fC fm)).run P w=.ok () w:=by
 unfold eqGuard;cases op<;>rfl
theorem Vo{D:Oper}{t:aG}{xs:List (den t)}{neg:Bool}(h:DV C st D=some (⟨t,xs⟩,neg)):∃T x np e ty bytes,D.op=.binOp (if neg then .neq else .eql) T x (.const (.slice none 0 0)) np/\C.tt T=.slice e ty bytes/\aP C st T x=.av (.aq (.d (.sl t xs))):=by
 unfold DV at h;split at h
 ·rename_i op T x np al;split at h
  ·rename_i e ty bytes aY;split at h
   ·split at h
    ·rename_i bj hO hx;cases h;exact⟨T,x,np,e,ty,bytes,al,aY,hx⟩
    ·cases h
   ·split at h
    ·rename_i bj hO hx;cases h;exact⟨T,x,np,e,ty,bytes,al,aY,hx⟩
    ·cases h
   ·cases h
  ·cases h
 ·cases h
theorem Ti{t:aG}{xs:List (den t)}{a b:Option R}{r:R}(h:tE xs a b=some r):b=some r/\(xs=[]->a=some r):=by
 unfold tE at h;split at h
 ·rename_i vQ;exact⟨h,fun he=>(vQ he).trans h⟩
 ·cases h
theorem X2(S:ag M J X B st tm w)(aD:bz P C){D:Oper}{K:ae->Option R}{r:R}(h:uy C st D K=some r){N:Act->World->Prop}{Q:Exit->Act->World->Prop}
  (bL:∀ad az b7 w',K ad=some r->ag M J X az ad b7 w'->N ⟨b7,[]⟩ w'):D.wp P ⟨tm,[]⟩ w N Q:=by
 unfold uy at h;split at h
 ·rename_i t xs neg hn;cases Y:ca st D.dst with
  |false=>simp[Y] at h
  |true=>
   simp only[Y,cond_true] at h;obtain⟨h2,h1⟩:=Ti h;obtain⟨T,x,np,e,ty,bytes,al,aY,hx⟩:=Vo hn;have H:=cV S C T x;rw[hx] at H;have bt:=aD.tt T;rw[aY] at bt;have run:∀{a:Option Addr} {n c:Nat},Act.eval ⟨tm,[]⟩ x=.slice a n c->(execOp (Act.eval ⟨tm,[]⟩) D).run P w=.ok (.value (.bool (if neg then !a.isNone else a.isNone))) w:=by
    intro a n c ab;unfold execOp;have hc:Act.eval ⟨tm,[]⟩ (.const (.slice none 0 0))=.slice none 0 0:=rfl;simp only[al,ab,hc,Sem.run_bind,S7,U8 bt.1.1,Result.andThen_ok,Sem.run_pure]
   have fin:∀b:Bool,(execOp (Act.eval ⟨tm,[]⟩) D).run P w=.ok (.value (.bool b)) w->K (st.cS D.dst (one (.bool b)) [])=some r->D.wp P ⟨tm,[]⟩ w N Q:=by
    intro b hr ak;refine nN hr (bL _ _ _ _ ak (ag.cS (us:=[]) S Y ?_));exact Rd.bool b
   have H:Rd w (au X B st.sites) (.sl t xs) (Act.eval ⟨tm,[]⟩ x):=H;generalize iV:Act.eval ⟨tm,[]⟩ x=v at H;cases H with
   |nil=>
    have:=run iV;cases neg
    ·exact fin true this (h1 rfl)
    ·exact fin false this (h1 rfl)
   |sl t xs a cap cs n fv hcap hb hl hc hr=>
    have:=run iV;cases neg
    ·exact fin false this h2
    ·exact fin true this h2
 ·exact I9 S aD h bL
theorem WA(S:ag M J X B st tm w){D:Oper}{K:ae->Option R}{r:R}(h:rO st D K=some r){N:Act->World->Prop}
  (bL:∀ad az b7 w',K ad=some r->ag M J X az ad b7 w'->N ⟨b7,[]⟩ w'):N ((⟨tm,[]⟩:Act).put D.dst undef) w:=by
 unfold rO at h;cases Y:ca st D.dst with
 |false=>simp[Y] at h
 |true=>
  simp only[Y,cond_true] at h;have:(⟨tm,[]⟩:Act).put D.dst undef=⟨dl tm D.dst undef,[]⟩:=by cases D.dst<;>rfl
  rw[this];exact bL _ _ _ _ h (ag.cS (us:=[]) S Y rfl)
theorem oM{tm:Array Value}{dst:Option Nat}{v:Value}{t:Nat}(h:t∉dst.toList):(dl tm dst v).getD t undef=tm.getD t undef:=by
 cases dst with
 |none=>rfl
 |some d=>
  have:d≠t:=fun e=>h (by simp[e])
  simp[dl,Array.getD_eq_getD_getElem?,Array.getElem?_setIfInBounds_ne this]
variable {rn:Option Nat}{ds:List Deferred}
theorem B5(S:ag M J X B st tm w)(aD:bz P C){D:Oper}{K:ae->Option R}{r:R}(h:uy C st D K=some r){N:Act->World->Prop}{Q:Exit->Act->World->Prop}
  (bL:∀ad az b7 w',K ad=some r->ag M J X az ad b7 w'->(∀t,t∉D.dst.toList->b7.getD t undef=tm.getD t undef)->N ⟨b7,ds⟩ w'):D.wpIn (eS rn) 0 P ⟨tm,ds⟩ w N Q:=by
 refine Oper.wpIn_mono ?_ (uz (K:=fun a w=>a.defers=[]/\∃ad az,K ad=some r/\ag M J X az ad a.tmps w) (fun _ _ h=>h.1) (X2 S aD h fun ad az b7 w' ak bY=>⟨rfl,ad,az,ak,bY⟩) rn ds)
 rintro a w' ⟨v,rfl,_,ad,az,ak,bY⟩;exact bL ad az _ w' ak bY fun t aC=>oM aC
theorem tC(S:ag M J X B st tm w)(aD:bz P C){D:Oper}{K:ae->Option R}{r:R}(h:kz C st D K=some r){N:Act->World->Prop}{Q:Exit->Act->World->Prop}
  (bL:∀ad az b7 w',K ad=some r->ag M J X az ad b7 w'->(∀t,t∉D.dst.toList->b7.getD t undef=tm.getD t undef)->N ⟨b7,ds⟩ w'):D.wpIn (eS rn) 0 P ⟨tm,ds⟩ w N Q:=by
 refine Oper.wpIn_mono ?_ (uz (K:=fun a w=>a.defers=[]/\∃ad az,K ad=some r/\ag M J X az ad a.tmps w) (fun _ _ h=>h.1) (I9 S aD h fun ad az b7 w' ak bY=>⟨rfl,ad,az,ak,bY⟩) rn ds)
 rintro a w' ⟨v,rfl,_,ad,az,ak,bY⟩;exact bL ad az _ w' ak bY fun t aC=>oM aC
theorem wI(S:ag M J X B st tm w){D:Oper}{K:ae->Option R}{r:R}(h:rO st D K=some r){N:Act->World->Prop}
  (bL:∀ad az b7 w',K ad=some r->ag M J X az ad b7 w'->(∀t,t∉D.dst.toList->b7.getD t undef=tm.getD t undef)->N ⟨b7,ds⟩ w'):N ((⟨tm,ds⟩:Act).put D.dst undef) w:=by
 rw[tG];refine WA (N:=fun a w=>∀t0,a.tmps=t0->t0=dl tm D.dst undef->N ⟨t0,ds⟩ w) S h (fun ad az b7 w' ak bY t0 e1 e2=>?_) (dl tm D.dst undef) (by rw[tG]) rfl
 subst e1;exact bL ad az _ w' ak bY fun t aC=>by have e2:b7=dl tm D.dst undef:=e2;rw[e2];exact oM aC
theorem Un{D:Oper}{r:List Oper}{K:ae->Option R}{y:R}(h:mP C ops (D::r) st K=some y):tW C ops st D (fun ad=>mP C ops r ad K)=some y\/
  ∃gM o2 b' q,r=gM::o2::b'/\r6 C st D gM o2=some q/\Lb st o2 q (fun ad=>mP C ops b' ad K)=some y:=by
 match r,h with
 |[],h=>exact .inl h
 |[o2],h=>exact .inl h
 |gM::o2::b',h=>
  simp only[mP] at h;split at h
  ·rename_i q aA;exact .inr ⟨gM,o2,b',q,rfl,aA,h⟩
  ·exact .inl h
theorem WF(aD:bz P C){r:R}{W:List Nat}:∀(n k:Nat),ops.size=k+n->(∀D,D∈ops.toList.drop k->∀t,t∈D.dst.toList->t∈W)->∀(st:ae) (B:Nat->Value) (tm:Array Value) (w:World) (K:ae->Option R) (Q:Exit->Act->World->Prop),ag M J X B st tm w->
  mP C ops (ops.toList.drop k) st K=some r->(∀ad az b7 w',K ad=some r->ag M J X az ad b7 w'->(∀t,t∉W->b7.getD t undef=tm.getD t undef)->Q .normal ⟨b7,ds⟩ w')->wpOpsIn (eS rn) 0 P ops Q (List.range' k n) ⟨tm,ds⟩ w:=by
 intro n;induction n using Nat.strongRecOn with
 |ind n ih=>
 intro k ak ko st B tm w K Q S h bL;match n,ih,ak with
 |0,ih,ak=>
  rw[List.drop_eq_nil_of_le (by simp;omega)] at h
  exact bL st B tm w h S fun _ _=>rfl
 |n+1,ih,ak=>
  have bb:k<ops.size:=by omega
  have al:ops[k]? =some ops[k]:=Array.getElem?_eq_getElem bb;have ab4:ops.toList.drop k=ops[k]::ops.toList.drop (k+1):=by
   rw[List.drop_eq_getElem_cons (by simpa using bb)];simp
  rw[ab4] at h ko;rw[show List.range' k (n+1)=k::List.range' (k+1) n from rfl]
  simp only[wpOpsIn,al];rcases Un h with h|⟨gM,o2,b',q,qB,aA,h⟩
  rotate_left
  ·-- three at ajI
   have jJ:k+1<ops.size/\k+2<ops.size:=by
    have:=congrArg List.length qB;simp at this;omega
   have kT:ops[k+1]? =some (ops[k+1]'jJ.1):=Array.getElem?_eq_getElem jJ.1;have Rz:ops[k+2]? =some (ops[k+2]'jJ.2):=Array.getElem?_eq_getElem jJ.2;have aaz:ops.toList.drop (k+1)=(ops[k+1]'jJ.1)::(ops[k+2]'jJ.2)::ops.toList.drop (k+3):=by
    rw[List.drop_eq_getElem_cons (by simpa using jJ.1),List.drop_eq_getElem_cons (by simpa using jJ.2)];simp
   rw[aaz] at qB ko;obtain⟨e1,Ga⟩:=List.cons.inj qB;obtain⟨e2,ce⟩:=List.cons.inj Ga;subst e1 e2 ce;obtain⟨fC,rfl⟩:∃fC,n=fC+2:=⟨n-2,by omega⟩
   have AE:=ko _ List.mem_cons_self;have RN:=ko _ (List.mem_cons_of_mem _ List.mem_cons_self);have PA:=ko _ (List.mem_cons_of_mem _ (List.mem_cons_of_mem _ List.mem_cons_self));have vR:=fun D al=>ko D (List.mem_cons_of_mem _ (List.mem_cons_of_mem _ (List.mem_cons_of_mem _ al)))
   generalize(ops[k+1]'jJ.1)=gM at aA RN kT;generalize(ops[k+2]'jJ.2)=o2 at h aA PA Rz;generalize ops[k]=D at aA AE ⊢;obtain⟨_,_,_,_,_,_,_,_,_,gq,iy,_,po,_,_,_,_,_,_,_,_,lD,cE⟩:=BC aA;obtain⟨_,_,akh,agT,_,_⟩:=Ip lD;rw[if_pos (by simp[Region.wanted,iy])]
   obtain⟨x,hx,h⟩:=Option.bind_eq_some_iff.1 h;split at h
   ·rename_i u ys hu;obtain⟨y,an,h⟩:=Option.bind_eq_some_iff.1 h;unfold Ny at h;split at h
    ·rename_i d bS m7 h1 h2 aa;split at h
     ·rename_i dn ez;cases hb:(d.hM&&!bS.hJ&&ca st o2.dst) with
      |false=>rw[hb] at h;cases h
      |true=>
       rw[hb] at h;simp only[cond_true] at h;simp only[Bool.and_eq_true,Bool.not_eq_true'] at hb;obtain⟨⟨a7,aM⟩,b9⟩:=hb;refine Oper.wpIn_mono ?_ (uz (K:=fun a cf=>a.defers=[]/\cf=w/\ag M J X B (st.set q.d1 (b0 .any)) a.tmps w/\(∀t,t≠q.d1->a.tmps.getD t undef=tm.getD t undef)/\
        ∃e v0 b6 cX bD bM,p0 w (au X B st.sites) B q.o q.t q.xs q.k q.off x u ys e v0 (a.tmps.getD q.d1 undef) b6 cX bD bM) (fun _ _ h=>h.1) (Yv S aD aA hx hu fun dQ q1 q2 eg=>⟨rfl,rfl,q1,q2,eg⟩) rn ds)
       rintro a cf ⟨v,rfl,_,rfl,c9,kept,e,v0,b6,cX,bD,bM,N⟩;rw[show List.range' (k+1) (fC+2)=(k+1)::(k+2)::List.range' (k+3) fC from rfl]
       simp only[wpOpsIn,kT,Rz];rw[if_pos (by simp[Region.wanted,agT])]
       refine Oper.wpIn_mono ?_ (uz (K:=fun a w2=>a.defers=[]/\w2=cf/\ag M J X B (st.n1 q) a.tmps cf/\(∀t,t≠q.ek->a.tmps.getD t undef=(dl tm D.dst v).getD t undef)) (fun _ _ h=>h.1) (_c c9 lD fun dQ q1 q2=>⟨rfl,rfl,q1,q2⟩) rn ds)
       rintro a w2 ⟨lN,rfl,_,rfl,ahP,abR⟩;rw[if_pos (by simp[Region.wanted,po])]
       rw[<-abR q.d1 (fun e=>cE e.symm)] at N
       refine Oper.wpIn_mono ?_ (uz (K:=fun a cf=>a.defers=[]/\∃az,ag M J X az (((st.n1 q).cS o2.dst (one d) [(q.o,.deep q.s q.t (q.xs.set q.k dn))])) a.tmps cf) (fun _ _ h=>h.1)
        (Yu aD aA ahP hx hu N an h1 h2 aa ez a7 aM b9 fun az b7 w' bY=>⟨rfl,az,bY⟩) rn ds)
       rintro a hT ⟨v2,rfl,_,az,gv⟩;refine ih fC (by omega) (k+3) (by omega) vR _ az _ hT K Q gv h fun qo gn m8 qS iw jf kf=>bL qo gn m8 qS iw jf fun t qy=>?_
       rw[kf t qy,oM fun af=>qy (PA t af),oM fun af=>qy (RN t af)]
       exact oM fun af=>qy (AE t af)
     ·cases h
    ·cases h
   ·cases h
  have AE:=ko _ List.mem_cons_self;have vR:=fun D al=>ko D (List.mem_cons_of_mem _ al)
  have next:∀ad az b7 w',mP C ops (ops.toList.drop (k+1)) ad K=some r->ag M J X az ad b7 w'->(∀t,t∉(ops[k]).dst.toList->b7.getD t undef=tm.getD t undef)->wpOpsIn (eS rn) 0 P ops Q (List.range' (k+1) n) ⟨b7,ds⟩ w':=
   fun ad az b7 w' af bY aC=>ih n (by omega) (k+1) (by omega) vR ad az b7 w' K Q bY af fun qo gn m8 w2 iw gv kf=>bL qo gn m8 w2 iw gv fun t qy=>(kf t qy).trans (aC t fun af=>qy (AE t af))
  generalize ops[k]=D at h next ⊢
  have oC:∀f,D.about P w (Act.eval ⟨tm,ds⟩)=some f->(eS rn).fn f:=fun f _=>zE rn f
  unfold tW at h;cases aF:D.guard with
  |none=>
   simp only[aF] at h;rw[if_pos (by simp[Region.wanted,aF])]
   exact B5 S aD h next
  |some GX=>
   obtain⟨j,want⟩:=GX;simp only[aF] at h;have hw:Region.wanted D (yielded ops tm)=(yielded ops tm j==some want):=by simp[Region.wanted,aF]
   cases bv:(ops[j]?).bind (·.dst) with
   |none=>simp[bv] at h
   |some t=>
    simp only[bv] at h;have jl:=S.c4 t;split at h
    ·rename_i b hb;rw[hb] at jl;have ab:=jB jl;have an:yielded ops tm j=some b:=by
      have aC:t<tm.size:=by
       rcases Nat.lt_or_ge t tm.size with af|af
       ·exact af
       ·simp[Array.getD,Nat.not_lt.2 af,undef] at ab
      have:tm[t]? =some (.bool b):=by
       rw[Array.getElem?_eq_getElem aC];simpa[Array.getD,aC] using ab
      simp[yielded,bv,this]
     rw[an] at hw;have go:∀a',b=a'->ag M J X B (st.set t (one (.bool a'))) tm w:=fun a' e=>S.oT (by rw[ab,e];exact .bool _)
     cases b<;>cases want<;>simp only[cond_true,cond_false,Bool.not_true,Bool.not_false] at h
     ·rw[if_pos (by rw[hw];rfl)];exact B5 (go false rfl) aD h next
     ·rw[if_neg (by rw[hw];decide)];exact⟨oC,wI (go false rfl) h next⟩
     ·rw[if_neg (by rw[hw];decide)];exact⟨oC,wI (go true rfl) h next⟩
     ·rw[if_pos (by rw[hw];rfl)];exact B5 (go true rfl) aD h next
    ·rename_i x hb;rw[hb] at jl;have ab:tm.getD t undef=.tuple x:=jl;have an:yielded ops tm j=none:=by
      simp only[yielded,bv,Option.bind_some];cases aC:tm[t]? with
      |none=>rfl
      |some v=>
       have:tm.getD t undef=v:=by simp[Array.getD_eq_getD_getElem?,aC]
       rw[this] at ab;rw[ab]
     rw[an] at hw;rw[if_neg (by rw[hw];simp)]
     exact⟨oC,wI S h next⟩
    ·cases h
end
abbrev oE:=Nat⊕Nat
def gC(st:ae):oE->aL⊕Option Site
 |.inl t=>.inl (st.get t)
 |.inr o=>.inr (st.O o)
def nG{aJ:Type}:List (Nat×aJ)->Nat->Option aJ
 |[],_=>none
 |(k,v)::r,n=>match nG r n with
  |some x=>some x
  |none=>bif k.beq n then some v else none
def Rec.wr(x:Rec):oE->Option (aL⊕Option Site)
 |.inl t=>match x.D.dst with
  |some d=>bif d.beq t then some (.inl x.v) else none
  |none=>none
 |.inr o=>(nG x.us o).map fun s=>.inr (some s)
theorem Wn:∀(us:List (Nat×Site)) (st:ae) (o:Nat),(st.h4 us).O o=match nG us o with|some s=>some s|none=>st.O o:=by
 intro us;induction us with
 |nil=>intro st o;rfl
 |cons p us ih=>
  obtain⟨k,s⟩:=p;intro st o;simp only[ae.h4,ih,nG];cases nG us o with
  |some x=>rfl
  |none=>
   simp only[ae.k6];by_cases h:k=o
   ·subst h;simp
   ·simp[h,mf h]
theorem JJ:∀(us:List (Nat×Site)) (st:ae) (t:Nat),(st.h4 us).get t=st.get t:=by
 intro us;induction us with
 |nil=>intro st t;rfl
 |cons p us ih=>intro st t;simp only[ae.h4,ih,ae.UF]
theorem KH:∀(us:List (Nat×Site)) (st:ae),(st.h4 us).bl=st.bl:=by
 intro us;induction us with
 |nil=>intro st;rfl
 |cons p us ih=>intro st;simp only[ae.h4,ih,ae.Vn]
theorem Ec(st:ae)(d:Option Nat)(v:aL)(us:List (Nat×Site)):(st.cS d v us).bl=st.bl:=by
 cases d<;>simp only[ae.cS,ae.aaq,KH]
theorem w6(st:ae)(x:Rec)(l:oE):gC (st.cS x.D.dst x.v x.us) l=match x.wr l with|some u=>u|none=>gC st l:=by
 cases l with
 |inl t=>
  simp only[gC,Rec.wr];cases x.D.dst with
  |none=>simp only[ae.cS,JJ]
  |some d=>
   simp only[ae.cS,ae.Dm,JJ];by_cases h:d=t
   ·subst h;simp
   ·simp[h,mf h]
 |inr o=>
  simp only[gC,Rec.wr];have:(st.cS x.D.dst x.v x.us).O o=(st.h4 x.us).O o:=by cases x.D.dst<;>simp only[ae.cS,ae.X0]
  rw[this,Wn];cases nG x.us o<;>rfl
def ev(L:Nat->Bool):Nat->List Rec->ae->ae
 |_,[],st=>st
 |k,x::r,st=>ev L (k+1) r (bif L k then st.cS x.D.dst x.v x.us else st)
theorem Cq{L:Nat->Bool}:∀{xs:List Rec} {k:Nat} {st:ae},(ev L k xs st).bl=st.bl:=by
 intro xs;induction xs with
 |nil=>intro k st;rfl
 |cons x xs ih=>intro k st;simp only[ev,ih];cases L k<;>simp[Ec]
theorem Bq{L L':Nat->Bool}:∀{xs:List Rec} {k:Nat} {st ad:ae} {l:oE},gC st l=gC ad l->(∀j x,xs[j]? =some x->x.wr l≠none->L (k+j)=L' (k+j))->gC (ev L k xs st) l=gC (ev L' k xs ad) l:=by
 intro xs;induction xs with
 |nil=>intro k st ad l h _;exact h
 |cons x xs ih=>
  intro k st ad l h dd;simp only[ev];refine ih ?_ fun j y an hw=>?_
  ·cases hw:x.wr l with
   |none=>
    have e1:∀s:ae,gC (s.cS x.D.dst x.v x.us) l=gC s l:=fun s=>by rw[w6,hw]
    cases L k<;>cases L' k<;>simp only[cond_true,cond_false,e1,h]
   |some u=>
    have:=dd 0 x rfl (by rw[hw];intro h;cases h)
    simp only[Nat.add_zero] at this;rw[this];cases L' k with
    |true=>simp only[cond_true,w6,hw]
    |false=>simp only[cond_false,h]
  ·have:=dd (j+1) y (by simpa using an) hw
   rw[show k+(j+1)=k+1+j from by omega] at this
   exact this
theorem Br{xs:List Rec}:∀{k:Nat} {st:ae} {L:Nat->Bool},(∀j,k<=j->L j=false)->ev L k xs st=st:=by
 induction xs with
 |nil=>intro k st L _;rfl
 |cons x xs ih=>
  intro k st L h;simp only[ev,h k (Nat.le_refl _),cond_false];exact ih fun j bv=>h j (by omega)
theorem H6{L L':Nat->Bool}:∀{xs:List Rec} {k k':Nat} {st:ae},(∀j,j<xs.length->L (k+j)=L' (k'+j))->ev L k xs st=ev L' k' xs st:=by
 intro xs;induction xs with
 |nil=>intro k k' st _;rfl
 |cons x xs ih=>
  intro k k' st h;simp only[ev];have a8:=h 0 (by simp)
  simp only[Nat.add_zero] at a8;rw[a8];exact ih fun j bv=>by have:=h (j+1) (by simpa using bv);rw[show k+(j+1)=k+1+j from by omega,show k'+(j+1)=k'+1+j from by omega] at this;exact this
theorem V0{L:Nat->Bool}:∀{xs:List Rec} {k i:Nat} {st:ae} {l:oE} {x:Rec} {u:aL⊕Option Site},xs[i]? =some x->L (k+i)=true->x.wr l=some u->
  (∀j y,i<j->xs[j]? =some y->y.wr l≠none->L (k+j)=false)->gC (ev L k xs st) l=u:=by
 intro xs;induction xs with
 |nil=>intro k i st l x u h;cases h
 |cons y xs ih=>
  intro k i st l x u h dd hw bv;simp only[ev];cases i with
  |zero=>
   simp only[List.getElem?_cons_zero,Option.some.injEq] at h;subst h;simp only[Nat.add_zero] at dd;rw[dd];simp only[cond_true];have e:gC (st.cS y.D.dst y.v y.us) l=u:=by rw[w6,hw]
   rw[<-e];have e2:st.cS y.D.dst y.v y.us=ev (fun _=>false) (k+1) xs (st.cS y.D.dst y.v y.us):=(Br fun _ _=>rfl).symm
   conv=>rhs;rw[e2]
   refine Bq rfl fun j z aK F3=>?_
   have:=bv (j+1) z (by omega) (by simpa using aK) F3
   rw[show k+(j+1)=k+1+j from by omega] at this
   exact this
  |succ i=>
   refine ih (by simpa using h) (by rw[show k+1+i=k+(i+1) from by omega];exact dd) hw fun j z pn aK F3=>?_
   have:=bv (j+1) z (by omega) (by simpa using aK) F3
   rw[show k+(j+1)=k+1+j from by omega] at this
   exact this
section
variable {P:Program}{ops:Array Oper}
def Aa(ops:Array Oper)(L:Nat->Bool)(i:Nat):Prop:=∀D,ops[i]? =some D->∀e,e∈D.after.toList->Region.binds .any e=true->L e.on=true
def zj(ops:Array Oper)(L:Nat->Bool):Prop:=∀j,L j=true->Aa ops L j
def ta(ops:Array Oper)(k i:Nat):Prop:=∀L,zj ops L->Aa ops L i->L k=true
theorem Li{aJ:Type}{l:List (Nat×aJ)}{n:Nat}{v:aJ}(h:look l n=some v):(n,v)∈l:=by
 induction l with
 |nil=>cases h
 |cons p l ih=>
  obtain⟨m,u⟩:=p;simp only[look] at h;cases hb:m.beq n with
  |true=>
   simp only[hb,cond_true,Option.some.injEq] at h;rw[<-Nat.eq_of_beq_eq_true hb,h];exact List.mem_cons_self
  |false=>simp only[hb,cond_false] at h;exact List.mem_cons_of_mem _ (ih h)
theorem Y8{cH:List (Nat×Nat)}(bm:∀k b,(k,b)∈cH->∀m,Nat.testBit b m=true->ta ops m k){i:Nat}:∀{es:List Edge} {m:Nat},Nat.testBit (kG cH es) m=true->∀L,zj ops L->
  (∀e,e∈es->Region.binds .any e=true->L e.on=true)->L m=true:=by
 intro es;induction es with
 |nil=>intro m h;simp[kG] at h
 |cons e es ih=>
  intro m h L hc hf;simp only[kG] at h;cases hb:Region.binds .any e with
  |false=>
   simp only[hb,cond_false] at h;exact ih h L hc fun bK kX=>hf bK (List.mem_cons_of_mem _ kX)
  |true=>
   simp only[hb,cond_true] at h;have a8:=hf e List.mem_cons_self hb;split at h
   ·rename_i x hx;have h:Nat.testBit (2^e.on ||| (x ||| kG cH es)) m=true:=h;rw[Nat.testBit_or,Nat.testBit_or,Nat.testBit_two_pow] at h;simp only[Bool.or_eq_true,decide_eq_true_eq] at h;rcases h with h|h|h
    ·subst h;exact a8
    ·have hm:(e.on,x)∈cH:=Li hx;exact bm _ _ hm m h L hc (hc _ a8)
    ·exact ih h L hc fun bK kX=>hf bK (List.mem_cons_of_mem _ kX)
   ·exact ih h L hc fun bK kX=>hf bK (List.mem_cons_of_mem _ kX)
structure sn(C:Ctx)(ops:Array Oper)(st:ae)(D:Oper)(x:Rec):Prop where
 g_:x.D=D
 guard:∀j want,D.guard=some (j,want)->∃t,(ops[j]?).bind (·.dst)=some t/\t∈x.kZ/\((∃b,st.get t=one (.bool b)/\(x.go=(b==want)))\/((∃u,st.get t=b0 (.cL (.tuple u)))/\x.go=false))
 free:D.guard=none->x.go=true
 skip:x.go=false->x.v=yu/\x.us=[]
 run:x.go=true->∃y,(step C st D).comp=some y/\(step C st D).qL y=true/\x.v=(step C st D).val y/\x.us=(step C st D).us y/\(∀t,t∈oN (ll D.op)->t∈x.kZ)/\(∀o,o∈Ev C st D->o∈x.rn)/\(yT D.op=true->x.AK=true)
inductive k1(C:Ctx)(ops:Array Oper):List Oper->Nat->List (Nat×Rec)->List (Nat×Nat)->ae->List Rec->ae->Prop where
 |nil {i cH bs st}:k1 C ops [] i cH bs st [] st
 |cons {D r i cH bs st x xs ad} (Y:ca st D.dst=true) (he:rC i D.after.toList=true) (hx:sn C ops st D x) (ak:rR (kG bs D.after.toList) x cH=true)
   (h:k1 C ops r (i+1) ((i,x)::cH) ((i,kG bs D.after.toList)::bs) (st.cS D.dst x.v x.us) xs ad):k1 C ops (D::r) i cH bs st (x::xs) ad
theorem Xd{R:Type}{g:Bool}{v:aL}{K:aL->Option R}{r:R}(h:EX g v K=some r):K v=some r:=by
 unfold EX at h;cases g with
 |false=>exact h
 |true=>
  simp only[cond_true] at h;split at h
  ·rename_i b;cases b<;>exact h
  ·exact h
theorem UI{R:Type}{C:Ctx}{g:Bool}{st:ae}{D:Oper}{K:Rec->Option R}{r:R}(h:Ea C ops g st D K=some r):∃x,sn C ops st D x/\K x=some r:=by
 have run:∀gs,yn C g st D gs K=some r->(∀j want,D.guard=some (j,want)->∃t,(ops[j]?).bind (·.dst)=some t/\t∈gs/\∃b,st.get t=one (.bool b)/\(b==want)=true)->∃x,sn C ops st D x/\K x=some r:=by
  intro gs h aF;unfold yn at h;obtain⟨y,an,h⟩:=Option.bind_eq_some_iff.1 h;cases hc:(step C st D).qL y with
  |false=>simp[hc] at h
  |true=>
   simp only[hc,cond_true] at h;refine⟨_,⟨rfl,fun j want bv=>?_,fun _=>rfl,fun h=>(by cases h),fun _=>⟨y,an,hc,rfl,rfl,fun t aC=>List.mem_append.2 (.inr aC),fun _ h=>h,fun h=>h⟩⟩,Xd h⟩
   obtain⟨t,h1,h2,b,aa,aN⟩:=aF j want bv;exact⟨t,h1,List.mem_append.2 (.inl h2),.inl ⟨b,aa,aN.symm⟩⟩
 have skip:∀gs,Co D gs K=some r->(∃j want,D.guard=some (j,want)/\∃t,(ops[j]?).bind (·.dst)=some t/\t∈gs/\((∃b,st.get t=one (.bool b)/\(b==want)=false)\/∃u,st.get t=b0 (.cL (.tuple u))))->∃x,sn C ops st D x/\K x=some r:=by
  intro gs h aF;obtain⟨j,want,bv,t,h1,h2,aa⟩:=aF;refine⟨_,⟨rfl,fun SL ajv i'=>?_,fun h=>(by rw[bv] at h;cases h),fun _=>⟨rfl,rfl⟩,fun h=>(by cases h)⟩,h⟩
  rw[bv] at i';cases i';refine⟨t,h1,h2,?_⟩;rcases aa with⟨b,aa,aN⟩|aa
  ·exact .inl ⟨b,aa,aN.symm⟩
  ·exact .inr ⟨aa,rfl⟩
 unfold Ea at h;split at h
 ·rename_i aF;exact run [] h fun j want bv=>by rw[aF] at bv;cases bv
 ·rename_i j want aF;split at h
  ·rename_i t aC;split at h
   ·rename_i b hb;cases b<;>cases want<;>simp only[cond_true,cond_false,Bool.not_true,Bool.not_false] at h
    ·exact run [t] h fun SL w' i'=>by rw[aF] at i';cases i';exact⟨t,aC,List.mem_singleton.2 rfl,false,hb,rfl⟩
    ·exact skip [t] h ⟨j,true,aF,t,aC,List.mem_singleton.2 rfl,.inl ⟨false,hb,rfl⟩⟩
    ·exact skip [t] h ⟨j,false,aF,t,aC,List.mem_singleton.2 rfl,.inl ⟨true,hb,rfl⟩⟩
    ·exact run [t] h fun SL w' i'=>by rw[aF] at i';cases i';exact⟨t,aC,List.mem_singleton.2 rfl,true,hb,rfl⟩
   ·rename_i u hu;exact skip [t] h ⟨j,want,aF,t,aC,List.mem_singleton.2 rfl,.inr ⟨u,hu⟩⟩
   ·cases h
  ·cases h
theorem Xr{R:Type}{C:Ctx}{K:ae->Option R}{r:R}:∀{os:List Oper} {i:Nat} {cH:List (Nat×Rec)} {bs:List (Nat×Nat)} {st:ae},ze C ops os i cH bs st K=some r->∃xs ad,k1 C ops os i cH bs st xs ad/\K ad=some r:=by
 intro os;induction os with
 |nil=>intro i cH bs st h;exact⟨[],st,.nil,h⟩
 |cons D os ih=>
  intro i cH bs st h;simp only[ze] at h;cases Y:ca st D.dst&&rC i D.after.toList with
  |false=>simp[Y] at h
  |true=>
   simp only[Y,cond_true] at h;obtain⟨x,hx,h⟩:=UI h;cases ak:rR (kG bs D.after.toList) x cH with
   |false=>simp[ak] at h
   |true=>
    simp only[ak,cond_true] at h;obtain⟨xs,ad,h1,h2⟩:=ih h;simp only[Bool.and_eq_true] at Y;exact⟨x::xs,ad,.cons Y.1 Y.2 hx ak h1,h2⟩
theorem k1.length{C:Ctx}{os:List Oper}{i:Nat}{cH:List (Nat×Rec)}{bs:List (Nat×Nat)}{st ad:ae}{xs:List Rec}(h:k1 C ops os i cH bs st xs ad):xs.length=os.length:=by
 induction h with
 |nil=>rfl
 |cons _ _ _ _ _ ih=>simp[ih]
theorem k1.ad2{C:Ctx}{os:List Oper}{i:Nat}{cH:List (Nat×Rec)}{bs:List (Nat×Nat)}{st ad:ae}{xs:List Rec}(h:k1 C ops os i cH bs st xs ad):∀k,ev (fun _=>true) k xs st=ad:=by
 induction h with
 |nil=>intro k;rfl
 |cons _ _ hx _ _ ih=>intro k;simp only[ev,cond_true,hx.g_];exact ih _
theorem k1.at_{C:Ctx}{os:List Oper}{i:Nat}{cH:List (Nat×Rec)}{bs:List (Nat×Nat)}{st ad:ae}{xs:List Rec}(h:k1 C ops os i cH bs st xs ad):∀j x,xs[j]? =some x->
  ∃D,os[j]? =some D/\ca st D.dst=true/\rC (i+j) D.after.toList=true/\sn C ops (ev (fun k=>decide (k<j)) 0 xs st) D x:=by
 induction h with
 |nil=>intro j x h;cases h
 |@cons D r i cH bs st x xs ad Y he hx ak h ih=>
  intro j y an;cases j with
  |zero=>
   simp only[List.getElem?_cons_zero,Option.some.injEq] at an;subst an;refine⟨D,rfl,Y,he,?_⟩;rw[Br fun j _=>by simp[Nat.blt]]
   exact hx
  |succ j=>
   obtain⟨cW,h1,h2,aa,aN⟩:=ih j y (by simpa using an)
   refine⟨cW,by simpa using h1,?_,by rw[show i+(j+1)=i+1+j from by omega];exact aa,?_⟩
   ·revert h2;cases cW.dst<;>simp[ca,Ec]
   ·simp only[ev];have gP:decide (0<j+1)=true:=by simp
    rw[gP,cond_true,hx.g_];rw[H6 (L':=fun k=>decide (k<j)) (k':=0) fun m _=>by simp only[decide_eq_decide];omega]
    exact aN
theorem W7{n:Nat}{l:List Nat}:fX n l=true <-> n∈l:=by
 induction l with
 |nil=>simp[fX]
 |cons m l ih=>
  simp only[fX,Bool.or_eq_true,ih,List.mem_cons];constructor
  ·rintro(h|h)
   ·exact .inl (Nat.eq_of_beq_eq_true h)
   ·exact .inr h
  ·rintro(h|h)
   ·exact .inl (by rw[h];exact Nat.beq_refl m)
   ·exact .inr h
theorem Vm{vU:Nat}{x:Rec}:∀{cH:List (Nat×Rec)},rR vU x cH=true->∀k y,(k,y)∈cH->Nat.testBit vU k=true\/l' y x=false:=by
 intro cH;induction cH with
 |nil=>intro _ k y h;cases h
 |cons p cH ih=>
  obtain⟨j,z⟩:=p;intro h k y hm;simp only[rR,Bool.and_eq_true,Bool.or_eq_true] at h;rcases List.mem_cons.1 hm with hm|hm
  ·cases hm;rcases h.1 with h1|h1
   ·exact .inl h1
   ·exact .inr (by simpa using h1)
  ·exact ih h.2 k y hm
theorem k1.afO{C:Ctx}{os:List Oper}{i:Nat}{cH:List (Nat×Rec)}{bs:List (Nat×Nat)}{st ad:ae}{xs:List Rec}(h:k1 C ops os i cH bs st xs ad):∀(pre:List Rec),pre.length=i->(∀j,ops[i+j]? =os[j]?)->
  (∀k y,pre[k]? =some y->(k,y)∈cH)->(∀k b,(k,b)∈bs->∀m,Nat.testBit b m=true->ta ops m k)->∀j x,xs[j]? =some x->∀k y,k<i+j->(pre++xs)[k]? =some y->ta ops k (i+j)\/l' y x=false:=by
 induction h with
 |nil=>intro pre _ _ _ _ j x h;cases h
 |@cons D r i cH bs st x xs ad Y he hx ak h ih=>
  intro pre hlen Pp Po Pz j y an k z agL aK;have Px:∀m,Nat.testBit (kG bs D.after.toList) m=true->ta ops m i:=fun m hm L hc hf=>by
   refine Y8 Pz (i:=i) hm L hc fun e he hb=>hf D ?_ e he hb
   have:=Pp 0;simpa using this
  cases j with
  |zero=>
   simp only[List.getElem?_cons_zero,Option.some.injEq] at an;subst an;simp only[Nat.add_zero] at agL ⊢;rw[List.getElem?_append_left (by omega)] at aK
   rcases Vm ak k z (Po k z aK) with h1|h1
   ·exact .inl (Px k h1)
   ·exact .inr h1
  |succ j=>
   have:=ih (pre++[x]) (by simp[hlen]) (fun j=>by have:=Pp (j+1);rw[show i+1+j=i+(j+1) from by omega];simpa using this)
    (fun k y an=>?_) (fun k b hm m RA=>?_) j y (by simpa using an) k z (by omega) (by simpa using aK)
   ·rw[show i+(j+1)=i+1+j from by omega];exact this
   ·rcases Nat.lt_or_ge k pre.length with af|af
    ·rw[List.getElem?_append_left af] at an;exact List.mem_cons_of_mem _ (Po k y an)
    ·rw[List.getElem?_append_right af] at an;have a8:k-pre.length=0:=by
      rcases Nat.eq_zero_or_pos (k-pre.length) with a8|a8
      ·exact a8
      ·rw[List.getElem?_eq_none (by simp;omega)] at an;cases an
     rw[a8] at an;simp only[List.getElem?_cons_zero,Option.some.injEq] at an;subst an;have:k=i:=by omega
     subst this;exact List.mem_cons_self
   ·rcases List.mem_cons.1 hm with hm|hm
    ·cases hm;exact Px m RA
    ·exact Pz k b hm m RA
end
section
variable {P:Program}{M:World}{J:List Nat}{X:Nat->Prop}{B:Nat->Value}{st ad:ae}{tm:Array Value}{w:World}
theorem ag.same(S:ag M J X B st tm w)(ab:∀l,gC st l=gC ad l)(hn:st.bl=ad.bl):ag M J X B ad tm w:=by
 have H:∀o,look st.sites o=look ad.sites o:=fun o=>by have:=ab (.inr o);simpa[gC,ae.O] using this
 have aF:∀t,st.get t=ad.get t:=fun t=>by have:=ab (.inl t);simpa[gC] using this
 have hl:∀o,bT st.sites o <-> bT ad.sites o:=fun o=>by unfold bT;rw[H]
 have bm:au X B ad.sites=au X B st.sites:=by
  funext b
  unfold au;simp only[hl]
 have bN:ht B B st.sites ad.sites w w (au X B st.sites) (au X B ad.sites):=by
  rw[bm];exact⟨fun o O h=>⟨O,by rw[<-H];exact h,Nat.le_refl _,fun _=>rfl⟩,fun _ _ _=>rfl,fun _ h _=>h⟩
 have bb:∀b,au X B ad.sites b->b<w.heap.size:=fun b hb=>S.lt (by rw[<-bm];exact hb)
 refine⟨S.bl.trans hn,fun t=>?_,fun o O h=>?_,fun o F b h1 h2=>S.dp o F b ((hl o).2 h1) ((hl F).2 h2),fun o b h=>S.ci o b ((hl o).2 h),S.frame,S.old,S.fY⟩
 ·rw[<-aF];exact(S.c4 t).goes bN (Nat.le_refl _) bb
 ·exact(S.sites o O (by rw[H];exact h)).goes bN (Nat.le_refl _) bb rfl (fun _ _ _=>rfl)
theorem ag.drawn(S:ag M J X B st tm w)(n:Nat):ag M J X B st tm {w with drawn:=n}:=by
 have bN:ht B B st.sites st.sites w {w with drawn:=n} (au X B st.sites) (au X B st.sites):=
  ⟨fun o O h=>⟨O,h,Nat.le_refl _,fun _=>rfl⟩,fun _ _ _=>rfl,fun _ h _=>h⟩
 refine⟨S.bl,fun t=>(S.c4 t).goes bN (Nat.le_refl _) fun b hb=>S.lt hb,fun o O h=>(S.sites o O h).goes bN (Nat.le_refl _) (fun b hb=>S.lt hb) rfl (fun _ _ _=>rfl),S.dp,S.ci,⟨S.frame.os,S.frame.tape,S.frame.output,S.frame.size,S.frame.block⟩,S.old,S.fY⟩
theorem Tq{aJ:Type}:∀{us:List (Nat×aJ)} {o:Nat} {s:aJ},nG us o=some s->o∈keys us:=by
 intro us;induction us with
 |nil=>intro o s h;cases h
 |cons p us ih=>
  obtain⟨k,v⟩:=p;intro o s h;simp only[nG] at h;split at h
  ·rename_i x hx;exact List.mem_cons_of_mem _ (ih hx)
  ·cases hb:k.beq o with
   |true=>rw[<-Nat.eq_of_beq_eq_true hb];exact List.mem_cons_self
   |false=>simp[hb] at h
theorem BD{n:Nat}{l:List Nat}:fX n l=true <-> n∈l:=W7
theorem rj{l m:List Nat}{n:Nat}(h1:n∈l)(h2:n∈m):fq l m=false:=by
 induction l with
 |nil=>cases h1
 |cons k l ih=>
  simp only[fq];rcases List.mem_cons.1 h1 with rfl|h1
  ·rw[BD.2 h2];rfl
  ·rw[ih h1,Bool.and_false]
theorem IB{l:List Nat}{n:Nat}(h1:n∈l)(h2:1000000<=n):un l=true:=by
 induction l with
 |nil=>cases h1
 |cons k l ih=>
  simp only[un,Bool.or_eq_true];rcases List.mem_cons.1 h1 with rfl|h1
  ·exact .inl (Nat.ble_eq_true_of_le h2)
  ·exact .inr (ih h1)
def Rec.at_(x:Rec):oE->Prop
 |.inl t=>t∈x.kZ
 |.inr o=>o∈x.rn\/(x.AK=true/\1000000<=o)
theorem yt{x:Rec}{t:Nat}(h:x.wr (.inl t)≠none):x.D.dst=some t:=by
 simp only[Rec.wr] at h;split at h
 ·rename_i d Y;cases hb:d.beq t with
  |true=>rw[Y,Nat.eq_of_beq_eq_true hb]
  |false=>simp[hb] at h
 ·exact absurd rfl h
theorem yr{x:Rec}{o:Nat}(h:x.wr (.inr o)≠none):o∈keys x.us:=by
 simp only[Rec.wr] at h;cases hl:nG x.us o with
 |none=>simp[hl] at h
 |some s=>exact Tq hl
theorem _l{a b:Rec}{l:oE}(h1:a.wr l≠none)(h2:b.at_ l):l' a b=true:=by
 unfold l';cases l with
 |inl t=>
  have:=yt h1;have h2:t∈b.kZ:=h2;simp[this,sr,BD.2 h2]
 |inr o=>
  have:=yr h1;rcases h2 with h2|⟨h2,aa⟩
  ·have:fq (keys a.us) (b.rn++keys b.us)=false:=rj this (List.mem_append.2 (.inl h2));simp[this]
  ·have:=IB this aa;simp[this,h2]
theorem _m{a b:Rec}{l:oE}(h1:a.at_ l)(h2:b.wr l≠none):l' a b=true:=by
 unfold l';cases l with
 |inl t=>
  have:=yt h2;have h1:t∈a.kZ:=h1;simp[this,sr,BD.2 h1]
 |inr o=>
  have:=yr h2;rcases h1 with h2|⟨h2,aa⟩
  ·have:fq (keys b.us) a.rn=false:=rj this h2;simp[this]
  ·have:=IB this aa;simp[this,h2]
theorem _k{a b:Rec}{l:oE}(h1:a.wr l≠none)(h2:b.wr l≠none):l' a b=true:=by
 unfold l';cases l with
 |inl t=>
  have e1:=yt h1;have e2:=yt h2;simp[e1,e2,sr,fX]
 |inr o=>
  have e1:=yr h1;have e2:=yr h2;have:fq (keys a.us) (b.rn++keys b.us)=false:=rj e1 (List.mem_append.2 (.inr e2));simp[this]
variable {C:Ctx}{ops:Array Oper}{rn:Option Nat}{ds:List Deferred}
def n9(L:Nat->Bool)(i:Nat):Nat->Bool:=fun j=>L j||decide (j=i)
theorem Xq(aD:bz P C){xs:List Rec}{br:ae}{i:Nat}{D:Oper}{x:Rec}(hx:xs[i]? =some x)(Y:ca br D.dst=true)(hr:sn C ops (ev (fun k=>decide (k<i)) 0 xs br) D x)
  (l_:∀j y,xs[j]? =some y->∀k z,k<j->xs[k]? =some z->ta ops k j\/l' z y=false) {L:Nat->Bool} (hc:zj ops L) (am:L i=false) (hf:Aa ops L i) (agC:ops[i]? =some D)
  (S:ag M J X B (ev L 0 xs br) tm w) {Q:Exit->Act->World->Prop} {K:Act->World->Prop} (bL:∀az b7 w',ag M J X az (ev (n9 L i) 0 xs br) b7 w'->(∀t,t∉D.dst.toList->b7.getD t undef=tm.getD t undef)->K ⟨b7,ds⟩ w'):wpOpIn (eS rn) 0 P ops Q i K ⟨tm,ds⟩ w:=by
 have FS:∀l,x.at_ l->gC (ev (fun k=>decide (k<i)) 0 xs br) l=gC (ev L 0 xs br) l:=fun l hl=>by
  refine(Bq rfl fun j y an hw=>?_).symm
  simp only[Nat.zero_add];rcases Nat.lt_trichotomy j i with h|h|h
  ·rcases l_ i x hx j y h an with h1|h1
   ·rw[h1 L hc hf];simp[h]
   ·rw[_l hw hl] at h1;cases h1
  ·subst h;rw[am];simp
  ·have:L j=false:=by
    cases qI:L j with
    |false=>rfl
    |true=>
     rcases l_ j y an i x h hx with h1|h1
     ·have:=h1 L hc (hc j qI);rw[am] at this;cases this
     ·rw[_m hl hw] at h1;cases h1
   rw[this];simp;omega
 have N8:∀t,t∈x.kZ->(ev (fun k=>decide (k<i)) 0 xs br).get t=(ev L 0 xs br).get t:=fun t aC=>by
  have:=FS (.inl t) aC;simpa[gC] using this
 have zp:∀l,gC ((ev L 0 xs br).cS x.D.dst x.v x.us) l=gC (ev (n9 L i) 0 xs br) l:=fun l=>by
  rw[w6];cases hw:x.wr l with
  |none=>
   simp only;refine Bq rfl fun j y an F4=>?_
   simp only[Nat.zero_add,n9];by_cases h:j=i
   ·subst h;rw[hx] at an;cases an;exact absurd hw F4
   ·simp[h]
  |some u=>
   simp only;refine(V0 hx (by simp[n9]) hw fun j y pn an F4=>?_).symm
   simp only[Nat.zero_add,n9];have:L j=false:=by
    cases qI:L j with
    |false=>rfl
    |true=>
     rcases l_ j y an i x pn hx with h1|h1
     ·have:=h1 L hc (hc j qI);rw[am] at this;cases this
     ·rw[_k (by rw[hw];intro h;cases h) F4] at h1;cases h1
   rw[this];simp;omega
 have RL:ca (ev L 0 xs br) D.dst=true:=by revert Y;cases D.dst<;>simp[ca,Cq]
 have fin:∀az b7 w',ag M J X az ((ev L 0 xs br).cS x.D.dst x.v x.us) b7 w'->(∀t,t∉D.dst.toList->b7.getD t undef=tm.getD t undef)->K ⟨b7,ds⟩ w':=fun az b7 w' bY=>bL az b7 w' (bY.same zp (by rw[Ec,Cq,Cq]))
 unfold wpOpIn;rw[agC];simp only;have zr:Region.wanted D (yielded ops tm)=x.go:=by
  cases aF:D.guard with
  |none=>rw[hr.free aF];simp[Region.wanted,aF]
  |some GX=>
   obtain⟨j,want⟩:=GX;obtain⟨t,h1,h2,aa⟩:=hr.guard j want aF;rw[show Region.wanted D (yielded ops tm)=(yielded ops tm j==some want) by simp[Region.wanted,aF]]
   have jl:=S.c4 t;rw[<-N8 t h2] at jl;rcases aa with⟨b,aa,aN⟩|⟨⟨u,aa⟩,aN⟩
   ·rw[aa] at jl;have ab:=jB jl;have an:yielded ops tm j=some b:=by
     have aC:t<tm.size:=by
      rcases Nat.lt_or_ge t tm.size with af|af
      ·exact af
      ·simp[Array.getD,Nat.not_lt.2 af,undef] at ab
     have:tm[t]? =some (.bool b):=by
      rw[Array.getElem?_eq_getElem aC];simpa[Array.getD,aC] using ab
     simp[yielded,h1,this]
    rw[an,aN];cases b<;>cases want<;>rfl
   ·rw[aa] at jl;have ab:tm.getD t undef=.tuple u:=jl;have an:yielded ops tm j=none:=by
     simp only[yielded,h1,Option.bind_some];cases aC:tm[t]? with
     |none=>rfl
     |some v=>
      have:tm.getD t undef=v:=by simp[Array.getD_eq_getD_getElem?,aC]
      rw[this] at ab;rw[ab]
    rw[an,aN];rfl
 cases sY:x.go with
 |false=>
  rw[sY] at zr;rw[if_neg (by rw[zr];decide)]
  obtain⟨e1,e2⟩:=hr.skip sY;refine⟨fun f _=>zE rn f,wI (R:=ae) (r:=(ev L 0 xs br).cS D.dst yu []) S (K:=some) (by simp[rO,RL]) fun eD gp dQ cf h1 c9=>?_⟩
  cases h1;refine fin gp dQ cf ?_
  rw[hr.g_,e1,e2];exact c9
 |true=>
  rw[sY] at zr;rw[if_pos zr];obtain⟨y,g1,g2,g3,g4,g5,g6,g7⟩:=hr.run sY;have dB:step C (ev (fun k=>decide (k<i)) 0 xs br) D=step C (ev L 0 xs br) D:=by
   refine U4 (fun t aC=>N8 t (g5 t aC)) (fun o be=>?_) fun ab5 o be=>?_
   ·have:=FS (.inr o) (.inl (g6 o be));simpa[gC] using this
   ·have:=FS (.inr o) (.inr ⟨g7 ab5,be⟩);simpa[gC] using this
  revert y
  rw[dB];intro y g1 g2 g3 g4;refine tC (R:=ae) (r:=(ev L 0 xs br).cS D.dst x.v x.us) S aD (K:=some) ?_ fun eD gp dQ cf h1 c9=>?_
  ·unfold kz;rw[RL,cond_true,g1];simp only[Option.bind_some,g2,cond_true,g3,g4]
  ·cases h1;refine fin gp dQ cf ?_
   rw[hr.g_];exact c9
def vd(listed:Array Bool):Nat:=listed.toList.count false
def gS(listed:Array Bool):Nat->Bool:=fun j=>listed.getD j false
theorem Zi{listed:Array Bool}{i:Nat}(h:listed.getD i true=false):vd (listed.setIfInBounds i true)+1=vd listed:=by
 unfold vd;have bb:i<listed.size:=by
  rcases Nat.lt_or_ge i listed.size with af|af
  ·exact af
  ·simp[Array.getD,Nat.not_lt.2 af] at h
 have ab:listed.toList[i]'(by simpa using bb)=false:=by simpa[Array.getD,bb] using h
 rw[Array.toList_setIfInBounds,List.count_set (by simpa using bb)]
 rw[ab];have:0<listed.toList.count false:=List.count_pos_iff.2 (by rw[<-ab];exact List.getElem_mem _)
 have e1:(if(false==false)=true then 1 else 0)=1:=rfl
 have e2:(if(true==false)=true then 1 else 0)=0:=rfl
 rw[e1,e2];omega
theorem Jv{D:Oper}{t:Nat}:∀{l:List Oper},D∈l->t∈D.dst.toList->t∈nU l:=by
 intro l;induction l with
 |nil=>intro h;cases h
 |cons p l ih=>
  intro h aC;simp only[nU,List.mem_append];rcases List.mem_cons.1 h with rfl|h
  ·exact .inl aC
  ·exact .inr (ih h aC)
theorem YX(aD:bz P C){br Aj:ae}{xs:List Rec}(aY:k1 C ops ops.toList 0 [] [] br xs Aj){Q:Exit->Act->World->Prop}{eM:Array Value}(AS:∀B tm w,ag M J X B Aj tm w->(∀t,t∉nU ops.toList->tm.getD t undef=eM.getD t undef)->Q .normal ⟨tm,ds⟩ w):
  ∀(pb:Nat) (listed:Array Bool) (B:Nat->Value) (tm:Array Value) (w:World),listed.size=ops.size->vd listed<=pb->zj ops (gS listed)->ag M J X B (ev (gS listed) 0 xs br) tm w->
   (∀t,t∉nU ops.toList->tm.getD t undef=eM.getD t undef)->wpAnyIn (eS rn) 0 P .any ops Q pb listed ⟨tm,ds⟩ w:=by
 have hlen:xs.length=ops.size:=by rw[aY.length];simp
 have l_:∀j y,xs[j]? =some y->∀k z,k<j->xs[k]? =some z->ta ops k j\/l' z y=false:=fun j y an k z ak aK=>by
  have:=aY.afO [] rfl (fun j=>by simp) (fun k y h=>by simp at h) (fun k b h=>by simp at h) j y an k z (by omega) (by simpa using aK)
  simpa using this
 have all:∀listed:Array Bool,listed.size=ops.size->(∀j,j<ops.size->gS listed j=true)->∀B tm w,ag M J X B (ev (gS listed) 0 xs br) tm w->(∀t,t∉nU ops.toList->tm.getD t undef=eM.getD t undef)->Q .normal ⟨tm,ds⟩ w:=fun listed H hl B tm w S aC=>by
  refine AS B tm w ?_ aC;rw[<-aY.ad2 0];rw[H6 (L':=gS listed) (k':=0) fun j bv=>by simp only[Nat.zero_add];rw[hl j (by omega)]]
  exact S
 have done:∀listed:Array Bool,listed.size=ops.size->Region.ready .any ops listed=[]->∀j,j<ops.size->gS listed j=true:=fun listed H hr j=>by
  induction j using Nat.strongRecOn with
  |_ j ih=>
   intro bv;cases qI:gS listed j with
   |true=>rfl
   |false=>
    exfalso
    have hx:xs[j]? =some (xs[j]'(by omega)):=List.getElem?_eq_getElem _
    obtain⟨D,h1,_,aa,_⟩:=aY.at_ j _ hx;have h1:ops[j]? =some D:=by simpa using h1
    have hm:j∈Region.ready .any ops listed:=by
     rw[mem_ready];refine⟨?_,D,h1,fun e he hb=>?_⟩
     ·have bb:j<listed.size:=by omega
      simpa[gS,Array.getD,bb] using qI
     ·have:e.on<j:=by
       have kX:e∈D.after.toList:=by simpa using he
       clear he hr;revert aa
       simp only[Nat.zero_add];generalize D.after.toList=es at kX;induction es with
       |nil=>cases kX
       |cons bK es agf=>
        intro aa;simp only[rC,Bool.and_eq_true] at aa;rcases List.mem_cons.1 kX with rfl|kX
        ·rw[hb] at aa;simpa using aa.1
        ·exact agf kX aa.2
      have:=ih e.on this (by omega)
      simpa[gS] using this
    rw[hr] at hm;cases hm
 intro pb;induction pb with
 |zero=>
  intro listed B tm w H hu hc S aC;have it:∀j,j<ops.size->gS listed j=true:=fun j bv=>by
   have a8:listed.toList.count false=0:=Nat.le_zero.1 hu;rw[List.count_eq_zero] at a8;cases qI:gS listed j with
   |true=>rfl
   |false=>
    exfalso
    have bb:j<listed.size:=by omega
    apply a8;have:listed.toList[j]'(by simpa using bb)=false:=by simpa[gS,Array.getD,bb] using qI
    rw[<-this];exact List.getElem_mem _
  refine⟨?_,all listed H it B tm w S aC⟩;rw[List.eq_nil_iff_forall_not_mem];intro j bv;rw[mem_ready] at bv;obtain⟨h1,D,h2,_⟩:=bv;have bv:j<ops.size:=(Array.getElem?_eq_some_iff.1 h2).1;have:=it j bv;have bb:j<listed.size:=by omega
  simp[gS,Array.getD,bb] at this h1;rw[h1] at this;cases this
 |succ pb ih=>
  intro listed B tm w H hu hc S aC;refine⟨fun hr=>all listed H (done listed H hr) B tm w S aC,fun i am=>?_⟩
  have lF:=mem_ready.1 am;obtain⟨h1,D,h2,aa⟩:=lF;have kV:i<ops.size:=(Array.getElem?_eq_some_iff.1 h2).1;have hx:xs[i]? =some (xs[i]'(by omega)):=List.getElem?_eq_getElem _
  obtain⟨cW,g1,g2,g3,g4⟩:=aY.at_ i _ hx;have g1:ops[i]? =some cW:=by simpa using g1
  rw[h2] at g1;cases g1;have bb:i<listed.size:=by omega
  have ahe:gS listed i=false:=by simpa[gS,Array.getD,bb] using h1
  have hf:Aa ops (gS listed) i:=fun o2 kT e he hb=>by
   rw[h2] at kT;cases kT;have:=aa e (by simpa using he) hb
   simpa[gS] using this
  have o_:gS (listed.setIfInBounds i true)=n9 (gS listed) i:=by
   funext j
   simp only[gS,n9];by_cases h:j=i
   ·subst h;simp[bb]
   ·simp[h,Array.getElem?_setIfInBounds_ne (show i≠j from fun e=>h e.symm)]
  refine Xq aD hx g2 g4 l_ hc ahe hf h2 S fun az b7 w' bY pg=>ih _ az b7 w' (by simpa using H) (by have:=Zi h1;omega) ?_ (by rw[o_];exact bY) fun t Rr=>(pg t fun af=>Rr (Jv (l:=ops.toList) (by simpa using Array.mem_of_getElem? h2) af)).trans (aC t Rr)
  rw[o_];intro j bv o2 kT e he hb;simp only[n9,Bool.or_eq_true,decide_eq_true_eq] at bv;simp only[n9,Bool.or_eq_true,decide_eq_true_eq];rcases bv with bv|bv
  ·exact .inl (hc j bv o2 kT e he hb)
  ·subst bv;exact .inl (hf o2 kT e he hb)
theorem Xi:∀l:List Nat,dE st.sites (y2 st l):=by
 intro l;induction l with
 |nil=>exact .nil
 |cons t l ih=>
  refine dE.append ?_ ih;unfold NS;split
  ·rename_i o s _;split
   ·rename_i ap t xs H;cases hb:ap.beq s with
    |false=>exact .nil
    |true=>
     intro F O hm;simp only[cond_true,List.mem_singleton,Prod.mk.injEq] at hm;obtain⟨rfl,rfl⟩:=hm;exact⟨ap,t,xs,rfl,.inl H⟩
   ·exact .nil
  ·exact .nil
theorem VO(aD:bz P C)(hm:P.follows .mixedOrders=true){R:Type}{r:R}{K:ae->Option R}{id:Nat}{Q:Exit->Act->World->Prop}(S:ag M J X B st tm w)(h:LI C ops st K=some r)
  (bL:∀ad az b7 w',K ad=some r->ag M J X az ad b7 w'->(∀t,t∉nU ops.toList->b7.getD t undef=tm.getD t undef)->Q .normal ⟨b7,ds⟩ w'):ha rn P (Code.region id ops true) Q ⟨tm,ds⟩ w:=by
 obtain⟨xs,Aj,aY,ak⟩:=Xr h;have S:ag M J X B (st.h4 (y2 st (B3 ops.toList ops.toList))) tm w:=by rw[ae.tM];exact S.yk (Xi _)
 refine wpIn_region_any hm (YX aD aY (fun B tm w S=>bL Aj B tm w ak S) _ _ B tm _ (by simp) ?_ ?_ ?_ (fun _ _=>rfl))
 ·unfold vd;simp
 ·intro j bv;simp only[gS] at bv;exfalso
  rw[Array.getD_eq_getD_getElem?,Array.getElem?_replicate] at bv;split at bv<;>cases bv
 ·rw[Br fun j _=>by
   simp only[gS];rw[Array.getD_eq_getD_getElem?,Array.getElem?_replicate];split<;>rfl]
  exact S.drawn _
end
end Go.Jk
