/- For all packs and each name, the program's Needers returns what the reference's returns: names of the packs that need it, at first or through others, ascending; its answer is memory of its own. (part 2 of 6: JnOps14, JnOps15, JnOps16, JnOps17, JnOps18, JnCall1, JnCall2, JnCall3, JnCall4, JnCall5, JnBld, JnCall6, JnDraw1, JnNest, JnLogic, JnWalk0, JnDraw2, JnDraw3) Conditions: none beyond the statement. -/
import Derived.Test.YthllakklnccioaaGreatDoorZFnExactNeeders0
import Derived.Laws.BytesArg
import Derived.Lib.ConvBytes
import Derived.RangeFuncRecord
import Derived.Below
import Derived.RangeFuncSeq
import Derived.Orders
import Derived.OrdersIn
import Derived.ControlIn
import Derived.LoopIn
import Derived.RangeFuncCalls
set_option linter.unusedVariables false
set_option linter.unusedSimpArgs false
namespace Go.Jk
section
variable {P:Program}{J:World}{H:List Nat}{X:Nat->Prop}{B:Nat->Value}{st:ab}{tm:Array Value}{w:World}{D:Oper}
theorem qy(xs:List Int):flat .u8 xs=xs.map (aK.int .u8):=by
 unfold flat;induction xs with
 |nil=>rfl
 |cons x xs ih=>simp only[List.flatMap_cons,List.map_cons,ih];rfl
theorem JC{w:World}{av:Nat->Prop}{xs:List Int}{cs:List Value}(h:ch w av (flat .u8 xs) cs):cs=xs.map (Value.int .u8):=by
 obtain⟨h1,h2⟩:=h;rw[qy] at h1;apply List.ext_getElem
 ·rw[h1];simp
 ·intro j g1 g2;have g3:j<xs.length:=by simpa using g2
  have:=h2 j (by rw[qy];simpa using g3) g1
  have e:(flat .u8 xs)[j]'(by rw[qy];simpa using g3)=aK.int .u8 xs[j]:=by simp[qy]
  rw[e] at this;rw[jh this];simp
theorem F2{src dst e:TypeId}{a:Addr}{len cap:Nat}{xs:List Int}(L:P.underlying src=some (.slice e))(he:P.underlying e=some (.int .u8))(U:P.underlying dst=some .string)
  (hlen:xs.length=len) (hc:∀j u,(xs.map (Value.int .u8))[j]? =some u->w.cell? (a.add j)=some u):
  ∃b:ByteArray,(convert src dst (.slice (some a) len cap)).run P w=.ok (.string b) w/\b.data.toList=strOf xs:=by
 have hl:(loadCells a len).run P w=.ok (xs.map (Value.int .u8)).toArray w:=by
  have:=run_loadCells_list (P:=P) w a (xs.map (Value.int .u8)) hc;simpa[hlen] using this
 rw[run_convert_bytes_string w src dst e _ len cap L he U,run_bytesToString w a len cap xs hl,foldl_push_bytes];exact⟨_,rfl,by simp[strOf]⟩
theorem vr{ti:cg}(h:isByte ti=true):ti=.int .u8:=by
 unfold isByte at h;split at h
 ·rfl
 ·cases h
theorem UQ(s:G):(bytesOf s).length=s.length:=by simp[bytesOf]
theorem Wn(S:ad J H X B st tm w){C:Ctx}(az:CtxOk P C){src dst:TypeId}{x:Operand}{o:Nat}(an:D.op=.convert src dst x)(c9:D.dst=some o)(U:b2 st D.dst=true):
  Holds (rc C src dst o st (aI C st src x)) (cr P J H X st tm w D):=by
 have bi:=cJ S C src x;have L:=az.tt src;have aC:=az.tt dst;have run:∀{vv:Value} {w':World},(convert src dst (Act.eval ⟨tm,[]⟩ x)).run P w=.ok vv w'->(execOp (Act.eval ⟨tm,[]⟩) D).run P w=.ok (.value vv) w':=by
  intro vv w' h;unfold execOp;simp only[an,Sem.run_bind,h,Result.andThen_ok,Sem.run_pure]
 have Nz:∀{ti:cg},ti.ok P src->ti≠.none->∃d,P.underlying src=some d:=by
  intro ti h hn;cases ti with
  |none=>exact absurd rfl hn
  |int k=>exact⟨_,h.1⟩
  |bool=>exact⟨_,h.1⟩
  |str=>exact⟨_,h.1⟩
  |ptr=>obtain⟨_,h⟩:=h;exact⟨_,h.1⟩
  |func=>obtain⟨_,_,_,h⟩:=h;exact⟨_,h.1⟩
  |iface=>obtain⟨_,h⟩:=h;exact⟨_,h.1⟩
  |slice e t b=>exact⟨_,h.1.1⟩
  |map k e t=>exact⟨_,h.1.1⟩
  |struct bJ n z eq=>obtain⟨f,h,_⟩:=h;exact⟨_,h⟩
  |arr e t n=>exact⟨_,h.1⟩
 unfold rc;split
 ·exact .fail
 ·rename_i k k' n ah hx hn;rw[hx] at bi;rw[ah] at aC;obtain⟨d,l0⟩:=Nz L (by rintro h;exact absurd h (by simpa using hn))
  refine Holds.ok (dt S U (run (vv:=.int k (k.wrap n)) ?_) (.int _ _));rw[jh bi];simp[convert,run_underlying l0,run_underlying aC.1,Conv.intToInt]
 ·rename_i s ah hx hn;rw[hx] at bi;rw[ah] at aC;obtain⟨b,hb,dp⟩:=gf bi;obtain⟨d,l0⟩:=Nz L (by rintro h;exact absurd h (by simpa using hn))
  refine Holds.ok (dt S U (run (vv:=.string b) ?_) (.str _ _ dp));rw[hb];simp[convert,run_underlying l0,run_underlying aC.1]
 ·rename_i e b xs dH pc hx;cases j1:isByte (C.tt e) with
  |false=>exact .fail
  |true=>
   rw[hx] at bi;rw[pc] at aC;rw[dH] at L;have he:=az.tt e;rw[vr j1] at he;have bi:Rd w (al X B st.sites) (.sl .u8 xs) (Act.eval ⟨tm,[]⟩ x):=bi;have:∃b:ByteArray,(convert src dst (Act.eval ⟨tm,[]⟩ x)).run P w=.ok (.string b) w/\b.data.toList=strOf xs:=by
    generalize Act.eval ⟨tm,[]⟩ x=v at bi;cases bi with
    |nil=>exact⟨_,run_convert_bytes_nil w src e L.1.1 he.1 _ _ dst aC.1,rfl⟩
    |sl _ _ a cap cs n hn hcap hb hl hc hr=>
     have:=JC (xs:=xs) ⟨hl,hr⟩;subst this;exact F2 L.1.1 he.1 aC.1 hn.symm hc
   obtain⟨b,h1,h2⟩:=this;exact Holds.ok (dt S U (run h1) (.str _ _ h2))
 ·rename_i e b u dH pc hx;cases j1:isByte (C.tt e) with
  |false=>exact .fail
  |true=>
   rw[hx] at bi;rw[pc] at aC;rw[dH] at L;have he:=az.tt e;rw[vr j1] at he;have bi:Act.eval ⟨tm,[]⟩ x=.slice none 0 0:=bi;refine Holds.ok (dt S U (run (vv:=.string ByteArray.empty) ?_) (.str _ _ rfl));rw[bi];exact run_convert_bytes_nil w src e L.1.1 he.1 _ _ dst aC.1
 ·rename_i e b E s dH pc hx;split
  ·rename_i xs cW;cases j1:isByte (C.tt e) with
   |false=>exact .fail
   |true=>
    rw[hx] at bi;rw[pc] at aC;rw[dH] at L;have he:=az.tt e;rw[vr j1] at he;have Z:=Xl bi cW;have:∃b:ByteArray,(convert src dst (Act.eval ⟨tm,[]⟩ x)).run P w=.ok (.string b) w/\b.data.toList=strOf xs:=by
     rw[Z];obtain⟨cs,h1,hc⟩:=S.row cW;rcases hc with⟨h2,Y⟩|⟨a8,c,h2,Y,aP⟩
     ·subst Y;rw[h2];exact⟨_,run_convert_bytes_nil w src e L.1.1 he.1 _ _ dst aC.1,rfl⟩
     ·have:=JC (xs:=xs) (hU h1);subst this;rw[h2];exact F2 L.1.1 he.1 aC.1 rfl (fun j u hu=>by rw[gg];exact Y j u hu)
    obtain⟨b,h1,h2⟩:=this;exact Holds.ok (dt S U (run h1) (.str _ _ h2))
  ·exact .fail
 ·rename_i e b s dH pc hx;cases j1:isByte (C.tt e) with
  |false=>exact .fail
  |true=>
   rw[hx] at bi;rw[pc] at aC;rw[dH] at L;have he:=az.tt e;rw[vr j1] at he;obtain⟨gH,hb,dp⟩:=gf bi;have cz:(convert src dst (Act.eval ⟨tm,[]⟩ x)).run P w=.ok (.slice (some ⟨w.heap.size,0,none⟩) gH.size (grownCap w gH.size 0 e)) (Go.Lib.bytesWorld w e gH):=by
    rw[hb];exact Go.Lib.run_convert_string_bytes w src dst e gH L.1 aC.1.1 he.1
   have hcap:gH.size<=grownCap w gH.size 0 e:=grownCap_ge w gH.size 0 e;refine Holds.ee fun r hr=>?_
   have tO:gH.size<=maxLen:=by
    have hr:(if s.length<=maxLen then some () else none)=some r:=hr
    split at hr
    ·rename_i h;rw[<-dp] at h;simpa using h
    ·cases hr
   have eJ:(Go.Lib.bytesCells w e gH).size=grownCap w gH.size 0 e:=by
    simp only[Go.Lib.bytesCells,Array.size_append,Array.size_map,Array.size_replicate];have:gH.data.size=gH.size:=rfl;omega
   have hlen:gH.size=(bytesOf s).length:=by rw[UQ,<-dp];rfl
   have hd:ad J H X (fun E=>if E=o then .slice (some ⟨w.heap.size,0,none⟩) gH.size (grownCap w gH.size 0 e) else B E) {st with sites:=b5 st.sites o (.row (aR st o) .u8 (bytesOf s))} tm (Go.Lib.bytesWorld w e gH):=by
    refine S.make (fun b hb=>Go.Lib.bytesWorld_at_old w e gH b hb) rfl rfl rfl (by rw[Go.Lib.bytesWorld_size];omega) (fun M L=>iI L)
     (fun b hb=>by have hb:=List.mem_singleton.1 hb;subst hb;exact⟨Nat.le_refl _,by rw[Go.Lib.bytesWorld_size];exact Nat.lt_succ_self _⟩) ?_
    intro bd ax eA dR go af1 af6;refine⟨e,gH.data.toList.map fun b=>Value.int .u8 b.toNat,⟨?_,.inr ⟨_,_,Go.Lib.bytesCells w e gH,_,dR.trans (by rw[hlen]),⟨(fun h=>by obtain⟨_,z,_,_,eD⟩:=aC;exact eD h),.inr ⟨rfl,Nat.le_refl _⟩⟩,Go.Lib.bytesWorld_at_new w e gH,by rw[<-hlen];exact hcap,grownCap_le_maxLen w gH.size 0 e tO,?_,?_⟩⟩,fun j g1 g2=>?_⟩
    ·rw[List.length_map,<-hlen];exact(Nat.mul_one _).symm
    ·rw[eJ];exact(Nat.mul_one _).symm
    ·have h1:(bytesOf s).length*au .u8=(gH.data.toList.map fun b=>Value.int .u8 b.toNat).length:=by rw[List.length_map,<-hlen];exact Nat.mul_one _
     rw[h1];simp only[Go.Lib.bytesCells,Array.toList_append,Array.toList_map];exact List.take_left
    ·subst dp;simp only[qy,bytesOf,List.getElem_map];exact .int _ _
   refine hz (us:=[(o,.row (aR st o) .u8 (bytesOf s))]) hd U (run cz) ?_
   refine⟨rfl,Ref.mk (M:=.row (aR st o) .u8 (bytesOf s)) ?_ rfl (by simp[bD])⟩
   simp only[aT,ck];simp
 ·exact .fail
end
section
variable {P:Program}{J:World}{H:List Nat}{X:Nat->Prop}{B:Nat->Value}{st:ab}{tm:Array Value}{w:World}{D:Oper}
theorem I5(S:ad J H X B st tm w){C:Ctx}{x:Operand}(an:D.op=.move x\/D.op=.assign x)(U:b2 st D.dst=true)(T:TypeId):cr P J H X st tm w D (aI C st T x) []:=by
 refine dt S U (vv:=Act.eval ⟨tm,[]⟩ x) ?_ (cJ S C T x);unfold execOp;rcases an with h|h<;>simp only[h,Sem.run_pure]
theorem IY(S:ad J H X B st tm w){C:Ctx}{c a b:Operand}{t:Bool}{T:TypeId}(an:D.op=.pick c a b)(U:b2 st D.dst=true)(hc:aI C st T c=.av (.ak (.d (.bool t)))):
  cr P J H X st tm w D (aI C st T (if t then a else b)) []:=by
 refine dt S U (vv:=Act.eval ⟨tm,[]⟩ (if t then a else b)) ?_ (cJ S C T _)
 unfold execOp;have:=Cd S hc;cases t<;>simp[an,this,asBool]
theorem RB(S:ad J H X B st tm w){C:Ctx}{x:Operand}{t:Bool}{T eb:TypeId}(an:D.op=.unOp .not eb x)(U:b2 st D.dst=true)(hc:aI C st T x=.av (.ak (.d (.bool t)))):
  cr P J H X st tm w D (one (.bool (!t))) []:=by
 refine dt S U (vv:=.bool (!t)) ?_ (.bool _);unfold execOp;simp[an,Cd S hc,Op.unary]
theorem RC(S:ad J H X B st tm w){C:Ctx}{x:Operand}{k:IntKind}{n:Int}{T eb:TypeId}(an:D.op=.unOp .neg eb x)(U:b2 st D.dst=true)(hc:aI C st T x=.av (.ak (.d (.int k n)))):
  cr P J H X st tm w D (one (.int k (k.wrap (0-n)))) []:=by
 refine dt S U (vv:=.int k (k.wrap (0-n))) ?_ (.int _ _);unfold execOp;simp[an,jL S hc,Op.unary,Op.intArith]
theorem zN(S:ad J H X B st tm w){C:Ctx}{x:Operand}{v:aF}{T:TypeId}(an:D.op=.nilCheck x)(U:b2 st D.dst=true)(hc:aI C st T x=v)
  (Z:∀vv,b4 B st.sites w (al X B st.sites) v vv->∃a,vv=.pointer (some a)):cr P J H X st tm w D v []:=by
 have:=cJ S C T x;rw[hc] at this;obtain⟨a,bo⟩:=Z _ this;refine dt S U (vv:=Act.eval ⟨tm,[]⟩ x) ?_ this;unfold execOp;simp[an,bo]
theorem S1(S:ad J H X B st tm w){C:Ctx}{x:Operand}{i:Nat}{as:List bt}{a:bt}{T:TypeId}(an:D.op=.extract x i)(U:b2 st D.dst=true)(hc:aI C st T x=.iX as)(bo:as[i]? =some a):
  cr P J H X st tm w D (.av a) []:=by
 have bi:=cJ S C T x;rw[hc] at bi;obtain⟨vs,h1,h2,Y⟩:=bi;obtain⟨af,adf⟩:=List.getElem?_eq_some_iff.1 bo;have lb:i<vs.length:=by omega
 refine dt S U (vv:=vs[i]) ?_ (by rw[<-adf];exact Y i af lb)
 unfold execOp;simp[an,h1,Instr.extract,lb]
theorem Hj(S:ad J H X B st tm w){C:Ctx}{x y:Operand}{k k':IntKind}{a b:Int}{T:TypeId}{q9:Bool}{cQ:Array TypeId}(an:D.op=.call {callee:=.builtin (if q9 then .max else .min),args:=#[x,y],argTypes:=cQ})(U:b2 st D.dst=true)
  (hx:aI C st T x=.av (.ak (.d (.int k a)))) (aq:aI C st T y=.av (.ak (.d (.int k' b)))):cr P J H X st tm w D (one (.int k (if q9 then gS a b else yD a b))) []:=by
 refine dt S U (vv:=.int k (if q9 then gS a b else yD a b)) ?_ (.int _ _)
 unfold execOp;cases q9<;>simp[an,resolve,invoke,builtin,jL S hx,jL S aq,Builtin.max_,Builtin.min_,Builtin.max2,Builtin.min2,gS,yD]
theorem Xq(S:ad J H X B st tm w){C:Ctx}{x y z u v:Operand}{k ay ai bn cu:IntKind}{a b c d e:Int}{T:TypeId}{cQ:Array TypeId}(an:D.op=.call {callee:=.builtin .max,args:=#[x,y,z,u,v],argTypes:=cQ})(U:b2 st D.dst=true)
  (hx:aI C st T x=.av (.ak (.d (.int k a)))) (aq:aI C st T y=.av (.ak (.d (.int ay b)))) (aM:aI C st T z=.av (.ak (.d (.int ai c)))) (hu:aI C st T u=.av (.ak (.d (.int bn d)))) (Z:aI C st T v=.av (.ak (.d (.int cu e)))):
  cr P J H X st tm w D (one (.int k (gS (gS (gS (gS a b) c) d) e))) []:=by
 refine dt S U (vv:=.int k (gS (gS (gS (gS a b) c) d) e)) ?_ (.int _ _);unfold execOp;simp[an,resolve,invoke,builtin,jL S hx,jL S aq,jL S aM,jL S hu,jL S Z,Builtin.max_,Builtin.max2,gS]
theorem Wo(S:ad J H X B st tm w){C:Ctx}:∀{xs:List Operand} {bv:List (Nat×Nat)},step.nk C st xs=some bv->xs.length=bv.length/\
  ∀i (h:i<bv.length) (ae:i<xs.length),Ref st.sites (bv[i]).1 (bv[i]).2 (Act.eval ⟨tm,[]⟩ (xs[i])=bD (B (bv[i]).1)):=by
 intro xs;induction xs with
 |nil=>intro bv h;simp only[step.nk] at h;cases h;exact⟨rfl,fun i h=>by simp at h⟩
 |cons x xs ih=>
  intro bv h;simp only[step.nk] at h;split at h
  ·rename_i o s l hx hl;cases h;obtain⟨h1,h2⟩:=ih hl;refine⟨by simp[h1],fun i g1 g2=>?_⟩
   cases i with
   |zero=>
    have:=cJ S C 0 x;rw[hx] at this;obtain⟨b,hb,M,dO,de,h'⟩:=this;exact⟨M,dO,de,fun e=>by simp only[List.getElem_cons_zero];rw[h' e];exact hb⟩
   |succ i=>simpa using h2 i (by simpa using g1) (by simpa using g2)
  ·cases h
theorem RU(S:ad J H X B st tm w){C:Ctx}{g:FuncId}{first captured:Array Operand}{bv:List (Nat×Nat)}(an:D.op=.makeFunc (.func g) first captured)(U:b2 st D.dst=true)(hf:first.toList.isEmpty=true)
  (hc:step.nk C st captured.toList=some bv):cr P J H X st tm w D (bQ (.clo g bv)) []:=by
 obtain⟨h1,h2⟩:=Wo S hc;refine dt S U (vv:=.func (.func g) #[] (captured.toList.map (Act.eval ⟨tm,[]⟩)).toArray) ?_ ⟨captured.toList.map (Act.eval ⟨tm,[]⟩),rfl,by simpa using h1,fun i g1 g2=>?_⟩
 ·have:first=#[]:=by simpa using hf
  unfold execOp;simp only[an,Instr.makeFunc,Sem.run_bind,Sem.run_pure,Result.andThen_ok,this];simp;apply Array.ext';simp
 ·have:=h2 i g1 (by simpa using g2)
  simpa using this
theorem HE(S:ad J H X B st tm w){C:Ctx}{bJ:List (Nat×Nat)}:∀(parts:List (Nat×Operand)) (z:List aw) (cells:Array Value),cl B st.sites w (al X B st.sites) z cells.toList->
  Holds (step.mj C st bJ z parts) (fun v us=>us=[]/\∃jj,Instr.fill (bJ.toArray[·]?) cells (parts.map fun p=>(p.1,Act.eval ⟨tm,[]⟩ p.2))=some jj/\b4 B st.sites w (al X B st.sites) v (.agg jj)):=by
 intro parts;induction parts with
 |nil=>intro z cells h;exact Holds.ok ⟨rfl,cells,rfl,cells.toList,by simp,h.1,h.2⟩
 |cons p parts ih=>
  obtain⟨i,x⟩:=p;intro z cells h;simp only[step.mj];split
  ·rename_i off n a hf bo;cases hb:(a.cells.length.beq n&&gz a.cells&&Nat.ble (off+n) z.length) with
   |false=>exact .fail
   |true=>
    simp only[cond_true];simp only[Bool.and_eq_true] at hb;obtain⟨⟨aX,aG⟩,bU⟩:=hb;have aX:=Nat.eq_of_beq_eq_true aX;have bU:=Nat.le_of_ble_eq_true bU;have bi:=cJ S C 0 x;rw[oV bo] at bi;have n':=gm.cells (bi:gm B st.sites w _ a _) aG;have eJ:(Act.eval ⟨tm,[]⟩ x).cells.size=n:=by rw[<-aX,<-n'.1];simp
    have c3:off+(Act.eval ⟨tm,[]⟩ x).cells.size<=cells.size:=by
     have:=h.1;simp at this;omega
    have:=ih (Jk.b' z off a.cells) (Jk.b' cells.toList off (Act.eval ⟨tm,[]⟩ x).cells.toList).toArray (by simpa using cl.b' off h n')
    intro y aq hc;obtain⟨g1,jj,g2,g3⟩:=this y aq hc;refine⟨g1,jj,?_,g3⟩;simp only[List.map_cons,Instr.fill];have uJ:bJ.toArray[i]? =some (off,n):=by simpa using hf
    simp only[uJ];have bI:¬((Act.eval ⟨tm,[]⟩ x).cells.size≠n\/off+(Act.eval ⟨tm,[]⟩ x).cells.size>cells.size):=by omega
    have bB:(decide ((Act.eval ⟨tm,[]⟩ x).cells.size≠n)||decide (off+(Act.eval ⟨tm,[]⟩ x).cells.size>cells.size))=false:=by
     simp;omega
    have iQ:off+n<=cells.size:=by omega
    rw[Gr _ _ _ c3];simp only[Bool.decide_or,eJ] at*;simpa[bB,iQ] using g2
  ·exact .fail
theorem Wq(S:ad J H X B st tm w){C:Ctx}(az:CtxOk P C){T:TypeId}{parts:Array (Nat×Operand)}{bJ:List (Nat×Nat)}{n:Nat}{z:List aw}{eq:Bool}(aS:C.tt T=.struct bJ n z eq)(an:D.op=.build T parts)
  (U:b2 st D.dst=true):Holds (step.mj C st bJ z parts.toList) (cr P J H X st tm w D):=by
 have bk:=az.tt T;rw[aS] at bk;obtain⟨fields,dS,⟨hf,_⟩,⟨fC,aM,nF,y7⟩,_⟩:=bk;obtain⟨ay,ai,bn⟩:=qa nF;intro y aq hc;obtain⟨g1,jj,g2,g3⟩:=HE S parts.toList z fC ⟨ay,fun j h ae=>bn _ _ _ _ j h ae⟩ y aq hc
 rw[g1];refine dt S U (vv:=.agg jj) ?_ g3;cases af:P.info? T with
 |none=>simp[af] at aM
 |some Fx=>
  simp only[af,Option.map_some,Option.some.injEq,Prod.mk.injEq] at aM;have hb:P.built T (parts.toList.map fun p=>(p.1,Act.eval ⟨tm,[]⟩ p.2))=some jj:=by
   unfold Program.built;simp only[af,dS,aM.2,hf];exact g2
  have cd:P.built T (parts.map fun p=>(p.1,Act.eval ⟨tm,[]⟩ p.2)).toList=some jj:=by simpa using hb
  unfold execOp;simp only[an,Sem.run_bind,run_build w T _ jj cd,Result.andThen_ok,Sem.run_pure]
end
def jJ(w:World)(b:Nat)(D:Obj):World:={w with heap:=w.heap.setIfInBounds b D}
theorem qu{b:ByteArray}{l:G}(h:b.data.toList=l):Value.string b=ea l:=by
 subst h;rfl
def gh{aA:Type}:List (G×aA)->G->Nat->Option (Nat×aA)
 |[],_,_=>none
 |(k,v)::r,n,i=>bif k==n then some (i,v) else gh r n (i+1)
theorem Us{aA:Type}(n:G):∀(es:List (G×aA)) (i:Nat),(gh es n i).map (·.2)=dm es n:=by
 intro es;induction es with
 |nil=>intro i;rfl
 |cons p es ih=>
  intro i;simp only[gh,dm];cases p.1==n with
  |true=>rfl
  |false=>exact ih (i+1)
theorem RT{aA:Type}(n:G)(v:aA):∀(es:List (G×aA)) (i:Nat),gh es n i=none->cT es n v=es++[(n,v)]:=by
 intro es;induction es with
 |nil=>intro i _;rfl
 |cons p es ih=>
  intro i h;simp only[gh] at h;simp only[cT];cases am:(p.1==n) with
  |true=>rw[am] at h;cases h
  |false=>rw[am] at h;simp only[cond_false,ih (i+1) h,List.cons_append]
theorem SP{aA:Type}(n:G)(v:aA):∀(es:List (G×aA)) (i j:Nat) (v0:aA),gh es n i=some (j,v0)->i<=j/\(∃p,es[j-i]? =some p/\p.1=n)/\cT es n v=es.modify (j-i) fun p=>(p.1,v):=by
 intro es;induction es with
 |nil=>intro i j v0 h;cases h
 |cons p es ih=>
  intro i j v0 h;simp only[gh] at h;simp only[cT];cases am:(p.1==n) with
  |true=>
   rw[am] at h;cases h;refine⟨Nat.le_refl _,⟨p,by simp,eq_of_beq am⟩,?_⟩
   simp
  |false=>
   rw[am] at h;obtain⟨h1,⟨q,h2,Y⟩,aP⟩:=ih (i+1) j v0 h;have e:j-i=(j-(i+1))+1:=by omega
   refine⟨by omega,⟨q,by rw[e];simpa using h2,Y⟩,?_⟩
   rw[e,cond_false,aP,List.modify_succ_cons]
theorem Ur{aA h9:Type}(g:aA->h9)(n:G):∀(es:List (G×aA)) (i:Nat),gh (es.map fun p=>(p.1,g p.2)) n i=(gh es n i).map fun p=>(p.1,g p.2):=by
 intro es;induction es with
 |nil=>intro i;rfl
 |cons p es ih=>
  intro i;simp only[List.map_cons,gh];cases p.1==n with
  |true=>rfl
  |false=>exact ih (i+1)
theorem GL{aA h9:Type}(g:aA->h9)(n:G)(x:aA):∀(es:List (G×aA)),cT (es.map fun p=>(p.1,g p.2)) n (g x)=(cT es n x).map fun p=>(p.1,g p.2):=by
 intro es;induction es with
 |nil=>rfl
 |cons p es ih=>
  simp only[List.map_cons,cT];cases p.1==n with
  |true=>rfl
  |false=>simp only[cond_false,List.map_cons,ih]
theorem BK{t:aB}(es:List (G×den t)):nh t es=iu (es.map fun p=>(p.1,mU t p.2)):=by simp[nh,iu]
theorem Hy(n:G):∀(es:List (G×Value)) (iF:List MapEntry) (i:Nat),iF.map (fun e=>(e.key,e.val))=iu es->
  Instr.findNow .string (ea n) iF i=some (gh es n i)
 |[],iF,i,h=>by
  have:iF=[]:=by simpa[iu] using h
  subst this;rfl
 |(k,v)::es,[],i,h=>by simp[iu] at h
 |(k,v)::es,m::iF,i,h=>by
  simp only[iu,List.map_cons,List.cons.injEq,Prod.mk.injEq] at h;obtain⟨⟨h1,h2⟩,Y⟩:=h;have ih:=Hy n es iF (i+1) Y;have L:Instr.sameNow .string (ea n) m.key=some (k==n):=by
   rw[h1];show some ((⟨n.toArray⟩:ByteArray)==⟨k.toArray⟩)=_;rw[bytes_beq];congr 1
   rw[Bool.eq_iff_iff];simp only[beq_iff_eq];exact eq_comm
  unfold Instr.findNow gh;rw[L];cases k==n with
  |true=>simp only[cond_true,h2]
  |false=>simp only[cond_false];exact ih
section
variable {P:Program}{w:World}{eL fo T:TypeId}{t:aB}
theorem St{eL:TypeId}(ah:P.underlying eL=some .string)(c:Bool)(s:G)(n:Nat):(Instr.checkKey c (n+1) eL (ea s)).run P w=.ok () w:=by
 simp[Instr.checkKey,run_underlying ah,ea,Result.andThen]
theorem l9{eL:TypeId}(ah:P.underlying eL=some .string)(c:Bool)(s:G):(Instr.checkKey c 10000 eL (ea s)).run P w=.ok () w:=St ah c s 9999
theorem qg{eL:TypeId}(ah:P.underlying eL=some .string){es:List (G×Value)}{arr:Array MapEntry}(h:hX arr=iu es)(n:G):
  (Instr.findKey eL (ea n) arr.toList).run P w=.ok (gh es n 0) w:=by
 simp[Instr.findKey,run_underlying ah,Hy n es arr.toList 0 h,Result.andThen]
theorem Ib{eL:TypeId}(ah:P.underlying eL=some .string){es:List (G×den t)}{arr:Array MapEntry}(h:hX arr=nh t es)(n:G):
  (Instr.findKey eL (ea n) arr.toList).run P w=.ok ((gh es n 0).map fun p=>(p.1,mU t p.2)) w:=by
 rw[qg ah (h.trans (BK es)),Ur]
theorem T0(s:G):(Instr.keyThatStays (ea s) (ea s)).run P w=.ok (ea s) w:=by
 have:Instr.sameBits 10000 (ea s) (ea s)=true:=by
  show((⟨s.toArray⟩:ByteArray)==⟨s.toArray⟩)=true;rw[bytes_beq];simp
 simp[Instr.keyThatStays,this]
theorem Zr{t:aB}{d:aK}{x:den t}{v:Value}{av:Nat->Prop}(h:Dq t d=some x)(hr:Rd w av d v):v=mU t x:=by
 unfold Dq at h;split at h
 ·cases h;cases hr;rfl
 ·cases h;cases hr;rfl
 ·cases h
theorem Ge(aS:P.underlying T=some (.map eL fo))(ah:P.underlying eL=some .string){b:Nat}{arr:Array MapEntry}{clock:Nat}{es:List (G×Value)}(hb:w.heap[b]? =some (.map arr clock))(he:hX arr=iu es)(n:G)(x:Value):
  ∃iT ji,(Instr.mapUpdate T (.map (some b)) (ea n) x).run P w=.ok () (jJ w b (.map iT ji))/\hX iT=iu (cT es n x):=by
 cases hm:gh es n 0 with
 |none=>
  refine⟨arr.push ⟨ea n,x,clock⟩,clock+1,?_,?_⟩
  ·have hf:=qg (w:=w) ah he n;rw[hm] at hf;simp[Instr.mapUpdate,run_underlying aS,MapKept.run_getObj_map hb,l9 ah,hf,MapKept.run_setObj_map _ hb,Result.andThen,jJ]
  ·rw[RT n x es 0 hm];unfold hX iu at he ⊢;simp[he]
 |some p=>
  obtain⟨j,v0⟩:=p;obtain⟨_,⟨q,h2,Y⟩,aP⟩:=SP n x es 0 j v0 hm;rw[Nat.sub_zero] at h2 aP;have hlen:arr.size=es.length:=by have:=congrArg List.length he;simpa[hX,iu] using this
  have bF:j<arr.size:=by rw[hlen];exact(List.getElem?_eq_some_iff.1 h2).1
  have aam:((arr[j]?).map (·.key)).getD (ea n)=ea n:=by
   have bq:=congrArg (fun l=>l[j]?) he
   simp only[hX,iu,List.getElem?_map,h2,Option.map_some,Array.getElem?_toList] at bq;cases bo:arr[j]? with
   |none=>rfl
   |some e=>
    rw[bo] at bq;simp only[Option.map_some,Option.some.injEq,Prod.mk.injEq] at bq;simp[bq.1,Y]
  refine⟨arr.modify j fun e=>{e with key:=ea n,val:=x},clock,?_,?_⟩
  ·have hf:=qg (w:=w) ah he n;rw[hm] at hf;simp[Instr.mapUpdate,run_underlying aS,MapKept.run_getObj_map hb,l9 ah,hf,MapKept.run_setObj_map _ hb,Result.andThen,jJ,aam,T0]
  ·rw[aP];unfold hX iu at he ⊢;apply List.ext_getElem?;intro i;have bq:=congrArg (fun l=>l[i]?) he
   simp only[List.getElem?_map,Array.getElem?_toList] at bq;simp only[List.getElem?_map,Array.getElem?_toList,Array.getElem?_modify,List.getElem?_modify];by_cases oA:j=i
   ·subst oA;simp only[if_true,h2,Option.map_some,<-Y];cases bo:arr[j]? with
    |none=>rw[bo,h2] at bq;cases bq
    |some e=>rfl
   ·simp only[oA,if_false];cases bo:arr[i]? <;>cases cd:es[i]? <;>rw[bo,cd] at bq<;>simp_all
theorem Sr(aS:P.underlying T=some (.map eL fo))(ah:P.underlying eL=some .string){b:Nat}{arr:Array MapEntry}{clock:Nat}{es:List (G×den t)}(hb:w.heap[b]? =some (.map arr clock))(he:hX arr=nh t es)(n:G)(x:den t):
  ∃iT ji,(Instr.mapUpdate T (.map (some b)) (ea n) (mU t x)).run P w=.ok () (jJ w b (.map iT ji))/\hX iT=nh t (cT es n x):=by
 obtain⟨iT,ji,h1,h2⟩:=Ge (T:=T) aS ah hb (he.trans (BK es)) n (mU t x);exact⟨iT,ji,h1,by rw[h2,GL (mU t),<-BK]⟩
end
section
variable {P:Program}{J:World}{H:List Nat}{X:Nat->Prop}{B:Nat->Value}{st:ab}{tm:Array Value}{w:World}{D:Oper}
theorem sB(w:World)(b a8:Nat)(D:Obj)(h:a8≠b):(jJ w b D).heap[a8]? =w.heap[a8]? :=by
 simp only[jJ,Array.getElem?_setIfInBounds];rw[if_neg (fun e=>h e.symm)]
theorem FT(w:World)(b:Nat)(D cX:Obj)(h:w.heap[b]? =some cX):(jJ w b D).heap[b]? =some D:=by
 have:=(Array.getElem?_eq_some_iff.1 h).1;simp[jJ,Array.getElem?_setIfInBounds,this]
theorem ad.YE(S:ad J H X B st tm w){o s b:Nat}{t:aB}{es g':List (G×den t)}{D:Obj}{iT:Array MapEntry}{ji:Nat}(hl:look st.sites o=some (.map s t es))(bw:B o=.map (some b))(aJ:w.heap[b]? =some D)
  (he:hX iT=nh t g'):ad J H X B {st with sites:=b5 st.sites o (.map s t g')} tm (jJ w b (.map iT ji)):=by
 have uO:b∈bb (B o):=fI (by rw[bw];rfl)
 have cP:bL st.sites o:=⟨_,hl,rfl⟩;have lD:∀E,bL (b5 st.sites o (.map s t g')) E <-> bL st.sites E:=GP hl rfl;have bV:∀a8,al X B (b5 st.sites o (.map s t g')) a8 <-> al X B st.sites a8:=by
  intro a8;unfold al;simp only[lD]
 have cF:∀a8,¬al X B st.sites a8->a8≠b:=by
  rintro a8 h rfl;exact h (.inr ⟨o,cP,uO⟩)
 have eJ:(jJ w b (.map iT ji)).heap.size=w.heap.size:=by simp[jJ]
 refine S.nn (fun E ag bg=>?_) (fun a8 h _=>sB w b a8 _ (cF a8 h)) (fun a8 h _=>by rw[bV];exact h) (fun go E ag bg=>?_) (fun E aE a8 h1 h2=>S.df E aE a8 ((lD E).1 h1) ((lD aE).1 h2))
  (fun E a8 h=>S.cc E a8 ((lD E).1 h)) (fun E a8 h hb=>by rw[eJ];exact S.dL ((lD E).1 h) hb) ?_ (by rw[eJ];exact Nat.le_refl _)
 ·rw[ck];by_cases e:o=E
  ·subst e;rw[hl] at bg;cases bg;exact⟨.map s t g',by simp,Nat.le_refl _,fun _=>rfl⟩
  ·exact⟨ag,by simp[e,bg],Nat.le_refl _,fun _=>rfl⟩
 ·rw[ck] at bg;by_cases e:o=E
  ·subst e;simp only[if_true,Option.some.injEq] at bg;subst bg;exact .inr ⟨b,bw,iT,ji,FT w b _ _ aJ,he⟩
  ·simp only[e,if_false] at bg;refine .inl ⟨bg,rfl,fun rC a8 cd=>sB w b a8 _ ?_⟩
   rintro rfl;exact e (S.df o E _ cP ⟨ag,bg,rC⟩ uO cd)
 ·have aY:=S.frame;refine⟨aY.os,aY.tape,aY.output,by rw[eJ];exact aY.size,fun a8 h1 h2=>?_⟩
  rw[sB w b a8 _ ?_]
  ·exact aY.block a8 h1 h2
  ·rintro rfl;rcases(S.cc o _ cP uO).2 with h|h
   ·exact h2 h
   ·omega
theorem ad.makeMap(S:ad J H X B st tm w){o:Nat}{t:aB}:
  ad J H X (fun E=>if E=o then .map (some w.heap.size) else B E) {st with sites:=b5 st.sites o (.map (aR st o) t [])} tm (w.alloc (.map #[] 0)):=
 S.make (fun b hb=>RowKit.Below.heap_alloc w _ b hb) rfl rfl rfl (by simp) (fun M L=>iI L) (fun b hb=>by have hb:=List.mem_singleton.1 hb;subst hb;exact⟨Nat.le_refl _,by simp⟩)
  (fun L bw go _ _=>⟨w.heap.size,bw,#[],0,heap_alloc_new w _,rfl⟩)
theorem ad.V2(S:ad J H X B st tm w){o:Nat}:
  ad J H X (fun E=>if E=o then .tuple [.map (some w.heap.size)].toArray else B E) {st with sites:=b5 st.sites o (.ef (aR st o) [])} tm (w.alloc (.map #[] 0)):=
 S.make (fun b hb=>RowKit.Below.heap_alloc w _ b hb) rfl rfl rfl (by simp) (fun M L=>iI L) (fun b hb=>by
   have hb:=List.mem_singleton.1 hb;subst hb;exact⟨Nat.le_refl _,by simp⟩)
  (fun L bw go _ _=>⟨w.heap.size,#[],0,[],bw,by rw[bw];simp[bb,aZ],heap_alloc_new w _,[],rfl,.nil⟩)
end
section
variable {P:Program}{J:World}{H:List Nat}{X:Nat->Prop}{B:Nat->Value}{st:ab}{tm:Array Value}{w:World}{D:Oper}
theorem GM(S:ad J H X B st tm w){T:TypeId}{eL fo:TypeId}{t:aB}{r:Option Operand}{o:Nat}(an:D.op=.makeMap T r)(c9:D.dst=some o)(U:b2 st D.dst=true)(aS:P.underlying T=some (.map eL fo))
  (hr:∀x,r=some x->∃k n,Act.eval ⟨tm,[]⟩ x=.int k n):cr P J H X st tm w D (bQ (.own o (aR st o))) [(o,xI (aR st o) t)]:=by
 have cz:(execOp (Act.eval ⟨tm,[]⟩) D).run P w=.ok (.value (.map (some w.heap.size))) (w.alloc (.map #[] 0)):=by
  unfold execOp;cases r with
  |none=>simp[an,Instr.makeMap]
  |some x=>
   obtain⟨k,n,hx⟩:=hr x rfl;simp[an,Instr.makeMap,hx,run_underlying aS,asInt,asIntOf,Result.andThen]
 have fin:∀{M:Site} {nv:Value},M.bT=aR st o->bD nv=.map (some w.heap.size)->ad J H X (fun E=>if E=o then nv else B E) {st with sites:=b5 st.sites o M} tm (w.alloc (.map #[] 0))->
   cr P J H X st tm w D (bQ (.own o (aR st o))) [(o,M)]:=by
  intro M nv h1 h2 bO;refine hz (us:=[(o,M)]) bO U cz ?_
  refine⟨rfl,Ref.mk (M:=M) ?_ h1 (by simp[h2])⟩
  simp only[aT,ck];simp
 by_cases aC:t=.strs
 ·subst aC;exact fin rfl rfl S.V2
 ·have e:xI (aR st o) t=.map (aR st o) t []:=by cases t<;>first|rfl|exact absurd rfl aC
  rw[e];exact fin rfl rfl (S.makeMap (t:=t))
theorem ad.aaH(S:ad J H X B st tm w){o dst:Nat}{M bm hC:Site}{nv rP:Value}(cF:o≠dst)(hl:look st.sites o=some M)(ft:M.live=true)(dr:bm.bT=M.bT)(r2:bD nv=bD (B o))
  (yJ:∀s,look st.sites dst=some s->s.bT<hC.bT) (dz:∀b,b∈bb nv->b∈bb (B o)) (ZE:∀b,b∈bb rP->b∈bb (B o)/\b∉bb nv)
  (eB:∀{bd:List (Nat×Site)} {ax:Nat->Value},ax o=nv->ax dst=rP->(∀{a v},b4 B st.sites w (al X B st.sites) a v->b4 ax bd w (al X ax bd) a v)->
   hA ax bd w (al X ax bd) o bm/\hA ax bd w (al X ax bd) dst hC):
  ad J H X (fun E=>if E=dst then rP else if E=o then nv else B E) {st with sites:=aT st.sites [(o,bm),(dst,hC)]} tm w:=by
 have a_:bL st.sites o:=⟨_,hl,ft⟩;have hD:∀E,look (aT st.sites [(o,bm),(dst,hC)]) E=if dst=E then some hC else if o=E then some bm else look st.sites E:=by
  intro E;simp only[aT,ck]
 have hold:∀E b,bL (aT st.sites [(o,bm),(dst,hC)]) E->b∈bb (if E=dst then rP else if E=o then nv else B E)->
   (E=dst/\b∈bb (B o)/\b∉bb nv)\/(E=o/\E≠dst/\b∈bb nv)\/(E≠dst/\E≠o/\bL st.sites E/\b∈bb (B E)):=by
  rintro E b ⟨s,h1,h2⟩ hb;rw[hD] at h1;by_cases e:E=dst
  ·rw[if_pos e] at hb;exact .inl ⟨e,ZE b hb⟩
  ·rw[if_neg e] at hb;rw[if_neg (fun h=>e h.symm)] at h1
   by_cases e2:E=o
   ·rw[if_pos e2] at hb;exact .inr (.inl ⟨e2,e,hb⟩)
   ·rw[if_neg e2] at hb;rw[if_neg (fun h=>e2 h.symm)] at h1
    exact .inr (.inr ⟨e,e2,⟨s,h1,h2⟩,hb⟩)
 have Ek:∀E b,bL (aT st.sites [(o,bm),(dst,hC)]) E->b∈bb (if E=dst then rP else if E=o then nv else B E)->∃aE,bL st.sites aE/\b∈bb (B aE):=by
  intro E b h1 h2;rcases hold E b h1 h2 with⟨_,h,_⟩|⟨_,_,h⟩|⟨_,_,h,ae⟩
  ·exact⟨o,a_,h⟩
  ·exact⟨o,a_,dz b h⟩
  ·exact⟨E,h,ae⟩
 refine S.nn (fun E s bg=>?_) (fun b _ _=>rfl) (fun b h hb ae=>?_) (fun go E s bg=>?_) (fun E aE b h1 h2 g1 g2=>?_) (fun E b h1 g1=>?_) (fun E b h1 g1=>?_) S.frame (Nat.le_refl _)
 ·rw[hD];by_cases e:dst=E
  ·subst e;exact⟨hC,by simp,Nat.le_of_lt (yJ s bg),fun h=>by have:=yJ s bg;omega⟩
  ·have bz:¬E=dst:=fun h=>e h.symm
   by_cases e2:o=E
   ·subst e2;rw[hl] at bg;cases bg;exact⟨bm,by simp[e],Nat.le_of_eq dr.symm,fun _=>by simp[bz,r2]⟩
   ·have E3:¬E=o:=fun h=>e2 h.symm
    exact⟨s,by simp[e,e2,bg],Nat.le_refl _,fun _=>by simp[bz,E3]⟩
 ·rcases ae with ae|⟨E,h1,h2⟩
  ·exact h (.inl ae)
  ·obtain⟨aE,ay,ai⟩:=Ek E b h1 h2;exact h (.inr ⟨aE,ay,ai⟩)
 ·rw[hD] at bg;by_cases e:dst=E
  ·subst e;simp only[if_true,Option.some.injEq] at bg;subst bg;exact .inr (eB (by simp[cF]) (by simp) go).2
  ·have bz:¬E=dst:=fun h=>e h.symm
   by_cases e2:o=E
   ·subst e2;simp only[e,if_false,if_true,Option.some.injEq] at bg;subst bg;exact .inr (eB (by simp[cF]) (by simp) go).1
   ·have E3:¬E=o:=fun h=>e2 h.symm
    simp only[e,e2,if_false] at bg;exact .inl ⟨bg,by simp[bz,E3],fun _ _ _=>rfl⟩
 ·rcases hold E b h1 g1 with⟨rfl,ay,ai⟩|⟨rfl,mV,ay⟩|⟨mV,ay,ai,bn⟩<;>rcases hold aE b h2 g2 with⟨rfl,c4,dx⟩|⟨rfl,Fu,c4⟩|⟨Fu,c4,dx,jC⟩
  ·rfl
  ·exact absurd c4 ai
  ·exact absurd (S.df o aE b a_ dx ay jC).symm c4
  ·exact absurd ay dx
  ·rfl
  ·exact absurd (S.df _ aE b a_ dx (dz b ay) jC).symm c4
  ·exact absurd (S.df E o b ai a_ bn c4) ay
  ·exact absurd (S.df E _ b ai a_ bn (dz b c4)) ay
  ·exact S.df E aE b ai dx bn jC
 ·obtain⟨aE,ay,ai⟩:=Ek E b h1 g1;exact S.cc aE b ay ai
 ·obtain⟨aE,ay,ai⟩:=Ek E b h1 g1;exact S.dL ay ai
theorem fx.map{w':World}{av bE:Nat->Prop}{ps:List (G×Value)}{es:List (G×Option (List G))}{ap:List Value}(h:fx w av ps es ap)(go:∀{d v},Rd w av d v->Rd w' bE d v):
  (∀n,n∈ap->∀b,aZ n=some b->w'.heap[b]? =w.heap[b]?)->fx w' bE ps es ap:=by
 induction h with
 |nil=>intro _;exact .nil
 |kZ k v _ ih=>intro ah;exact .kZ k v (ih ah)
 |row k v xs e O h hr _ ih=>intro ah;exact .row k v xs e O (m3 h (ah _ List.mem_cons_self)) ⟨hr.1,fun j g1 g2=>go (hr.2 j g1 g2)⟩ (ih fun n hn=>ah n (List.mem_cons_of_mem _ hn))
theorem fx.get{av:Nat->Prop}{ps:List (G×Value)}{es:List (G×Option (List G))}{ap:List Value}(h:fx w av ps es ap)(n:G):∀i,(dm es n=none->gh ps n i=none)/\
  ∀xs,dm es n=some (some xs)->∃j v e O eZ jW,gh ps n i=some (j,v)/\rowAt w false e 1 v xs.length O/\ch w av (flat .str xs) O/\ap=eZ++v::jW/\fx w av ps (cT es n none) (eZ++jW):=by
 induction h with
 |nil=>intro i;exact⟨fun _=>rfl,fun xs h=>by cases h⟩
 |kZ k v r ih=>
  intro i;simp only[dm,gh,cT];cases k==n with
  |true=>exact⟨(fun h=>by cases h),(fun xs h=>by cases h)⟩
  |false=>
   simp only[cond_false];obtain⟨h1,h2⟩:=ih (i+1);refine⟨h1,fun xs h=>?_⟩
   obtain⟨j,v',e,O,eZ,jW,a1,a2,a3,a4,a5⟩:=h2 xs h;exact⟨j,v',e,O,eZ,jW,a1,a2,a3,a4,.kZ k v a5⟩
 |row k v ys hg y4 cW c2 r ih=>
  rename_i ps es ap;intro i;simp only[dm,gh,cT];cases k==n with
  |true=>
   simp only[cond_true];refine⟨fun h=>(by cases h),fun xs h=>?_⟩
   cases h;exact⟨i,v,hg,y4,[],ap,rfl,cW,c2,rfl,.kZ k v r⟩
  |false=>
   simp only[cond_false];obtain⟨h1,h2⟩:=ih (i+1);refine⟨h1,fun xs h=>?_⟩
   obtain⟨j,v',e,O,eZ,jW,a1,a2,a3,a4,a5⟩:=h2 xs h;exact⟨j,v',e,O,v::eZ,jW,a1,a2,a3,by rw[a4];rfl,.row k v ys hg y4 cW c2 a5⟩
theorem fx.put{av:Nat->Prop}{ps:List (G×Value)}{es:List (G×Option (List G))}{ap:List Value}(h:fx w av ps es ap)(n:G){v:Value}{xs:List G}{e:TypeId}{O:List Value}(cW:rowAt w false e 1 v xs.length O)(c2:ch w av (flat .str xs) O):
  ∃cy D en,ap=cy++(D++en)/\fx w av (cT ps n v) (cT es n (some xs)) (cy++v::en):=by
 induction h with
 |nil=>exact⟨[],[],[],rfl,.row n v xs e O cW c2 .nil⟩
 |kZ k v0 r ih=>
  rename_i ps es ap;simp only[cT];cases k==n with
  |true=>exact⟨[],[],ap,rfl,.row k v xs e O cW c2 r⟩
  |false=>
   obtain⟨cy,D,en,h1,h2⟩:=ih;exact⟨cy,D,en,h1,.kZ k v0 h2⟩
 |row k v0 ys hg y4 ZG _6 r ih=>
  rename_i ps es ap;simp only[cT];cases k==n with
  |true=>exact⟨[],[v0],ap,rfl,.row k v xs e O cW c2 r⟩
  |false=>
   obtain⟨cy,D,en,h1,h2⟩:=ih;exact⟨v0::cy,D,en,by rw[h1];rfl,.row k v0 ys hg y4 ZG _6 h2⟩
theorem fx.keys{av:Nat->Prop}{ps:List (G×Value)}{es:List (G×Option (List G))}{ap:List Value}(h:fx w av ps es ap):ps.map (·.1)=es.map (·.1)/\ps.length=es.length:=by
 induction h with
 |nil=>exact⟨rfl,rfl⟩
 |kZ _ _ _ ih=>exact⟨by simp[ih.1],by simp[ih.2]⟩
 |row _ _ _ _ _ _ _ _ ih=>exact⟨by simp[ih.1],by simp[ih.2]⟩
theorem RS{l:aw}{o s:Nat}{es:List (G×Option (List G))}(h:n9 st l=some (o,s,es)):l=.own o s/\look st.sites o=some (.ef s es):=by
 cases l<;>first|(cases h;done)|skip
 rename_i E u;simp only[n9] at h;split at h
 ·rename_i ag g' hl;cases hb:ag.beq u with
  |false=>simp[hb] at h
  |true=>
   simp only[hb,cond_true,Option.some.injEq,Prod.mk.injEq] at h;obtain⟨rfl,rfl,rfl⟩:=h;have:=Nat.eq_of_beq_eq_true hb;subst this;exact⟨rfl,hl⟩
 ·cases h
theorem Sk(S:ad J H X B st tm w){C:Ctx}(az:CtxOk P C){T eL fo:TypeId}{m k:Operand}{l:aw}{n:G}{o s dst:Nat}{es:List (G×Option (List G))}(an:D.op=.lookup T m k false)(c9:D.dst=some dst)(U:b2 st D.dst=true)
  (aS:C.tt T=.map eL fo .strs) (hm:aI C st T m=.av (.ak l)) (ah:aI C st 0 k=.av (.ak (.d (.str n)))) (mI:n9 st l=some (o,s,es)) (cF:o≠dst):
  Holds (.ee (o4 es n) (fun _=>bQ (.own dst (aR st dst))) fun r=>[(o,.ef s r.1),(dst,.row (aR st dst) .str r.2)]) (cr P J H X st tm w D):=by
 have bk:=az.tt T;rw[aS] at bk;obtain⟨rfl,hl⟩:=RS mI;have em:=cJ S C T m;rw[hm] at em;have jb:=cJ S C 0 k;rw[ah] at jb;obtain⟨bs,j0,h4⟩:=gf (s:=n) jb;have lU:Act.eval ⟨tm,[]⟩ k=ea n:=by rw[j0];exact qu h4
 obtain⟨b,arr,clock,ap,h1,h2,Y,ps,aP,bq⟩:=S.sites o _ hl;have k_:Act.eval ⟨tm,[]⟩ m=.map (some b):=(Ref.at em.2 hl rfl:_=bD (B o)).trans (by rw[h1];rfl)
 obtain⟨bz,aM⟩:∃bz,hG P fo (.slice bz) (.slice none 0 0):=bk.2.2;have y6:(zeroValue fo).run P w=.ok (.slice none 0 0) w:=by
  obtain⟨_,_,_,h⟩:=aM;cases af:P.info? fo with
  |none=>simp[af] at h
  |some i=>
   simp only[af,Option.map_some,Option.some.injEq,Prod.mk.injEq] at h;simp[zeroValue,jH af,h.2]
 have hf:=qg (w:=w) bk.2.1 aP n;have dF:(b::ap.flatMap fun v=>(aZ v).toList).Nodup:=by rw[h1] at h2;simpa[bb,aZ] using h2
 refine Holds.ee fun r hr=>?_
 obtain⟨g',xs⟩:=r;have hr:o4 es n=some (g',xs):=hr;have main:∃v e O mA,(Instr.lookup T (.map (some b)) (ea n) false).run P w=.ok v w/\rowAt w false e 1 v xs.length O/\ch w (al X B st.sites) (flat .str xs) O/\fx w (al X B st.sites) ps g' mA/\
   (∀q,aZ v=some q->q∈bb (B o))/\(b::mA.flatMap fun v=>(aZ v).toList).Nodup/\(∀q,q∈(mA.flatMap fun v=>(aZ v).toList)->q∈(ap.flatMap fun v=>(aZ v).toList))/\∀q,aZ v=some q->q∉(b::mA.flatMap fun v=>(aZ v).toList):=by
  unfold o4 at hr;split at hr
  ·rename_i aJ;cases hr;rw[(bq.get n 0).1 aJ] at hf;refine⟨.slice none 0 0,0,[],ap,?_,oT w _ _ _,⟨rfl,fun j h=>by simp[flat] at h⟩,bq,fun q aD=>(by cases aD),dF,fun q aD=>aD,fun q aD=>(by cases aD)⟩
   simp[Instr.lookup,run_underlying bk.1.1,MapKept.run_getObj_map Y,l9 bk.2.1,hf,y6,Result.andThen]
  ·cases hr
  ·rename_i ys aJ;cases hr;obtain⟨j,v,e,O,eZ,jW,g1,g2,g3,g4,g5⟩:=(bq.get n 0).2 _ aJ;rw[g1] at hf;subst g4;have rA:∀q,aZ v=some q->q∈((eZ++v::jW).flatMap fun v=>(aZ v).toList):=fun q aD=>by
    rw[List.flatMap_append,List.flatMap_cons,aD];simp
   refine⟨v,e,O,eZ++jW,?_,g2,g3,g5,fun q aD=>?_,?_,fun q aD=>?_,fun q aD hm=>?_⟩
   ·simp[Instr.lookup,run_underlying bk.1.1,MapKept.run_getObj_map Y,l9 bk.2.1,hf,Result.andThen]
   ·rw[h1];exact hj.2 (.inr ⟨v,by simp,aD⟩)
   ·refine dF.sublist (List.Sublist.cons_cons b ?_);rw[List.flatMap_append,List.flatMap_append,List.flatMap_cons];exact(List.Sublist.refl _).append (List.sublist_append_right _ _)
   ·rw[List.flatMap_append] at aD ⊢;rw[List.flatMap_cons];rcases List.mem_append.1 aD with aD|aD
    ·exact List.mem_append.2 (.inl aD)
    ·exact List.mem_append.2 (.inr (List.mem_append.2 (.inr aD)))
   ·rw[List.flatMap_append,List.flatMap_cons,aD] at dF;rcases List.mem_cons.1 hm with rfl|hm
    ·exact(List.nodup_cons.1 dF).1 (by simp)
    ·have h:=(List.nodup_cons.1 dF).2;rw[List.flatMap_append] at hm;have h:=List.nodup_append.1 h;rcases List.mem_append.1 hm with hm|hm
     ·exact h.2.2 q hm q (by simp) rfl
     ·have:=h.2.1;simp only[Option.toList_some,List.singleton_append,List.nodup_cons] at this;exact this.1 hm
 obtain⟨v,e,O,mA,dO,de,h',PX,r5,oN,r7,Fq⟩:=main;have gF:∀{l:List Value},bb (.tuple (.map (some b)::l).toArray)=b::l.flatMap fun v=>(aZ v).toList:=by intro l;simp[bb,aZ]
 have ow:bb v=(aZ v).toList:=(hp de).2;have bO:=S.aaH (o:=o) (dst:=dst) (bm:=.ef s g') (hC:=.row (aR st dst) .str xs) (nv:=.tuple (.map (some b)::mA).toArray) (rP:=v) cF hl rfl rfl (by rw[h1];rfl) (fun M L=>iI L)
  (fun q aD=>by rw[h1,gF];rw[gF] at aD;exact(List.mem_cons.1 aD).elim (fun h=>List.mem_cons.2 (.inl h)) fun h=>List.mem_cons_of_mem _ (r7 q h))
  (fun q aD=>by
   rw[ow] at aD;have aD:aZ v=some q:=by simpa using aD
   exact⟨r5 q aD,by rw[gF];exact Fq q aD⟩)
  (fun bw yI go=>⟨⟨b,arr,clock,mA,bw,by rw[bw,gF];exact oN,Y,ps,aP,PX.map (fun h=>hB go h) fun _ _ _ _=>rfl⟩,e,O,by rw[yI];exact de,fun j g1 g2=>hB go (h'.2 j g1 g2)⟩)
 refine hz (us:=[(o,.ef s g'),(dst,.row (aR st dst) .str xs)]) bO U (vv:=v) ?_ ?_
 ·unfold execOp;simp only[an,k_,lU,Sem.run_bind,dO,Result.andThen_ok,Sem.run_pure]
 ·refine⟨by rcases de.2 with⟨h,_⟩|⟨_,_,_,_,h,_⟩<;>rw[h]<;>rfl,Ref.mk (M:=.row (aR st dst) .str xs) ?_ rfl (by simp[(hp de).1])⟩
  simp only[aT,ck];simp
theorem Hk(S:ad J H X B st tm w){C:Ctx}(az:CtxOk P C){T:TypeId}{m k x:Operand}(an:D.op=.mapUpdate T m k x\/D.op=.insert T m k x)(U:b2 st D.dst=true):
  Holds (kN.qO C st T m k x) (cr P J H X st tm w D):=by
 have bk:=az.tt T;unfold kN.qO;split
 ·rename_i eL fo t o s n d aS hm ah hx;rw[aS] at bk;split
  ·rename_i ag u es hl;cases hb:(ag.beq s&&decide (u=t)) with
   |false=>exact .fail
   |true=>
    simp only[cond_true];simp only[Bool.and_eq_true,decide_eq_true_eq] at hb;have L:=Nat.eq_of_beq_eq_true hb.1;subst L;split
    ·rename_i v Z;refine Holds.eU ?_
     have em:=cJ S C T m;rw[hm] at em;have jb:=cJ S C 0 k;rw[ah] at jb;have ex:=cJ S C 0 x;rw[hx] at ex;have hl:look st.sites o=some (.map ag u es):=hl;obtain⟨b,h1,arr,clock,h2,Y⟩:=S.sites o _ hl;have k_:Act.eval ⟨tm,[]⟩ m=B o:=(Ref.at em.2 hl rfl:_=bD (B o)).trans (by rw[h1];rfl)
     obtain⟨bs,j0,h4⟩:=gf (s:=n) jb;have lU:Act.eval ⟨tm,[]⟩ k=ea n:=by rw[j0];exact qu h4
     have pC:Act.eval ⟨tm,[]⟩ x=mU u v:=Zr Z (av:=al X B st.sites) ex;obtain⟨iT,ji,dO,de⟩:=Sr (T:=T) bk.1.1 bk.2.1 h2 Y n v;have bO:=S.YE hl h1 h2 (ji:=ji) de;refine oS (us:=[(o,.map ag u (cT es n v))]) bO U ?_
     unfold execOp;rcases an with an|an
     ·simp only[an,k_,h1,lU,pC,Sem.run_bind,dO,Result.andThen_ok,Sem.run_pure]
     ·simp only[an,k_,h1,lU,pC,Sem.run_bind,dO,Result.andThen_ok,Sem.run_pure]
    ·exact .fail
  ·exact .fail
 ·rename_i eL fo o s n E u aS hm ah hx;rw[aS] at bk;split
  ·rename_i ag es bW ys hl g_;cases hb:(ag.beq s&&bW.beq u) with
   |false=>exact .fail
   |true=>
    simp only[cond_true];simp only[Bool.and_eq_true] at hb;have L:=Nat.eq_of_beq_eq_true hb.1;have hu:=Nat.eq_of_beq_eq_true hb.2;subst L hu;refine Holds.eU ?_
    have em:=cJ S C T m;rw[hm] at em;have jb:=cJ S C 0 k;rw[ah] at jb;have ex:=cJ S C 0 x;rw[hx] at ex;have hl:look st.sites o=some (.ef ag es):=hl;have g_:look st.sites E=some (.row bW .str ys):=g_;obtain⟨b,arr,clock,ap,h1,h2,Y,ps,aP,bq⟩:=S.sites o _ hl;obtain⟨e,O,dO,de⟩:=S.sites E _ g_;have k_:Act.eval ⟨tm,[]⟩ m=.map (some b):=(Ref.at em.2 hl rfl:_=bD (B o)).trans (by rw[h1];rfl)
    obtain⟨bs,j0,h4⟩:=gf (s:=n) jb;have lU:Act.eval ⟨tm,[]⟩ k=ea n:=by rw[j0];exact qu h4
    have pC:Act.eval ⟨tm,[]⟩ x=B E:=(Ref.at ex.2 g_ rfl:_=bD (B E)).trans (hp dO).1;have cF:E≠o:=by rintro rfl;rw[hl] at g_;cases g_
    obtain⟨iT,ji,q1,q2⟩:=Ge (T:=T) bk.1.1 bk.2.1 Y aP n (B E);obtain⟨cy,cX,en,rfl,ai⟩:=bq.put n dO ⟨by rw[dD];exact dO.1,de⟩
    have gF:∀{l:List Value},bb (.tuple (.map (some b)::l).toArray)=b::l.flatMap fun v=>(aZ v).toList:=by intro l;simp[bb,aZ]
    have ow:bb (B E)=(aZ (B E)).toList:=(hp dO).2;have a_:bL st.sites o:=⟨_,hl,rfl⟩;have bg:bL st.sites E:=⟨_,g_,rfl⟩;have dF:((b::(cy++en).flatMap fun v=>(aZ v).toList)++(aZ (B E)).toList).Nodup:=by
     have h:=S.CG (ks:=[o,E]) (fun aE h=>by simp only[List.mem_cons,List.not_mem_nil,or_false] at h;rcases h with rfl|rfl<;>assumption) (by simp;exact fun h=>cF h.symm)
     have e1:cn B [o,E]=bb (B o)++bb (B E):=by simp[cn]
     rw[e1,h1,gF,ow] at h;refine h.sublist (List.Sublist.append (List.Sublist.cons_cons b ?_) (List.Sublist.refl _));rw[List.flatMap_append,List.flatMap_append,List.flatMap_append];exact(List.Sublist.refl _).append (List.sublist_append_right _ _)
    have Md:(b::(cy++B E::en).flatMap fun v=>(aZ v).toList).Nodup:=by
     refine(List.Perm.nodup_iff ?_).2 dF;rw[List.flatMap_append,List.flatMap_append,List.flatMap_cons,List.cons_append,List.append_assoc];exact List.Perm.cons _ (List.Perm.append_left _ List.perm_append_comm)
    have nA:b∈bb (B o):=by rw[h1,gF];exact List.mem_cons_self
    have bO:=S.rE (o:=o) (bm:=.ef ag (cT es n (some ys))) (nv:=.tuple (.map (some b)::(cy++B E::en)).toArray) (w':=jJ w b (.map iT ji)) (ks:=[(E,.dead bW)]) (K:=[E,o])
     (fun aE s2 hm=>by
      simp only[List.mem_singleton,Prod.mk.injEq] at hm;obtain⟨rfl,rfl⟩:=hm;exact⟨_,g_,rfl,rfl⟩)
     (fun aE=>by
      simp only[keys,List.mem_cons,List.not_mem_nil,or_false];exact⟨fun h=>h.imp id fun h=>⟨h,a_⟩,fun h=>h.imp id fun h=>h.1⟩)
     (fun q aD hn=>sB w b q _ (by rintro rfl;exact hn o (by simp) nA)) rfl rfl rfl (by simp[jJ]) rfl
     (fun M L=>by rw[hl] at L;cases L;exact .inr ⟨rfl,by rw[h1];rfl⟩)
     (fun q aD=>by
      rw[gF] at aD;have nK:∃aE,aE∈[E,o]/\q∈bb (B aE):=by
       rcases List.mem_cons.1 aD with rfl|aD
       ·exact⟨o,by simp,nA⟩
       ·rw[List.flatMap_append,List.flatMap_cons] at aD;rcases List.mem_append.1 aD with aD|aD
        ·exact⟨o,by simp,by rw[h1,gF,List.flatMap_append];exact List.mem_cons_of_mem _ (List.mem_append.2 (.inl aD))⟩
        ·rcases List.mem_append.1 aD with aD|aD
         ·exact⟨E,by simp,by rw[ow];exact aD⟩
         ·exact⟨o,by simp,by rw[h1,gF,List.flatMap_append,List.flatMap_append];exact List.mem_cons_of_mem _ (List.mem_append.2 (.inr (List.mem_append.2 (.inr aD))))⟩
      obtain⟨aE,g1,g2⟩:=nK;refine⟨?_,.inl ⟨aE,g1,g2⟩⟩;have:bL st.sites aE:=by simp only[List.mem_cons,List.not_mem_nil,or_false] at g1;rcases g1 with rfl|rfl<;>assumption
      have:=S.dL this g2;simpa[jJ] using this)
     (fun bw go=>⟨b,iT,ji,_,bw,by rw[bw,gF];exact Md,FT w b _ _ Y,_,q2,ai.map (fun h=>hB go h) fun v Z q aD=>sB w b q _ (by
      rintro rfl;exact(List.nodup_cons.1 Md).1 (List.mem_flatMap.2 ⟨v,Z,by rw[aD];simp⟩))⟩)
    refine oS (us:=[(E,.dead bW),(o,.ef ag (cT es n (some ys)))]) bO U ?_
    unfold execOp;rcases an with an|an
    ·simp only[an,k_,lU,pC,Sem.run_bind,q1,Result.andThen_ok,Sem.run_pure]
    ·simp only[an,k_,lU,pC,Sem.run_bind,q1,Result.andThen_ok,Sem.run_pure]
  ·exact .fail
 ·exact .fail
theorem Uw(S:ad J H X B st tm w){C:Ctx}(az:CtxOk P C){T eL fo:TypeId}{t:aB}{m k:Operand}{c:Bool}{l:aw}{n:G}{es:List (G×den t)}{d:aK}(an:D.op=.lookup T m k c)(U:b2 st D.dst=true)
  (aC:t≠.strs) (aS:C.tt T=.map eL fo t) (hm:aI C st T m=.av (.ak l)) (ah:aI C st 0 k=.av (.ak (.d (.str n)))) (mI:mapOf st l=some ⟨t,es⟩) (uK:rf t (dm es n)=some d):
  cr P J H X st tm w D (bif c then .iX [.ak (.d d),.ak (.d (.bool (dm es n).isSome))] else one d) []:=by
 have bk:=az.tt T;rw[aS] at bk;have em:=cJ S C T m;rw[hm] at em;have jb:=cJ S C 0 k;rw[ah] at jb;obtain⟨bs,j0,h4⟩:=gf (s:=n) jb;have lU:Act.eval ⟨tm,[]⟩ k=ea n:=by rw[j0];exact qu h4
 have aM:∀cX:Option (den t),rf t cX=some d->(∀x,cX=some x->∀av,Rd w av d (mU t x))/\(cX=none->∃z,(zeroValue fo).run P w=.ok z w/\∀av,Rd w av d z):=by
  intro cX h;have he:=bk.2.2;have key:∀{Qb:TypeDesc} {z:Value},hG P fo Qb z->(zeroValue fo).run P w=.ok z w:=by
   intro Qb z h;obtain⟨_,_,_,h⟩:=h;cases af:P.info? fo with
   |none=>simp[af] at h
   |some i=>
    simp only[af,Option.map_some,Option.some.injEq,Prod.mk.injEq] at h;simp[zeroValue,jH af,h.2]
  cases t<;>first|(exact he.elim)|(exact absurd rfl aC)|skip
  ·simp only[rf,Option.some.injEq] at h;subst h;refine⟨fun x hx av=>by subst hx;exact .int _ _,fun hn=>?_⟩
   subst hn;exact⟨_,key he,fun av=>.int _ _⟩
  ·simp only[rf,Option.some.injEq] at h;subst h;refine⟨fun x hx av=>by subst hx;exact .bool _,fun hn=>?_⟩
   subst hn;exact⟨_,key he,fun av=>.bool _⟩
 obtain⟨ov,k6⟩:=aM _ uK;have main:∃v,(Instr.lookup T (Act.eval ⟨tm,[]⟩ m) (Act.eval ⟨tm,[]⟩ k) c).run P w=.ok (if c then .tuple #[v,.bool (dm es n).isSome] else v) w/\∀av,Rd w av d v:=by
  rw[lU];rcases I7 S aC em mI with⟨h1,rfl⟩|⟨b,h1,arr,clock,h2,Y⟩
  ·obtain⟨z,mP,z2⟩:=k6 rfl;refine⟨z,?_,z2⟩;have hf:=Ib (w:=w) (t:=t) bk.2.1 (es:=[]) (arr:=#[]) rfl n;have uJ:(Instr.findKey eL (ea n) []).run P w=.ok none w:=hf;simp[Instr.lookup,run_underlying bk.1.1,h1,l9 bk.2.1,uJ,mP,dm,Result.andThen]
  ·have hf:=Ib (w:=w) bk.2.1 Y n;have aJ:=Us n es 0;cases bo:gh es n 0 with
   |none=>
    rw[bo] at hf aJ;have aJ:dm es n=none:=aJ.symm;obtain⟨z,mP,z2⟩:=k6 aJ;refine⟨z,?_,z2⟩;simp[Instr.lookup,run_underlying bk.1.1,h1,MapKept.run_getObj_map h2,l9 bk.2.1,hf,mP,aJ,Result.andThen]
   |some p=>
    rw[bo] at hf aJ;have aJ:dm es n=some p.2:=aJ.symm;refine⟨mU t p.2,?_,ov p.2 aJ⟩;simp[Instr.lookup,run_underlying bk.1.1,h1,MapKept.run_getObj_map h2,l9 bk.2.1,hf,aJ,Result.andThen]
 obtain⟨v,dO,de⟩:=main;refine dt S U (vv:=if c then .tuple #[v,.bool (dm es n).isSome] else v) ?_ ?_
 ·unfold execOp;simp only[an,Sem.run_bind,dO,Result.andThen_ok,Sem.run_pure]
 ·cases c with
  |true=>
   refine⟨[v,.bool (dm es n).isSome],rfl,rfl,fun j g1 g2=>?_⟩
   match j,g1 with
   |0,_=>exact de _
   |1,_=>exact Rd.bool _
  |false=>exact de _
theorem SQ(S:ad J H X B st tm w){C:Ctx}(az:CtxOk P C){T eL fo:TypeId}{m k:Operand}{c:Bool}{l:aw}{n:G}{es:List (G×List G)}(an:D.op=.lookup T m k c)(U:b2 st D.dst=true)
  (aS:C.tt T=.map eL fo .strs) (hm:aI C st T m=.av (.ak l)) (ah:aI C st 0 k=.av (.ak (.d (.str n)))) (mI:mapOf st l=some ⟨.strs,es⟩):
  cr P J H X st tm w D (bif c then .iX [.ak (.d (.sl .str ((dm es n).getD []))),.ak (.d (.bool (dm es n).isSome))] else one (.sl .str ((dm es n).getD []))) []:=by
 have bk:=az.tt T;rw[aS] at bk;have em:=cJ S C T m;rw[hm] at em;have jb:=cJ S C 0 k;rw[ah] at jb;obtain⟨bs,j0,h4⟩:=gf (s:=n) jb;have lU:Act.eval ⟨tm,[]⟩ k=ea n:=by rw[j0];exact qu h4
 obtain⟨bz,aM⟩:∃bz,hG P fo (.slice bz) (.slice none 0 0):=bk.2.2;have y6:(zeroValue fo).run P w=.ok (.slice none 0 0) w:=by
  obtain⟨_,_,_,h⟩:=aM;cases af:P.info? fo with
  |none=>simp[af] at h
  |some i=>
   simp only[af,Option.map_some,Option.some.injEq,Prod.mk.injEq] at h;simp[zeroValue,jH af,h.2]
 have main:∃v,(Instr.lookup T (Act.eval ⟨tm,[]⟩ m) (Act.eval ⟨tm,[]⟩ k) c).run P w=.ok (if c then .tuple #[v,.bool (dm es n).isSome] else v) w/\Rd w (al X B st.sites) (.sl .str ((dm es n).getD [])) v:=by
  rw[lU];rcases Ih S em mI with⟨h1,rfl⟩|⟨b,arr,clock,ps,h1,h2,Y,aP,bq,eu⟩
  ·refine⟨.slice none 0 0,?_,.nil _⟩;have uJ:(Instr.findKey eL (ea n) []).run P w=.ok none w:=qg (w:=w) bk.2.1 (es:=[]) (arr:=#[]) rfl n;simp[Instr.lookup,run_underlying bk.1.1,h1,l9 bk.2.1,uJ,y6,dm,Result.andThen]
  ·have hf:=qg (w:=w) bk.2.1 aP n;have key:∀(ps:List (G×Value)) (es:List (G×List G)) (i:Nat),ps.map (·.1)=es.map (·.1)->ps.length=es.length->(∀i (h1:i<es.length) (h2:i<ps.length),Rd w (al X B st.sites) (.sl .str (es[i]).2) (ps[i]).2)->
     (dm es n=none/\gh ps n i=none)\/∃xs j v,dm es n=some xs/\gh ps n i=some (j,v)/\Rd w (al X B st.sites) (.sl .str xs) v:=by
    intro ps;induction ps with
    |nil=>
     intro es i h1 h2 _;match es,h2 with
     |[],_=>exact .inl ⟨rfl,rfl⟩
    |cons p ps ih=>
     intro es i h1 h2 Y;match es,h2 with
     |q::es,h2=>
      simp only[List.map_cons,List.cons.injEq] at h1;obtain⟨k,v⟩:=p;obtain⟨k',xs⟩:=q;obtain⟨e1,e2⟩:=h1;have e1:k=k':=e1;subst e1;simp only[dm,gh];cases k==n with
      |true=>exact .inr ⟨xs,i,v,rfl,rfl,Y 0 (by simp) (by simp)⟩
      |false=>exact ih es (i+1) e2 (by simpa using h2) fun j g1 g2=>Y (j+1) (by simpa using g1) (by simpa using g2)
   rcases key ps es 0 bq Y eu with⟨g1,g2⟩|⟨xs,j,v,g1,g2,g3⟩
   ·rw[g2] at hf;refine⟨.slice none 0 0,?_,by rw[g1];exact .nil _⟩
    simp[Instr.lookup,run_underlying bk.1.1,h1,MapKept.run_getObj_map h2,l9 bk.2.1,hf,y6,g1,Result.andThen]
   ·rw[g2] at hf;refine⟨v,?_,by rw[g1];exact g3⟩
    simp[Instr.lookup,run_underlying bk.1.1,h1,MapKept.run_getObj_map h2,l9 bk.2.1,hf,g1,Result.andThen]
 obtain⟨v,dO,de⟩:=main;refine dt S U (vv:=if c then .tuple #[v,.bool (dm es n).isSome] else v) ?_ ?_
 ·unfold execOp;simp only[an,Sem.run_bind,dO,Result.andThen_ok,Sem.run_pure]
 ·cases c with
  |true=>
   refine⟨[v,.bool (dm es n).isSome],rfl,rfl,fun j g1 g2=>?_⟩
   match j,g1 with
   |0,_=>exact de
   |1,_=>exact Rd.bool _
  |false=>exact de
theorem SN(S:ad J H X B st tm w){C:Ctx}(az:CtxOk P C)(U:b2 st D.dst=true):Holds (kN C st D) (cr P J H X st tm w D):=by
 unfold kN;split
 ·rename_i t r an;split
  ·rename_i o eL fo ty c9 aS;have bk:=az.tt t;rw[aS] at bk;split
   ·exact Holds.eU (GM S an c9 U bk.1.1 (fun x h=>by cases h))
   ·rename_i x;split
    ·rename_i k n hx;refine Holds.eU (GM S an c9 U bk.1.1 (fun y h=>?_))
     cases h;have ex:=cJ S C 0 x;rw[hx] at ex;exact⟨k,n,jh ex⟩
    ·exact .fail
  ·exact .fail
 ·rename_i t m k x an;exact Hk S az (.inl an) U
 ·rename_i t m k x an;exact Hk S az (.inr an) U
 ·rename_i t m k c an;split
  ·rename_i eL fo ty l n aS hm ah;split
   ·rename_i u es mI;cases hu:decide (u=ty) with
    |false=>exact .fail
    |true=>
     have hu:=of_decide_eq_true hu;subst hu;simp only[cond_true];split
     ·rename_i d uK;by_cases aC:u=.strs
      ·subst aC;simp only[rf,Option.some.injEq] at uK;subst uK;exact Holds.ok (SQ S az an U aS hm ah mI)
      ·exact Holds.ok (Uw S az an U aC aS hm ah mI uK)
     ·exact .fail
   ·split
    ·rename_i o s es d mI c9;cases hc:(c||o.beq d) with
     |true=>exact .fail
     |false=>
      simp only[cond_false];simp only[Bool.or_eq_false_iff] at hc;rw[hc.1] at an;exact Sk S az an c9 U aS hm ah mI (by rintro rfl;simp at hc)
    ·exact .fail
  ·exact .fail
 ·rename_i t x an;split
  ·rename_i bJ q z e n aS hx;exact Holds.ok (Qu S az an U aS hx)
  ·exact .fail
 ·exact .fail
end
theorem mY{P:Program}{e:TypeId}{t:aB}(h:Ci P e t):au t=1/\(∃d z,hG P e d z)/\∃l ei,rL t=some l/\u3 t=some ei/\ci (enc t ei)=[l]:=by
 cases t<;>first|exact h.elim|exact⟨rfl,⟨_,_,h⟩,_,_,rfl,rfl,rfl⟩
theorem GW{P:Program}{e:TypeId}{t:aB}{T:TypeId}(h:Ci P e t):t.fc=true->T=ld:=by intro ae;cases t<;>first|exact h.elim|cases ae
theorem As(t:aB)(x:den t)(xs:List (den t)):flat t (x::xs)=enc t x++flat t xs:=by simp[flat]
theorem Ch(a b:List aK):ci (a++b)=ci a++ci b:=by simp[ci]
theorem Jo{t:aB}{z:den t}(aM:u3 t=some z)(xs:List (den t)):yQ t xs xs.length=ci (flat t xs):=by
 unfold yQ;rw[aM];suffices h:∀(ys ga:List (den t)),xs=ga++ys->((List.range' ga.length ys.length).flatMap fun j=>ci (enc t (xs.getD j z)))=ci (flat t ys) by
  have:=h xs [] rfl;rw[List.length_nil,<-List.range_eq_range'] at this;exact this
 intro ys;induction ys with
 |nil=>intro ga _;rfl
 |cons y ys ih=>
  intro ga hx;rw[List.length_cons,List.range'_succ,List.flatMap_cons,As,Ch];have e1:xs.getD ga.length z=y:=by rw[hx];simp[List.getD]
  have e2:=ih (ga++[y]) (by rw[hx];simp)
  rw[List.length_append,List.length_singleton] at e2;rw[e1,e2]
theorem Cf{t:aB}:∀{O:List aw} {xs:List (den t)},rH t O=some xs->O=ci (flat t xs):=by
 intro O;induction O with
 |nil=>intro xs h;cases h;rfl
 |cons l O ih=>
  intro xs h;cases l<;>try(cases h;done)
  rename_i d;simp only[rH] at h;split at h
  ·rename_i x ys h1 h2;cases h;rw[As,Ch,<-ih h2,nb _ _ _ h1];rfl
  ·cases h
theorem sF{aA:Type}{n:Nat}{xs ys:List aA}(h:long n xs=some ys):ys=xs/\xs.length=n:=by
 unfold long at h;split at h
 ·cases h;exact⟨rfl,by assumption⟩
 ·cases h
section
variable {P:Program}{J:World}{H:List Nat}{X:Nat->Prop}{B:Nat->Value}{st:ab}{tm:Array Value}{w:World}{D:Oper}
theorem ad.j6(S:ad J H X B st tm w):oG w/\∀b,b∈nO->¬al X B st.sites b/\b<w.heap.size:=by
 have bC:=S.fO;refine⟨ZS (fun b hb=>S.frame.block b (bC.lt b hb) (bC.H b hb)) bC.ok,fun b hb=>⟨?_,Nat.lt_of_lt_of_le (bC.lt b hb) S.frame.size⟩⟩
 rintro(h|⟨o,h1,h2⟩)
 ·exact bC.X b hb h
 ·rcases(S.cc o b h1 h2).2 with h|h
  ·exact bC.H b hb h
  ·have:=bC.lt b hb;omega
theorem YI{ds:List aK}{vs:List Value}{av:Nat->Prop}(h:ch w av ds vs):∀u∈vs,u.oneCell'=true:=by
 intro u hu;obtain⟨j,bF,rfl⟩:=List.getElem_of_mem hu;exact(h.2 j (by rw[<-h.1];exact bF) bF).ij
theorem I3(S:ad J H X B st tm w){T:TypeId}{o n:Nat}{t:aB}{xs:List (den t)}{vs:List Value}(he:au t=1)(eD:t.fc=true->T=ld)(Z:ch w (al X B st.sites) (flat t xs) vs)(U:b2 st D.dst=true)
  (cz:(execOp (Act.eval ⟨tm,[]⟩) D).run P w=.ok (.value (.pointer (some ⟨w.heap.size,0,none⟩))) (w.alloc (.cells vs.toArray T (0,0)))):Holds (pn o st t n xs) (cr P J H X st tm w D):=by
 unfold pn;cases hc:(xs.length.beq n&&Nat.ble n 1000) with
 |false=>exact .fail
 |true=>
  simp only[Bool.and_eq_true] at hc;have h1:=Nat.eq_of_beq_eq_true hc.1;have h2:=Nat.le_of_ble_eq_true hc.2;simp only[cond_true];have hl:vs.length=xs.length:=by rw[Z.1,dD,he,Nat.mul_one]
  have bO:=S.BL (o:=o) (T:=T) (rest:=[]) (cap:=n) Z (by rw[he,hl,h1];simp) (by unfold maxLen;omega) eD
  rw[List.append_nil] at bO;refine Holds.eU (hz (us:=[(o,.row (aR st o) t xs)]) bO U cz ?_);refine⟨w.heap.size,0,by simp,Ref.mk (M:=.row (aR st o) t xs) ?_ rfl ⟨xs.length,n,by simp[bD]⟩⟩
  simp only[aT,ck];simp
theorem UT(S:ad J H X B st tm w){C:Ctx}(az:CtxOk P C){elem e:TypeId}{t:aB}{n o:Nat}(aS:C.tt elem=.arr e t n)(an:D.op=.alloc elem)(U:b2 st D.dst=true):Holds (qU o st t n) (cr P J H X st tm w D):=by
 have bk:=az.tt elem;rw[aS] at bk;obtain⟨_,_,lX⟩:=id bk;obtain⟨he,_,l,ei,y7,jX,nF⟩:=mY lX;unfold qU;rw[jX];obtain⟨v,Z,lO⟩:=cg.vW (w:=w) bk (z:=List.replicate n l) (by simp only[cg.zero,y7,Option.map_some])
 obtain⟨h1,h2,Y⟩:=qa lO;have hr:ch w (al X B st.sites) (flat t (List.replicate n ei)) v.cells.toList:=by
  have:=Y B st.sites w (al X B st.sites);have e1:∀n,ci (flat t (List.replicate n ei))=List.replicate n l:=by
   intro n;induction n with
   |zero=>rfl
   |succ n ih=>rw[List.replicate_succ,As,Ch,nF,List.replicate_succ,ih];rfl
  refine hU (B:=B) (sites:=st.sites) ?_
  rw[e1];exact⟨h1,this⟩
 refine I3 (T:=elem) S he (GW lX) hr U ?_
 unfold execOp;simp[an,Instr.alloc,Z,newVar,newRow]
theorem XY(S:ad J H X B st tm w){C:Ctx}(az:CtxOk P C){elem e:TypeId}{t:aB}{n o:Nat}{x:Operand}(aS:C.tt elem=.arr e t n)(an:D.op=.box elem x)(U:b2 st D.dst=true):Holds (rK o st t n (aI C st elem x)) (cr P J H X st tm w D):=by
 have bk:=az.tt elem;rw[aS] at bk;have he:=(mY bk.2.2).1;have bi:=cJ S C elem x;unfold rK;split
 ·rename_i O hx;rw[hx] at bi;split
  ·rename_i xs mC;obtain⟨vs,Z,hl,hr⟩:∃vs:List Value,Act.eval ⟨tm,[]⟩ x=.agg vs.toArray/\vs.length=O.length/\∀j (h:j<O.length) (ae:j<vs.length),dl B st.sites w (al X B st.sites) (O[j]) (vs[j]):=bi;have mH:cl B st.sites w (al X B st.sites) O vs:=⟨hl,hr⟩;rw[Cf mC] at mH;refine I3 (T:=elem) S he (GW bk.2.2) (hU mH) U ?_
   unfold execOp;simp[an,Instr.box,newVar,newRow,Z,Value.cells]
  ·exact .fail
 ·exact .fail
theorem ad.arr(S:ad J H X B st tm w){o s:Nat}{t:aB}{xs:List (den t)}{v:Value}(hr:rowOf st o s=some ⟨t,xs⟩)(Z:dl B st.sites w (al X B st.sites) (.er o s t 0 0) v):
  ∃b c,∃cs:List Value,v=.pointer (some ⟨b,0,none⟩)/\bD (B o)=.slice (some ⟨b,0,none⟩) xs.length c/\gO w b 0 cs/\ch w (al X B st.sites) (flat t xs) cs:=by
 obtain⟨cs,hl,is⟩:=S.row hr;obtain⟨M,fA,iY⟩:∃M,look st.sites o=some M/\M.bT=s:=by
  rcases jI hr with h|h<;>exact⟨_,h,rfl⟩
 obtain⟨b,D,Z,tT⟩:=Z;obtain⟨n,c,bw⟩:=Ref.at tT fA iY;rcases is with⟨ol,_⟩|⟨a8,fF,dR,dW,_⟩
 ·rw[ol] at bw;cases bw
 ·have yI:=bw;rw[dR] at yI;cases yI;exact⟨b,c,cs,by simpa using Z,dR,dW,hU hl⟩
theorem V4(S:ad J H X B st tm w){C:Ctx}(az:CtxOk P C){T e:TypeId}{t:aB}{n:Nat}{x:Operand}(aS:C.tt T=.arr e t n)(an:D.op=.load T x)(U:b2 st D.dst=true):Holds (q8 st t n (aI C st T x)) (cr P J H X st tm w D):=by
 have bk:=az.tt T;rw[aS] at bk;obtain⟨he,_,_,ei,_,jX,_⟩:=mY bk.2.2;have bi:=cJ S C T x;unfold q8;split
 ·rename_i o s u hx;rw[hx] at bi;split
  ·rename_i be xs cW;split
   ·rename_i gD;obtain⟨rfl,rfl⟩:=gD;refine Holds.eh fun y aq=>?_
    obtain⟨rfl,hlen⟩:=sF (aq:long n xs=some y);obtain⟨b,c,cs,Z,_,hc,hr⟩:=S.arr cW bi;have hK:cs.length=n:=by rw[hr.1,dD,he,hlen,Nat.mul_one]
    refine dt S U (vv:=.agg cs.toArray) ?_ ?_
    ·have cz:=sv (P:=P) (w:=w) bk (by rintro h;cases h) ⟨b,0,none⟩ cs hK (fun j u hu=>by rw[gg];exact hc j u hu)
     unfold execOp;simp only[an,Instr.loadAt,Instr.sureAddr,Z,Sem.run_bind,Sem.run_pure,Result.andThen_ok,cz];rfl
    ·subst hlen;have:=fV (B:=B) (sites:=st.sites) hr.1 hr.2;rw[<-Jo jX] at this;exact⟨cs,rfl,this.1,this.2⟩
   ·exact .fail
  ·exact .fail
 ·exact .fail
theorem TQ(S:ad J H X B st tm w){C:Ctx}(az:CtxOk P C){T e:TypeId}{t:aB}{n:Nat}{a x:Operand}{v:bt}(aS:C.tt T=.arr e t n)(an:D.op=.store T a x)(U:b2 st D.dst=true)(Z:lI (aI C st T x)=some v):
  Holds (qF st t n (aI C st T a) v) (cr P J H X st tm w D):=by
 have bk:=az.tt T;rw[aS] at bk;have he:=(mY bk.2.2).1;have nM:=cJ S C T a;have hex:=cJ S C T x;rw[oV Z] at hex;unfold qF;split
 ·rename_i o s u O hx;rw[hx] at nM;split
  ·rename_i ag be xs e';have e':look st.sites o=some (.row ag be xs):=e';split
   ·rename_i gD;obtain⟨rfl,rfl,rfl⟩:=gD;split
    ·rename_i ys acF;cases hc:ys.length.beq n with
     |false=>exact .fail
     |true=>
      have y8:=Nat.eq_of_beq_eq_true hc;refine Holds.ee fun r hr=>?_
      obtain⟨_,hlen⟩:=sF (hr:long n xs=some r);obtain⟨vs,nG,hl,c2⟩:∃vs:List Value,Act.eval ⟨tm,[]⟩ x=.agg vs.toArray/\vs.length=O.length/\∀j (h:j<O.length) (ae:j<vs.length),dl B st.sites w (al X B st.sites) (O[j]) (vs[j]):=hex;have mH:cl B st.sites w (al X B st.sites) O vs:=⟨hl,c2⟩;rw[Cf acF] at mH;have mG:=hU mH;have lR:vs.length=n:=by rw[mG.1,dD,he,y8,Nat.mul_one]
      obtain⟨b,q0,acU,tT⟩:=nM;obtain⟨m,c,bw⟩:=Ref.at tT e' rfl;obtain⟨bz,cs,gT,dW⟩:=S.sites o _ e';rcases gT.2 with⟨hn,_⟩|⟨g,cap,cur,br,h7,aM,aJ,gq,iB,jq,gE⟩
      ·rw[hn] at bw;cases bw
      ·have oB:=bw;rw[h7] at oB;cases oB;have adn:cur.size=c:=by rw[jq,he,Nat.mul_one]
       have ny:0+vs.length<=cur.toList.length:=by
        have:cur.toList.length=cur.size:=Array.length_toList;omega
       have bO:ad J H X B {st with sites:=b5 st.sites o (.row ag be ys)} tm (w.setRow b (b' cur.toList 0 vs).toArray):=by
        refine S.write e' rfl rfl rfl (fI (by rw[h7];rfl)) aJ (fun L hw kv go=>?_)
        refine⟨bz,vs,⟨by rw[he,y8,Nat.mul_one];exact lR,.inr ⟨b,c,_,br,by rw[h7,hlen,y8],?_,kv,by omega,iB,?_,?_⟩⟩,fun j g1 g2=>hB go (mG.2 j g1 g2)⟩
        ·refine⟨aM.1,aM.2.imp id fun h=>⟨h.1,?_⟩⟩
         rw[List.size_toArray,l8 _ _ _ ny];simpa using h.2
        ·rw[List.size_toArray,l8 _ _ _ ny,Array.length_toList,adn,he,Nat.mul_one]
        ·rw[he,Nat.mul_one,y8,<-lR];simp[b']
       refine oS (us:=[(o,.row ag be ys)]) bO U ?_
       have cz:=FS (P:=P) (w:=w) bk (by rintro h;cases h) (vv:=.agg vs.toArray) (cur:=cur.toList) (off:=0) (by simpa using aJ) (by simpa using aM) (by simpa[Value.cells,cg.size] using lR) (by simpa[Value.cells] using ny) (by simpa[Value.cells] using YI mG)
       unfold execOp;simp only[an,acU,nG,Instr.storeAt,Instr.sureAddr,Sem.run_bind,Sem.run_pure,Result.andThen_ok,Nat.zero_mul,Nat.zero_add,cz];simp[Value.cells]
    ·exact .fail
   ·exact .fail
  ·exact .fail
 ·exact .fail
theorem QQ(S:ad J H X B st tm w){C:Ctx}(az:CtxOk P C){T e:TypeId}{t:aB}{m:Nat}{x i:Operand}{k:IntKind}{n:Int}(aS:C.tt T=.arr e t m)(af:aI C st 0 i=.av (.ak (.d (.int k n))))(an:D.op=.indexAddr T x i)(U:b2 st D.dst=true):
  Holds (qc C st t m (aI C st T x) n) (cr P J H X st tm w D):=by
 have bk:=az.tt T;rw[aS] at bk;obtain⟨dS,_,lX⟩:=bk;obtain⟨he,⟨d,z0,mE⟩,_⟩:=mY lX;have tS:=jL S af;have bi:=cJ S C T x;obtain⟨inf,jo,gl⟩:∃inf,P.info? e=some inf/\inf.size=1:=by
  have:=mE.2.2.2;cases aD:P.info? e with
  |none=>simp[aD] at this
  |some i=>simp only[aD,Option.map_some,Option.some.injEq,Prod.mk.injEq] at this;exact⟨i,rfl,this.1⟩
 have run:∀{b:Nat},Act.eval ⟨tm,[]⟩ x=.pointer (some ⟨b,0,none⟩)->0<=n->n<m->(execOp (Act.eval ⟨tm,[]⟩) D).run P w=.ok (.value (.pointer (some ⟨b,n.toNat,none⟩))) w:=by
  intro b hx aQ h1;unfold execOp;simp[an,hx,tS,Instr.indexAt,Instr.sureAddr,asIntOf,run_underlying dS,aQ,h1,sizeOf,jH jo,gl,gg]
 unfold qc;split
 ·rename_i o s u hx;rw[hx] at bi;split
  ·rename_i be xs cW;split
   ·rename_i gD;obtain⟨rfl,rfl⟩:=gD;refine Holds.eh fun y aq=>?_
    obtain⟨ga,ov,k6⟩:=Option.bind_eq_some_iff.1 (aq:(long m xs).bind (fun xs=>e0 xs.length n)=some y)
    obtain⟨rfl,hlen⟩:=sF ov;unfold e0 at k6;split at k6
    ·rename_i hb;cases k6;obtain⟨b,c,cs,Z,bw,_⟩:=S.arr cW bi;refine dt S U (run Z hb.1 (by rw[<-hlen];exact hb.2)) ⟨b,0,?_,?_⟩
     ·rw[he,Nat.mul_one,Nat.add_zero,Nat.zero_add]
     ·rcases jI cW with h|h<;>exact Ref.mk h rfl ⟨_,_,bw⟩
    ·cases k6
   ·exact .fail
  ·exact .fail
 ·rename_i g hx;rw[hx] at bi;split
  ·rename_i be xs adh;cases hc:(decide (be=t)&&xs.length.beq m) with
   |false=>exact .fail
   |true=>
    simp only[Bool.and_eq_true,decide_eq_true_eq] at hc;obtain⟨rfl,hlen⟩:=hc;have hlen:=Nat.eq_of_beq_eq_true hlen;refine Holds.eh fun y aq=>?_
    have dU:bf xs n=some y:=aq;unfold bf at dU;split at dU
    ·rename_i aQ;have ba:n.toNat<xs.length:=by
      rcases Nat.lt_or_ge n.toNat xs.length with h|h
      ·exact h
      ·rw[List.getElem?_eq_none h] at dU;cases dU
     obtain⟨OE,r3⟩:=az.gt g _ _ adh;obtain⟨eB,bV⟩:=S.j6;obtain⟨fS,sc,cs,aJ,c2⟩:=r3 w (al X B st.sites) eB;have Z:Act.eval ⟨tm,[]⟩ x=.pointer (some ⟨g,0,none⟩):=bi;refine dt S U (run Z aQ (by omega)) ⟨g,n.toNat,rfl,(bV g OE).1,(bV g OE).2,(cs.drop n.toNat).take 1,?_,fun j u hu=>?_,?_⟩
     ·have:cs.length=xs.length:=by rw[c2.1,dD,he,Nat.mul_one]
      rw[fj,he];simp;omega
     ·exact(((gO.row aJ).drop n.toNat).take 1) j u hu|>fun h=>by simpa using h
     ·have L:=sD be xs n.toNat y dU;rw[he,Nat.mul_one] at L;have iR:ch w (al X B st.sites) (flat be xs) cs:=c2;have ZP:=fV (B:=B) (sites:=st.sites) iR.1 iR.2;have h2:=hU (ds:=((flat be xs).drop n.toNat).take 1) (by
       have:=(ZP.drop n.toNat).take 1;simpa[ci,List.map_drop,List.map_take] using this)
      rw[L] at h2;exact h2.2
    ·cases dU
  ·exact .fail
 ·exact .fail
theorem Uz(S:ad J H X B st tm w){C:Ctx}(az:CtxOk P C){T e:TypeId}{t:aB}{m:Nat}{x i:Operand}{k:IntKind}{n:Int}(aS:C.tt T=.arr e t m)(af:aI C st 0 i=.av (.ak (.d (.int k n))))(an:D.op=.index T x i)(U:b2 st D.dst=true):
  Holds (CX t m (aI C st T x) n) (cr P J H X st tm w D):=by
 have bk:=az.tt T;rw[aS] at bk;obtain⟨dS,_,lX⟩:=bk;obtain⟨he,⟨d,z0,mE⟩,_⟩:=mY lX;have tS:=jL S af;have bi:=cJ S C T x;obtain⟨inf,jo,gl⟩:∃inf,P.info? e=some inf/\inf.size=1:=by
  have:=mE.2.2.2;cases aD:P.info? e with
  |none=>simp[aD] at this
  |some i=>simp only[aD,Option.map_some,Option.some.injEq,Prod.mk.injEq] at this;exact⟨i,rfl,this.1⟩
 unfold CX;split
 ·rename_i O hx;rw[hx] at bi;split
  ·rename_i xs mC;cases hc:xs.length.beq m with
   |false=>exact .fail
   |true=>
    have hlen:=Nat.eq_of_beq_eq_true hc;refine Holds.eh fun y aq=>?_
    have dU:bf xs n=some y:=aq;unfold bf at dU;split at dU
    ·rename_i aQ;have ba:n.toNat<xs.length:=by
      rcases Nat.lt_or_ge n.toNat xs.length with h|h
      ·exact h
      ·rw[List.getElem?_eq_none h] at dU;cases dU
     obtain⟨vs,Z,hl,hr⟩:∃vs:List Value,Act.eval ⟨tm,[]⟩ x=.agg vs.toArray/\vs.length=O.length/\∀j (h:j<O.length) (ae:j<vs.length),dl B st.sites w (al X B st.sites) (O[j]) (vs[j]):=bi;have mH:cl B st.sites w (al X B st.sites) O vs:=⟨hl,hr⟩;rw[Cf mC] at mH;have mG:=hU mH;have lR:vs.length=xs.length:=by rw[mG.1,dD,he,Nat.mul_one]
     obtain⟨d1,h8⟩:∃d1,enc t y=[d1]:=by
      have:=fj t y;rw[he] at this;match h:enc t y,this with
      |[d1],_=>exact⟨d1,rfl⟩
     simp only[h8];have cP:n.toNat<vs.length:=by omega
     refine dt S U (vv:=vs[n.toNat]) ?_ ?_
     ·have DX:(isAgg e).run P w=.ok false w:=by
       have h1:=mE.1;simp only[isAgg,Sem.run_bind,run_underlying h1,Result.andThen_ok];have g1:=mE.2.1;have g2:=mE.2.2.1;cases d<;>first|rfl|exact absurd rfl (g1 _)|exact absurd rfl (g2 _ _)
      have h1:n<(m:Int):=by omega
      unfold execOp;simp[an,Z,tS,Instr.index,asIntOf,run_underlying dS,aQ,h1,sizeOf,jH jo,gl,part,DX,cP]
     ·have L:=sD t xs n.toNat y dU;rw[he,Nat.mul_one,h8] at L;have oC:n.toNat<(flat t xs).length:=by rw[dD,he,Nat.mul_one];exact ba
      have e1:(flat t xs)[n.toNat]=d1:=by
       have:=congrArg (fun l=>l[0]?) L
       simp only[List.getElem?_take,List.getElem?_drop] at this;rw[if_pos (by decide),Nat.add_zero,List.getElem?_eq_getElem oC] at this
       simpa using this
      have:=mG.2 n.toNat oC cP;rw[e1] at this;exact this
    ·cases dU
  ·exact .fail
 ·exact .fail
theorem TU(S:ad J H X B st tm w){C:Ctx}(az:CtxOk P C){T e:TypeId}{t:aB}{m:Nat}{x:Operand}{ce af:Option Operand}(aS:C.tt T=.arr e t m)(an:D.op=.slice T x ce af none)(U:b2 st D.dst=true):
  Holds (qK st t m (aI C st T x) (ce.map (aI C st 0)) (af.map (aI C st 0))) (cr P J H X st tm w D):=by
 have bk:=az.tt T;rw[aS] at bk;obtain⟨dS,_,lX⟩:=bk;obtain⟨he,⟨d,z0,mE⟩,_⟩:=mY lX;have bi:=cJ S C T x;obtain⟨inf,jo,gl⟩:∃inf,P.info? e=some inf/\inf.size=1:=by
  have:=mE.2.2.2;cases aD:P.info? e with
  |none=>simp[aD] at this
  |some i=>simp only[aD,Option.map_some,Option.some.injEq,Prod.mk.injEq] at this;exact⟨i,rfl,this.1⟩
 have nx:∀{ce:Option Operand} {iS l:Int},hE iS (ce.map (aI C st 0))=some l->(ce.map (Act.eval ⟨tm,[]⟩)=none/\l=iS)\/∃k,ce.map (Act.eval ⟨tm,[]⟩)=some (.int k l):=by
  intro ce iS l h;rcases Bb S h with⟨rfl,ae⟩|⟨x,k,rfl,ae⟩
  ·exact .inl ⟨rfl,ae⟩
  ·exact .inr ⟨k,by simp[ae]⟩
 unfold qK;split
 ·rename_i o s u hx;rw[hx] at bi;split
  ·rename_i be xs l h cW fB h6;split
   ·rename_i gD;obtain⟨rfl,rfl⟩:=gD;refine Holds.ee fun r hr=>?_
    obtain⟨ga,ov,k6⟩:=Option.bind_eq_some_iff.1 (hr:(long m xs).bind (fun xs=>cO xs l h)=some r)
    obtain⟨rfl,hlen⟩:=sF ov;unfold cO at k6;split at k6
    ·rename_i hb;obtain⟨aQ,h1,h2⟩:=hb;cases k6;obtain⟨b,c,cs,Z,bw,_⟩:=S.arr cW bi;refine G9 (us:=[(o,.c0 s be ga)]) (Iq cW).symm ?_
     have gr:dv st.sites [(o,.c0 s be ga)]:=by
      intro E M hm;simp only[List.mem_singleton,Prod.mk.injEq] at hm;obtain⟨rfl,rfl⟩:=hm;exact⟨s,be,ga,rfl,(jI cW).elim .inl fun h=>.inr (.inl h)⟩
     have aY:kF J H X B st tm w [(o,.c0 s be ga)]:=⟨S,gr⟩;have oz:=vj gr (List.mem_singleton.2 rfl);obtain⟨c2,KK⟩:=aY.new.sites o _ oz;rw[bw] at c2;generalize Oh:Value.slice (some ⟨b,0,none⟩) ga.length c=v at c2;cases c2 with
     |nil=>cases Oh
     |sl _ _ a cap jx k ah hcap cd hl hc hr=>
      cases Oh;have adt:=vp (P:=P) (w:=w) false m m (ce.map (Act.eval ⟨tm,[]⟩)) (af.map (Act.eval ⟨tm,[]⟩)) l h (nx fB) (nx h6) aQ h1 (by omega) (Nat.le_refl _)
      refine hz (us:=[(o,.c0 s be ga)]) aY.new U (vv:=.slice (if m=l.toNat then some ⟨b,0,none⟩ else(some (⟨b,0,none⟩:Addr)).map (·.add (l.toNat*au be))) (h.toNat-l.toNat) (m-l.toNat)) ?_ ?_
      ·unfold execOp;simp only[an,Option.map_none,Sem.run_bind,Instr.sliceAt,run_underlying dS,Result.andThen_ok,Z,Instr.sureAddr,Sem.run_pure,adt,sizeOf,jH jo,gl,he];split<;>simp
      ·exact BJ cd ⟨hl,hr⟩ hc l.toNat h.toNat m (by omega) (by omega) (by omega)
    ·cases k6
   ·exact .fail
  ·exact .fail
 ·exact .fail
theorem UH{f g:Nat->Option (Nat×Nat)}(h:∀i p,f i=some p->g i=some p):∀(l:List (Nat×Value)) (cs jx:Array Value),Instr.fill f cs l=some jx->Instr.fill g cs l=some jx:=by
 intro l;induction l with
 |nil=>intro cs jx k;exact k
 |cons p l ih=>
  obtain⟨i,v⟩:=p;intro cs jx k;simp only[Instr.fill] at k ⊢;cases hf:f i with
  |none=>simp[hf] at k
  |some q=>
   obtain⟨off,size⟩:=q;rw[h i _ hf];rw[hf] at k;simp only at k ⊢;split at k
   ·cases k
   ·rename_i hn;rw[if_neg hn];exact ih _ _ k
theorem UR(S:ad J H X B st tm w){C:Ctx}(az:CtxOk P C){T e:TypeId}{t:aB}{n:Nat}{z:aw}{parts:Array (Nat×Operand)}(aS:C.tt T=.arr e t n)(aM:rL t=some z)(an:D.op=.build T parts)(U:b2 st D.dst=true):
  Holds (step.mj C st ((List.range n).map fun j=>(j,1)) (List.replicate n z) parts.toList) (cr P J H X st tm w D):=by
 have bk:=az.tt T;rw[aS] at bk;obtain⟨dS,⟨fC,mP,jo,ov,nF⟩,lX⟩:=bk;rw[aM] at ov;cases ov;obtain⟨he,⟨d,z0,mE⟩,_⟩:=mY lX;obtain⟨ag5,ade,aan⟩:∃inf,P.info? e=some inf/\inf.size=1:=by
  have:=mE.2.2.2;cases aD:P.info? e with
  |none=>simp[aD] at this
  |some i=>simp only[aD,Option.map_some,Option.some.injEq,Prod.mk.injEq] at this;exact⟨i,rfl,this.1⟩
 obtain⟨ay,ai,bn⟩:=qa nF;intro y aq hc;obtain⟨g1,jj,g2,g3⟩:=HE S parts.toList (List.replicate n z) fC ⟨ay,fun j h ae=>bn _ _ _ _ j h ae⟩ y aq hc
 rw[g1];refine dt S U (vv:=.agg jj) ?_ g3;cases af:P.info? T with
 |none=>simp[af] at jo
 |some Fx=>
  simp only[af,Option.map_some,Option.some.injEq,Prod.mk.injEq] at jo;have hb:P.built T (parts.toList.map fun p=>(p.1,Act.eval ⟨tm,[]⟩ p.2))=some jj:=by
   unfold Program.built;simp only[af,dS,jo.2,ade,aan];refine UH (fun i p am=>?_) _ _ _ g2
   simp only[List.getElem?_toArray,List.getElem?_map,Option.map_eq_some_iff] at am;obtain⟨a,bo,rfl⟩:=am;have:=List.getElem?_eq_some_iff.1 bo;obtain⟨h1,h2⟩:=this;simp at h2;subst h2;simp
  have cd:P.built T (parts.map fun p=>(p.1,Act.eval ⟨tm,[]⟩ p.2)).toList=some jj:=by simpa using hb
  unfold execOp;simp only[an,Sem.run_bind,run_build w T _ jj cd,Result.andThen_ok,Sem.run_pure]
theorem RA(S:ad J H X B st tm w){C:Ctx}{x:Operand}{k:IntKind}{n:Int}{T eb:TypeId}(an:D.op=.unOp .xor eb x)(U:b2 st D.dst=true)(hc:aI C st T x=.av (.ak (.d (.int k n)))):
  cr P J H X st tm w D (one (.int k (rk k (if k.signed then-1 else k.max) n))) []:=by
 refine dt S U (vv:=.int k (rk k (if k.signed then-1 else k.max) n)) ?_ (.int _ _)
 unfold execOp;simp[an,jL S hc,Op.unary,Op.intBits,rk]
end
def nq:Nat->Value:=fun _=>undef
def lz(w:World)(av:Nat->Prop)(l:aw)(v:Value)(bs:List Nat):Prop:=
 match l with
 |.fresh t xs=>bs=(aZ v).toList/\∃e,∃cs:List Value,rowAt w t.fc e (au t) v xs.length cs/\ch w av (flat t xs) cs
 |.hW t xs=>∃e,∃cs ap:List Value,bs=bb (.tuple (v::ap).toArray)/\rowAt w t.fc e (au t) v xs.length cs/\Deep w av (flat t xs) cs ap
 |l=>bs=[]/\dl nq [] w av l v
def gj(w:World)(av:Nat->Prop):List aw->List Value->List Nat->Prop
 |[],[],bs=>bs=[]
 |l::O,v::vs,bs=>∃aX aG,bs=aX++aG/\lz w av l v aX/\gj w av O vs aG
 |_,_,_=>False
def yx(w:World)(av:Nat->Prop):bt->Value->List Nat->Prop
 |.ak l,v,bs=>lz w av l v bs
 |.agg O,v,bs=>∃vs:List Value,v=.agg vs.toArray/\gj w av O vs bs
def kT(w:World)(av:Nat->Prop):List bt->List Value->List Nat->Prop
 |[],[],bs=>bs=[]
 |l::O,v::vs,bs=>∃aX aG,bs=aX++aG/\yx w av l v aX/\kT w av O vs aG
 |_,_,_=>False
def Ck(w:World)(av:Nat->Prop)(b:Nat)(cells:List aw)(bs:List Nat):Prop:=
 ∃T,∃cur:List Value,∃nQ,bs=b::nQ/\w.heap[b]? =some (.cells cur.toArray T (0,0))/\(∀u∈cur,u.oneCell'=true)/\mq cells T cur b/\gj w av cells cur nQ
def Jq(w:World)(av:Nat->Prop):Arg->Value->List Nat->Prop
 |.av a,v,bs=>yx w av a v bs
 |.dP cells,v,bs=>∃b,v=.pointer (some ⟨b,0,none⟩)/\Ck w av b cells bs
def ii(w:World)(av:Nat->Prop):List Arg->List Value->List Nat->Prop
 |[],[],bs=>bs=[]
 |l::O,v::vs,bs=>∃aX aG,bs=aX++aG/\Jq w av l v aX/\ii w av O vs aG
 |_,_,_=>False
def dQ:List Arg->List Value->List Nat
 |.dP _::as,.pointer (some a)::vs=>a.block::dQ as vs
 |_::as,_::vs=>dQ as vs
 |_,_=>[]
def lv(w:World)(av:Nat->Prop):List Nat->List (List aw)->List Nat->Prop
 |[],[],bs=>bs=[]
 |b::dk,cs::cv,bs=>∃aX aG,bs=aX++aG/\Ck w av b cs aX/\lv w av dk cv aG
 |_,_,_=>False
def hs:Value->List Value
 |.agg vs=>vs.toList
 |v=>[v]
def eW:List Arg->List Value->List Value
 |.av a::as,v::vs=>(bif fT a.cells then [] else hs v)++eW as vs
 |.dP _::as,_::vs=>eW as vs
 |_,_=>[]
def o_(w:World)(av:Nat->Prop)(dk:List Nat)(cv:List (List aw))(rv:List Value)(eC:List aw)(bs:List Nat):Prop:=
 ∃bI bB,bs=bI++bB/\lv w av dk cv bI/\(eC=[]/\bB=[]\/gj w av eC rv bB)
theorem o_.of{w:World}{av:Nat->Prop}{dk:List Nat}{cv:List (List aw)}{rv:List Value}{bs:List Nat}(h:lv w av dk cv bs):o_ w av dk cv rv [] bs:=⟨bs,[],by simp,h,.inl ⟨rfl,rfl⟩⟩
def n7:List Value->Value
 |[v]=>v
 |vs=>.tuple vs.toArray
def Enters(P:Program)(g:FuncId)(vs:Array Value)(w:World)(R:Value->World->Prop):Prop:=
 ((callFunc g vs).run P w=.ok (.enter g vs) w/\Calls P g vs w fun|.returned v,w'=>R v w'|_,_=>False)\/(∃v w',(callFunc g vs).run P w=.ok (.value v) w'/\R v w')
def bu(P:Program)(g:FuncId)(S:bp):Prop:=
 ∀as y,(S as).comp=some y->∀(w:World) (X:Nat->Prop) (vs:List Value) (dG:List Nat),ii w (fun b=>X b\/b∈dG) as vs dG->dG.Nodup->(∀b,b∈dG->¬X b)->(∀b,X b->b<w.heap.size)->ir w dG X->
  Enters P g vs.toArray w fun v w'=>∃eK dZ rv,Fr dG w w'/\o_ w' (fun b=>X b\/b∈eK++dZ) (dQ as vs) ((S as).dP y) (eW as vs) ((S as).eC y) eK/\kT w' (fun b=>X b\/b∈eK++dZ) ((S as).eT y) rv dZ/\
   v=n7 rv/\(eK++dZ).Nodup/\∀b,b∈eK++dZ->¬X b/\(b∈dG\/w.heap.size<=b)
section
variable {J:World}{H:List Nat}{X:Nat->Prop}{B:Nat->Value}{st:ab}{tm:Array Value}{w:World}
theorem b4.eY{sites:List (Nat×Site)}{av bE:Nat->Prop}(h:∀b,bE b->av b)(ba:∀b,bE b->b<w.heap.size){a:aF}{v:Value}(k:b4 B sites w av a v):b4 B sites w bE a v:=by
 have bC:gW B B sites sites w w av bE:=⟨fun o M L=>⟨M,L,Nat.le_refl _,fun _=>rfl⟩,fun _ _ _=>rfl,fun b hb _ ae=>hb (h b ae)⟩
 exact k.goes bC (Nat.le_refl _) ba
theorem hA.eY{sites:List (Nat×Site)}{av bE:Nat->Prop}(h:∀b,bE b->av b)(ba:∀b,bE b->b<w.heap.size){o:Nat}{M:Site}(k:hA B sites w av o M):hA B sites w bE o M:=by
 have bC:gW B B sites sites w w av bE:=⟨fun o M L=>⟨M,L,Nat.le_refl _,fun _=>rfl⟩,fun _ _ _=>rfl,fun b hb _ ae=>hb (h b ae)⟩
 exact k.goes bC (Nat.le_refl _) ba rfl (fun _ _ _=>rfl)
theorem ad.lt(S:ad J H X B st tm w){b:Nat}(h:al X B st.sites b):b<w.heap.size:=by
 rcases h with h|⟨o,h1,h2⟩
 ·exact S.old b h
 ·exact S.dL h1 h2
theorem ad.shrink(S:ad J H X B st tm w){X':Nat->Prop}(h:∀b,X' b->X b):ad J H X' B st tm w:=by
 have bV:∀b,al X' B st.sites b->al X B st.sites b:=by
  rintro b (hb|hb)
  ·exact .inl (h b hb)
  ·exact .inr hb
 have ba:=fun b hb=>S.lt (bV b hb)
 exact⟨S.bl,fun t=>(S.cV t).eY bV ba,fun o M L=>(S.sites o M L).eY bV ba,S.df,fun o b h1 h2=>⟨fun hx=>(S.cc o b h1 h2).1 (h b hx),(S.cc o b h1 h2).2⟩,S.frame,fun b hb=>S.old b (h b hb),S.fO.less fun b _=>h b⟩
theorem ad.kill(S:ad J H X B st tm w){o:Nat}{M:Site}(hl:look st.sites o=some M)(ft:M.live=true):
  ad J H (fun b=>X b\/b∈bb (B o)) B {st with sites:=b5 st.sites o (.dead M.bT)} tm w:=by
 have cP:∀E,bL (b5 st.sites o (.dead M.bT)) E->E≠o/\bL st.sites E:=by
  rintro E ⟨s,h1,h2⟩;rw[ck] at h1;by_cases e:o=E
  ·subst e;simp at h1;subst h1;cases h2
  ·simp only[e,if_false] at h1;exact⟨fun h=>e h.symm,s,h1,h2⟩
 have bV:∀b,al (fun b=>X b\/b∈bb (B o)) B (b5 st.sites o (.dead M.bT)) b->al X B st.sites b:=by
  rintro b ((h|h)|⟨E,h1,h2⟩)
  ·exact .inl h
  ·exact .inr ⟨o,⟨M,hl,ft⟩,h⟩
  ·exact .inr ⟨E,(cP E h1).2,h2⟩
 have ba:=fun b hb=>S.lt (bV b hb)
 have bO:ad J H X B {st with sites:=b5 st.sites o (.dead M.bT)} tm w:=by
  have tU:∀b,al X B (b5 st.sites o (.dead M.bT)) b->al X B st.sites b:=by
   rintro b (h|⟨E,h1,h2⟩)
   ·exact .inl h
   ·exact .inr ⟨E,(cP E h1).2,h2⟩
  refine S.nn (fun E s L=>?_) (fun _ _ _=>rfl) (fun b hb _ ae=>hb (tU b ae)) (fun go E s L=>?_) (fun E aE b h1 h2 g1 g2=>S.df E aE b (cP E h1).2 (cP aE h2).2 g1 g2) (fun E b h1 h2=>S.cc E b (cP E h1).2 h2)
   (fun E b h1 h2=>S.dL (cP E h1).2 h2) S.frame (Nat.le_refl _)
  ·rw[ck];by_cases e:o=E
   ·subst e;rw[hl] at L;cases L;exact⟨.dead M.bT,by simp,Nat.le_refl _,fun _=>rfl⟩
   ·exact⟨s,by simp[e,L],Nat.le_refl _,fun _=>rfl⟩
  ·rw[ck] at L;by_cases e:o=E
   ·simp only[e,if_true,Option.some.injEq] at L;subst L;exact .inr trivial
   ·simp only[e,if_false] at L;exact .inl ⟨L,rfl,fun _ _ _=>rfl⟩
 refine⟨bO.bl,fun t=>?_,fun E s L=>?_,bO.df,fun E b h1 h2=>⟨?_,(bO.cc E b h1 h2).2⟩,bO.frame,?_,S.fO.less fun b hb hx=>hx.elim id fun e=>absurd (.inr ⟨o,⟨M,hl,ft⟩,e⟩) (S.j6.2 b hb).1⟩
 ·have bC:gW B B st.sites (b5 st.sites o (.dead M.bT)) w w (al X B st.sites) (al (fun b=>X b\/b∈bb (B o)) B (b5 st.sites o (.dead M.bT))):=
   ⟨fun E s L=>by
    rw[ck];by_cases e:o=E
    ·subst e;rw[hl] at L;cases L;exact⟨.dead M.bT,by simp,Nat.le_refl _,fun _=>rfl⟩
    ·exact⟨s,by simp[e,L],Nat.le_refl _,fun _=>rfl⟩,fun _ _ _=>rfl,fun b hb _ ae=>hb (bV b ae)⟩
  exact(S.cV t).goes bC (Nat.le_refl _) ba
 ·have eA:look (b5 st.sites o (.dead M.bT)) E=some s:=L;rw[ck] at eA;by_cases e:o=E
  ·simp only[e,if_true,Option.some.injEq] at eA;subst eA;trivial
  ·simp only[e,if_false] at eA;have bC:gW B B st.sites (b5 st.sites o (.dead M.bT)) w w (al X B st.sites) (al (fun b=>X b\/b∈bb (B o)) B (b5 st.sites o (.dead M.bT))):=
    ⟨fun E s L=>by
     rw[ck];by_cases e:o=E
     ·subst e;rw[hl] at L;cases L;exact⟨.dead M.bT,by simp,Nat.le_refl _,fun _=>rfl⟩
     ·exact⟨s,by simp[e,L],Nat.le_refl _,fun _=>rfl⟩,fun _ _ _=>rfl,fun b hb _ ae=>hb (bV b ae)⟩
   exact(S.sites E s eA).goes bC (Nat.le_refl _) ba rfl (fun _ _ _=>rfl)
 ·rintro(hx|hx)
  ·exact(bO.cc E b h1 h2).1 hx
  ·exact(cP E h1).1 (S.df E o b (cP E h1).2 ⟨M,hl,ft⟩ h2 hx)
 ·rintro b (hb|hb)
  ·exact S.old b hb
  ·exact S.dL ⟨M,hl,ft⟩ hb
theorem ad.jump(S:ad J H X B st tm w){w':World}(h:∀b,¬X b->b<w.heap.size->w'.heap[b]? =w.heap[b]?)(L:w.heap.size<=w'.heap.size)(hf:Fr H J w'):
  ad J H (fun b=>X b\/(w.heap.size<=b/\b<w'.heap.size)) B st tm w':=by
 have ba:∀b,al (fun b=>X b\/(w.heap.size<=b/\b<w'.heap.size)) B st.sites b->b<w'.heap.size:=by
  rintro b ((hb|hb)|⟨E,h1,h2⟩)
  ·exact Nat.lt_of_lt_of_le (S.old b hb) L
  ·exact hb.2
  ·exact Nat.lt_of_lt_of_le (S.dL h1 h2) L
 have bC:gW B B st.sites st.sites w w' (al X B st.sites) (al (fun b=>X b\/(w.heap.size<=b/\b<w'.heap.size)) B st.sites):=
  ⟨fun E s h=>⟨s,h,Nat.le_refl _,fun _=>rfl⟩,fun b hb cd=>h b (fun hx=>hb (.inl hx)) cd,fun b hb cd ae=>by
   rcases ae with(ae|ae)|ae
   ·exact hb (.inl ae)
   ·omega
   ·exact hb (.inr ae)⟩
 refine⟨S.bl,fun t=>(S.cV t).goes bC L ba,fun o s h1=>(S.sites o s h1).goes bC L ba rfl (fun hl b hb=>?_),S.df,fun o b h1 h2=>⟨?_,(S.cc o b h1 h2).2⟩,hf,?_,S.fO.less fun b hb hx=>hx.elim id fun e=>absurd (S.j6.2 b hb).2 (by omega)⟩
 ·exact h b (S.cc o b ⟨s,h1,hl⟩ hb).1 (S.dL ⟨s,h1,hl⟩ hb)
 ·rintro(hx|hx)
  ·exact(S.cc o b h1 h2).1 hx
  ·have:=S.dL h1 h2;omega
 ·rintro b (hb|hb)
  ·exact Nat.lt_of_lt_of_le (S.old b hb) L
  ·exact hb.2
theorem ad.tF(S:ad J H X B st tm w){X':Nat->Prop}{n:Nat}{bm:Site}{nv:Value}(hP:∀b,X' b->X b)
  (dr:(∀M,look st.sites n=some M->M.bT<bm.bT)\/(bD (B n)=bD nv/\∀M,look st.sites n=some M->M.bT=bm.bT/\M.live=false))
  (hb:∀b,b∈bb nv->X b/\¬X' b/\(b∈H\/J.heap.size<=b))
  (eB:∀{bd:List (Nat×Site)} {ax:Nat->Value},bd=b5 st.sites n bm->ax n=nv->(∀{a v},b4 B st.sites w (al X B st.sites) a v->b4 ax bd w (al X' ax bd) a v)->
   (∀b,al X' ax bd b->al X B st.sites b)->hA ax bd w (al X' ax bd) n bm):
  ad J H X' (fun E=>if E=n then nv else B E) {st with sites:=b5 st.sites n bm} tm w/\
   (∀b,al X' (fun E=>if E=n then nv else B E) (b5 st.sites n bm) b->al X B st.sites b)/\
   (∀{a v},b4 B st.sites w (al X B st.sites) a v->b4 (fun E=>if E=n then nv else B E) (b5 st.sites n bm) w (al X' (fun E=>if E=n then nv else B E) (b5 st.sites n bm)) a v):=by
 have cP:∀E,bL (b5 st.sites n bm) E->E=n\/(E≠n/\bL st.sites E):=by
  rintro E ⟨s,h1,h2⟩;rw[ck] at h1;by_cases e:n=E
  ·exact .inl e.symm
  ·simp only[e,if_false] at h1;exact .inr ⟨fun h=>e h.symm,s,h1,h2⟩
 have bV:∀b,al X' (fun E=>if E=n then nv else B E) (b5 st.sites n bm) b->al X B st.sites b:=by
  rintro b (h|⟨E,h1,h2⟩)
  ·exact .inl (hP b h)
  ·rcases cP E h1 with rfl|⟨Y,aP⟩
   ·simp at h2;exact .inl (hb b h2).1
   ·simp only[Y,if_false] at h2;exact .inr ⟨E,aP,h2⟩
 have pt:∀o M,look st.sites o=some M->∃ag,look (b5 st.sites n bm) o=some ag/\M.bT<=ag.bT/\(ag.bT=M.bT->bD ((fun E=>if E=n then nv else B E) o)=bD (B o)):=by
  intro E s L;rw[ck];by_cases e:n=E
  ·subst e;refine⟨bm,by simp,?_,fun h=>?_⟩
   ·rcases dr with h|⟨_,h⟩
    ·exact Nat.le_of_lt (h s L)
    ·exact Nat.le_of_eq (h s L).1
   ·rcases dr with ae|⟨ae,_⟩
    ·have:=ae s L;omega
    ·simp[ae]
  ·have bz:¬E=n:=fun h=>e h.symm
   exact⟨s,by simp[e,L],Nat.le_refl _,fun _=>by simp[bz]⟩
 have bC:gW B (fun E=>if E=n then nv else B E) st.sites (b5 st.sites n bm) w w (al X B st.sites) (al X' (fun E=>if E=n then nv else B E) (b5 st.sites n bm)):=
  ⟨pt,fun _ _ _=>rfl,fun b hb _ ae=>hb (bV b ae)⟩
 have ba:=fun b hb=>S.lt (bV b hb)
 refine⟨⟨S.bl,fun t=>(S.cV t).goes bC (Nat.le_refl _) ba,fun E s L=>?_,fun E aE b h1 h2 g1 g2=>?_,fun E b h1 h2=>?_,S.frame,fun b h=>S.old b (hP b h),S.fO.less fun b _=>hP b⟩,bV,fun h=>h.goes bC (Nat.le_refl _) ba⟩
 ·have eA:look (b5 st.sites n bm) E=some s:=L;rw[ck] at eA;by_cases e:n=E
  ·subst e;simp only[if_true,Option.some.injEq] at eA;subst eA;exact eB rfl (by simp) (fun h=>h.goes bC (Nat.le_refl _) ba) bV
  ·have bz:¬E=n:=fun h=>e h.symm
   simp only[e,if_false] at eA;exact(S.sites E s eA).goes bC (Nat.le_refl _) ba (by simp[bz]) (fun _ _ _=>rfl)
 ·rcases cP E h1 with rfl|⟨b1,cy⟩<;>rcases cP aE h2 with rfl|⟨cM,en⟩
  ·rfl
  ·simp only[if_true] at g1;simp only[cM,if_false] at g2;exact absurd (hb b g1).1 (S.cc aE b en g2).1
  ·simp only[if_true] at g2;simp only[b1,if_false] at g1;exact absurd (hb b g2).1 (S.cc E b cy g1).1
  ·simp only[b1,if_false] at g1;simp only[cM,if_false] at g2;exact S.df E aE b cy en g1 g2
 ·rcases cP E h1 with rfl|⟨b1,cy⟩
  ·simp only[if_true] at h2;exact⟨(hb b h2).2.1,(hb b h2).2.2⟩
  ·simp only[b1,if_false] at h2;exact⟨fun hx=>(S.cc E b cy h2).1 (hP b hx),(S.cc E b cy h2).2⟩
end
def kf(w:World)(av:Nat->Prop):List (List aK)->List Value->Prop
 |[],[]=>True
 |ds::r,v::vs=>(∃b,∃cs:List Value,v=.pointer (some ⟨b,0,none⟩)/\¬av b/\b<w.heap.size/\gO w b 0 cs/\ch w av ds cs)/\kf w av r vs
 |_,_=>False
theorem kf.fn{w:World}{av:Nat->Prop}{g:FuncId}:∀{bv:List (List aK)} {vs:List Value},kf w av bv vs->Rd w av (.fn g bv) (.func (.func g) #[] vs.toArray):=by
 intro bv vs h;have key:∀{bv:List (List aK)} {vs:List Value},kf w av bv vs->∃nW:List Nat,∃e4:List (List Value),vs=nW.map (fun b=>Value.pointer (some ⟨b,0,none⟩))/\nW.length=bv.length/\e4.length=bv.length/\
   (∀b,b∈nW->¬av b/\b<w.heap.size)/\(∀i (h:i<nW.length) (ae:i<e4.length),gO w nW[i] 0 e4[i])/\(∀i (h:i<bv.length) (ae:i<e4.length),ch w av bv[i] e4[i]):=by
  intro bv;induction bv with
  |nil=>
   intro vs h;match vs,h with
   |[],_=>exact⟨[],[],rfl,rfl,rfl,fun b h=>by simp at h,fun i h=>by simp at h,fun i h=>by simp at h⟩
  |cons ds bv ih=>
   intro vs h;match vs,h with
   |v::vs,⟨⟨b,cs,h1,h2,Y,aP,bq⟩,eu⟩=>
    obtain⟨nW,e4,ay,ai,bn,cu,et,hO⟩:=ih eu;refine⟨b::nW,cs::e4,by simp[h1,ay],by simp[ai],by simp[bn],fun c hc=>?_,fun i g1 g2=>?_,fun i g1 g2=>?_⟩
    ·rcases List.mem_cons.1 hc with rfl|hc
     ·exact⟨h2,Y⟩
     ·exact cu c hc
    ·cases i with
     |zero=>exact aP
     |succ i=>exact et i (by simpa using g1) (by simpa using g2)
    ·cases i with
     |zero=>exact bq
     |succ i=>exact hO i (by simpa using g1) (by simpa using g2)
 obtain⟨nW,e4,ay,ai,bn,cu,et,hO⟩:=key h;refine .fn g bv nW (fun i=>e4.getD i []) _ (by rw[ay]) ai (fun b hb=>(cu b hb).1) (fun b hb=>(cu b hb).2) (fun i af=>?_) (fun i af j u hu=>?_) (fun i af j h1 h2=>?_)
 ·have ae:i<e4.length:=by omega
  have:=(hO i af ae).1;simpa[List.getD,ae] using this
 ·have ae:i<e4.length:=by omega
  have:=et i af ae j u (by simpa[List.getD,ae] using hu)
  simpa using this
 ·have ae:i<e4.length:=by omega
  have h2':j<e4[i].length:=by simpa[List.getD,ae] using h2
  have:=(hO i af ae).2 j h1 h2';simpa[List.getD,ae] using this
theorem kf.Km{w:World}{av:Nat->Prop}{g:FuncId}{bv:List (List aK)}{v:Value}(h:Rd w av (.fn g bv) v):∃vs:List Value,v=.func (.func g) #[] vs.toArray/\kf w av bv vs:=by
 cases h with
 |fn _ _ bs iG oO zb gF hb ba hl hc hr=>
  refine⟨bs.map fun b=>Value.pointer (some ⟨b,0,none⟩),by rw[zb],?_⟩
  have key:∀(bv:List (List aK)) (bs:List Nat) (iG:Nat->List Value),bs.length=bv.length->(∀b,b∈bs->¬av b/\b<w.heap.size)->(∀i (h:i<bv.length),(iG i).length=(bv[i]).length)->
    (∀i (h:i<bs.length) j u,(iG i)[j]? =some u->w.cell? ⟨bs[i],j,none⟩=some u)->(∀i (h:i<bv.length) j (h1:j<(bv[i]).length) (h2:j<(iG i).length),Rd w av ((bv[i])[j]) ((iG i)[j]))->
    kf w av bv (bs.map fun b=>Value.pointer (some ⟨b,0,none⟩)):=by
   intro bv;induction bv with
   |nil=>intro bs iG h _ _ _ _;rw[List.eq_nil_of_length_eq_zero h];trivial
   |cons ds bv ih=>
    intro bs iG h h1 h2 Y aP;match bs,h with
    |b::bs,h=>
     refine⟨⟨b,iG 0,rfl,(h1 b List.mem_cons_self).1,(h1 b List.mem_cons_self).2,fun j u hu=>?_,h2 0 (by simp),fun j g1 g2=>aP 0 (by simp) j g1 g2⟩,?_⟩
     ·have:=Y 0 (by simp) j u hu
      simpa using this
     ·exact ih bs (fun i=>iG (i+1)) (by simpa using h) (fun c hc=>h1 c (List.mem_cons_of_mem _ hc)) (fun i af=>h2 (i+1) (by simpa using af)) (fun i af j u hu=>Y (i+1) (by simpa using af) j u hu)
       (fun i af j g1 g2=>aP (i+1) (by simpa using af) j g1 g2)
  exact key bv bs iG gF (fun b h=>⟨hb b h,ba b h⟩) hl hc hr
section
variable {J:World}{H:List Nat}{X:Nat->Prop}{B:Nat->Value}{st:ab}{tm:Array Value}{w:World}
structure eX(J:World)(H:List Nat)(X:Nat->Prop)(B:Nat->Value)(st:ab)(tm:Array Value)(w:World)(cR:List (Nat×Site))(ep:List Nat)(av:Nat->Prop):Prop where
 br:kF J H X B st tm w cR
 le:∀b,av b->al X B (aT st.sites cR) b
 zu:∀o,o∈ep->∀b,aZ (B o)=some b->¬av b
variable {cR:List (Nat×Site)}{ep:List Nat}{av:Nat->Prop}
theorem eX.lt(ar:eX J H X B st tm w cR ep av){b:Nat}(h:av b):b<w.heap.size:=ar.br.new.lt (ar.le b h)
theorem eX.sub(ar:eX J H X B st tm w cR ep av){b:Nat}(h:av b):al X B st.sites b:=by
 rcases ar.le b h with h|⟨o,⟨M,h1,h2⟩,Y⟩
 ·exact .inl h
 ·refine .inr ⟨o,?_,Y⟩;rcases ll ar.br.br o with h|⟨s,t,xs,aP,bq⟩
  ·exact⟨M,h▸h1,h2⟩
  ·rw[bq] at h1;cases h1;cases h2
theorem eX.rd(ar:eX J H X B st tm w cR ep av){d:aK}{v:Value}(h:Rd w (al X B (aT st.sites cR)) d v):Rd w av d v:=
 b4.eY (B:=B) (sites:=[]) (a:=one d) (v:=v) ar.le (fun b hb=>ar.lt hb) h
theorem eX.rO(ar:eX J H X B st tm w cR ep av){d:aK}{v:Value}(h:Rd w (al X B st.sites) d v):Rd w av d v:=
 b4.eY (B:=B) (sites:=[]) (a:=one d) (v:=v) (fun b hb=>ar.sub hb) (fun b hb=>ar.lt hb) h
theorem HC(ar:eX J H X B st tm w cR ep av):∀{bv:List (Nat×Nat)} {cs:List (List aK)} {us:List (Nat×Site)} {bs:List Nat} {vs:List Value},kS st bv=some (cs,us,bs)->
  (∀p,p∈us->p∈cR)->(∀o,o∈bs->o∈ep)->vs.length=bv.length->(∀i (h:i<bv.length) (ae:i<vs.length),Ref st.sites (bv[i]).1 (bv[i]).2 (vs[i]=bD (B (bv[i]).1)))->kf w av cs vs:=by
 intro bv;induction bv with
 |nil=>
  intro cs us bs vs h _ _ hl _;simp only[kS] at h;cases h;rw[List.eq_nil_of_length_eq_zero hl];trivial
 |cons c bv ih=>
  obtain⟨o,s⟩:=c;intro cs us bs vs h dV dp hl hr;simp only[kS] at h;split at h
  ·rename_i cells lF;split at h
   ·rename_i ds u1 rest u2 aG ek kW;cases h;match vs,hl with
    |v::vs,hl=>
     have hD:=gK lF;obtain⟨b,T,cur,h1,h2,Y,aP,_,bq⟩:=ar.br.old.sites o _ hD;have Z:v=B o:=(Ref.at (hr 0 (by simp) (by simp)) hD rfl:v=bD (B o)).trans (by rw[h1];rfl)
     have c2:=xk ek ⟨Y,bq⟩ ar.br (fun p am=>dV p (List.mem_append.2 (.inl am)))
     refine⟨⟨b,cur,by rw[Z,h1],ar.zu o (dp o List.mem_cons_self) b (by rw[h1];rfl),ar.br.old.dL ⟨_,hD,rfl⟩ (fI (by rw[h1];rfl)),.row h2,c2.1,fun j g1 g2=>ar.rd (c2.2 j g1 g2)⟩,?_⟩
     exact ih kW (fun p am=>dV p (List.mem_append.2 (.inr am))) (fun E bg=>dp E (List.mem_cons_of_mem _ bg)) (by simpa using hl) (fun i g1 g2=>hr (i+1) (by simpa using g1) (by simpa using g2))
   ·cases h
  ·cases h
theorem BM(ar:eX J H X B st tm w cR ep av){l fl:aw}{us:List (Nat×Site)}{bs:List Nat}{v:Value}(h:ms st l=some (fl,us,bs))(dV:∀p,p∈us->p∈cR)(dp:∀o,o∈bs->o∈ep)
  (Z:dl B st.sites w (al X B st.sites) l v):lz w av fl v []:=by
 unfold ms at h;split at h
 ·rename_i cells;cases h;obtain⟨b,D,h1,h2,Y,cs,aP,bq,eu⟩:=Z;exact⟨rfl,b,D,h1,fun hx=>h2 (ar.sub hx),Y,cs,aP,bq,fun j g1 g2=>ar.rO (eu j g1 g2)⟩
 ·rename_i g c cs;split at h
  ·rename_i ds u b hc;cases h;obtain⟨vs,h1,h2,Y⟩:=Z;rw[h1];exact⟨rfl,(HC ar hc dV dp h2 Y).fn⟩
  ·cases h
 ·split at h
  ·rename_i d u U;cases h;exact⟨rfl,ar.rd (J4 U Z ar.br dV)⟩
  ·cases h
theorem V5(ar:eX J H X B st tm w cR ep av):∀{O dq:List aw} {us:List (Nat×Site)} {bs:List Nat} {vs:List Value},lw st O=some (dq,us,bs)->(∀p,p∈us->p∈cR)->(∀o,o∈bs->o∈ep)->
  cl B st.sites w (al X B st.sites) O vs->gj w av dq vs []:=by
 intro O;induction O with
 |nil=>intro dq us bs vs h _ _ Z;simp only[lw] at h;cases h;rw[Z.kO];rfl
 |cons l O ih=>
  intro dq us bs vs h dV dp Z;simp only[lw] at h;split at h
  ·rename_i a u1 aX as u2 aG h1 h2;cases h;obtain⟨v,ct,rfl,js,jY⟩:=Z.inv;exact⟨[],[],rfl,BM ar h1 (fun p am=>dV p (List.mem_append.2 (.inl am))) (fun p am=>dp p (List.mem_append.2 (.inl am))) js,
    ih h2 (fun p am=>dV p (List.mem_append.2 (.inr am))) (fun p am=>dp p (List.mem_append.2 (.inr am))) jY⟩
  ·cases h
theorem Xm(ar:eX J H X B st tm w cR ep av){o s:Nat}{t:aB}{xs:List (den t)}(hl:look st.sites o=some (.row s t xs)):
  ∃e,∃cs:List Value,rowAt w t.fc e (au t) (B o) xs.length cs/\ch w av (flat t xs) cs:=by
 obtain⟨e,cs,h1,h2⟩:=ar.br.old.sites o _ hl;refine⟨e,cs,h1,by rw[dD];exact h1.1,fun j g1 g2=>ar.rO (h2 j g1 g2)⟩
theorem v8(ar:eX J H X B st tm w cR ep av){l fl:aw}{us:List (Nat×Site)}{v:Value}(h:mn st l=some (fl,us))(Z:dl B st.sites w (al X B st.sites) l v):
  lz w av fl v (cn B (keys us))/\eR st.sites us:=by
 unfold mn at h;split at h
 ·cases h;exact⟨⟨rfl,ar.rO Z⟩,.nil⟩
 ·rename_i t;cases h;have Z:v=.slice none 0 0:=Z;subst Z;exact⟨⟨rfl,0,[],⟨by simp,.inl ⟨rfl,rfl⟩⟩,rfl,fun j g=>by simp[flat] at g⟩,.nil⟩
 ·rename_i o s;split at h
  ·rename_i ag t xs hl;cases hb:ag.beq s with
   |false=>simp[hb] at h
   |true=>
    simp only[hb,cond_true,Option.some.injEq,Prod.mk.injEq] at h;obtain⟨rfl,rfl⟩:=h;have L:=Nat.eq_of_beq_eq_true hb;subst L;have hl:look st.sites o=some (.row ag t xs):=hl;obtain⟨e,cs,h1,h2⟩:=Xm ar hl;have gY:v=B o:=(Ref.at Z.2 hl rfl:v=bD (B o)).trans (hp h1).1;refine⟨⟨?_,e,cs,by rw[gY];exact h1,h2⟩,fun E ab8 hm=>?_⟩
    ·simp only[keys,cn,List.flatMap_cons,List.flatMap_nil,gY,(hp h1).2,List.append_nil]
    ·simp only[List.mem_singleton,Prod.mk.injEq] at hm;obtain⟨rfl,rfl⟩:=hm;exact⟨_,hl,rfl,rfl⟩
  ·rename_i ag t xs hl;cases hb:ag.beq s with
   |false=>simp[hb] at h
   |true=>
    simp only[hb,cond_true,Option.some.injEq,Prod.mk.injEq] at h;obtain⟨rfl,rfl⟩:=h;have L:=Nat.eq_of_beq_eq_true hb;subst L;have hl:look st.sites o=some (.c0 ag t xs):=hl;have gY:v=bD (B o):=Ref.at Z.2 hl rfl;refine⟨⟨rfl,?_⟩,.nil⟩;rw[gY];exact ar.rO (ar.br.old.sites o _ hl).1
  ·rename_i ag t xs hl;cases hb:ag.beq s with
   |false=>simp[hb] at h
   |true=>
    simp only[hb,cond_true,Option.some.injEq,Prod.mk.injEq] at h;obtain⟨rfl,rfl⟩:=h;have L:=Nat.eq_of_beq_eq_true hb;subst L;have hl:look st.sites o=some (.deep ag t xs):=hl;obtain⟨e,v',ap,cs,h1,_,h2,Y⟩:=ar.br.old.sites o _ hl;have gY:v=v':=(Ref.at Z.2 hl rfl:v=bD (B o)).trans (by rw[h1];rfl)
    subst gY;refine⟨⟨e,cs,ap,?_,h2,Y.map (fun h=>ar.rO h) fun _ _ _ _=>rfl⟩,fun E ab8 hm=>?_⟩
    ·simp only[keys,cn,List.flatMap_cons,List.flatMap_nil,List.append_nil,h1]
    ·simp only[List.mem_singleton,Prod.mk.injEq] at hm;obtain⟨rfl,rfl⟩:=hm;exact⟨_,hl,rfl,rfl⟩
  ·cases h
 ·cases h;exact⟨⟨rfl,trivial⟩,.nil⟩
 ·cases h;exact⟨⟨rfl,Z⟩,.nil⟩
 ·cases h
theorem Hs{O dq:List aw}{us:List (Nat×Site)}(h:jS st O=some (dq,us))(b6:dq.head?=some .ez):O.head?=some .ez:=by
 cases O with
 |nil=>simp only[jS] at h;cases h;cases b6
 |cons l O=>
  simp only[jS] at h;split at h
  ·rename_i a u1 as u2 h1 h2;cases h;simp only[List.head?_cons,Option.some.injEq] at b6 ⊢;subst b6;unfold mn at h1;split at h1<;>try(cases h1;done)
   ·split at h1;all_goals first|cases h1;done|skip
    all_goals
     rename_i ag t xs _;revert h1
     generalize ag.beq _=q;intro h1;cases q<;>cases h1
   ·rfl
  ·cases h
theorem wW(ar:eX J H X B st tm w cR ep av):∀{O dq:List aw} {us:List (Nat×Site)} {vs:List Value},jS st O=some (dq,us)->cl B st.sites w (al X B st.sites) O vs->
  gj w av dq vs (cn B (keys us))/\eR st.sites us:=by
 intro O;induction O with
 |nil=>intro dq us vs h Z;simp only[jS] at h;cases h;rw[Z.kO];exact⟨rfl,.nil⟩
 |cons l O ih=>
  intro dq us vs h Z;simp only[jS] at h;split at h
  ·rename_i a u1 as u2 h1 h2;cases h;obtain⟨v,ct,rfl,js,jY⟩:=Z.inv;obtain⟨ay,ai⟩:=v8 ar h1 js;obtain⟨bn,cu⟩:=ih h2 jY;exact⟨⟨_,_,by rw[gy,j8],ay,bn⟩,ai.append cu⟩
  ·cases h
theorem ii.append{as jy:List Arg}{vs ct:List Value}{bs nQ:List Nat}(h:ii w av as vs bs)(ae:ii w av jy ct nQ):ii w av (as++jy) (vs++ct) (bs++nQ):=by
 induction as generalizing vs bs with
 |nil=>
  match vs,h with
  |[],h=>have h:bs=[]:=h;subst h;exact ae
 |cons a as ih=>
  match vs,h with
  |v::vs,⟨aX,aG,h1,h2,Y⟩=>exact⟨aX,aG++nQ,by rw[h1,List.append_assoc],h2,ih Y⟩
theorem S_{cs:List (List aK)}{vs:List Value}(h:kf w av cs vs):ii w av (kP cs) vs []:=by
 induction cs generalizing vs with
 |nil=>
  match vs,h with
  |[],_=>rfl
 |cons ds cs ih=>
  match vs,h with
  |v::vs,⟨⟨b,cur,h1,h2,Y,aP,bq⟩,eu⟩=>
   refine⟨[],[],rfl,⟨rfl,b,0,by rw[h1],h2,Y,cur,by rw[bq.1],fun j u hu=>aP j u hu,bq.2⟩,ih eu⟩
theorem F9{as jy:List Arg}{vs ct:List Value}(hl:as.length=vs.length):dQ (as++jy) (vs++ct)=dQ as vs++dQ jy ct:=by
 induction as generalizing vs with
 |nil=>rw[List.eq_nil_of_length_eq_zero hl.symm];rfl
 |cons a as ih=>
  match vs,hl with
  |v::vs,hl=>
   have:=ih (vs:=vs) (by simpa using hl)
   cases a with
   |av a=>cases v<;>simp[dQ,this]
   |dP c=>
    cases v<;>try(simp[dQ,this];done)
    rename_i p;cases p<;>simp[dQ,this]
theorem Ta(cs:List (List aK))(vs:List Value):dQ (kP cs) vs=[]:=by
 induction cs generalizing vs with
 |nil=>cases vs<;>rfl
 |cons c cs ih=>cases vs<;>simp[kP,dQ,ih]
theorem Ra{as jy:List Arg}{vs ct:List Value}(hl:as.length=vs.length):eW (as++jy) (vs++ct)=eW as vs++eW jy ct:=by
 induction as generalizing vs with
 |nil=>rw[List.eq_nil_of_length_eq_zero hl.symm];rfl
 |cons a as ih=>
  match vs,hl with
  |v::vs,hl=>
   have:=ih (vs:=vs) (by simpa using hl)
   cases a<;>simp[eW,this]
theorem Su(cs:List (List aK))(vs:List Value):eW (kP cs) vs=[]:=by
 induction cs generalizing vs with
 |nil=>cases vs<;>rfl
 |cons c cs ih=>cases vs<;>simp[kP,eW,ih,bt.cells,fT,aw.o6]
def hM(B:Nat->Value):List (Option (Nat×Nat))->List Value->Prop
 |[],_=>True
 |none::r,_::vs=>hM B r vs
 |some p::r,v::vs=>v=bD (B p.1)/\hM B r vs
 |_::_,[]=>False
theorem hM.append{B:Nat->Value}{r j3:List (Option (Nat×Nat))}{vs ct:List Value}(hl:r.length=vs.length)(h:hM B r vs)(ae:hM B j3 ct):hM B (r++j3) (vs++ct):=by
 induction r generalizing vs with
 |nil=>rw[List.eq_nil_of_length_eq_zero hl.symm];exact ae
 |cons D r ih=>
  match vs,hl with
  |v::vs,hl=>
   cases D with
   |none=>exact ih (by simpa using hl) h
   |some p=>exact⟨h.1,ih (by simpa using hl) h.2⟩
theorem ii.length{as:List Arg}{vs:List Value}{bs:List Nat}(h:ii w av as vs bs):as.length=vs.length:=by
 induction as generalizing vs bs with
 |nil=>
  match vs,h with
  |[],_=>rfl
 |cons a as ih=>
  match vs,h with
  |v::vs,⟨_,_,_,_,h⟩=>simp[ih h]
theorem Um(ar:eX J H X B st tm w cR ep av):∀{cA:List aF} {a:jU} {vs:List Value},iL st cA=some a->cA.length=vs.length->
  (∀i (h:i<cA.length) (ae:i<vs.length),b4 B st.sites w (al X B st.sites) (cA[i]) (vs[i]))->(∀p,p∈a.ew->p∈cR)->(∀o,o∈a.fJ->o∈ep)->
  ii w av a.as vs (cn B (keys a.gone))/\eR st.sites a.gone/\dQ a.as vs=cn B (keys a.boxes)/\(∀o s,(o,s)∈a.boxes->(o,.dead s)∈a.gone/\∃b,B o=.pointer (some ⟨b,0,none⟩))/\a.rows=[]:=by
 intro cA;induction cA with
 |nil=>
  intro a vs h hl _ _ _;simp only[iL] at h;cases h;rw[List.eq_nil_of_length_eq_zero hl.symm];exact⟨rfl,.nil,rfl,fun o s hm=>by simp at hm,rfl⟩
 |cons pY cA ih=>
  intro a vs h hl Z dV dp;match vs,hl with
  |v::vs,hl=>
   have k9:=Z 0 (by simp) (by simp)
   have k8:∀i (h:i<cA.length) (ae:i<vs.length),b4 B st.sites w (al X B st.sites) (cA[i]) (vs[i]):=fun i g1 g2=>Z (i+1) (by simpa using g1) (by simpa using g2)
   have fk:cA.length=vs.length:=by simpa using hl
   simp only[List.getElem_cons_zero] at k9;unfold iL at h;split at h
   ·cases ‹pY::cA=[]›
   ·rename_i o s ct bS;cases bS;split at h
    ·rename_i cells r lF hr;split at h
     ·rename_i cs gone aJ;cases h;obtain⟨ay,ai,bn,cu,et⟩:=ih hr fk k8 dV dp;have hD:=gK lF;obtain⟨b,T,cur,e1,e2,cf,eV,gx⟩:=ar.br.old.box hD k9;have DJ:mq cells T cur b:=by
       obtain⟨aG,dB,Mq,q1,q2,_,_,db,_⟩:=ar.br.old.sites o _ hD;rw[e1] at q1;cases q1;rw[cf] at q2;cases q2;exact db
      obtain⟨g1,g2⟩:=wW ar aJ gx;subst e2;refine⟨⟨b::cn B (keys gone),_,?_,⟨b,rfl,T,cur,_,rfl,cf,eV,fun b6=>DJ (Hs aJ b6),g1⟩,ay⟩,?_,?_,?_,et⟩
      ·show cn B (keys (((o,Site.dead s)::gone)++r.gone))=_;rw[gy,j8];congr 1
       simp[keys,cn,e1,aZ,bb]
      ·refine eR.append ?_ ai;intro E ag hm;rcases List.mem_cons.1 hm with hm|hm
       ·cases hm;exact⟨_,hD,rfl,rfl⟩
       ·exact g2 E ag hm
      ·simp[dQ,bn,keys,cn,e1,aZ,bb]
      ·intro E ag hm;rcases List.mem_cons.1 hm with hm|hm
       ·cases hm;exact⟨by simp,b,e1⟩
       ·obtain⟨q1,q2⟩:=cu E ag hm;exact⟨List.mem_append.2 (.inr q1),q2⟩
     ·cases h
    ·cases h
   ·rename_i l ct _ bS;cases bS;split at h
    ·rename_i fl us bs r h1 hr;cases h;obtain⟨ay,ai,bn,cu,_⟩:=ih hr fk k8 (fun p am=>dV p (List.mem_append.2 (.inr am))) (fun p am=>dp p (List.mem_append.2 (.inr am)))
     have:=BM ar h1 (fun p am=>dV p (List.mem_append.2 (.inl am))) (fun p am=>dp p (List.mem_append.2 (.inl am))) k9
     refine⟨⟨[],_,rfl,this,ay⟩,ai,?_,cu,rfl⟩;cases v<;>simp[dQ,bn]
    ·cases h
   ·rename_i O ct bS;cases bS;split at h
    ·rename_i dq us bs r h1 hr;cases h;obtain⟨ay,ai,bn,cu,_⟩:=ih hr fk k8 (fun p am=>dV p (List.mem_append.2 (.inr am))) (fun p am=>dp p (List.mem_append.2 (.inr am)))
     obtain⟨jr,e1,e2,cf⟩:=k9;have:=V5 ar h1 (fun p am=>dV p (List.mem_append.2 (.inl am))) (fun p am=>dp p (List.mem_append.2 (.inl am))) ⟨e2,cf⟩
     refine⟨⟨[],_,rfl,⟨jr,e1,this⟩,ay⟩,ai,?_,cu,rfl⟩;cases v<;>simp[dQ,bn]
    ·cases h
   ·cases h
theorem Ht(ar:eX J H X B st tm w cR ep av){l fl:aw}{gs us:List (Nat×Site)}{bs:List Nat}{v:Value}(h:lr st l=some (fl,gs,us,bs))(dV:∀p,p∈us->p∈cR)(dp:∀o,o∈bs->o∈ep)
  (Z:dl B st.sites w (al X B st.sites) l v):lz w av fl v (cn B (keys gs))/\eR st.sites gs:=by
 unfold lr at h;split at h
 ·split at h
  ·rename_i aJ;cases h;exact v8 ar aJ Z
  ·cases h
 ·cases h;exact v8 (l:=.nil _) (us:=[]) ar rfl Z
 ·split at h
  ·rename_i hl;cases h;exact⟨BM ar hl dV dp Z,.nil⟩
  ·cases h
theorem GR(ar:eX J H X B st tm w cR ep av){l fl:aw}{gs us:List (Nat×Site)}{bs:List Nat}{v:Value}(h:lr st l=some (fl,gs,us,bs))(Z:dl B st.sites w (al X B st.sites) l v):
  ∀o s,kY st l=some (o,s)->v=bD (B o)/\(o,.dead s)∈gs:=by
 intro o s aJ;unfold kY at aJ;split at aJ
 ·rename_i Ej ag;unfold lr at h;simp only[mn] at h;split at aJ
  ·rename_i u t xs hl;cases aJ;rw[hl] at h;simp only at h;cases hb:u.beq s with
   |false=>simp[hb] at h
   |true=>
    have L:=Nat.eq_of_beq_eq_true hb;subst L;simp only[hb,cond_true] at h;cases h;exact⟨Ref.at Z.2 hl rfl,List.mem_singleton.2 rfl⟩
  ·rename_i u t xs hl;cases aJ;rw[hl] at h;simp only at h;cases hb:u.beq s with
   |false=>simp[hb] at h
   |true=>
    have L:=Nat.eq_of_beq_eq_true hb;subst L;simp only[hb,cond_true] at h;cases h;exact⟨Ref.at Z.2 hl rfl,List.mem_singleton.2 rfl⟩
  ·cases aJ
 ·cases aJ
theorem SY(ar:eX J H X B st tm w cR ep av):∀{O dq:List aw} {gs us:List (Nat×Site)} {bs:List Nat} {vs:List Value},lp st O=some (dq,gs,us,bs)->(∀p,p∈us->p∈cR)->(∀o,o∈bs->o∈ep)->
  cl B st.sites w (al X B st.sites) O vs->gj w av dq vs (cn B (keys gs))/\eR st.sites gs/\hM B (O.map (kY st)) vs/\∀o s,some (o,s)∈O.map (kY st)->(o,.dead s)∈gs:=by
 intro O;induction O with
 |nil=>intro dq gs us bs vs h _ _ Z;simp only[lp] at h;cases h;rw[Z.kO];exact⟨rfl,.nil,trivial,fun o s h=>by simp at h⟩
 |cons l O ih=>
  intro dq gs us bs vs h dV dp Z;simp only[lp] at h;split at h
  ·rename_i a u1 f1 aX as u2 f2 aG h1 h2;cases h;obtain⟨v,ct,rfl,js,jY⟩:=Z.inv;obtain⟨ay,ai⟩:=Ht ar h1 (fun p am=>dV p (List.mem_append.2 (.inl am))) (fun p am=>dp p (List.mem_append.2 (.inl am))) js
   obtain⟨bn,cu,et,hO⟩:=ih h2 (fun p am=>dV p (List.mem_append.2 (.inr am))) (fun p am=>dp p (List.mem_append.2 (.inr am))) jY
   have hr:=GR ar h1 js;refine⟨⟨_,_,by rw[gy,j8],ay,bn⟩,ai.append cu,?_,fun o s hm=>?_⟩
   ·simp only[List.map_cons];cases aD:kY st l with
    |none=>exact et
    |some p=>exact⟨(hr p.1 p.2 aD).1,et⟩
   ·simp only[List.map_cons,List.mem_cons] at hm;rcases hm with hm|hm
    ·exact List.mem_append.2 (.inl (hr o s hm.symm).2)
    ·exact List.mem_append.2 (.inr (hO o s hm))
  ·cases h
theorem Au{v:Value}(h:v.oneCell'=true):hs v=[v]:=by
 cases v<;>first|rfl|cases h
theorem UA{l:aw}{v:Value}{bs:List Nat}(hn:l.o6=false)(h:lz w av l v bs):v.oneCell'=true:=by
 cases l with
 |fresh t xs=>
  obtain⟨_,e,cs,k,_⟩:=h;rcases k.2 with⟨h,_⟩|⟨g,cap,cur,br,h,_⟩<;>rw[h]<;>rfl
 |hW t xs=>
  obtain⟨e,cs,ap,_,k,_⟩:=h;rcases k.2 with⟨h,_⟩|⟨g,cap,cur,br,h,_⟩<;>rw[h]<;>rfl
 |_=>cases hn
theorem gj.length{O:List aw}{vs:List Value}{bs:List Nat}(h:gj w av O vs bs):vs.length=O.length:=by
 induction O generalizing vs bs with
 |nil=>
  match vs,h with
  |[],_=>rfl
 |cons l O ih=>
  match vs,h with
  |v::vs,⟨_,_,_,_,h⟩=>simp[ih h]
theorem SL(ar:eX J H X B st tm w cR ep av):∀{cA:List aF} {a:jU} {vs:List Value},j' st cA=some a->cA.length=vs.length->
  (∀i (h:i<cA.length) (ae:i<vs.length),b4 B st.sites w (al X B st.sites) (cA[i]) (vs[i]))->(∀p,p∈a.ew->p∈cR)->(∀o,o∈a.fJ->o∈ep)->
  ii w av a.as vs (cn B (keys a.gone))/\eR st.sites a.gone/\dQ a.as vs=cn B (keys a.boxes)/\(∀o s,(o,s)∈a.boxes->(o,.dead s)∈a.gone/\∃b,B o=.pointer (some ⟨b,0,none⟩))/\
   hM B a.rows (eW a.as vs)/\∀o s,some (o,s)∈a.rows->(o,.dead s)∈a.gone:=by
 intro cA;induction cA with
 |nil=>
  intro a vs h hl _ _ _;simp only[j'] at h;cases h;rw[List.eq_nil_of_length_eq_zero hl.symm];exact⟨rfl,.nil,rfl,fun o s hm=>by simp at hm,trivial,fun o s hm=>by simp at hm⟩
 |cons pY cA ih=>
  intro a vs h hl Z dV dp;match vs,hl with
  |v::vs,hl=>
   have k9:=Z 0 (by simp) (by simp)
   have k8:∀i (h:i<cA.length) (ae:i<vs.length),b4 B st.sites w (al X B st.sites) (cA[i]) (vs[i]):=fun i g1 g2=>Z (i+1) (by simpa using g1) (by simpa using g2)
   have fk:cA.length=vs.length:=by simpa using hl
   simp only[List.getElem_cons_zero] at k9;unfold j' at h;split at h
   ·cases ‹pY::cA=[]›
   ·rename_i l ct bS;cases bS;split at h
    ·rename_i fl gs us bs r h1 hr;cases h;obtain⟨ay,ai,bn,cu,et,hO⟩:=ih hr fk k8 (fun p am=>dV p (List.mem_append.2 (.inr am))) (fun p am=>dp p (List.mem_append.2 (.inr am)))
     obtain⟨g1,g2⟩:=Ht ar h1 (fun p am=>dV p (List.mem_append.2 (.inl am))) (fun p am=>dp p (List.mem_append.2 (.inl am))) k9
     have cW:=GR ar h1 k9;refine⟨⟨_,_,by rw[gy,j8],g1,ay⟩,g2.append ai,?_,fun E ag hm=>?_,?_,fun E ag hm=>?_⟩
     ·cases v<;>simp[dQ,bn]
     ·obtain⟨q1,q2⟩:=cu E ag hm;exact⟨List.mem_append.2 (.inr q1),q2⟩
     ·simp only[eW,bt.cells,ng];cases hn:fT [fl] with
      |true=>exact et
      |false=>
       have ff:fl.o6=false:=by simpa[fT] using hn
       simp only[cond_false,Au (UA ff g1)];refine hM.append (by simp) ?_ et
       simp only[List.map_cons,List.map_nil];cases aD:kY st l with
       |none=>trivial
       |some p=>exact⟨(cW p.1 p.2 aD).1,trivial⟩
     ·simp only[ng] at hm;rcases List.mem_append.1 hm with hm|hm
      ·cases hn:fT [fl] with
       |true=>rw[hn] at hm;simp at hm
       |false=>
        rw[hn] at hm;simp only[cond_false,List.map_cons,List.map_nil,List.mem_singleton] at hm;exact List.mem_append.2 (.inl (cW E ag hm.symm).2)
      ·exact List.mem_append.2 (.inr (hO E ag hm))
    ·cases h
   ·rename_i O ct bS;cases bS;split at h
    ·rename_i dq gs us bs r h1 hr;cases h;obtain⟨ay,ai,bn,cu,et,hO⟩:=ih hr fk k8 (fun p am=>dV p (List.mem_append.2 (.inr am))) (fun p am=>dp p (List.mem_append.2 (.inr am)))
     obtain⟨jr,e1,e2,cf⟩:=k9;obtain⟨g1,g2,g3,g4⟩:=SY ar h1 (fun p am=>dV p (List.mem_append.2 (.inl am))) (fun p am=>dp p (List.mem_append.2 (.inl am))) ⟨e2,cf⟩
     subst e1;refine⟨⟨_,_,by rw[gy,j8],⟨jr,rfl,g1⟩,ay⟩,g2.append ai,?_,fun E ag hm=>?_,?_,fun E ag hm=>?_⟩
     ·simp[dQ,bn]
     ·obtain⟨q1,q2⟩:=cu E ag hm;exact⟨List.mem_append.2 (.inr q1),q2⟩
     ·simp only[eW,bt.cells,ng];cases hn:fT dq with
      |true=>exact et
      |false=>
       simp only[cond_false,hs];exact hM.append (by simp[e2]) g3 et
     ·simp only[ng] at hm;rcases List.mem_append.1 hm with hm|hm
      ·cases hn:fT dq with
       |true=>rw[hn] at hm;simp at hm
       |false=>
        rw[hn] at hm;exact List.mem_append.2 (.inl (g4 E ag hm))
      ·exact List.mem_append.2 (.inr (hO E ag hm))
    ·cases h
   ·cases h
theorem GK{b:Bool}(ar:eX J H X B st tm w cR ep av){cA:List aF}{a:jU}{vs:List Value}(h:qv b st cA=some a)(hl:cA.length=vs.length)
  (Z:∀i (h:i<cA.length) (ae:i<vs.length),b4 B st.sites w (al X B st.sites) (cA[i]) (vs[i])) (h1:∀p,p∈a.ew->p∈cR) (h2:∀o,o∈a.fJ->o∈ep):
  ii w av a.as vs (cn B (keys a.gone))/\eR st.sites a.gone/\dQ a.as vs=cn B (keys a.boxes)/\(∀o s,(o,s)∈a.boxes->(o,.dead s)∈a.gone/\∃b,B o=.pointer (some ⟨b,0,none⟩))/\
   hM B a.rows (eW a.as vs)/\∀o s,some (o,s)∈a.rows->(o,.dead s)∈a.gone:=by
 cases b
 ·obtain⟨ay,ai,bn,cu,et⟩:=Um ar h hl Z h1 h2;exact⟨ay,ai,bn,cu,by rw[et];trivial,by rw[et];intro o s h;simp at h⟩
 ·exact SL ar h hl Z h1 h2
end
theorem HA(l m:List Nat):fa l m=true <-> ∀n,n∈l->n∉m:=by
 induction l with
 |nil=>simp[fa]
 |cons n l ih=>
  simp only[fa,Bool.and_eq_true,ih,Bool.not_eq_true',List.mem_cons];constructor
  ·rintro⟨h1,h2⟩ k (rfl|ah)
   ·intro h;rw[(sO k m).2 h] at h1;cases h1
   ·exact h2 k ah
  ·intro h;refine⟨?_,fun k ah=>h k (.inr ah)⟩
   cases ae:fN n m with
   |false=>rfl
   |true=>exact absurd ((sO n m).1 ae) (h n (.inl rfl))
section
variable {J:World}{H:List Nat}{X:Nat->Prop}{B:Nat->Value}{st:ab}{tm:Array Value}{w:World}
theorem ad.Zw:∀{us:List (Nat×Site)} {st:ab} {X:Nat->Prop},ad J H X B st tm w->eR st.sites us->(keys us).Nodup->
  ad J H (fun b=>X b\/b∈cn B (keys us)) B {st with sites:=aT st.sites us} tm w:=by
 intro us;induction us with
 |nil=>intro st X S _ _;exact S.shrink fun b h=>by rcases h with h|h;exact h;simp[keys,cn] at h
 |cons p us ih=>
  obtain⟨o,ag⟩:=p;intro st X S aJ hn;obtain⟨M,h1,h2,rfl⟩:=aJ o ag List.mem_cons_self;simp only[keys,List.nodup_cons] at hn;have cY:=S.kill h1 h2;have gd:=ih cY (fun E s hm=>by
   obtain⟨t,ay,ai,bn⟩:=aJ E s (List.mem_cons_of_mem _ hm);have:¬o=E:=fun e=>hn.1 (by rw[e];exact AP hm)
   exact⟨t,by simp[ck,this,ay],ai,bn⟩) hn.2
  refine gd.shrink fun b h=>?_
  rcases h with h|h
  ·exact .inl (.inl h)
  ·simp only[keys,cn,List.flatMap_cons,List.mem_append] at h;rcases h with h|h
   ·exact .inl (.inr h)
   ·exact .inr h
structure fP(J:World)(H:List Nat)(X X':Nat->Prop)(B ax:Nat->Value)(st:ab)(tm:Array Value)(w:World)(us:List (Nat×Site)):Prop where
 gp:ad J H X' ax {st with sites:=aT st.sites us} tm w
 le:∀c,al X' ax (aT st.sites us) c->al X B st.sites c
 go:∀{a v},b4 B st.sites w (al X B st.sites) a v->b4 ax (aT st.sites us) w (al X' ax (aT st.sites us)) a v
 same:∀o,o∉keys us->ax o=B o
theorem fP.nil{X':Nat->Prop}(S:ad J H X B st tm w)(h:∀b,X' b->X b):fP J H X X' B B st tm w []:=
 ⟨S.shrink h,fun c hc=>by
  rcases hc with hc|hc
  ·exact .inl (h c hc)
  ·exact .inr hc,fun k=>k.eY (fun c hc=>by
   rcases hc with hc|hc
   ·exact .inl (h c hc)
   ·exact .inr hc) (fun c hc=>(S.shrink h).lt hc),fun _ _=>rfl⟩
theorem fP.trans{di dA:Nat->Prop}{f' f_:Nat->Value}{us vs:List (Nat×Site)}(A:fP J H X di B f' st tm w us)(b7:fP J H di dA f' f_ {st with sites:=aT st.sites us} tm w vs):
  fP J H X dA B f_ st tm w (us++vs):=by
 refine⟨?_,?_,?_,fun o h=>?_⟩
 ·rw[ie];exact b7.gp
 ·rw[ie];exact fun c hc=>A.le c (b7.le c hc)
 ·rw[ie];exact fun h=>b7.go (A.go h)
 ·rw[gy,List.mem_append,not_or] at h;rw[b7.same o h.2,A.same o h.1]
theorem fP.one{X':Nat->Prop}{n:Nat}{bm:Site}{nv:Value}(S:ad J H X B st tm w)(hP:∀b,X' b->X b)
  (dr:(∀M,look st.sites n=some M->M.bT<bm.bT)\/(bD (B n)=bD nv/\∀M,look st.sites n=some M->M.bT=bm.bT/\M.live=false))
  (hb:∀b,b∈bb nv->X b/\¬X' b/\(b∈H\/J.heap.size<=b))
  (eB:∀{bd:List (Nat×Site)} {ax:Nat->Value},bd=b5 st.sites n bm->ax n=nv->(∀{a v},b4 B st.sites w (al X B st.sites) a v->b4 ax bd w (al X' ax bd) a v)->
   (∀b,al X' ax bd b->al X B st.sites b)->hA ax bd w (al X' ax bd) n bm):
  fP J H X X' B (fun E=>if E=n then nv else B E) st tm w [(n,bm)]:=by
 obtain⟨h1,h2,Y⟩:=S.tF hP dr hb eB;exact⟨h1,h2,Y,fun o h=>by
  simp only[keys,List.mem_singleton] at h;simp[h]⟩
theorem zW{av bE:Nat->Prop}{l:aw}{v:Value}{sites:List (Nat×Site)}(hf:∀t xs,l≠.fresh t xs)(zf:∀t xs,l≠.hW t xs)(h:dl nq [] w av l v)(c3:∀b,bE b->av b)(ba:∀b,bE b->b<w.heap.size):dl B sites w bE l v:=by
 have eY:∀{d:aK} {v:Value},Rd w av d v->Rd w bE d v:=fun h=>b4.eY (B:=B) (sites:=[]) (a:=one _) c3 ba h
 cases l with
 |d x=>exact eY h
 |nil t=>exact h
 |own o s=>obtain⟨_,_,h,_⟩:=h;cases h
 |ptr o s off=>obtain⟨_,_,_,h,_⟩:=h;cases h
 |eS cells off=>
  obtain⟨b,D,h1,h2,Y,cs,aP,bq,eu⟩:=h;exact⟨b,D,h1,fun hx=>h2 (c3 b hx),Y,cs,aP,bq,fun j g1 g2=>eY (eu j g1 g2)⟩
 |er o s t k off=>obtain⟨_,_,_,_,h,_⟩:=h;cases h
 |clo g bv=>
  obtain⟨vs,h1,h2,Y⟩:=h;match bv,vs,h2 with
  |[],[],_=>exact⟨[],h1,rfl,fun i h=>by simp at h⟩
  |c::bv,v::vs,_=>obtain⟨_,h,_⟩:=Y 0 (by simp) (by simp);cases h
 |cx u=>exact h
 |fresh t xs=>exact absurd rfl (hf t xs)
 |hW t xs=>exact absurd rfl (zf t xs)
 |ez=>trivial
 |any=>trivial
theorem cl.go{ax:Nat->Value}{sites bd:List (Nat×Site)}{w':World}{av bE:Nat->Prop}(go:∀{a:aF} {v:Value},b4 B sites w av a v->b4 ax bd w' bE a v){O:List aw}{vs:List Value}
  (h:cl B sites w av O vs):cl ax bd w' bE O vs:=xJ go h
structure Left(J:World)(H:List Nat)(X:Nat->Prop)(B:Nat->Value)(st:ab)(av:Nat->Prop)(bs:List Nat):Prop where
 nodup:bs.Nodup
 cc:∀b,b∈bs->¬X b/\(b∈H\/J.heap.size<=b)
 le:∀c,al (fun b=>X b\/b∈bs) B st.sites c->av c
def jl(bj:ab)(sites:List (Nat×Site))(ks:List Nat):Prop:=∀m,m∈ks->∀M,look sites m=some M->M.bT<aR bj m
theorem jl.step{bj:ab}{sites us:List (Nat×Site)}{ks:List Nat}(h:jl bj sites ks)(U:∀n,n∈keys us->n∉ks):jl bj (aT sites us) ks:=by
 intro m hm M L;rw[kH (fun ae=>U m ae hm)] at L
 exact h m hm M L
theorem zM{u:Bool}{e:TypeId}{s:Nat}{v:Value}{n:Nat}{cs:List Value}(h:rowAt w u e s v n cs):v.oneCell'=true:=by
 rcases h.2 with⟨h,_⟩|⟨g,cap,cur,br,h,_⟩<;>rw[h]<;>rfl
theorem IC{av:Nat->Prop}(bj:ab):∀(O:List aw) (n:Nat) {B:Nat->Value} {st:ab} {vs:List Value} {bs rest:List Nat},ad J H (fun b=>X b\/b∈bs++rest) B st tm w->gj w av O vs bs->
  Left J H X B st av (bs++rest)->jl bj st.sites (keys (take bj n O).2)->(keys (take bj n O).2).Nodup->
  ∃ax,fP J H (fun b=>X b\/b∈bs++rest) (fun b=>X b\/b∈rest) B ax st tm w (take bj n O).2/\cl ax (aT st.sites (take bj n O).2) w (al (fun b=>X b\/b∈rest) ax (aT st.sites (take bj n O).2)) (take bj n O).1 vs/\
   Left J H X ax {st with sites:=aT st.sites (take bj n O).2} av rest:=by
 intro O;induction O with
 |nil=>
  intro n B st vs bs rest S h ar fi U;match vs,h with
  |[],h=>
   have h:bs=[]:=h;subst h;exact⟨B,.nil S (fun b hb=>hb),.nil,ar⟩
 |cons l O ih=>
  intro n B st vs bs rest S h ar fi U;match vs,h with
  |v::vs,⟨aX,aG,dp,h1,h2⟩=>
   subst dp;by_cases hf:∃t xs,l=.fresh t xs
   ·obtain⟨t,xs,rfl⟩:=hf;obtain⟨fQ,e,cs,an,hr⟩:=h1;simp only[take,keys,List.nodup_cons] at U fi;have dF:=ar.nodup;rw[List.append_assoc,fQ] at dF;have cN:fP J H (fun b=>X b\/b∈aX++aG++rest) (fun b=>X b\/b∈aG++rest) B (fun E=>if E=n then v else B E) st tm w [(n,.row (aR bj n) t xs)]:=by
     refine .one S (fun b hb=>?_) (.inl fun M L=>fi n List.mem_cons_self M L) (fun b hb=>?_) (fun eA dR go le=>?_)
     ·rcases hb with hb|hb
      ·exact .inl hb
      ·exact .inr (by rw[List.append_assoc];exact List.mem_append.2 (.inr hb))
     ·have hb:aZ v=some b:=sX an hb;have hm:b∈aX:=by rw[fQ,hb];simp
      have gZ:b∈aX++aG++rest:=by rw[List.append_assoc];exact List.mem_append.2 (.inl hm)
      refine⟨.inr gZ,?_,(ar.cc b gZ).2⟩;rintro(hx|hx)
      ·exact(ar.cc b gZ).1 hx
      ·rw[hb] at dF;simp only[Option.toList_some,List.singleton_append,List.nodup_cons] at dF;exact dF.1 hx
     ·refine⟨e,cs,by rw[dR];exact an,fun j g1 g2=>?_⟩
      have k:=hr.2 j g1 g2;have c3:∀b,al (fun b=>X b\/b∈aG++rest) _ _ b->av b:=fun b hb=>ar.le b (le b hb)
      exact b4.eY (B:=B) (sites:=[]) (a:=one _) c3 (fun b hb=>S.lt (le b hb)) k
    have kE:Left J H X (fun E=>if E=n then v else B E) {st with sites:=aT st.sites [(n,.row (aR bj n) t xs)]} av (aG++rest):=by
     refine⟨(List.nodup_append.1 (by rw[List.append_assoc] at ar;exact ar.nodup)).2.1,fun b hb=>ar.cc b (by rw[List.append_assoc];exact List.mem_append.2 (.inr hb)),fun c hc=>ar.le c (cN.le c hc)⟩
    obtain⟨ax,dB,Y,aP⟩:=ih (n+1) (st:={st with sites:=aT st.sites [(n,.row (aR bj n) t xs)]}) cN.gp h2 kE
     (jl.step (us:=[(n,.row (aR bj n) t xs)]) (fun m hm=>fi m (List.mem_cons_of_mem _ hm)) (fun m hm=>by simp only[keys,List.mem_singleton] at hm;subst hm;exact U.1)) U.2
    refine⟨ax,cN.trans dB,?_,aP⟩;refine cl.cons ?_ Y;have:dl (fun E=>if E=n then v else B E) (aT st.sites [(n,.row (aR bj n) t xs)]) w (al (fun b=>X b\/b∈aG++rest) (fun E=>if E=n then v else B E) (aT st.sites [(n,.row (aR bj n) t xs)])) (.own n (aR bj n)) v:=
     ⟨zM an,Ref.mk (M:=.row (aR bj n) t xs) (by simp[aT,ck]) rfl (by simp[(hp an).1])⟩
    exact dB.go (a:=bQ (.own n (aR bj n))) (v:=v) this
   ·by_cases zf:∃t xs,l=.hW t xs
    ·obtain⟨t,xs,rfl⟩:=zf;obtain⟨e,cs,ap,fQ,an,hr⟩:=h1;simp only[take,keys,List.nodup_cons] at U fi;have dF:=ar.nodup;rw[List.append_assoc,fQ] at dF;have cN:fP J H (fun b=>X b\/b∈aX++aG++rest) (fun b=>X b\/b∈aG++rest) B (fun E=>if E=n then .tuple (v::ap).toArray else B E) st tm w [(n,.deep (aR bj n) t xs)]:=by
      refine .one S (fun b hb=>?_) (.inl fun M L=>fi n List.mem_cons_self M L) (fun b hb=>?_) (fun eA dR go le=>?_)
      ·rcases hb with hb|hb
       ·exact .inl hb
       ·exact .inr (by rw[List.append_assoc];exact List.mem_append.2 (.inr hb))
      ·have hm:b∈aX:=by rw[fQ];exact hb
       have gZ:b∈aX++aG++rest:=by rw[List.append_assoc];exact List.mem_append.2 (.inl hm)
       refine⟨.inr gZ,?_,(ar.cc b gZ).2⟩;rintro(hx|hx)
       ·exact(ar.cc b gZ).1 hx
       ·exact(List.nodup_append.1 dF).2.2 b hb b hx rfl
      ·have c3:∀b,al (fun b=>X b\/b∈aG++rest) _ _ b->av b:=fun b hb=>ar.le b (le b hb)
       exact⟨e,v,ap,cs,dR,by rw[dR];exact(List.nodup_append.1 dF).1,an,hr.map (fun k=>b4.eY (B:=B) (sites:=[]) (a:=one _) c3 (fun b hb=>S.lt (le b hb)) k) fun _ _ _ _=>rfl⟩
     have kE:Left J H X (fun E=>if E=n then .tuple (v::ap).toArray else B E) {st with sites:=aT st.sites [(n,.deep (aR bj n) t xs)]} av (aG++rest):=by
      refine⟨(List.nodup_append.1 (by rw[List.append_assoc] at ar;exact ar.nodup)).2.1,fun b hb=>ar.cc b (by rw[List.append_assoc];exact List.mem_append.2 (.inr hb)),fun c hc=>ar.le c (cN.le c hc)⟩
     obtain⟨ax,dB,Y,aP⟩:=ih (n+1) (st:={st with sites:=aT st.sites [(n,.deep (aR bj n) t xs)]}) cN.gp h2 kE
      (jl.step (us:=[(n,.deep (aR bj n) t xs)]) (fun m hm=>fi m (List.mem_cons_of_mem _ hm)) (fun m hm=>by simp only[keys,List.mem_singleton] at hm;subst hm;exact U.1)) U.2
     refine⟨ax,cN.trans dB,?_,aP⟩;refine cl.cons ?_ Y;have:dl (fun E=>if E=n then .tuple (v::ap).toArray else B E) (aT st.sites [(n,.deep (aR bj n) t xs)]) w (al (fun b=>X b\/b∈aG++rest) (fun E=>if E=n then .tuple (v::ap).toArray else B E) (aT st.sites [(n,.deep (aR bj n) t xs)])) (.own n (aR bj n)) v:=
      ⟨zM an,Ref.mk (M:=.deep (aR bj n) t xs) (by simp[aT,ck]) rfl (by simp[bD])⟩
     exact dB.go (a:=bQ (.own n (aR bj n))) (v:=v) this
    ·have EP:∀t xs,l≠.fresh t xs:=fun t xs h=>hf ⟨t,xs,h⟩
     have DP:∀t xs,l≠.hW t xs:=fun t xs h=>zf ⟨t,xs,h⟩
     have ZW:take bj n (l::O)=(l::(take bj (n+1) O).1,(take bj (n+1) O).2):=by
      cases l<;>first|rfl|exact absurd rfl (EP _ _)|exact absurd rfl (DP _ _)
     have h1':aX=[]/\dl nq [] w av l v:=by
      cases l<;>first|exact h1|exact absurd rfl (EP _ _)|exact absurd rfl (DP _ _)
     obtain⟨rfl,h1'⟩:=h1';rw[ZW] at U fi ⊢;simp only[List.nil_append] at S ar ⊢;obtain⟨ax,dB,Y,aP⟩:=ih (n+1) S h2 ar fi U;refine⟨ax,dB,?_,aP⟩;refine cl.cons ?_ Y;exact zW EP DP h1' (fun b hb=>ar.le b (dB.le b hb)) (fun b hb=>dB.gp.lt hb)
end
section
variable {J:World}{H:List Nat}{X:Nat->Prop}{B:Nat->Value}{st:ab}{tm:Array Value}{w:World}
def nm(B:Nat->Value)(sites:List (Nat×Site))(w:World)(av:Nat->Prop)(as:List bt)(vs:List Value):Prop:=
 vs.length=as.length/\∀j (h:j<as.length) (ae:j<vs.length),gm B sites w av (as[j]) (vs[j])
theorem nm.cons{sites:List (Nat×Site)}{av:Nat->Prop}{a:bt}{as:List bt}{v:Value}{vs:List Value}(h:gm B sites w av a v)(L:nm B sites w av as vs):nm B sites w av (a::as) (v::vs):=
 ⟨by simp[L.1],fun j h1 h2=>by
  cases j with
  |zero=>exact h
  |succ j=>exact L.2 j (by simpa using h1) (by simpa using h2)⟩
theorem Left.rest{av:Nat->Prop}{a b:List Nat}(ar:Left J H X B st av (a++b)){ax:Nat->Value}{aa:ab}(h:∀c,al (fun c=>X c\/c∈b) ax aa.sites c->al (fun c=>X c\/c∈a++b) B st.sites c):Left J H X ax aa av b:=
 ⟨(List.nodup_append.1 ar.nodup).2.1,fun c hc=>ar.cc c (List.mem_append.2 (.inr hc)),fun c hc=>ar.le c (h c hc)⟩
theorem TK{bj:ab}{n:Nat}{O:List aw}(h:(take bj n O).1.head?=some .ez):O.head?=some .ez:=by
 cases O with
 |nil=>cases h
 |cons l O=>cases l<;>first|exact h|cases h
theorem take_one(bj:ab)(n:Nat)(l:aw):∃fl,(take bj n [l]).1=[fl]:=by cases l<;>exact⟨_,rfl⟩
theorem HO{av:Nat->Prop}(bj:ab):∀(as:List bt) (n:Nat) {B:Nat->Value} {st:ab} {vs:List Value} {bs rest:List Nat},ad J H (fun b=>X b\/b∈bs++rest) B st tm w->kT w av as vs bs->
  Left J H X B st av (bs++rest)->jl bj st.sites (keys (dM bj n as).2)->(keys (dM bj n as).2).Nodup->
  ∃ax,fP J H (fun b=>X b\/b∈bs++rest) (fun b=>X b\/b∈rest) B ax st tm w (dM bj n as).2/\nm ax (aT st.sites (dM bj n as).2) w (al (fun b=>X b\/b∈rest) ax (aT st.sites (dM bj n as).2)) (dM bj n as).1 vs/\
   Left J H X ax {st with sites:=aT st.sites (dM bj n as).2} av rest:=by
 intro as;induction as with
 |nil=>
  intro n B st vs bs rest S h ar fi U;match vs,h with
  |[],h=>
   have h:bs=[]:=h;subst h;exact⟨B,.nil S (fun b hb=>hb),⟨rfl,fun j h=>by simp[dM] at h⟩,ar⟩
 |cons a as ih=>
  intro n B st vs bs rest S h ar fi U;match vs,h with
  |v::vs,⟨aX,aG,dp,h1,h2⟩=>
   subst dp;have go:∀(O:List aw) (us:List Value),gj w av O us aX->(dM bj n (a::as)).2=(take bj n O).2++(dM bj (n+100) as).2->
     ∃ax,fP J H (fun b=>X b\/b∈aX++aG++rest) (fun b=>X b\/b∈rest) B ax st tm w (dM bj n (a::as)).2/\cl ax (aT st.sites (dM bj n (a::as)).2) w (al (fun b=>X b\/b∈rest) ax (aT st.sites (dM bj n (a::as)).2)) (take bj n O).1 us/\
      nm ax (aT st.sites (dM bj n (a::as)).2) w (al (fun b=>X b\/b∈rest) ax (aT st.sites (dM bj n (a::as)).2)) (dM bj (n+100) as).1 vs/\Left J H X ax {st with sites:=aT st.sites (dM bj n (a::as)).2} av rest:=by
    intro O us b6 e;rw[e] at fi U ⊢;rw[gy] at fi U;obtain⟨d1,d2,d3⟩:=List.nodup_append.1 U;rw[List.append_assoc] at S ar ⊢;obtain⟨f',cN,ay,kE⟩:=IC bj O n S b6 ar (fun m hm=>fi m (List.mem_append.2 (.inl hm))) d1
    obtain⟨f_,dB,ai,oP⟩:=ih (n+100) (st:={st with sites:=aT st.sites (take bj n O).2}) cN.gp h2 kE
     (jl.step (fun m hm=>fi m (List.mem_append.2 (.inr hm))) (fun m hm gZ=>d3 m hm m gZ rfl)) d2
    refine⟨f_,cN.trans dB,?_,?_,?_⟩
    ·rw[ie];exact ay.go dB.go
    ·rw[ie];exact ai
    ·rw[ie];exact oP
   cases a with
   |ak l=>
    have h1:lz w av l v aX:=h1;obtain⟨ax,T,ay,ai,bn⟩:=go [l] [v] ⟨aX,[],by simp,h1,rfl⟩ rfl
    refine⟨ax,T,?_,bn⟩;obtain⟨fl,fk⟩:=take_one bj n l;have:(dM bj n (bt.ak l::as)).1=bt.ak fl::(dM bj (n+100) as).1:=by simp only[dM,fk]
    rw[this];refine nm.cons ?_ ai;rw[fk] at ay;exact ay.2 0 (by simp) (by simp)
   |agg O=>
    obtain⟨us,e,h1⟩:=h1;obtain⟨ax,T,ay,ai,bn⟩:=go O us h1 rfl;refine⟨ax,T,?_,bn⟩;have:(dM bj n (bt.agg O::as)).1=bt.agg (take bj n O).1::(dM bj (n+100) as).1:=rfl;rw[this];exact nm.cons ⟨us,e,ay.1,ay.2⟩ ai
def mO(B:Nat->Value):List (Nat×Nat)->List Nat->Prop
 |[],[]=>True
 |p::r,b::dk=>B p.1=.pointer (some ⟨b,0,none⟩)/\mO B r dk
 |_,_=>False
theorem mO.of:∀{boxes:List (Nat×Nat)},(∀o s,(o,s)∈boxes->∃b,B o=.pointer (some ⟨b,0,none⟩))->mO B boxes (cn B (keys boxes)):=by
 intro boxes;induction boxes with
 |nil=>intro _;trivial
 |cons q boxes ih=>
  obtain⟨aE,r⟩:=q;intro h;obtain⟨c,hc⟩:=h aE r List.mem_cons_self;have:=ih fun o s hm=>h o s (List.mem_cons_of_mem _ hm)
  have e:cn B (keys ((aE,r)::boxes))=c::cn B (keys boxes):=by simp[cn,keys,hc,aZ,bb]
  rw[e];exact⟨hc,this⟩
theorem mO.congr{ax:Nat->Value}:∀{boxes:List (Nat×Nat)} {dk:List Nat},mO B boxes dk->(∀E,E∈keys boxes->ax E=B E)->mO ax boxes dk:=by
 intro boxes;induction boxes with
 |nil=>
  intro dk h _;match dk,h with
  |[],_=>trivial
 |cons q boxes ih=>
  intro dk h ae;match dk,h with
  |b::dk,⟨h1,h2⟩=>exact⟨by rw[ae q.1 List.mem_cons_self];exact h1,ih h2 fun E bg=>ae E (List.mem_cons_of_mem _ bg)⟩
theorem GC{av:Nat->Prop}{bj:ab}{E:Nat}:∀{boxes:List (Nat×Nat)} {cv:List (List aw)} {dk bs:List Nat},mO B boxes dk->lv w av dk cv bs->E∈keys boxes->E∈keys (e_ bj boxes cv):=by
 intro boxes;induction boxes with
 |nil=>intro cv dk bs _ _ h;simp[keys] at h
 |cons q boxes ih=>
  obtain⟨aE,r⟩:=q;intro cv dk bs hl b6 hm;match dk,cv,hl,b6 with
  |c::dk,cs::cv,⟨_,hl⟩,⟨_,_,_,_,b6⟩=>
   simp only[e_,gy,keys,List.mem_append,List.mem_cons];rcases List.mem_cons.1 hm with rfl|hm
   ·exact .inr (.inl rfl)
   ·exact .inr (.inr (ih hl b6 hm))
theorem HN{av:Nat->Prop}(bj:ab):∀(boxes:List (Nat×Nat)) {cv:List (List aw)} {B:Nat->Value} {st:ab} {dk bs rest:List Nat},ad J H (fun b=>X b\/b∈bs++rest) B st tm w->mO B boxes dk->lv w av dk cv bs->
  (∀o s,(o,s)∈boxes->look st.sites o=some (.dead s))->
  Left J H X B st av (bs++rest)->jl bj st.sites (keys (e_ bj boxes cv))->(keys (e_ bj boxes cv)).Nodup->
  ∃ax,fP J H (fun b=>X b\/b∈bs++rest) (fun b=>X b\/b∈rest) B ax st tm w (e_ bj boxes cv)/\Left J H X ax {st with sites:=aT st.sites (e_ bj boxes cv)} av rest:=by
 intro boxes;induction boxes with
 |nil=>
  intro cv B st dk bs rest S hL h e8 ar fi U;match dk,cv,hL,h with
  |[],[],_,h=>
   have h:bs=[]:=h;subst h;exact⟨B,.nil S (fun b hb=>hb),ar⟩
 |cons p boxes ih=>
  obtain⟨o,s⟩:=p;intro cv B st dk bs rest S hL h e8 ar fi U;have a_:=e8 o s List.mem_cons_self;match dk,cv,hL,h with
  |b::dk,cs::cv,⟨hb,hL⟩,⟨aX,aG,dp,⟨T,cur,oJ,e1,e2,cf,eV⟩,h2⟩=>
   subst dp e1;have hb:B o=.pointer (some ⟨b,0,none⟩):=hb;have jb:e_ bj ((o,s)::boxes) (cs::cv)=(take bj (1000000+o*100) cs).2++([(o,Site.box s (take bj (1000000+o*100) cs).1)]++e_ bj boxes cv):=rfl;rw[jb] at fi U ⊢;rw[gy,gy] at fi U;obtain⟨d1,d2,d3⟩:=List.nodup_append.1 U;obtain⟨d4,d5,d6⟩:=List.nodup_append.1 d2;have yj:∀c,c∈b::oJ++aG++rest <-> c∈oJ++(b::(aG++rest)):=by intro c;simp[or_assoc,or_left_comm]
   have aef:=ar.nodup;have cY:ad J H (fun c=>X c\/c∈oJ++(b::(aG++rest))) B st tm w:=S.shrink fun c hc=>hc.imp id (yj c).2
   have kE:Left J H X B st av (oJ++(b::(aG++rest))):=by
    refine⟨?_,fun c hc=>ar.cc c ((yj c).2 hc),fun c hc=>ar.le c ?_⟩
    ·have:List.Perm (b::oJ++aG++rest) (oJ++(b::(aG++rest))):=by
      simp only[List.cons_append,List.append_assoc];exact List.perm_middle.symm
     exact this.nodup_iff.1 aef
    ·rcases hc with hc|hc
     ·exact .inl (hc.imp id (yj c).2)
     ·exact .inr hc
   obtain⟨f',cN,ay,oP⟩:=IC bj cs (1000000+o*100) cY eV.2 kE (fun m hm=>fi m (List.mem_append.2 (.inl hm))) d1
   have L7:o∉keys (take bj (1000000+o*100) cs).2:=fun h=>d3 o h o (by simp[keys]) rfl
   have _1:f' o=B o:=cN.same o L7;have iz:look (aT st.sites (take bj (1000000+o*100) cs).2) o=some (.dead s):=by rw[kH L7,a_]
   have zk:=oP.nodup;simp only[List.nodup_cons] at zk;have dB:fP J H (fun c=>X c\/c∈b::(aG++rest)) (fun c=>X c\/c∈aG++rest) f' (fun E=>if E=o then B o else f' E) {st with sites:=aT st.sites (take bj (1000000+o*100) cs).2} tm w [(o,Site.box s (take bj (1000000+o*100) cs).1)]:=by
    refine .one cN.gp (fun c hc=>hc.imp id (List.mem_cons_of_mem _)) (.inr ⟨by rw[_1],fun M L=>?_⟩) (fun c hc=>?_) (fun eA dR go le=>?_)
    ·have L:look (aT st.sites (take bj (1000000+o*100) cs).2) o=some M:=L;rw[iz] at L;cases L;exact⟨rfl,rfl⟩
    ·rw[hb] at hc;have hc:c=b:=List.mem_singleton.1 hc;rw[hc];refine⟨.inr List.mem_cons_self,?_,(oP.cc b List.mem_cons_self).2⟩;rintro(hx|hx)
     ·exact(oP.cc b List.mem_cons_self).1 hx
     ·exact zk.1 hx
    ·have:=xJ go ay;exact⟨b,T,cur,by rw[dR,hb],e2,this.1,cf,fun b6=>eV.1 (TK b6),this.2⟩
   have afD:Left J H X (fun E=>if E=o then B o else f' E) {st with sites:=aT (aT st.sites (take bj (1000000+o*100) cs).2) [(o,Site.box s (take bj (1000000+o*100) cs).1)]} av (aG++rest):=
    Left.rest (a:=[b]) (st:={st with sites:=aT st.sites (take bj (1000000+o*100) cs).2}) oP dB.le
   have uO:∀E,E∈keys boxes->(fun E=>if E=o then B o else f' E) E=B E:=by
    intro E bg;have ah:=GC (bj:=bj) hL h2 bg;by_cases e:E=o
    ·subst e;simp
    ·simp only[e,if_false];exact cN.same E fun hm=>d3 E hm E (List.mem_append.2 (.inr ah)) rfl
   obtain⟨ax,fR,FK⟩:=ih (st:={st with sites:=aT (aT st.sites (take bj (1000000+o*100) cs).2) [(o,Site.box s (take bj (1000000+o*100) cs).1)]}) dB.gp (hL.congr uO) h2
    (fun E r hm=>by
     have ah:=GC (bj:=bj) hL h2 (AP hm);show look (aT (aT st.sites _) _) E=_;rw[kH (fun h=>d6 E h E ah rfl),kH (fun h=>d3 E h E (List.mem_append.2 (.inr ah)) rfl)]
     exact e8 E r (List.mem_cons_of_mem _ hm))
    afD
    (jl.step (jl.step (fun m hm=>fi m (List.mem_append.2 (.inr (List.mem_append.2 (.inr hm))))) (fun m hm gZ=>d3 m hm m (List.mem_append.2 (.inr gZ)) rfl)) (fun m hm gZ=>d6 m hm m gZ rfl)) d5
   refine⟨ax,?_,?_⟩
   ·have ad3:=cN.trans dB;have l7:fP J H (fun c=>X c\/c∈b::oJ++aG++rest) (fun c=>X c\/c∈oJ++(b::(aG++rest))) B B st tm w []:=.nil S fun c hc=>hc.imp id (yj c).2
    have aaJ:=l7.trans (vs:=(take bj (1000000+o*100) cs).2++[(o,Site.box s (take bj (1000000+o*100) cs).1)]) ad3;have:=aaJ.trans (vs:=e_ bj boxes cv) (by simpa only[List.nil_append,ie] using fR)
    simpa only[List.nil_append,List.append_assoc] using this
   ·simpa only[ie] using FK
theorem hM.congr{ax:Nat->Value}:∀{rows:List (Option (Nat×Nat))} {vs:List Value},hM B rows vs->(∀o s,some (o,s)∈rows->bD (ax o)=bD (B o))->hM ax rows vs:=by
 intro rows;induction rows with
 |nil=>intro vs h _;trivial
 |cons D r ih=>
  intro vs h hc;match D,vs,h with
  |none,v::vs,h=>exact ih h fun o s hm=>hc o s (List.mem_cons_of_mem _ hm)
  |some p,v::vs,h=>exact⟨h.1.trans (hc p.1 p.2 List.mem_cons_self).symm,ih h.2 fun o s hm=>hc o s (List.mem_cons_of_mem _ hm)⟩
  |none,[],h=>exact h.elim
  |some p,[],h=>exact h.elim
theorem TL{O:List aw}:eP [] O=[]:=by cases O<;>rfl
theorem GB{rows:List (Option (Nat×Nat))}:eP rows []=[]:=by
 cases rows with
 |nil=>rfl
 |cons D r=>cases D<;>rfl
theorem Sj{r:List (Option (Nat×Nat))}{l:aw}{O:List aw}:eP (none::r) (l::O)=eP r O:=by cases l<;>rfl
theorem vm{o s:Nat}:∀{rows:List (Option (Nat×Nat))},some (o,s)∈rows->o∈n3 rows
 |[],h=>by cases h
 |none::r,h=>by
  rcases List.mem_cons.1 h with h|h
  ·cases h
  ·exact vm (rows:=r) h
 |some p::r,h=>by
  rcases List.mem_cons.1 h with h|h
  ·cases h;exact List.mem_cons_self
  ·exact List.mem_cons_of_mem _ (vm h)
theorem Rb{D:Option (Nat×Nat)}{rows:List (Option (Nat×Nat))}(h:(n3 (D::rows)).Nodup):(n3 rows).Nodup:=by
 cases D with
 |none=>exact h
 |some p=>exact(List.nodup_cons.1 h).2
theorem Vc{av:Nat->Prop}:∀(rows:List (Option (Nat×Nat))) {O:List aw} {B:Nat->Value} {st:ab} {vs:List Value} {bs rest:List Nat},ad J H (fun b=>X b\/b∈bs++rest) B st tm w->gj w av O vs bs->hM B rows vs->
  (∀o s,some (o,s)∈rows->look st.sites o=some (.dead s))->(n3 rows).Nodup->Left J H X B st av (bs++rest)->(keys (eP rows O)).Nodup->
  ∃ax,fP J H (fun b=>X b\/b∈bs++rest) (fun b=>X b\/b∈rest) B ax st tm w (eP rows O)/\Left J H X ax {st with sites:=aT st.sites (eP rows O)} av rest:=by
 intro rows;have skip:∀{B:Nat->Value} {st:ab} {bs rest:List Nat},ad J H (fun b=>X b\/b∈bs++rest) B st tm w->Left J H X B st av (bs++rest)->
   fP J H (fun b=>X b\/b∈bs++rest) (fun b=>X b\/b∈rest) B B st tm w []/\Left J H X B st av rest:=by
  intro B st bs rest S ar;have T:fP J H (fun b=>X b\/b∈bs++rest) (fun b=>X b\/b∈rest) B B st tm w []:=.nil S fun b hb=>hb.imp id fun h=>List.mem_append.2 (.inr h)
  exact⟨T,ar.rest (fun c hc=>T.le c hc)⟩
 induction rows with
 |nil=>
  intro O B st vs bs rest S h hr eF fi ar U;obtain⟨T,L'⟩:=skip S ar;rw[TL];exact⟨B,T,L'⟩
 |cons D r ih=>
  intro O B st vs bs rest S h hr eF fi ar U;match O,vs,h with
  |[],[],h=>
   obtain⟨T,L'⟩:=skip S ar;rw[GB];exact⟨B,T,L'⟩
  |l::O,v::vs,⟨aX,aG,dp,h1,h2⟩=>
   subst dp;have pass:hM B r vs->eP (D::r) (l::O)=eP r O->∃ax,fP J H (fun b=>X b\/b∈aX++aG++rest) (fun b=>X b\/b∈rest) B ax st tm w (eP (D::r) (l::O))/\Left J H X ax {st with sites:=aT st.sites (eP (D::r) (l::O))} av rest:=by
    intro cp e;rw[e] at U ⊢;have l7:fP J H (fun b=>X b\/b∈aX++aG++rest) (fun b=>X b\/b∈aG++rest) B B st tm w []:=.nil S fun b hb=>hb.imp id fun h=>by rw[List.append_assoc];exact List.mem_append.2 (.inr h)
    have vg:Left J H X B st av (aG++rest):=Left.rest (a:=aX) (by rw[<-List.append_assoc];exact ar) fun c hc=>(l7.le c hc).imp (fun h=>h.imp id fun h=>by rwa[<-List.append_assoc]) id
    obtain⟨ax,T,L'⟩:=ih l7.gp h2 cp (fun o s hm=>eF o s (List.mem_cons_of_mem _ hm)) (Rb fi) vg U
    exact⟨ax,l7.trans (vs:=eP r O) T,L'⟩
   have back:∀(o s:Nat) (bm:Site) (nv:Value),D=some (o,s)->bm.bT=s->eP (D::r) (l::O)=(o,bm)::eP r O->bD nv=v->(∀b,b∈bb nv->b∈aX)->
     (∀{bd:List (Nat×Site)} {ax:Nat->Value},ax o=nv->(∀b,al (fun b=>X b\/b∈aG++rest) ax bd b->av b)->(∀b,al (fun b=>X b\/b∈aG++rest) ax bd b->b<w.heap.size)->hA ax bd w (al (fun b=>X b\/b∈aG++rest) ax bd) o bm)->
     ∃ax,fP J H (fun b=>X b\/b∈aX++aG++rest) (fun b=>X b\/b∈rest) B ax st tm w (eP (D::r) (l::O))/\Left J H X ax {st with sites:=aT st.sites (eP (D::r) (l::O))} av rest:=by
    intro o s bm nv an dr e uA gF eB;subst an;rw[e] at U ⊢;simp only[keys,List.nodup_cons] at U;have a_:=eF o s List.mem_cons_self;have dF:=ar.nodup;rw[List.append_assoc] at dF;have cN:fP J H (fun b=>X b\/b∈aX++aG++rest) (fun b=>X b\/b∈aG++rest) B (fun E=>if E=o then nv else B E) st tm w [(o,bm)]:=by
     refine .one S (fun b hb=>hb.imp id fun h=>by rw[List.append_assoc];exact List.mem_append.2 (.inr h)) (.inr ⟨?_,fun M L=>?_⟩) (fun b hb=>?_) (fun eA dR go le=>?_)
     ·rw[uA];exact hr.1.symm
     ·rw[a_] at L;cases L;exact⟨dr.symm,rfl⟩
     ·have hm:=gF b hb;have gZ:b∈aX++aG++rest:=by rw[List.append_assoc];exact List.mem_append.2 (.inl hm)
      refine⟨.inr gZ,?_,(ar.cc b gZ).2⟩;rintro(hx|hx)
      ·exact(ar.cc b gZ).1 hx
      ·exact(List.nodup_append.1 dF).2.2 b hm b hx rfl
     ·exact eB dR (fun b hb=>ar.le b (le b hb)) (fun b hb=>S.lt (le b hb))
    have kE:Left J H X (fun E=>if E=o then nv else B E) {st with sites:=aT st.sites [(o,bm)]} av (aG++rest):=
     ⟨(List.nodup_append.1 dF).2.1,fun b hb=>ar.cc b (by rw[List.append_assoc];exact List.mem_append.2 (.inr hb)),fun c hc=>ar.le c (cN.le c hc)⟩
    have pJ:hM (fun E=>if E=o then nv else B E) r vs:=hr.2.congr fun E t hm=>by
     by_cases e:E=o
     ·subst e;have:=hr.1;simp only[if_true,uA];exact this
     ·simp[e]
    obtain⟨ax,dB,oP⟩:=ih (st:={st with sites:=aT st.sites [(o,bm)]}) cN.gp h2 pJ (fun E t hm=>by
     have bz:¬o=E:=fun e=>(List.nodup_cons.1 fi).1 (by subst e;exact vm hm)
     simp only[aT,ck,bz,if_false];exact eF E t (List.mem_cons_of_mem _ hm)) (List.nodup_cons.1 fi).2 kE U.2
    exact⟨ax,cN.trans dB,oP⟩
   match D,hr with
   |none,hr=>exact pass hr Sj
   |some (o,s),hr=>
    cases l with
    |fresh t xs=>
     obtain⟨fQ,e,cs,an,c2⟩:=h1;refine back o s (.row s t xs) v rfl rfl rfl (hp an).1 (fun b hb=>by rw[fQ,sX an hb];simp) fun dR c3 ba=>⟨e,cs,by rw[dR];exact an,fun j g1 g2=>?_⟩
     exact b4.eY (B:=B) (sites:=[]) (a:=one _) c3 ba (c2.2 j g1 g2)
    |hW t xs=>
     obtain⟨e,cs,ap,fQ,an,c2⟩:=h1;refine back o s (.deep s t xs) (.tuple (v::ap).toArray) rfl rfl rfl rfl (fun b hb=>by rw[fQ];exact hb) fun dR c3 ba=>⟨e,v,ap,cs,dR,?_,an,c2.map (fun k=>b4.eY (B:=B) (sites:=[]) (a:=one _) c3 ba k) fun _ _ _ _=>rfl⟩
     rw[dR,<-fQ];have:=ar.nodup;rw[List.append_assoc] at this;exact(List.nodup_append.1 this).1
    |_=>exact pass hr.2 rfl
end
theorem vk{us:List (Nat×Site)}:∀{sites:List (Nat×Site)} {o:Nat} {s:Site},(keys us).Nodup->(o,s)∈us->look (aT sites us) o=some s:=by
 induction us with
 |nil=>intro sites o s _ h;simp at h
 |cons p us ih=>
  obtain⟨n,ag⟩:=p;intro sites o s hn hm;simp only[keys,List.nodup_cons] at hn;simp only[aT];rcases List.mem_cons.1 hm with hm|hm
  ·cases hm;rw[kH hn.1,ck];simp
  ·exact ih hn.2 hm
section plain
variable {w:World}{av bE:Nat->Prop}
theorem sL{d:aK}{v:Value}(h:aw.ho (.d d)=false)(r:Rd w av d v):Rd w bE d v:=by
 cases r with
 |int k n=>exact .int k n
 |bool b=>exact .bool b
 |str l s L=>exact .str l s L
 |nil t=>cases h
 |sl=>cases h
 |fn=>cases h
 |pq=>cases h
 |map=>cases h
 |maps=>cases h
 |pv T=>exact .pv T
 |err T n=>exact .err T n
theorem UL{t:aB}(h:t.ho=false)(x:den t):∀d,d∈enc t x->aw.ho (.d d)=false:=by
 cases t<;>first|(cases h;done)|(intro d U;simp only[enc,List.mem_cons,List.not_mem_nil,or_false] at U;(rcases U with rfl|rfl|rfl|rfl|rfl);all_goals rfl)|skip
 all_goals(intro d U;simp only[enc,List.mem_cons,List.not_mem_nil,or_false] at U)
 all_goals first|(subst U;rfl)|(rcases U with rfl|rfl<;>rfl)|(rcases U with rfl|rfl|rfl<;>rfl)|(rcases U with rfl|rfl|rfl|rfl<;>rfl)
theorem T6{t:aB}{xs:List (den t)}{cs:List Value}(h:t.ho=false)(r:ch w av (flat t xs) cs):ch w bE (flat t xs) cs:=by
 refine⟨r.1,fun j g1 g2=>sL ?_ (r.2 j g1 g2)⟩
 have hm:(flat t xs)[j]∈flat t xs:=List.getElem_mem g1;simp only[flat,List.mem_flatMap] at hm;obtain⟨x,_,hx⟩:=hm;exact UL h x _ hx
theorem S8{ds:List aK}{cs ap:List Value}(k:Deep w av ds cs ap):Deep w bE ds cs ap:=by
 have pl:∀{d:aK} {v:Value},d.plain=true->Rd w av d v->Rd w bE d v:=fun {d v} am r=>sL (by cases d<;>first|rfl|cases am) r
 induction k with
 |nil=>exact .nil
 |row u ys e O am h hr _ ih=>exact .row u ys e O am h ⟨hr.1,fun j g1 g2=>pl (am _ (List.getElem_mem g1)) (hr.2 j g1 g2)⟩ ih
 |leaf am h _ ih=>exact .leaf am (pl am h) ih
theorem Gm{l:aw}{v:Value}{bs:List Nat}(h:l.ho=false)(k:lz w av l v bs):lz w bE l v bs:=by
 cases l with
 |d x=>exact⟨k.1,sL h k.2⟩
 |fresh t xs=>
  obtain⟨h1,e,cs,h2,Y⟩:=k;exact⟨h1,e,cs,h2,T6 h Y⟩
 |hW t xs=>
  obtain⟨e,cs,ap,h1,h2,Y⟩:=k;exact⟨e,cs,ap,h1,h2,S8 Y⟩
 |cx v=>exact k
 |ez=>exact k
 |_=>cases h
theorem zO:∀{O:List aw} {vs:List Value} {bs:List Nat},m5 O=false->gj w av O vs bs->gj w bE O vs bs:=by
 intro O;induction O with
 |nil=>
  intro vs bs _ k;match vs,k with
  |[],k=>exact k
 |cons l O ih=>
  intro vs bs h k;simp only[m5,Bool.or_eq_false_iff] at h;match vs,k with
  |v::vs,⟨aX,aG,ay,ai,bn⟩=>exact⟨aX,aG,ay,Gm h.1 ai,ih h.2 bn⟩
theorem Ro:∀{as:List bt} {vs:List Value} {bs:List Nat},qe as=false->kT w av as vs bs->kT w bE as vs bs:=by
 intro as;induction as with
 |nil=>
  intro vs bs _ k;match vs,k with
  |[],k=>exact k
 |cons a as ih=>
  intro vs bs h k;simp only[qe,Bool.or_eq_false_iff] at h;match vs,k with
  |v::vs,⟨aX,aG,ay,ai,bn⟩=>
   refine⟨aX,aG,ay,?_,ih h.2 bn⟩;cases a with
   |ak l=>
    have h1:=h.1;simp only[bt.cells,m5,Bool.or_false] at h1;exact Gm h1 ai
   |agg O=>
    obtain⟨us,e,ai⟩:=ai;exact⟨us,e,zO h.1 ai⟩
theorem Rn:∀{cv:List (List aw)} {dk bs:List Nat},qd cv=false->lv w av dk cv bs->lv w bE dk cv bs:=by
 intro cv;induction cv with
 |nil=>
  intro dk bs _ k;match dk,k with
  |[],k=>exact k
 |cons a as ih=>
  intro dk bs h k;simp only[qd,Bool.or_eq_false_iff] at h;match dk,k with
  |b::dk,⟨aX,aG,ay,⟨T,cur,nQ,e1,e2,cf,eV,gx⟩,bn⟩=>
   exact⟨aX,aG,ay,⟨T,cur,nQ,e1,e2,cf,eV,zO h.1 gx⟩,ih h.2 bn⟩
theorem Ik{l:aw}{v:Value}{bs:List Nat}(k:lz w av l v bs):∀b,b∈bs->b<w.heap.size:=by
 cases l with
 |fresh t xs=>
  obtain⟨h1,e,cs,h2,Y⟩:=k;intro b hb;rw[h1] at hb;exact qk h2 (Option.mem_toList.1 hb)
 |hW t xs=>
  obtain⟨e,cs,ap,h1,h2,Y⟩:=k;intro b hb;rw[h1] at hb;rcases hj.1 hb with hb|⟨n,hn,hb⟩
  ·exact qk h2 hb
  ·exact Y.lt n hn b hb
 |_=>intro b hb;rw[k.1] at hb;simp at hb
theorem AZ:∀{O:List aw} {vs:List Value} {bs:List Nat},gj w av O vs bs->∀b,b∈bs->b<w.heap.size:=by
 intro O;induction O with
 |nil=>
  intro vs bs k;match vs,k with
  |[],k=>have k:bs=[]:=k;intro b hb;rw[k] at hb;simp at hb
 |cons l O ih=>
  intro vs bs k;match vs,k with
  |v::vs,⟨aX,aG,ay,ai,bn⟩=>
   intro b hb;rw[ay] at hb;rcases List.mem_append.1 hb with hb|hb
   ·exact Ik ai b hb
   ·exact ih bn b hb
theorem Hr:∀{as:List bt} {vs:List Value} {bs:List Nat},kT w av as vs bs->∀b,b∈bs->b<w.heap.size:=by
 intro as;induction as with
 |nil=>
  intro vs bs k;match vs,k with
  |[],k=>have k:bs=[]:=k;intro b hb;rw[k] at hb;simp at hb
 |cons a as ih=>
  intro vs bs k;match vs,k with
  |v::vs,⟨aX,aG,ay,ai,bn⟩=>
   intro b hb;rw[ay] at hb;rcases List.mem_append.1 hb with hb|hb
   ·cases a with
    |ak l=>exact Ik (show lz w av l v aX from ai) b hb
    |agg O=>obtain⟨us,e,ai⟩:=ai;exact AZ ai b hb
   ·exact ih bn b hb
theorem Hq:∀{cv:List (List aw)} {dk bs:List Nat},lv w av dk cv bs->∀b,b∈bs->b<w.heap.size:=by
 intro cv;induction cv with
 |nil=>
  intro dk bs k;match dk,k with
  |[],k=>have k:bs=[]:=k;intro b hb;rw[k] at hb;simp at hb
 |cons a as ih=>
  intro dk bs k;match dk,k with
  |c::dk,⟨aX,aG,ay,⟨T,cur,nQ,e1,e2,cf,_,eV⟩,bn⟩=>
   intro b hb;rw[ay] at hb;rcases List.mem_append.1 hb with hb|hb
   ·rw[e1] at hb;rcases List.mem_cons.1 hb with rfl|hb
    ·exact(Array.getElem?_eq_some_iff.1 e2).1
    ·exact AZ eV b hb
   ·exact ih bn b hb
end plain
section
variable {P:Program}{J:World}{H:List Nat}{X:Nat->Prop}{B:Nat->Value}{st:ab}{tm:Array Value}{w:World}{D:Oper}
theorem mX{ks:List Nat}{b:Nat}:b∈cn B ks <-> ∃o,o∈ks/\b∈bb (B o):=by simp[cn]
theorem F_(S:ad J H X B st tm w):∀{ks:List Nat},ks.Nodup->(∀o,o∈ks->bL st.sites o)->(cn B ks).Nodup:=by
 intro ks;induction ks with
 |nil=>intro _ _;exact List.nodup_nil
 |cons o ks ih=>
  intro hn hl;rw[List.nodup_cons] at hn;have:=ih hn.2 fun E bg=>hl E (List.mem_cons_of_mem _ bg)
  simp only[cn,List.flatMap_cons] at this ⊢;refine List.nodup_append.2 ⟨S.JM (hl o List.mem_cons_self),this,fun b hb c hc e=>?_⟩
  subst e;obtain⟨E,h1,h2⟩:=mX.1 hc;have:=S.df o E b (hl o List.mem_cons_self) (hl E (List.mem_cons_of_mem _ h1)) hb h2;subst this;exact hn.1 h1
structure aaK(J:World)(H:List Nat)(X:Nat->Prop)(B:Nat->Value)(st:ab)(tm:Array Value)(w:World)(a:jU)(vs:List Value):Prop where
 br:dv st.sites a.ew
 oO:∀o,o∈a.fJ->bL st.sites o
 mW:eR st.sites a.gone
 arg:∀av,eX J H X B st tm w a.ew a.fJ av->ii w av a.as vs (cn B (keys a.gone))
 dk:dQ a.as vs=cn B (keys a.boxes)
 dP:∀o s,(o,s)∈a.boxes->(o,.dead s)∈a.gone/\∃b,B o=.pointer (some ⟨b,0,none⟩)
 l4:hM B a.rows (eW a.as vs)
 rg:∀o s,some (o,s)∈a.rows->(o,.dead s)∈a.gone
theorem Gq{us:List (Nat×Site)}{sites:List (Nat×Site)}(aY:dv sites us){o:Nat}(h:bL (aT sites us) o):bL sites o:=by
 obtain⟨M,h1,h2⟩:=h;rcases ll aY o with h|⟨s,t,xs,aP,bq⟩
 ·exact⟨M,h▸h1,h2⟩
 ·rw[bq] at h1;cases h1;cases h2
theorem Wp(S:ad J H X B st tm w){g:FuncId}{aN:bp}(hd:bu P g aN){a:jU}{vs:List Value}(A:aaK J H X B st tm w a vs){d:Nat}(U:b2 st D.dst=true)
  (cz:(execOp (Act.eval ⟨tm,[]⟩) D).run P w=(callFunc g vs.toArray).run P w):Holds (oh d st aN a) (cr P J H X st tm w D):=by
 intro y aq hc;simp only[oh] at y aq hc ⊢;simp only[Bool.and_eq_true] at hc;obtain⟨⟨⟨⟨⟨bI,bB⟩,cC⟩,fp⟩,jD⟩,c6,Qc⟩:=hc;rw[nZ] at bI cC c6;rw[HA] at bB fp Qc;have qh:∀o,o∈keys a.gone->bL st.sites o:=fun o a_=>by
  obtain⟨s,L⟩:=n1 a_;obtain⟨M,h1,h2,_⟩:=A.mW o s L;exact⟨M,h1,h2⟩
 have Hn:∀o,o∈keys a.gone->o∉keys a.ew:=fun o h1 h2=>bB o (List.mem_append.2 (.inl h2)) h1
 have afl:∃X':Nat->Prop,∀b,X' b <-> (al X B (aT st.sites a.ew) b/\b∉cn B (keys a.gone)/\∀o,o∈a.fJ->b∉bb (B o)):=⟨_,fun b=>Iff.rfl⟩
 obtain⟨X',mL⟩:=afl;have dj:eX J H X B st tm w a.ew a.fJ (fun b=>X' b\/b∈cn B (keys a.gone)):=by
  refine⟨⟨S,A.br⟩,fun b hb=>?_,fun o a_ b hb hx=>?_⟩
  ·rcases hb with hb|hb
   ·exact((mL b).1 hb).1
   ·obtain⟨o,h1,h2⟩:=mX.1 hb;obtain⟨M,Y,aP⟩:=qh o h1;exact .inr ⟨o,⟨M,by rw[kH (Hn o h1)];exact Y,aP⟩,h2⟩
  ·rcases hx with hx|hx
   ·exact((mL b).1 hx).2.2 o a_ (fI hb)
   ·obtain⟨E,h1,h2⟩:=mX.1 hx;have:=S.df o E b (A.oO o a_) (qh E h1) (fI hb) h2;subst this;exact bB o (List.mem_append.2 (.inr a_)) h1
 have oF:(cn B (keys a.gone)).Nodup:=F_ S bI qh;have A0:∀b,b∈cn B (keys a.gone)->¬X b/\(b∈H\/J.heap.size<=b):=fun b hb=>by
  obtain⟨o,h1,h2⟩:=mX.1 hb;exact S.cc o b (qh o h1) h2
 have OY:∀b,X b->X' b:=fun b hb=>(mL b).2 ⟨.inl hb,fun h=>(A0 b h).1 hb,fun o a_ h=>(S.cc o b (A.oO o a_) h).1 hb⟩
 have ja:ir w (cn B (keys a.gone)) X':=by
  obtain⟨g1,g2⟩:=S.j6;refine⟨g1,fun b hb h=>?_,fun b hb h=>?_,fun b hb=>(g2 b hb).2⟩
  ·obtain⟨o,h1,h2⟩:=mX.1 h;exact(g2 b hb).1 (.inr ⟨o,qh o h1,h2⟩)
  ·rcases((mL b).1 h).1 with h|⟨o,h1,h2⟩
   ·exact(g2 b hb).1 (.inl h)
   ·exact(g2 b hb).1 (.inr ⟨o,Gq A.br h1,h2⟩)
 have d':=hd a.as y aq w X' vs (cn B (keys a.gone)) (A.arg _ dj) oF (fun b hb hx=>((mL b).1 hx).2.1 hb) (fun b hb=>dj.lt (.inl hb)) ja
 intro K Q bA;have core:∀v w',(∃eK dZ rv,Fr (cn B (keys a.gone)) w w'/\o_ w' (fun b=>X' b\/b∈eK++dZ) (dQ a.as vs) ((aN a.as).dP y) (eW a.as vs) ((aN a.as).eC y) eK/\kT w' (fun b=>X' b\/b∈eK++dZ) ((aN a.as).eT y) rv dZ/\
   v=n7 rv/\(eK++dZ).Nodup/\∀b,b∈eK++dZ->¬X' b/\(b∈cn B (keys a.gone)\/w.heap.size<=b))->K ⟨da tm D.dst v,[]⟩ w':=by
  rintro v w' ⟨eK,dZ,rv,aY,e8,ib,rfl,dF,hm⟩;obtain⟨sl,fA⟩:∃sl,(qe ((aN a.as).eT y)||qd ((aN a.as).dP y)||m5 ((aN a.as).eC y))=sl:=⟨_,rfl⟩;rw[fA] at jD bA;obtain⟨cR,zj⟩:∃cR,(bif sl then a.ew else [])=cR:=⟨_,rfl⟩
  rw[zj] at bA;have Mm:dv st.sites cR:=by rw[<-zj];cases sl;exact .nil;exact A.br
  have Zx:∀o,o∈keys cR->o∈keys a.ew:=by rw[<-zj];cases sl;intro o h;simp[keys] at h;exact fun o h=>h
  have cY:ad J H X B {st with sites:=aT st.sites cR} tm w:=S.xg Mm
  have zl:eR (aT st.sites cR) a.gone:=fun o s L=>by
   obtain⟨M,h1,h2,Y⟩:=A.mW o s L;exact⟨M,by rw[kH (fun h=>Hn o (AP L) (Zx o h))];exact h1,h2,Y⟩
  have gd:=cY.Zw zl bI;have iH:=gd.jump (w':=w') (fun b hb ba=>aY.block b ba (fun h=>hb (.inr h))) aY.size
   ⟨aY.os.trans S.frame.os,aY.tape.trans S.frame.tape,aY.output.trans S.frame.output,Nat.le_trans S.frame.size aY.size,fun b ba hb=>by
    rw[aY.block b (Nat.lt_of_lt_of_le ba S.frame.size) (fun h=>by rcases(A0 b h).2 with ae|ae;exact hb ae;omega)]
    exact S.frame.block b ba hb⟩
  have aco:∀b,b∈eK++dZ->b<w'.heap.size:=fun b hb=>by
   rcases List.mem_append.1 hb with hb|hb
   ·obtain⟨d1,d2,e1,e2,cf⟩:=e8;rw[e1] at hb;rcases List.mem_append.1 hb with hb|hb
    ·exact Hq e2 b hb
    ·rcases cf with⟨_,cf⟩|cf
     ·rw[cf] at hb;simp at hb
     ·exact AZ cf b hb
   ·exact Hr ib b hb
  have jd:ad J H (fun b=>X b\/b∈eK++(dZ++[])) B {st with sites:=aT (aT st.sites cR) a.gone} tm w':=iH.shrink fun b hb=>by
   rcases hb with hb|hb
   ·exact .inl (.inl hb)
   ·rw[List.append_nil] at hb;rcases(hm b hb).2 with h|h
    ·exact .inl (.inr h)
    ·exact .inr ⟨h,aco b hb⟩
  obtain⟨av,Mj,aax,aaw⟩:∃av:Nat->Prop,o_ w' av (dQ a.as vs) ((aN a.as).dP y) (eW a.as vs) ((aN a.as).eC y) eK/\kT w' av ((aN a.as).eT y) rv dZ/\
    ∀c,al (fun b=>X b\/b∈eK++(dZ++[])) B (aT (aT st.sites cR) a.gone) c->av c:=by
   cases sl with
   |false=>
    rw[Bool.or_eq_false_iff,Bool.or_eq_false_iff] at fA;obtain⟨d1,d2,e1,e2,cf⟩:=e8;exact⟨_,⟨d1,d2,e1,Rn fA.1.2 e2,cf.imp id (zO fA.2)⟩,Ro fA.1.1 ib,fun c hc=>hc⟩
   |true=>
    refine⟨_,e8,ib,fun c hc=>?_⟩
    rcases hc with(hc|hc)|⟨o,⟨M,h1,h2⟩,Y⟩
    ·exact .inl (OY c hc)
    ·rw[List.append_nil] at hc;exact .inr hc
    ·refine .inl ((mL c).2 ?_);have a_:o∉keys a.gone:=fun h=>by
      obtain⟨s,L⟩:=n1 h;rw[vk bI L] at h1;obtain⟨_,_,_,e⟩:=A.mW o s L;cases h1;rw[e] at h2;cases h2
     rw[kH a_] at h1;have aaB:a.ew=cR:=zj;rw[<-aaB] at h1;have live:bL st.sites o:=Gq A.br ⟨M,h1,h2⟩;refine⟨.inr ⟨o,⟨M,h1,h2⟩,Y⟩,fun h=>?_,fun E bg h=>?_⟩
     ·obtain⟨E,ay,ai⟩:=mX.1 h;have:=S.df o E c live (qh E ay) Y ai;subst this;exact a_ ay
     ·simp only[Bool.not_true,Bool.false_or,List.isEmpty_iff] at jD;rw[jD] at bg;simp at bg
  have ar:Left J H X B {st with sites:=aT (aT st.sites cR) a.gone} av (eK++(dZ++[])):=by
   refine⟨by simpa using dF,fun b hb=>?_,aaw⟩
   rw[List.append_nil] at hb;obtain⟨h1,h2⟩:=hm b hb;refine⟨fun hx=>h1 (OY b hx),?_⟩
   rcases h2 with h2|h2
   ·exact(A0 b h2).2
   ·exact .inr (Nat.le_trans S.frame.size h2)
  have tw:∀ks,jl st (aT (aT st.sites cR) a.gone) ks:=fun ks m _ M L=>by
   have h1:∀M,look (aT st.sites cR) m=some M->M.bT<aR st m:=fun M L=>by
    rcases ll Mm m with h|⟨s,t,xs,aP,bq⟩
    ·rw[h] at L;exact iI L
    ·rw[bq] at L;cases L;rcases aP with aP|aP|aP<;>(have q:=iI aP;exact q)
   by_cases ah:m∈keys a.gone
   ·obtain⟨s,eA⟩:=n1 ah;rw[vk bI eA] at L;obtain⟨bm,e1,_,cf⟩:=zl m s eA;rw[cf] at L;cases L;exact h1 bm e1
   ·rw[kH ah] at L;exact h1 M L
  rw[gy,gy] at cC;obtain⟨d12,d2,d3⟩:=List.nodup_append.1 cC;obtain⟨d1,afr,d4⟩:=List.nodup_append.1 d12;rw[A.dk] at Mj;obtain⟨e1,e2,rfl,aav,DW⟩:=Mj;simp only[List.append_assoc] at jd ar;obtain⟨iV,l7,vg⟩:=HN st a.boxes (st:={st with sites:=aT (aT st.sites cR) a.gone}) jd (mO.of fun o s L=>(A.dP o s L).2) aav
   (fun o s L=>vk bI (A.dP o s L).1) ar (tw _) d1
  obtain⟨f',ad4,kE⟩:∃f',fP J H (fun b=>X b\/b∈e2++(dZ++[])) (fun b=>X b\/b∈dZ++[]) iV f' {st with sites:=aT (aT (aT st.sites cR) a.gone) (e_ st a.boxes ((aN a.as).dP y))} tm w' (eP a.rows ((aN a.as).eC y))/\
    Left J H X f' {st with sites:=aT (aT (aT (aT st.sites cR) a.gone) (e_ st a.boxes ((aN a.as).dP y))) (eP a.rows ((aN a.as).eC y))} av (dZ++[]):=by
   rcases DW with⟨q1,q2⟩|DW
   ·have e:eP a.rows ((aN a.as).eC y)=[]:=by rw[q1];exact GB
    subst q2;rw[e];exact⟨iV,.nil l7.gp fun b hb=>hb,vg⟩
   ·by_cases cF:eP a.rows ((aN a.as).eC y)=[]
    ·rw[cF];have T:fP J H (fun b=>X b\/b∈e2++(dZ++[])) (fun b=>X b\/b∈dZ++[]) iV iV {st with sites:=aT (aT (aT st.sites cR) a.gone) (e_ st a.boxes ((aN a.as).dP y))} tm w' []:=.nil l7.gp fun b hb=>hb.imp id fun h=>List.mem_append.2 (.inr h)
     exact⟨iV,T,vg.rest fun c hc=>T.le c hc⟩
    have PW:∀o s,some (o,s)∈a.rows->o∉keys (e_ st a.boxes ((aN a.as).dP y)):=fun o s hm ah=>Qc o (vm hm) ah
    exact Vc a.rows l7.gp DW (A.l4.congr fun o s hm=>by rw[l7.same o (PW o s hm)]) (fun o s hm=>by
     rw[kH (PW o s hm)];exact vk bI (A.rg o s hm)) c6 vg afr
  have cN:=l7.trans ad4;obtain⟨f_,dB,ko,_⟩:=HO st ((aN a.as).eT y) (2000000+d*10000) (st:={st with sites:=aT (aT (aT st.sites cR) a.gone) (e_ st a.boxes ((aN a.as).dP y)++eP a.rows ((aN a.as).eC y))}) cN.gp aax (by rw[ie];exact kE)
   (jl.step (tw _) (fun n h1 h2=>d3 n (by rw[gy] at h1;exact h1) n h2 rfl)) d2
  have afA:ad J H X f_ {st with sites:=aT st.sites (cR++a.gone++(e_ st a.boxes ((aN a.as).dP y)++eP a.rows ((aN a.as).eC y))++(dM st (2000000+d*10000) ((aN a.as).eT y)).2)} tm w':=by
   have:=dB.gp.shrink (X':=X) fun b hb=>.inl hb
   simpa only[ie] using this
  refine bA f_ _ w' (ad.cK afA U (v:=Kl (dM st (2000000+d*10000) ((aN a.as).eT y)).1) ?_);have KH:nm f_ (aT st.sites (cR++a.gone++(e_ st a.boxes ((aN a.as).dP y)++eP a.rows ((aN a.as).eC y))++(dM st (2000000+d*10000) ((aN a.as).eT y)).2)) w'
    (al X f_ (aT st.sites (cR++a.gone++(e_ st a.boxes ((aN a.as).dP y)++eP a.rows ((aN a.as).eC y))++(dM st (2000000+d*10000) ((aN a.as).eT y)).2))) (dM st (2000000+d*10000) ((aN a.as).eT y)).1 rv:=by
   have e:(fun b=>X b\/b∈([]:List Nat))=X:=by funext b;simp
   rw[e] at ko;simpa only[ie] using ko
  generalize(dM st (2000000+d*10000) ((aN a.as).eT y)).1=acq at KH;match acq,rv,KH with
  |[],[],h=>exact⟨[],rfl,rfl,fun j h=>by simp at h⟩
  |[l],[v],h=>exact h.2 0 (by simp) (by simp)
  |l::en::O,v::v2::ct,h=>exact⟨v::v2::ct,rfl,h.1,h.2⟩
 rcases d' with⟨h1,h2⟩|⟨v,w',h1,h2⟩
 ·unfold Oper.wp;rw[cz,h1,Oper.upon_enter];refine h2.mono fun e w' he=>?_
  cases e with
  |returned v=>
   have:=core v w' he;cases c9:D.dst with
   |none=>rw[c9] at this;simpa[Act.put,da] using this
   |some t=>rw[c9] at this;simpa[Act.put,da] using this
  |panicked c=>exact he.elim
  |outgrown=>exact he.elim
 ·exact nc (cz.trans h1) (core v w' h2)
end
def C7(P:Program)(g:FuncId):Prop:=
 ∀(b:Nat) (p v:Value) (w:World),w.heap[b]? =some (.cells #[p,v] pQ (0,0))->(p=.pointer none\/p=.pointer (some ⟨b,0,none⟩))->
  Enters P g #[.pointer (some ⟨b,0,none⟩)] w fun r w'=>r=.tuple #[]/\w'=w.setRow b #[.pointer (some ⟨b,0,none⟩),v]
def Dn(P:Program)(g:FuncId):Prop:=
 ∀(b:Nat) (p v:Value) (T:TypeId) (xs:List Int) (w:World),w.heap[b]? =some (.cells #[p,v] T (0,0))->rowAt w true ld 1 v xs.length (xs.map (Value.int .u8))->
  Enters P g #[.pointer (some ⟨b,0,none⟩)] w fun r w'=>r=.string ⟨(strOf xs).toArray⟩/\w'.os=w.os/\w'.tape=w.tape/\w'.output=w.output/\w.heap.size<=w'.heap.size/\
   (∀c,c<w.heap.size->aZ v≠some c->w'.heap[c]? =w.heap[c]?)/\∀c cur e br,aZ v=some c->w.heap[c]? =some (.cells cur e br)->∃sc,w'.heap[c]? =some (.cells cur e sc)
section
variable {P:Program}{J:World}{H:List Nat}{X:Nat->Prop}{B:Nat->Value}{st:ab}{tm:Array Value}{w:World}{D:Oper}
theorem ad.Wc(S:ad J H X B st tm w){o s:Nat}{t:aB}{xs:List (den t)}(hl:look st.sites o=some (.row s t xs)){w':World}(h1:w'.os=w.os)(h2:w'.tape=w.tape)(Y:w'.output=w.output)(aP:w.heap.size<=w'.heap.size)
  (bq:∀c,c<w.heap.size->aZ (B o)≠some c->w'.heap[c]? =w.heap[c]?) (eu:∀c cur e br,aZ (B o)=some c->w.heap[c]? =some (.cells cur e br)->∃sc,w'.heap[c]? =some (.cells cur e sc)):
  ad J H X B {st with sites:=b5 st.sites o (.c0 s t xs)} tm w':=by
 have cP:bL st.sites o:=⟨_,hl,rfl⟩;have dz:∀E,bL (b5 st.sites o (.c0 s t xs)) E->bL st.sites E/\E≠o:=by
  rintro E ⟨M,h1,h2⟩;rw[ck] at h1;by_cases e:o=E
  ·subst e;simp at h1;subst h1;cases h2
  ·simp only[e,if_false] at h1;exact⟨⟨M,h1,h2⟩,fun h=>e h.symm⟩
 have bV:∀a8,al X B (b5 st.sites o (.c0 s t xs)) a8->al X B st.sites a8:=by
  rintro a8 (h|⟨E,h1,h2⟩)
  ·exact .inl h
  ·exact .inr ⟨E,(dz E h1).1,h2⟩
 have aY:=S.frame;refine S.nn (fun E M bg=>?_) (fun a8 h hb=>bq a8 hb (fun ae=>h (.inr ⟨o,cP,fI ae⟩))) (fun a8 h _ ae=>h (bV a8 ae)) (fun go E M bg=>?_) (fun E aE a8 h1 h2=>S.df E aE a8 (dz E h1).1 (dz aE h2).1)
  (fun E a8 h=>S.cc E a8 (dz E h).1) (fun E a8 h hb=>Nat.lt_of_lt_of_le (S.dL (dz E h).1 hb) aP)
  ⟨h1.trans aY.os,h2.trans aY.tape,Y.trans aY.output,Nat.le_trans aY.size aP,fun b hb hn=>by
   have L:=aY.size;rw[bq b (by omega) (fun ae=>by
    rcases(S.cc o b cP (fI ae)).2 with ae|ae
    ·exact hn ae
    ·omega)]
   exact aY.block b hb hn⟩ aP
 ·rw[ck];by_cases e:o=E
  ·subst e;rw[hl] at bg;cases bg;exact⟨.c0 s t xs,by simp,Nat.le_refl _,fun _=>rfl⟩
  ·exact⟨M,by simp[e,bg],Nat.le_refl _,fun _=>rfl⟩
 ·rw[ck] at bg;by_cases e:o=E
  ·subst e;simp only[if_true,Option.some.injEq] at bg;subst bg;refine .inr ?_
   show Rd _ _ (.sl t xs) (bD (B o))/\ua (bD (B o));obtain⟨bz,cs,ay,ai⟩:=S.sites o _ hl;rw[(hp ay).1];rcases ay.2 with⟨hn,aQ⟩|⟨g,cap,cur,br,Z,_,aJ,gq,_,_,gE⟩
   ·have:xs=[]:=List.eq_nil_of_length_eq_zero aQ;subst this;rw[hn];exact⟨.nil t,.inl rfl⟩
   ·obtain⟨sc,kv⟩:=eu g cur bz br (by rw[Z];rfl) aJ
    rw[Z];refine⟨?_,.inr ⟨_,_,_,rfl⟩⟩;have hlen:cs.length=(flat t xs).length:=by rw[dD];exact ay.1
    refine .sl t xs _ cap cs xs.length rfl gq (fun _=>?_) hlen (fun j u hu=>?_) (fun j g1 g2=>hB go (ai j g1 g2))
    ·rintro(hx|⟨E,g1,g2⟩)
     ·exact(S.cc o g cP (fI (by rw[Z];rfl))).1 hx
     ·obtain⟨g3,g4⟩:=dz E g1;exact g4 (S.df E o g g3 cP g2 (fI (by rw[Z];rfl)))
    ·rw[gg,Nat.zero_add,cell_of_row w' g j cur bz sc kv];rw[<-gE,List.getElem?_take] at hu;split at hu
     ·simpa using hu
     ·cases hu
  ·simp only[e,if_false] at bg;refine .inl ⟨bg,rfl,fun rC b hb=>bq b (S.dL ⟨_,bg,rC⟩ hb) fun h=>e (S.df o E b cP ⟨_,bg,rC⟩ (fI h) hb)⟩
theorem vN{g:FuncId}{vs:List Value}{post:Value->World->Prop}(cz:(execOp (Act.eval ⟨tm,[]⟩) D).run P w=(callFunc g vs.toArray).run P w)(hd:Enters P g vs.toArray w post){K:Act->World->Prop}{Q:Exit->Act->World->Prop}
  (core:∀v w',post v w'->K ⟨da tm D.dst v,[]⟩ w'):D.wp P ⟨tm,[]⟩ w K Q:=by
 rcases hd with⟨h1,h2⟩|⟨v,w',h1,h2⟩
 ·unfold Oper.wp;rw[cz,h1,Oper.upon_enter];refine h2.mono fun e w' he=>?_
  cases e with
  |returned v=>
   have:=core v w' he;cases c9:D.dst with
   |none=>rw[c9] at this;simpa[Act.put,da] using this
   |some t=>rw[c9] at this;simpa[Act.put,da] using this
  |panicked c=>exact he.elim
  |outgrown=>exact he.elim
 ·exact nc (cz.trans h1) (core v w' h2)
theorem Wm(S:ad J H X B st tm w){g:FuncId}(hd:C7 P g){cA:List aF}{vs:List Value}(hl:cA.length=vs.length)
  (Z:∀i (h:i<cA.length) (ae:i<vs.length),b4 B st.sites w (al X B st.sites) (cA[i]) (vs[i])) (U:b2 st D.dst=true) (cz:(execOp (Act.eval ⟨tm,[]⟩) D).run P w=(callFunc g vs.toArray).run P w):
  Holds (copyV st cA) (cr P J H X st tm w D):=by
 unfold copyV;split
 ·rename_i o s;split
  ·rename_i ag l e';have e':look st.sites o=some (.box ag [.ez,l]):=e';cases iY:ag.beq s with
   |false=>exact .fail
   |true=>
    have:=Nat.eq_of_beq_eq_true iY;subst this;refine Holds.eU ?_
    intro K Q bA;match vs,hl,Z,cz with
    |[pX],_,Z,cz=>
    obtain⟨p4,adu,jZ⟩:dl B st.sites w (al X B st.sites) (.ptr o ag 0) pX:=Z 0 (by simp) (by simp)
    have jZ:=Ref.at jZ e' rfl;obtain⟨b,T,cur,e1,e2,cf,eV,gx,so⟩:=S.sites o _ e';rw[e1] at jZ;have jZ:b=p4:=by cases jZ;rfl
    subst jZ;subst adu;match cur,e2,cf,eV,gx,so with
    |[p,v],e2,_,eV,gx,so=>
     obtain⟨rfl,am⟩:=gx rfl;have am:p=.pointer none\/p=.pointer (some ⟨b,0,none⟩):=by simpa using am
     refine vN cz (hd b p v w e2 am) ?_
     rintro r w' ⟨rfl,rfl⟩;have bO:ad J H X B {st with sites:=b5 st.sites o (.box ag [.ez,l])} tm (w.setRow b #[.pointer (some ⟨b,0,none⟩),v]):=by
      refine S.write e' rfl rfl rfl (fI (by rw[e1];rfl)) e2 (fun L hw kv go=>⟨b,pQ,[.pointer (some ⟨b,0,none⟩),v],e1,kv,rfl,fun u hu=>?_,fun _=>⟨rfl,.inr rfl⟩,fun j h ae=>?_⟩)
      ·rcases List.mem_cons.1 hu with rfl|hu
       ·rfl
       ·exact eV u (List.mem_cons_of_mem _ hu)
      ·match j,h,ae with
       |0,_,_=>trivial
       |1,_,_=>exact go (a:=bQ l) (so 1 (by simp) (by simp))
     exact bA _ _ _ (ad.cK (us:=[(o,.box ag [.ez,l])]) bO U (v:=.iX []) ⟨[],rfl,rfl,fun j h=>by simp at h⟩)
  ·exact .fail
 ·exact .fail
theorem Va{av:Nat->Prop}{xs:List Int}{cs:List Value}(aQ:cs.length=xs.length)(h:∀j (h:j<(flat .u8 (xs:List (den .u8))).length) (ae:j<cs.length),Rd w av ((flat .u8 (xs:List (den .u8)))[j]) (cs[j])):cs=xs.map (Value.int .u8):=by
 refine List.ext_getElem (by rw[List.length_map];exact aQ) fun j g1 g2=>?_
 have OS:j<xs.length:=by simpa using g2
 have:=h j (by rw[dD];simpa[au] using OS) g1
 rw[List.getElem_map];generalize U:(flat .u8 (xs:List (den .u8)))[j]'(by rw[dD];simpa[au] using OS)=d at this
 have mJ:d=.int .u8 xs[j]:=by
  rw[<-U];simp only[qy,List.getElem_map]
 subst mJ;generalize cs[j]=v at this;cases this;rfl
theorem Sl(S:ad J H X B st tm w){g:FuncId}(hd:Dn P g){cA:List aF}{vs:List Value}(hl:cA.length=vs.length)
  (Z:∀i (h:i<cA.length) (ae:i<vs.length),b4 B st.sites w (al X B st.sites) (cA[i]) (vs[i])) (U:b2 st D.dst=true) (cz:(execOp (Act.eval ⟨tm,[]⟩) D).run P w=(callFunc g vs.toArray).run P w):
  Holds (qt st cA) (cr P J H X st tm w D):=by
 unfold qt;split
 ·rename_i o s;match vs,hl,Z,cz with
  |[pX],_,Z,cz=>
  have k9:dl B st.sites w (al X B st.sites) (.ptr o s 0) pX:=Z 0 (by simp) (by simp)
  split
  ·rename_i P2 lF;have e':=gK lF;obtain⟨b,T,cur,bw,rfl,aJ,_,hc⟩:=S.box e' k9;refine Holds.ok ?_
   intro K Q bA;obtain⟨p,dO,rfl,_,hc⟩:=hc.inv;obtain⟨v,de,rfl,uu,hc⟩:=hc.inv;have:de=[]:=List.eq_nil_of_length_eq_zero hc.1;subst this;have uu:v=.slice none 0 0:=uu;subst uu;refine vN cz (hd b p _ T [] w aJ (oT w true ld 1)) ?_
   rintro r w' ⟨rfl,ay,ai,bn,cu,et,hO⟩;have cY:=S.jump (w':=w') (fun c _ hc=>et c hc (by simp[aZ])) cu ⟨ay.trans S.frame.os,ai.trans S.frame.tape,bn.trans S.frame.output,Nat.le_trans S.frame.size cu,fun c hc hn=>by
    rw[et c (Nat.lt_of_lt_of_le hc S.frame.size) (by simp[aZ])]
    exact S.frame.block c hc hn⟩
   have gd:ad J H X B {st with sites:=aT st.sites []} tm w':=cY.shrink fun b hb=>.inl hb
   exact bA _ _ _ (ad.cK (us:=[]) gd U (v:=one (.str [])) (Rd.str _ _ rfl))
  ·rename_i P2 E u lF;have e':=gK lF;obtain⟨b,T,cur,bw,rfl,aJ,_,hc⟩:=S.box e' k9;split
   ·rename_i bW xs cW;have cW:look st.sites E=some (.row bW .u8 xs):=cW;cases acN:bW.beq u with
    |false=>exact .fail
    |true=>
     have:=Nat.eq_of_beq_eq_true acN;subst this;refine Holds.eU ?_
     intro K Q bA;obtain⟨p,dO,rfl,_,hc⟩:=hc.inv;obtain⟨v,de,rfl,uu,hc⟩:=hc.inv;have:de=[]:=List.eq_nil_of_length_eq_zero hc.1;subst this;obtain⟨e,cs,h1,h2⟩:=S.sites E _ cW;have L9:v=B E:=(Ref.at uu.2 cW rfl:v=bD (B E)).trans (hp h1).1;have hlen:cs.length=xs.length:=by have:=h1.1;simpa[au] using this
     have dW:cs=List.map (Value.int .u8) xs:=Va hlen h2;have gT:rowAt w true ld 1 v xs.length (List.map (Value.int .u8) xs):=by
      rw[<-dW,L9];refine⟨h1.1,?_⟩;rcases h1.2 with h|⟨cw,cap,rI,br,q1,q2,db⟩
      ·exact .inl h
      ·have:=q2.1 rfl;subst this;exact .inr ⟨cw,cap,rI,br,q1,q2,db⟩
     refine vN cz (hd b p v T xs w aJ gT) ?_
     rintro r w' ⟨rfl,ay,ai,bn,cu,et,hO⟩;rw[L9] at et hO;have gd:=S.Wc cW ay ai bn cu et hO;exact bA _ _ _ (ad.cK (us:=[(E,.c0 bW .u8 xs)]) gd U (v:=one (.str (strOf xs))) (Rd.str _ _ (by simp)))
   ·exact .fail
  ·exact .fail
 ·exact .fail
end
def xl(P:Program)(g cw:FuncId):Prop:=
 ∀(a b:ByteArray) (w:World),Enters P g #[.string a,.string b] w fun v w'=>∃cN dB,v=.func (.func cw) #[] #[.pointer (some ⟨w.heap.size+1,0,none⟩),.pointer (some ⟨w.heap.size,0,none⟩),.pointer (some ⟨w.heap.size+2,0,none⟩)]/\
  w'=((w.alloc (.cells #[.string a] cN)).alloc (.cells #[.string b] cN)).alloc (.cells #[.int .i64 0] dB)
def x_(P:Program)(g:FuncId):Prop:=
 ∀(xs:List Int) (v:Value) (w:World) (av:Nat->Prop),Rd w av (.sl .u8 xs) v->Enters P g #[v] w fun v' w'=>∃u T,Rd w av (.sl .u8 (xs.take 2000)) u/\v'=.pointer (some ⟨w.heap.size,0,none⟩)/\w'=w.alloc (.cells #[u,.int .i64 0] T)
structure bG(P:Program)(C:Ctx):Prop extends CtxOk P C where
 bJ:∀g S,C.bJ g=some S->bu P g S
 zw:P.follows .mixedOrders=true
 kx:∀g cw,C.kx g=some cw->xl P g cw
 op:∀g,C.op g=true->x_ P g
 hQ:∀g,C.hQ g=true->C7 P g
 bs:∀g,C.bs g=true->Dn P g
section
variable {P:Program}{J:World}{H:List Nat}{X:Nat->Prop}{B:Nat->Value}{st:ab}{tm:Array Value}{w:World}{D:Oper}
theorem HD:∀{bv:List (Nat×Nat)} {cs:List (List aK)} {us:List (Nat×Site)} {bs:List Nat},kS st bv=some (cs,us,bs)->dv st.sites us/\∀o,o∈bs->bL st.sites o:=by
 intro bv;induction bv with
 |nil=>intro cs us bs h;simp only[kS] at h;cases h;exact⟨.nil,fun o h=>by simp at h⟩
 |cons c bv ih=>
  obtain⟨o,s⟩:=c;intro cs us bs h;simp only[kS] at h;split at h
  ·rename_i cells lF;split at h
   ·rename_i ds u1 rest u2 aG ek kW;cases h;obtain⟨ay,ai⟩:=ih kW;refine⟨(Cg ek).append ay,fun E bg=>?_⟩
    rcases List.mem_cons.1 bg with rfl|bg
    ·exact⟨_,gK lF,rfl⟩
    ·exact ai E bg
   ·cases h
  ·cases h
theorem BN{l fl:aw}{us:List (Nat×Site)}{bs:List Nat}(h:ms st l=some (fl,us,bs)):dv st.sites us/\∀o,o∈bs->bL st.sites o:=by
 unfold ms at h;split at h
 ·cases h;exact⟨.nil,fun o h=>by simp at h⟩
 ·split at h
  ·rename_i hc;cases h;exact HD hc
  ·cases h
 ·split at h
  ·rename_i U;cases h;exact⟨J5 U,fun o h=>by simp at h⟩
  ·cases h
theorem V6:∀{O dq:List aw} {us:List (Nat×Site)} {bs:List Nat},lw st O=some (dq,us,bs)->dv st.sites us/\∀o,o∈bs->bL st.sites o:=by
 intro O;induction O with
 |nil=>intro dq us bs h;simp only[lw] at h;cases h;exact⟨.nil,fun o h=>by simp at h⟩
 |cons l O ih=>
  intro dq us bs h;simp only[lw] at h;split at h
  ·rename_i a u1 aX as u2 aG h1 h2;cases h;obtain⟨ay,ai⟩:=BN h1;obtain⟨bn,cu⟩:=ih h2;refine⟨ay.append bn,fun o a_=>?_⟩
   rcases List.mem_append.1 a_ with h|h
   ·exact ai o h
   ·exact cu o h
  ·cases h
theorem Un:∀{cA:List aF} {a:jU},iL st cA=some a->dv st.sites a.ew/\∀o,o∈a.fJ->bL st.sites o:=by
 intro cA;induction cA with
 |nil=>intro a h;simp only[iL] at h;cases h;exact⟨.nil,fun o h=>by simp at h⟩
 |cons pY cA ih=>
  intro a h;unfold iL at h;split at h
  ·cases ‹pY::cA=[]›
  ·rename_i bS;cases bS;split at h
   ·rename_i hr;split at h
    ·cases h;have q:=ih hr;exact q
    ·cases h
   ·cases h
  ·rename_i bS;cases bS;split at h
   ·rename_i h1 hr;cases h;obtain⟨ay,ai⟩:=BN h1;obtain⟨bn,cu⟩:=ih hr;refine⟨ay.append bn,fun o a_=>?_⟩
    rcases List.mem_append.1 a_ with h|h
    ·exact ai o h
    ·exact cu o h
   ·cases h
  ·rename_i bS;cases bS;split at h
   ·rename_i h1 hr;cases h;obtain⟨ay,ai⟩:=V6 h1;obtain⟨bn,cu⟩:=ih hr;refine⟨ay.append bn,fun o a_=>?_⟩
    rcases List.mem_append.1 a_ with h|h
    ·exact ai o h
    ·exact cu o h
   ·cases h
  ·cases h
theorem Hu{l fl:aw}{gs us:List (Nat×Site)}{bs:List Nat}(h:lr st l=some (fl,gs,us,bs)):dv st.sites us/\∀o,o∈bs->bL st.sites o:=by
 unfold lr at h;split at h
 ·split at h
  ·cases h;exact⟨.nil,fun o h=>by simp at h⟩
  ·cases h
 ·cases h;exact⟨.nil,fun o h=>by simp at h⟩
 ·split at h
  ·rename_i hl;cases h;exact BN hl
  ·cases h
theorem SZ:∀{O dq:List aw} {gs us:List (Nat×Site)} {bs:List Nat},lp st O=some (dq,gs,us,bs)->dv st.sites us/\∀o,o∈bs->bL st.sites o:=by
 intro O;induction O with
 |nil=>intro dq gs us bs h;simp only[lp] at h;cases h;exact⟨.nil,fun o h=>by simp at h⟩
 |cons l O ih=>
  intro dq gs us bs h;simp only[lp] at h;split at h
  ·rename_i h1 h2;cases h;obtain⟨ay,ai⟩:=Hu h1;obtain⟨bn,cu⟩:=ih h2;refine⟨ay.append bn,fun o a_=>?_⟩
   rcases List.mem_append.1 a_ with h|h
   ·exact ai o h
   ·exact cu o h
  ·cases h
theorem SM:∀{cA:List aF} {a:jU},j' st cA=some a->dv st.sites a.ew/\∀o,o∈a.fJ->bL st.sites o:=by
 intro cA;induction cA with
 |nil=>intro a h;simp only[j'] at h;cases h;exact⟨.nil,fun o h=>by simp at h⟩
 |cons pY cA ih=>
  intro a h;unfold j' at h;split at h
  ·cases ‹pY::cA=[]›
  ·rename_i bS;cases bS;split at h
   ·rename_i h1 hr;cases h;obtain⟨ay,ai⟩:=Hu h1;obtain⟨bn,cu⟩:=ih hr;refine⟨ay.append bn,fun o a_=>?_⟩
    rcases List.mem_append.1 a_ with h|h
    ·exact ai o h
    ·exact cu o h
   ·cases h
  ·rename_i bS;cases bS;split at h
   ·rename_i h1 hr;cases h;obtain⟨ay,ai⟩:=SZ h1;obtain⟨bn,cu⟩:=ih hr;refine⟨ay.append bn,fun o a_=>?_⟩
    rcases List.mem_append.1 a_ with h|h
    ·exact ai o h
    ·exact cu o h
   ·cases h
  ·cases h
theorem SK{b:Bool}{cA:List aF}{a:jU}(h:qv b st cA=some a):dv st.sites a.ew/\∀o,o∈a.fJ->bL st.sites o:=by
 cases b
 ·exact Un h
 ·exact SM h
theorem YZ(S:ad J H X B st tm w)(C:Ctx):∀(xs:List Operand) (cQ:List TypeId),(gu C st xs cQ).length=(xs.map (Act.eval ⟨tm,[]⟩)).length/\
  ∀i (h:i<(gu C st xs cQ).length) (ae:i<(xs.map (Act.eval ⟨tm,[]⟩)).length),b4 B st.sites w (al X B st.sites) ((gu C st xs cQ)[i]) ((xs.map (Act.eval ⟨tm,[]⟩))[i]):=by
 intro xs;induction xs with
 |nil=>intro cQ;cases cQ<;>exact⟨rfl,fun i h=>by simp[gu] at h⟩
 |cons x xs ih=>
  intro cQ;have key:∀(T:TypeId) (E7:List TypeId),gu C st (x::xs) cQ=aI C st T x::gu C st xs E7->(gu C st (x::xs) cQ).length=((x::xs).map (Act.eval ⟨tm,[]⟩)).length/\
    ∀i (h:i<(gu C st (x::xs) cQ).length) (ae:i<((x::xs).map (Act.eval ⟨tm,[]⟩)).length),b4 B st.sites w (al X B st.sites) ((gu C st (x::xs) cQ)[i]) (((x::xs).map (Act.eval ⟨tm,[]⟩))[i]):=by
   intro T E7 e;obtain⟨ay,ai⟩:=ih E7;refine⟨by rw[e];simp[ay],fun i h ae=>?_⟩
   simp only[e];cases i with
   |zero=>exact cJ S C T x
   |succ i=>
    simp only[List.getElem_cons_succ,List.map_cons];exact ai i (by simpa[e] using h) (by simpa using ae)
  cases cQ with
  |nil=>exact key 0 [] rfl
  |cons T cQ=>exact key T cQ rfl
theorem TR(S:ad J H X B st tm w){g cw:FuncId}(hd:xl P g cw){n:Nat}{cA:List aF}{vs:List Value}(hl:cA.length=vs.length)
  (Z:∀i (h:i<cA.length) (ae:i<vs.length),b4 B st.sites w (al X B st.sites) (cA[i]) (vs[i])) (U:b2 st D.dst=true) (cz:(execOp (Act.eval ⟨tm,[]⟩) D).run P w=(callFunc g vs.toArray).run P w):
  Holds (qG cw n st cA) (cr P J H X st tm w D):=by
 unfold qG;split
 ·rename_i s p;refine Holds.eU ?_
  intro K Q bA;match vs,hl,Z,cz with
  |[pX,zt],_,Z,cz=>
  obtain⟨a,bo,r'⟩:=gf (Z 0 (by simp) (by simp))
  obtain⟨b,hb,cd⟩:=gf (Z 1 (by simp) (by simp))
  simp only[List.getElem_cons_zero,List.getElem_cons_succ] at bo hb;subst bo hb;have core:∀v w',(∃cN dB,v=.func (.func cw) #[] #[.pointer (some ⟨w.heap.size+1,0,none⟩),.pointer (some ⟨w.heap.size,0,none⟩),.pointer (some ⟨w.heap.size+2,0,none⟩)]/\
    w'=((w.alloc (.cells #[.string a] cN)).alloc (.cells #[.string b] cN)).alloc (.cells #[.int .i64 0] dB))->K ⟨da tm D.dst v,[]⟩ w':=by
   rintro v w' ⟨cN,dB,rfl,hw⟩;have eJ:w'.heap.size=w.heap.size+3:=by rw[hw];simp
   have hold:∀b,b<w.heap.size->w'.heap[b]? =w.heap[b]? :=fun b hb=>by
    rw[hw];rw[RowKit.Below.heap_alloc _ _ _ (by simp;omega),RowKit.Below.heap_alloc _ _ _ (by simp;omega),RowKit.Below.heap_alloc _ _ _ hb]
   have aQ:w'.heap[w.heap.size]? =some (.cells #[.string a] cN):=by
    rw[hw,RowKit.Below.heap_alloc _ _ _ (by simp only[World.size_alloc];omega),RowKit.Below.heap_alloc _ _ _ (by simp only[World.size_alloc];omega)];exact World.alloc_heap_new w _
   have h1:w'.heap[w.heap.size+1]? =some (.cells #[.string b] cN):=by
    rw[hw,RowKit.Below.heap_alloc _ _ _ (by simp only[World.size_alloc];omega)]
    have:=World.alloc_heap_new (w.alloc (.cells #[.string a] cN)) (.cells #[.string b] cN);rwa[World.size_alloc] at this
   have h2:w'.heap[w.heap.size+2]? =some (.cells #[.int .i64 0] dB):=by
    rw[hw];have:=World.alloc_heap_new ((w.alloc (.cells #[.string a] cN)).alloc (.cells #[.string b] cN)) (.cells #[.int .i64 0] dB);rwa[World.size_alloc,World.size_alloc] at this
   have uH:Fr H J w':=⟨by rw[hw];exact S.frame.os,by rw[hw];exact S.frame.tape,by rw[hw];exact S.frame.output,by have:=S.frame.size;omega,fun b hb hn=>by
    have:=S.frame.size;rw[hold b (by omega)];exact S.frame.block b hb hn⟩
   have jk:=S.frame.size;have cY:=S.jump (w':=w') (fun b _ hb=>hold b hb) (by omega) uH
   have mk:∀{B:Nat->Value} {sites:List (Nat×Site)} {av:Nat->Prop} {m k:Nat} {T:TypeId} {x:Value} {d:aK},B m=.pointer (some ⟨k,0,none⟩)->w'.heap[k]? =some (.cells #[x] T)->Rd w' av d x->
     hA B sites w' av m (.box (aR st m) [.d d]):=by
    intro B sites av m k T x d e1 e2 cf;refine⟨k,T,[x],e1,e2,rfl,fun u hu=>?_,(fun h=>by cases h),fun j h ae=>?_⟩
    ·rw[List.mem_singleton.1 hu];exact cf.ij
    ·match j,h,ae with
     |0,_,_=>exact cf
   obtain⟨FP,_,_⟩:=cY.tF (X':=fun b=>(X b\/(w.heap.size<=b/\b<w'.heap.size))/\b≠w.heap.size+1) (n:=n) (bm:=.box (aR st n) [.d (.str p)]) (nv:=.pointer (some ⟨w.heap.size+1,0,none⟩)) (fun b h=>h.1)
    (.inl fun M h=>iI h) (fun b h=>by have h:=List.mem_singleton.1 h;simp only at h;subst h;exact⟨.inr ⟨by omega,by omega⟩,fun h=>h.2 rfl,.inr (by omega)⟩) (fun _ e _ _=>mk e h1 (.str _ _ cd))
   obtain⟨afP,_,_⟩:=FP.tF (X':=fun b=>((X b\/(w.heap.size<=b/\b<w'.heap.size))/\b≠w.heap.size+1)/\b≠w.heap.size) (n:=n+1) (bm:=.box (aR st (n+1)) [.d (.str s)]) (nv:=.pointer (some ⟨w.heap.size,0,none⟩)) (fun b h=>h.1)
    (.inl fun M h=>by
     have h:look (b5 st.sites n _) (n+1)=some M:=h;rw[ck,if_neg (by omega)] at h
     exact iI h) (fun b h=>by have h:=List.mem_singleton.1 h;simp only at h;subst h;exact⟨⟨.inr ⟨by omega,by omega⟩,by omega⟩,fun h=>h.2 rfl,.inr (by omega)⟩) (fun _ e _ _=>mk e aQ (.str _ _ r'))
   obtain⟨afO,_,_⟩:=afP.tF (X':=X) (n:=n+2) (bm:=.box (aR st (n+2)) [.d (.int .i64 0)]) (nv:=.pointer (some ⟨w.heap.size+2,0,none⟩)) (fun b h=>by have:=S.old b h;exact⟨⟨.inl h,by omega⟩,by omega⟩)
    (.inl fun M h=>by
     have h:look (b5 (b5 st.sites n _) (n+1) _) (n+2)=some M:=h;rw[ck,if_neg (by omega),ck,if_neg (by omega)] at h
     exact iI h) (fun b h=>by have h:=List.mem_singleton.1 h;simp only at h;subst h;exact⟨⟨⟨.inr ⟨by omega,by omega⟩,by omega⟩,by omega⟩,fun h=>by have:=S.old _ h;omega,.inr (by omega)⟩) (fun _ e _ _=>mk e h2 (.int _ _))
   refine bA _ _ w' (ad.cK (us:=[(n,.box (aR st n) [.d (.str p)]),(n+1,.box (aR st (n+1)) [.d (.str s)]),(n+2,.box (aR st (n+2)) [.d (.int .i64 0)])]) afO U (v:=bQ (.clo cw _)) ?_);refine⟨[.pointer (some ⟨w.heap.size+1,0,none⟩),.pointer (some ⟨w.heap.size,0,none⟩),.pointer (some ⟨w.heap.size+2,0,none⟩)],rfl,rfl,fun i af lb=>?_⟩
   match i,af,lb with
   |0,_,_=>exact⟨.box (aR st n) [.d (.str p)],by simp[aT,ck],Nat.le_refl _,fun _=>by simp[bD]⟩
   |1,_,_=>exact⟨.box (aR st (n+1)) [.d (.str s)],by simp[aT,ck],Nat.le_refl _,fun _=>by simp[bD]⟩
   |2,_,_=>exact⟨.box (aR st (n+2)) [.d (.int .i64 0)],by simp[aT,ck],Nat.le_refl _,fun _=>by simp[bD]⟩
  rcases hd a b w with⟨h1,h2⟩|⟨v,w',h1,h2⟩
  ·unfold Oper.wp;rw[cz,h1,Oper.upon_enter];refine h2.mono fun e w' he=>?_
   cases e with
   |returned v=>
    have:=core v w' he;cases c9:D.dst with
    |none=>rw[c9] at this;simpa[Act.put,da] using this
    |some t=>rw[c9] at this;simpa[Act.put,da] using this
   |panicked c=>exact he.elim
   |outgrown=>exact he.elim
  ·exact nc (cz.trans h1) (core v w' h2)
 ·exact .fail
theorem VP(S:ad J H X B st tm w){g:FuncId}(hd:x_ P g){n:Nat}{cA:List aF}{vs:List Value}(hl:cA.length=vs.length)
  (Z:∀i (h:i<cA.length) (ae:i<vs.length),b4 B st.sites w (al X B st.sites) (cA[i]) (vs[i])) (U:b2 st D.dst=true) (cz:(execOp (Act.eval ⟨tm,[]⟩) D).run P w=(callFunc g vs.toArray).run P w):
  Holds (q3 n st cA) (cr P J H X st tm w D):=by
 unfold q3;split
 ·rename_i xs;refine Holds.eU ?_
  intro K Q bA;match vs,hl,Z,cz with
  |[pX],_,Z,cz=>
  have c2:Rd w (al X B st.sites) (.sl .u8 xs) pX:=Z 0 (by simp) (by simp)
  have core:∀v w',(∃u T,Rd w (al X B st.sites) (.sl .u8 (xs.take 2000)) u/\v=.pointer (some ⟨w.heap.size,0,none⟩)/\w'=w.alloc (.cells #[u,.int .i64 0] T))->K ⟨da tm D.dst v,[]⟩ w':=by
   rintro v w' ⟨u,T,hu,rfl,hw⟩;have eJ:w'.heap.size=w.heap.size+1:=by rw[hw];simp
   have hold:∀b,b<w.heap.size->w'.heap[b]? =w.heap[b]? :=fun b hb=>by
    rw[hw,RowKit.Below.heap_alloc _ _ _ hb]
   have aQ:w'.heap[w.heap.size]? =some (.cells #[u,.int .i64 0] T):=by rw[hw];exact World.alloc_heap_new w _
   have uH:Fr H J w':=⟨by rw[hw];exact S.frame.os,by rw[hw];exact S.frame.tape,by rw[hw];exact S.frame.output,by have:=S.frame.size;omega,fun b hb hn=>by
    have:=S.frame.size;rw[hold b (by omega)];exact S.frame.block b hb hn⟩
   have jk:=S.frame.size;have cY:=S.jump (w':=w') (fun b _ hb=>hold b hb) (by omega) uH
   have hP:∀b,X b->b<w.heap.size:=S.old;have aah:∀b,al (fun b=>X b\/(w.heap.size<=b/\b<w'.heap.size)) B st.sites b->b<w'.heap.size:=fun b hb=>cY.lt hb
   have rS:b4 B st.sites w' (al (fun b=>X b\/(w.heap.size<=b/\b<w'.heap.size)) B st.sites) (one (.sl .u8 (xs.take 2000))) u:=by
    have bC:gW B B st.sites st.sites w w' (al X B st.sites) (al (fun b=>X b\/(w.heap.size<=b/\b<w'.heap.size)) B st.sites):=
     ⟨fun E s h=>⟨s,h,Nat.le_refl _,fun _=>rfl⟩,fun b _ cd=>hold b cd,fun b hb cd ae=>by
      rcases ae with(ae|ae)|ae
      ·exact hb (.inl ae)
      ·omega
      ·exact hb (.inr ae)⟩
    exact b4.goes (a:=one (.sl .u8 (xs.take 2000))) bC (by omega) aah hu
   obtain⟨FP,Ew,agO⟩:=cY.tF (X':=X) (n:=n) (bm:=.box (aR st n) [.d (.sl .u8 (xs.take 2000)),.d (.int .i64 0)]) (nv:=.pointer (some ⟨w.heap.size,0,none⟩)) (fun b h=>.inl h)
    (.inl fun M h=>iI h) (fun b h=>by have h:=List.mem_singleton.1 h;simp only at h;subst h;exact⟨.inr ⟨by omega,by omega⟩,fun h=>by have:=hP _ h;omega,.inr (by omega)⟩) (fun L e go _=>by
     have pF:=go rS;refine⟨w.heap.size,T,[u,.int .i64 0],e,aQ,rfl,fun x hx=>?_,(fun h=>by cases h),fun j h ae=>?_⟩
     ·rcases List.mem_cons.1 hx with rfl|hx
      ·exact Rd.ij hu
      ·rw[List.mem_singleton.1 hx];rfl
     ·match j,h,ae with
      |0,_,_=>exact pF
      |1,_,_=>exact Rd.int .i64 0)
   refine bA _ _ w' (ad.cK (us:=[(n,.box (aR st n) [.d (.sl .u8 (xs.take 2000)),.d (.int .i64 0)])]) FP U (v:=bQ (.ptr n (aR st n) 0)) ?_);exact⟨w.heap.size,rfl,.box (aR st n) [.d (.sl .u8 (xs.take 2000)),.d (.int .i64 0)],by simp[aT,ck],Nat.le_refl _,fun _=>by simp[bD]⟩
  rcases hd xs pX w _ c2 with⟨h1,h2⟩|⟨v,w',h1,h2⟩
  ·unfold Oper.wp;rw[cz,h1,Oper.upon_enter];refine h2.mono fun e w' he=>?_
   cases e with
   |returned v=>
    have:=core v w' he;cases c9:D.dst with
    |none=>rw[c9] at this;simpa[Act.put,da] using this
    |some t=>rw[c9] at this;simpa[Act.put,da] using this
   |panicked c=>exact he.elim
   |outgrown=>exact he.elim
  ·exact nc (cz.trans h1) (core v w' h2)
 ·exact .fail
theorem Gu(S:ad J H X B st tm w){C:Ctx}(az:bG P C){c:Go.Call}{f:Operand}(an:D.op=.call c)(hf:c.callee=.value f)(U:b2 st D.dst=true)(d:Nat)(T:TypeId):
  Holds (ln C d st (aI C st T f) (gu C st c.args.toList c.argTypes.toList)) (cr P J H X st tm w D):=by
 have bi:=cJ S C T f;obtain⟨e1,e2⟩:=YZ S C c.args.toList c.argTypes.toList;have run:∀{g:FuncId} {e4:List Value},Act.eval ⟨tm,[]⟩ f=.func (.func g) #[] e4.toArray->
   (execOp (Act.eval ⟨tm,[]⟩) D).run P w=(callFunc g (c.args.toList.map (Act.eval ⟨tm,[]⟩)++e4).toArray).run P w:=by
  intro g e4 Z;have vb:(#[]++c.args.map (Act.eval ⟨tm,[]⟩))++e4.toArray=(c.args.toList.map (Act.eval ⟨tm,[]⟩)++e4).toArray:=by apply Array.ext';simp
  unfold execOp;simp only[an,resolve,hf,Z,Deferred.ofValue,Sem.run_bind,Sem.run_pure,Result.andThen_ok,invoke,vb]
 have go:∀{g:FuncId} {aN:bp} {a:jU} {cs:List (List aK)} {us:List (Nat×Site)} {bs:List Nat} {e4:List Value} {gb:Bool},C.bJ g=some aN->qv gb st (gu C st c.args.toList c.argTypes.toList)=some a->
   Act.eval ⟨tm,[]⟩ f=.func (.func g) #[] e4.toArray->(dv st.sites us/\∀o,o∈bs->bL st.sites o)->
   (∀{cR ep av},eX J H X B st tm w cR ep av->(∀p,p∈us->p∈cR)->(∀o,o∈bs->o∈ep)->kf w av cs e4)->
   Holds (oh d st aN {a with as:=a.as++kP cs,ew:=a.ew++us,fJ:=a.fJ++bs}) (cr P J H X st tm w D):=by
  intro g aN a cs us bs e4 gb aJ bo Z aM hcap;obtain⟨mP,z2⟩:=SK bo;have gr:dv st.sites (a.ew++us):=mP.append aM.1;have uS:eX J H X B st tm w (a.ew++us) (a.fJ++bs) (fun _=>False):=⟨⟨S,gr⟩,fun b h=>h.elim,fun _ _ _ _ h=>h⟩
  obtain⟨c4,dx,jC,p1,Ft,P1⟩:=GK uS bo e1 e2 (fun p am=>List.mem_append.2 (.inl am)) (fun p am=>List.mem_append.2 (.inl am))
  refine Wp (a:={a with as:=a.as++kP cs,ew:=a.ew++us,fJ:=a.fJ++bs}) S (az.bJ g aN aJ) (vs:=c.args.toList.map (Act.eval ⟨tm,[]⟩)++e4) ⟨gr,fun o a_=>?_,dx,fun av dj=>?_,?_,p1,?_,P1⟩ U (run Z)
  ·rcases List.mem_append.1 a_ with h|h
   ·exact z2 o h
   ·exact aM.2 o h
  ·obtain⟨b1,_,_,_,_,_⟩:=GK dj bo e1 e2 (fun p am=>List.mem_append.2 (.inl am)) (fun p am=>List.mem_append.2 (.inl am))
   have cM:=S_ (hcap dj (fun p am=>List.mem_append.2 (.inr am)) (fun p am=>List.mem_append.2 (.inr am)))
   have:=b1.append cM;rwa[List.append_nil] at this
  ·show dQ (a.as++kP cs) _=_;rw[F9 c4.length,jC,Ta,List.append_nil]
  ·show hM B a.rows (eW (a.as++kP cs) _);rw[Ra c4.length,Su,List.append_nil];exact Ft
 unfold ln;split
 ·rename_i g bv EU;rw[EU] at bi;obtain⟨e4,h1,h2,Y⟩:=bi;split
  ·rename_i cw lT;split
   ·have uM:e4=[]:=List.eq_nil_of_length_eq_zero (by simpa using h2)
    subst uM;have r:=run h1;rw[List.append_nil] at r;exact TR S (az.kx g cw lT) e1 e2 U r
   ·exact .fail
  ·cases acX:C.op g with
   |true=>
    simp only[cond_true];split
    ·have uM:e4=[]:=List.eq_nil_of_length_eq_zero (by simpa using h2)
     subst uM;have r:=run h1;rw[List.append_nil] at r;exact VP S (az.op g acX) e1 e2 U r
    ·exact .fail
   |false=>
    simp only[cond_false];have Kr:bv=[]->(execOp (Act.eval ⟨tm,[]⟩) D).run P w=(callFunc g (c.args.toList.map (Act.eval ⟨tm,[]⟩)).toArray).run P w:=by
     rintro rfl;have uM:e4=[]:=List.eq_nil_of_length_eq_zero (by simpa using h2)
     subst uM;have r:=run h1;rwa[List.append_nil] at r
    cases adp:C.hQ g with
    |true=>
     simp only[cond_true];split
     ·exact Wm S (az.hQ g adp) e1 e2 U (Kr rfl)
     ·exact .fail
    |false=>
     simp only[cond_false];cases dp:C.bs g with
     |true=>
      simp only[cond_true];split
      ·exact Sl S (az.bs g dp) e1 e2 U (Kr rfl)
      ·exact .fail
     |false=>
      simp only[cond_false];split
      ·rename_i aN a cs us bs aJ bo hc;exact go aJ bo h1 (HD hc) (fun dj hu hb=>HC dj hc hu hb h2 Y)
      ·exact .fail
 ·rename_i g bv EU;rw[EU] at bi;obtain⟨e4,h1,_⟩:=kf.Km bi;split
  ·rename_i aN a aJ bo;have:=go (us:=[]) (bs:=[]) (cs:=bv) (gb:=false) aJ bo h1 ⟨.nil,fun o h=>by simp at h⟩ (fun {cR ep av} dj _ _=>by
    obtain⟨agr,ay,ai⟩:=kf.Km (dj.rO (bi:Rd w (al X B st.sites) (.fn g bv) _));rw[h1] at ay;simp only[Value.func.injEq,Fn.func.injEq,true_and] at ay;have e:=congrArg Array.toList ay;simp only at e;rw[e];exact ai)
   simpa only[List.append_nil] using this
  ·exact .fail
 ·exact .fail
theorem WI(S:ad J H X B st tm w){C:Ctx}(az:bG P C)(U:b2 st D.dst=true):Holds (step C st D) (cr P J H X st tm w D):=by
 unfold step;split
 ·rename_i x an;exact Holds.ok (I5 S (.inl an) U _)
 ·rename_i x an;exact Holds.ok (I5 S (.inr an) U _)
 ·rename_i c a b an;split
  ·rename_i hc;exact Holds.ok (IY S an U hc)
  ·rename_i hc;exact Holds.ok (IY S an U hc)
  ·exact .fail
 ·rename_i elem an;split
  ·rename_i o e t n c9 aS;exact UT S az.toCtxOk aS an U
  ·rename_i o c9 _;split
   ·rename_i z aM;exact Holds.eU (Wu S az.toCtxOk an c9 aM U)
   ·exact .fail
  ·exact .fail
 ·rename_i elem x an;split
  ·rename_i o e t n c9 aS;exact XY S az.toCtxOk aS an U
  ·rename_i o c9 _;split
   ·rename_i a bo;cases dr:gz a.cells with
    |false=>exact .fail
    |true=>
     have bi:=cJ S C elem x;rw[oV bo] at bi;exact Holds.eU (Y4 S an c9 bi dr U)
   ·exact .fail
  ·exact .fail
 ·rename_i t parts an;split
  ·rename_i bJ n z eq aS;exact Wq S az.toCtxOk aS an U
  ·rename_i e ty n aS;split
   ·rename_i z aM;exact UR S az.toCtxOk aS aM an U
   ·exact .fail
  ·exact .fail
 ·rename_i t len parts an;split
  ·rename_i o e ty bytes c9 aS;cases hb:(parts.toList.length.beq len&&n6 0 parts.toList&&Nat.ble (len*au ty) 1000) with
   |false=>exact .fail
   |true=>
    simp only[Bool.and_eq_true] at hb;obtain⟨⟨aX,aG⟩,bU⟩:=hb;simp only[cond_true];split
    ·rename_i as has;split
     ·rename_i xs us eg;have eg:mf ty st as=some (xs,us):=by
       cases aD:(C.dY&&ty.ho) with
       |false=>rw[aD] at eg;cases eg
       |true=>rw[aD] at eg;exact eg
      cases aD:(eO (keys us)&&(look us o).isNone) with
      |false=>exact .fail
      |true=>
       simp only[Bool.and_eq_true] at aD;exact Holds.eU (QB S az.toCtxOk aS an U (Nat.eq_of_beq_eq_true aX) aG (Nat.le_of_ble_eq_true bU) has eg ((nZ _).1 aD.1) (Gk aD.2))
     ·split
      ·rename_i xs us eg;exact Holds.eU (QV S az.toCtxOk aS an c9 U (Nat.eq_of_beq_eq_true aX) aG (Nat.le_of_ble_eq_true bU) has eg)
      ·exact .fail
    ·exact .fail
  ·exact .fail
 ·rename_i t a an;split
  ·rename_i e ty n aS;exact V4 S az.toCtxOk aS an U
  ·cases ah:(C.tt t).known with
   |false=>exact .fail
   |true=>exact Xu S az.toCtxOk an U ah
 ·rename_i t a x an;split
  ·rename_i v Z;split
   ·rename_i e ty n aS;exact TQ S az.toCtxOk aS an U Z
   ·cases ah:(C.tt t).known with
    |false=>exact .fail
    |true=>exact Vf S az.toCtxOk an U ah Z
  ·exact .fail
 ·rename_i x an;split
  ·rename_i hx;exact Holds.ok (zN S an U hx fun vv h=>by obtain⟨b,h,_⟩:=h;exact⟨_,h⟩)
  ·rename_i hx;exact Holds.ok (zN S an U hx fun vv h=>by obtain⟨b,D,h,_⟩:=h;exact⟨_,h⟩)
  ·rename_i hx;exact Holds.ok (zN S an U hx fun vv h=>by obtain⟨b,D,h,_⟩:=h;exact⟨_,h⟩)
  ·exact .fail
 ·rename_i op t x y mQ an;cases hn:xN y with
  |true=>exact UI S az.toCtxOk an U hn
  |false=>exact X2 S az.toCtxOk an U
 ·rename_i op t x an;split
  ·rename_i b hx;exact Holds.ok (RB S an U hx)
  ·rename_i k n hx;exact Holds.ok (RC S an U hx)
  ·rename_i k n hx;exact Holds.ok (RA (T:=D.type) S an U hx)
  ·exact .fail
 ·rename_i src dst x an;split
  ·rename_i o c9;exact Wn S az.toCtxOk an c9 U
  ·exact .fail
 ·rename_i fn first captured an
  split
  ·rename_i g;cases hf:first.toList.isEmpty with
   |false=>exact .fail
   |true=>
    simp only[cond_true];split
    ·rename_i bv hc;exact Holds.ok (RU S an U hf hc)
    ·exact .fail
  ·exact .fail
 ·rename_i t l c an;split
  ·rename_i o e ty bytes kn n km m c9 aS hl hc;split
   ·rename_i z aM;unfold po;split
    ·rename_i ds us ek;have ek:sinks st z=some (ds,us):=by
      cases aD:(C.dY&&ty.ho) with
      |false=>rw[aD] at ek;cases ek
      |true=>rw[aD] at ek;exact ek
     split
     ·rename_i ei jX;cases aD:us.isEmpty with
      |false=>exact .fail
      |true=>exact Holds.ee fun r hr=>QO S az.toCtxOk aS an U hl hc aM ek aD jX r hr
     ·exact .fail
    ·split
     ·rename_i ds us ek;split
      ·rename_i ei jX;exact Holds.ee fun r hr=>Rg S az.toCtxOk aS an c9 U hl hc aM ek jX r hr
      ·exact .fail
     ·exact .fail
   ·exact .fail
  ·exact .fail
 ·rename_i t x ce af zv an;split
  ·split
   ·rename_i e ty n aS;exact TU S az.toCtxOk aS an U
   ·rename_i ti hn;cases hb:qP st (aI C st t x) with
    |true=>
     simp only[cond_true];split
     ·rename_i d c9;exact TT S az.toCtxOk an c9 U
     ·exact .fail
    |false=>exact Vm S az.toCtxOk an U
  ·exact .fail
 ·rename_i s x f an;split
  ·rename_i bJ n z eq aS;split
   ·rename_i off Fp hf;exact Rp S az.toCtxOk aS an U hf
   ·exact .fail
  ·exact .fail
 ·rename_i t x i an;split
  ·rename_i e ty bytes k n aS af;exact Rm S az.toCtxOk aS af an U
  ·rename_i e ty m k n aS af;exact QQ S az.toCtxOk aS af an U
  ·exact .fail
 ·rename_i t x i an;split
  ·rename_i s k n aS hx af;exact V9 S az.toCtxOk an U aS hx af
  ·rename_i e ty m k n aS af;exact Uz S az.toCtxOk aS af an U
  ·exact .fail
 ·rename_i t i an;split
  ·rename_i as hx;split
   ·rename_i a bo;exact Holds.ok (S1 S an U hx bo)
   ·exact .fail
  ·exact .fail
 ·rename_i c an;split
  ·rename_i f hf;split
   ·exact Gu S az an hf U _ _
   ·exact Gu S az an hf U _ _
  ·rename_i b hb;obtain⟨callee,args,argTypes⟩:=c;simp only at hb an ⊢;subst hb;split
   ·rename_i x t jN DI;have e1:args=#[x]:=Array.ext' jN;have e2:argTypes=#[t]:=Array.ext' DI;subst e1 e2;exact YM S az.toCtxOk an U
   ·rename_i o s x t u c9 jN DI;have e1:args=#[s,x]:=Array.ext' jN;have e2:argTypes=#[t,u]:=Array.ext' DI;subst e1 e2;split
    ·rename_i aS eD;cases aD:tg st (aI C st u x) with
     |true=>exact Te S az.toCtxOk aS eD an c9 U
     |false=>exact US S az.toCtxOk aS eD an c9 U
    ·rename_i aS eD;exact Td S az.toCtxOk aS eD an c9 U
    ·exact .fail
   ·rename_i x y jN;have e1:args=#[x,y]:=Array.ext' jN;subst e1;split
    ·rename_i hx aq;exact Holds.ok (Hj (q9:=true) S an U hx aq)
    ·exact .fail
   ·rename_i x y z u v jN;have e1:args=#[x,y,z,u,v]:=Array.ext' jN;subst e1;split
    ·rename_i hx aq aM hu Z;exact Holds.ok (Xq S an U hx aq aM hu Z)
    ·exact .fail
   ·rename_i x y jN;have e1:args=#[x,y]:=Array.ext' jN;subst e1;split
    ·rename_i hx aq;exact Holds.ok (Hj (q9:=false) S an U hx aq)
    ·exact .fail
   ·exact .fail
  ·exact .fail
 ·exact SN S az.toCtxOk U
end
section
variable {st aa:ab}
theorem mZ{o:Nat}(h:st.M o=aa.M o)(s:Nat):rowOf st o s=rowOf aa o s:=by unfold rowOf;rw[h]
theorem sx{o:Nat}(h:st.M o=aa.M o)(s:Nat):ls st o s=ls aa o s:=by unfold ls;rw[h]
theorem R_{o:Nat}(h:st.M o=aa.M o)(s:Nat):pf st o s=pf aa o s:=by unfold pf;rw[mZ h,sx h]
theorem vl{o:Nat}(h:st.M o=aa.M o)(s:Nat):nd st o s=nd aa o s:=by unfold nd;rw[h]
theorem Sv{o:Nat}(h:st.M o=aa.M o)(s:Nat):np st o s=np aa o s:=by unfold np;rw[mZ h,vl h]
theorem Gy{o:Nat}(h:st.M o=aa.M o)(s:Nat):pg st o s=pg aa o s:=by unfold pg;rw[R_ h,vl h]
theorem sA{o:Nat}(h:st.M o=aa.M o)(s:Nat):fK st o s=fK aa o s:=by unfold fK;rw[h]
theorem j9{o:Nat}(h:st.M o=aa.M o):aR st o=aR aa o:=by unfold aR;rw[h]
abbrev ca(st aa:ab)(N:List Nat):Prop:=∀o,o∈N->st.M o=aa.M o
theorem ca.left{N kG:List Nat}(h:ca st aa (N++kG)):ca st aa N:=fun o a_=>h o (List.mem_append.2 (.inl a_))
theorem ca.right{N kG:List Nat}(h:ca st aa (N++kG)):ca st aa kG:=fun o a_=>h o (List.mem_append.2 (.inr a_))
theorem ca.head{n:Nat}{kG:List Nat}(h:ca st aa (n::kG)):st.M n=aa.M n:=h n List.mem_cons_self
theorem ca.tail{n:Nat}{kG:List Nat}(h:ca st aa (n::kG)):ca st aa kG:=fun o a_=>h o (List.mem_cons_of_mem _ a_)
theorem n0{N:List Nat}(h:ca st aa (ev st N)):ca st aa N:=by
 induction N with
 |nil=>intro o a_;cases a_
 |cons n N ih=>
  intro o a_;rcases List.mem_cons.1 a_ with rfl|a_
  ·exact h.head
  ·exact ih h.tail.right o a_
theorem It{N:List Nat}(h:ca st aa (ev st N)){o:Nat}(a_:o∈N):ca st aa (vy st o):=by
 induction N with
 |nil=>cases a_
 |cons n N ih=>
  rcases List.mem_cons.1 a_ with rfl|a_
  ·exact h.tail.left
  ·exact ih h.tail.right a_
theorem vO{N kG:List Nat}:ev st (N++kG)=ev st N++ev st kG:=by
 induction N with
 |nil=>rfl
 |cons n N ih=>simp[ev,ih]
theorem HB{l:aw}(h:ca st aa l.names):jw st l=jw aa l:=by
 cases l<;>try rfl
 case own o s=>simp only[jw,lG];rw[mZ (h.head) s,sx h.head s,h.head]
 case clo g bv=>cases bv<;>rfl
theorem vu{O:List aw}(h:ca st aa (cD O)):ht st O=ht aa O:=by
 induction O with
 |nil=>rfl
 |cons l O ih=>
  simp only[cD] at h;simp only[ht,HB h.left,ih h.right]
theorem Sq{l:aw}(h:ca st aa l.names):sink st l=sink aa l:=by
 cases l<;>try rfl
 case own o s=>simp only[sink];rw[h.head]
 case d v=>cases v<;>rfl
theorem zK{O:List aw}(h:ca st aa (cD O)):sinks st O=sinks aa O:=by
 induction O with
 |nil=>rfl
 |cons l O ih=>
  simp only[cD] at h;simp only[sinks,Sq h.left,ih h.right]
theorem zQ{o s:Nat}{cells:List aw}(h:fK st o s=some cells):vy st o=cD cells:=by
 unfold fK at h;cases L:st.M o with
 |none=>rw[L] at h;cases h
 |some x=>
  rw[L] at h;cases x with
  |box ag cs=>
   have h:(bif ag.beq s then some cs else none)=some cells:=h
   unfold vy;rw[L];cases hb:ag.beq s with
   |true=>simp only[hb,cond_true,Option.some.injEq] at h;subst h;rfl
   |false=>simp[hb] at h
  |row _ _ _=>cases h
  |c0 _ _ _=>cases h
  |deep _ _ _=>cases h
  |map _ _ _=>cases h
  |ef _ _=>cases h
  |tail _ _ _=>cases h
  |dead _=>cases h
theorem RV{agg:Bool}{n:Nat}{a:aF}(h:ca st aa a.names):q7 agg n st a=q7 agg n aa a:=by
 unfold q7;split
 ·rename_i o s off;rw[sA (show st.M o=aa.M o from h o (by simp[aF.names,bt.cells,cD,aw.names]))]
 ·rfl
 ·rename_i o s u k off;rw[Sv (show st.M o=aa.M o from h o (by simp[aF.names,bt.cells,cD,aw.names]))]
 ·rfl
theorem Q3{n:Nat}{a:aF}{v:bt}(h:ca st aa a.names)(Z:ca st aa (cD v.cells)):qE n st a v=qE n aa a v:=by
 unfold qE;congr 1
 split
 ·rename_i o s off;rw[sA (show st.M o=aa.M o from h o (by simp[aF.names,bt.cells,cD,aw.names]))]
 ·rename_i o s u k off;rw[show st.M o=aa.M o from h o (by simp[aF.names,bt.cells,cD,aw.names]),vu Z,zK Z]
 ·rfl
theorem Qv{u:aB}{x:aF}{i:Int}(h:ca st aa x.names):qb u st x i=qb u aa x i:=by
 unfold qb;split
 ·rfl
 ·rename_i o s;rw[Gy (show st.M o=aa.M o from h o (by simp[aF.names,bt.cells,cD,aw.names]))]
 ·rfl
theorem Q7{ti:cg}{x:aF}{ce af:Option aF}(h:ca st aa x.names):qI ti st x ce af=qI ti aa x ce af:=by
 unfold qI;split
 ·rfl
 ·rfl
 ·rfl
 ·rename_i o s;simp only[lG];rw[mZ (show st.M o=aa.M o from h o (by simp[aF.names,bt.cells,cD,aw.names])),show st.M o=aa.M o from h o (by simp[aF.names,bt.cells,cD,aw.names])]
 ·rfl
theorem Rj{x:aF}(h:ca st aa x.names):qP st x=qP aa x:=by
 unfold qP;split
 ·rename_i o s;rw[vl (show st.M o=aa.M o from h o (by simp[aF.names,bt.cells,cD,aw.names]))]
 ·rfl
theorem Q8{ti:cg}{dst:Nat}{x:aF}{ce af:Option aF}(h:ca st aa x.names)(U:st.M dst=aa.M dst):qJ ti dst st x ce af=qJ ti dst aa x ce af:=by
 unfold qJ;split
 ·rename_i o s;have e:∀v,aR (st.c7 o (.dead v)) dst=aR (aa.c7 o (.dead v)) dst:=fun v=>by
   apply j9;rw[ab.kI,ab.kI,U]
  rw[vl (show st.M o=aa.M o from h o (by simp[aF.names,bt.cells,cD,aw.names]))]
  simp only[e]
 ·rfl
theorem Rf{l:aw}(h:ca st aa l.names):n9 st l=n9 aa l:=by
 cases l<;>try rfl
 case own o s=>simp only[n9];rw[h.head]
theorem Gj{l:aw}(h:ca st aa l.names):mapOf st l=mapOf aa l:=by
 cases l<;>try rfl
 case own o s=>simp only[mapOf];rw[h.head]
 case d v=>cases v<;>rfl
theorem SR{ti:cg}{x:aF}(h:ca st aa x.names):ry ti st x=ry ti aa x:=by
 unfold ry;split<;>try rfl
 rotate_left
 ·rename_i l;rw[Gj (l:=l) (fun o a_=>h o (by simp[aF.names,bt.cells,cD,a_]))]
 rename_i o s;rw[Gy (show st.M o=aa.M o from h o (by simp[aF.names,bt.cells,cD,aw.names]))]
theorem RH{x:aF}(h:ca st aa x.names):qY st x=qY aa x:=by
 unfold qY;split<;>try rfl
 rename_i o s;rw[mZ (show st.M o=aa.M o from h o (by simp[aF.names,bt.cells,cD,aw.names]))]
theorem FQ{o dst s:Nat}(U:st.M dst=aa.M dst):aR (st.c7 o (.dead s)) dst=aR (aa.c7 o (.dead s)) dst:=by
 apply j9;rw[ab.kI,ab.kI,U]
theorem FZ{bytes:Nat}{t:aB}{dst:Nat}{s:aF}{ys:List (den t)}(h:ca st aa s.names)(U:st.M dst=aa.M dst):o7 bytes t dst st s ys=o7 bytes t dst aa s ys:=by
 unfold o7;split
 ·simp only[j9 U]
 ·rename_i o s;simp only[show st.M o=aa.M o from h o (by simp[aF.names,bt.cells,cD,aw.names]),FQ U]
 ·rfl
theorem QW{bytes:Nat}{t:aB}{dst:Nat}{s x:aF}(h:ca st aa s.names)(hx:ca st aa x.names)(U:st.M dst=aa.M dst):qA bytes t dst st s x=qA bytes t dst aa s x:=by
 unfold qA;rw[RH hx];split
 ·rfl
 ·split
  ·split
   ·exact FZ h U
   ·rfl
  ·rfl
theorem Rk{x:aF}(h:ca st aa x.names):tg st x=tg aa x:=by
 unfold tg;split
 ·rename_i o s;rw[sx (show st.M o=aa.M o from h o (by simp[aF.names,bt.cells,cD,aw.names]))]
 ·rfl
theorem QY{bytes:Nat}{t:aB}{dst:Nat}{s x:aF}(h:ca st aa s.names)(hx:ca st aa x.names)(U:st.M dst=aa.M dst):qC bytes t dst st s x=qC bytes t dst aa s x:=by
 have e2:∀E u o v,aR ((st.c7 E (.dead u)).c7 o (.dead v)) dst=aR ((aa.c7 E (.dead u)).c7 o (.dead v)) dst:=fun E u o v=>by
  apply j9;rw[ab.kI,ab.kI,ab.kI,ab.kI,U]
 unfold qC;split
 ·rename_i E u;rw[sx (show st.M E=aa.M E from hx E (by simp[aF.names,bt.cells,cD,aw.names]))]
  split
  ·split
   ·split
    ·simp only[FQ U]
    ·rename_i _ o s;rw[sx (show st.M o=aa.M o from h o (by simp[aF.names,bt.cells,cD,aw.names]))]
     simp only[e2]
    ·rfl
   ·rfl
  ·rfl
 ·rfl
theorem QX{bytes:Nat}{t:aB}{dst:Nat}{s x:aF}(h:ca st aa s.names)(U:st.M dst=aa.M dst):qB bytes t dst st s x=qB bytes t dst aa s x:=by
 unfold qB;split
 ·split
  ·exact FZ h U
  ·rfl
 ·rfl
theorem GJ{o:Nat}{t:aB}{n:Nat}{xs:List (den t)}(U:st.M o=aa.M o):pn o st t n xs=pn o aa t n xs:=by
 unfold pn;rw[j9 U]
theorem Rr{o:Nat}{t:aB}{n:Nat}(U:st.M o=aa.M o):qU o st t n=qU o aa t n:=by
 unfold qU;split<;>first|exact GJ U|rfl
theorem Tb{o:Nat}{t:aB}{n:Nat}{v:aF}(U:st.M o=aa.M o):rK o st t n v=rK o aa t n v:=by
 unfold rK;split
 ·split<;>first|exact GJ U|rfl
 ·rfl
theorem RW{t:aB}{n:Nat}{a:aF}(h:ca st aa a.names):q8 st t n a=q8 aa t n a:=by
 unfold q8;split
 ·rename_i o s u;rw[mZ (show st.M o=aa.M o from h o (by simp[aF.names,bt.cells,cD,aw.names]))]
 ·rfl
theorem Q4{t:aB}{n:Nat}{a:aF}{v:bt}(h:ca st aa a.names):qF st t n a v=qF aa t n a v:=by
 unfold qF;split
 ·rename_i o s u O;rw[show st.M o=aa.M o from h o (by simp[aF.names,bt.cells,cD,aw.names])]
 ·rfl
theorem Qw{C:Ctx}{t:aB}{n:Nat}{x:aF}{i:Int}(h:ca st aa x.names):qc C st t n x i=qc C aa t n x i:=by
 unfold qc;split
 ·rename_i o s u;rw[mZ (show st.M o=aa.M o from h o (by simp[aF.names,bt.cells,cD,aw.names]))]
 ·rfl
 ·rfl
theorem Q9{t:aB}{n:Nat}{x:aF}{ce af:Option aF}(h:ca st aa x.names):qK st t n x ce af=qK aa t n x ce af:=by
 unfold qK;split
 ·rename_i o s u;simp only[lG];rw[mZ (show st.M o=aa.M o from h o (by simp[aF.names,bt.cells,cD,aw.names])),show st.M o=aa.M o from h o (by simp[aF.names,bt.cells,cD,aw.names])]
 ·rfl
theorem S9{t:aB}{as:List bt}(h:ca st aa (n2 as)):k0 t st as=k0 t aa as:=by
 induction as with
 |nil=>rfl
 |cons a as ih=>
  simp only[n2] at h;simp only[k0,vu h.left,ih h.right]
theorem Q_{t:aB}{as:List bt}(h:ca st aa (n2 as)):mf t st as=mf t aa as:=by
 induction as with
 |nil=>rfl
 |cons a as ih=>
  simp only[n2] at h;simp only[mf,zK h.left,ih h.right]
theorem R7{C:Ctx}{src dst:TypeId}{o:Nat}{x:aF}(h:ca st aa x.names)(U:st.M o=aa.M o):rc C src dst o st x=rc C src dst o aa x:=by
 unfold rc;split<;>try rfl
 ·rename_i E s _ _;rw[mZ (show st.M E=aa.M E from h E (by simp[aF.names,bt.cells,cD,aw.names]))]
 ·rw[j9 U]
theorem F8{bv:List (Nat×Nat)}(h:ca st aa (ev st (keys bv))):kS st bv=kS aa bv:=by
 induction bv with
 |nil=>rfl
 |cons p bv ih=>
  obtain⟨o,s⟩:=p;simp only[keys,ev] at h;simp only[kS];rw[<-sA h.head,<-ih h.tail.right];cases hb:fK st o s with
  |none=>rfl
  |some cells=>
   have:=h.tail.left;rw[zQ hb] at this;simp only[vu this]
theorem zV{l:aw}(h:ca st aa (ev st l.names)):ms st l=ms aa l:=by
 have U:=HB (n0 h);unfold ms;split
 ·rfl
 ·rename_i g c cs;simp only[aw.names] at h;rw[F8 h]
 ·rw[U]
theorem RX{O:List aw}(h:ca st aa (ev st (cD O))):lw st O=lw aa O:=by
 induction O with
 |nil=>rfl
 |cons l O ih=>
  simp only[cD,vO] at h;simp only[lw,zV h.left,ih h.right]
theorem Gn{l:aw}(h:ca st aa l.names):mn st l=mn aa l:=by
 unfold mn;split<;>try rfl
 rename_i o s;rw[show st.M o=aa.M o from h.head]
theorem SX{O:List aw}(h:ca st aa (cD O)):jS st O=jS aa O:=by
 induction O with
 |nil=>rfl
 |cons l O ih=>
  simp only[cD] at h;simp only[jS,Gn h.left,ih h.right]
def gL:List aF->List Nat
 |[]=>[]
 |v::vs=>v.names++gL vs
theorem F4{vs:List aF}(h:ca st aa (ev st (gL vs))):iL st vs=iL aa vs:=by
 induction vs with
 |nil=>rfl
 |cons v vs ih=>
  simp only[gL,vO] at h;have ih:=ih h.right;have h:=h.left;cases v with
  |iX as=>rfl
  |av a=>
   cases a with
   |agg O=>
    simp only[iL];rw[RX (by simpa[aF.names,bt.cells] using h),ih]
   |ak l=>
    have hl:ca st aa (ev st l.names):=by simpa[aF.names,bt.cells,cD] using h
    unfold iL;split
    ·rfl
    ·rename_i o s abZ bS;cases bS;have hl:ca st aa (ev st [o]):=by simpa[aF.names,bt.cells,cD,aw.names] using h
     simp only[ev] at hl;rw[<-sA hl.head,<-ih];cases hb:fK st o s with
     |none=>rfl
     |some cells=>
      have:=hl.tail.left;rw[zQ hb] at this;cases iL st vs with
      |none=>rfl
      |some r=>simp only[SX this]
    ·rename_i fl abZ _ bS;cases bS;rw[zV hl,ih]
    ·rename_i bS;cases bS
    ·rfl
theorem F7{l:aw}(h:ca st aa (ev st l.names)):lr st l=lr aa l:=by
 unfold lr;split
 ·rw[Gn (n0 h)]
 ·rfl
 ·rw[zV h]
theorem QT{O:List aw}(h:ca st aa (ev st (cD O))):lp st O=lp aa O:=by
 induction O with
 |nil=>rfl
 |cons l O ih=>
  simp only[cD,vO] at h;simp only[lp,F7 h.left,ih h.right]
theorem R0{l:aw}(h:ca st aa l.names):kY st l=kY aa l:=by
 unfold kY;split<;>try rfl
 rename_i o s;rw[show st.M o=aa.M o from h.head]
theorem Gg{O dq:List aw}(h:ca st aa (cD O)):ng st O dq=ng aa O dq:=by
 unfold ng;have:O.map (kY st)=O.map (kY aa):=by
  induction O with
  |nil=>rfl
  |cons l O ih=>
   simp only[cD] at h;simp only[List.map_cons,R0 h.left,ih h.right]
 rw[this]
theorem QN{vs:List aF}(h:ca st aa (ev st (gL vs))):j' st vs=j' aa vs:=by
 induction vs with
 |nil=>rfl
 |cons v vs ih=>
  simp only[gL,vO] at h;have ih:=ih h.right;have h:=h.left;cases v with
  |iX as=>rfl
  |av a=>
   cases a with
   |agg O=>
    have hl:ca st aa (ev st (cD O)):=by simpa[aF.names,bt.cells] using h
    simp only[j',QT hl,ih,Gg (n0 hl)]
   |ak l=>
    have hl:ca st aa (ev st l.names):=by simpa[aF.names,bt.cells,cD] using h
    have g_:ca st aa (cD [l]):=by simpa[cD] using n0 hl
    simp only[j',F7 hl,ih,Gg g_]
theorem QM{b:Bool}{vs:List aF}(h:ca st aa (ev st (gL vs))):qv b st vs=qv b aa vs:=by
 cases b
 ·exact F4 h
 ·exact QN h
theorem sy(hb:∀o,1000000<=o->st.M o=aa.M o){o:Nat}(h:1000000<=o):aR st o=aR aa o:=j9 (hb o h)
theorem zR(hb:∀o,1000000<=o->st.M o=aa.M o):∀{O:List aw} {n:Nat},1000000<=n->take st n O=take aa n O:=by
 intro O;induction O with
 |nil=>intro n _;rfl
 |cons l O ih=>
  intro n hn;cases l<;>simp only[take,ih (show 1000000<=n+1 by omega),sy hb hn]
theorem RE(hb:∀o,1000000<=o->st.M o=aa.M o):∀{as:List bt} {n:Nat},1000000<=n->dM st n as=dM aa n as:=by
 intro as;induction as with
 |nil=>intro n _;rfl
 |cons a as ih=>
  intro n hn;cases a with
  |ak l=>simp only[dM];rw[zR hb hn,ih (show 1000000<=n+100 by omega)]
  |agg O=>simp only[dM];rw[zR hb hn,ih (show 1000000<=n+100 by omega)]
theorem RD(hb:∀o,1000000<=o->st.M o=aa.M o):∀{bs:List (Nat×Nat)} {cv:List (List aw)},e_ st bs cv=e_ aa bs cv:=by
 intro bs;induction bs with
 |nil=>intro cv;cases cv<;>rfl
 |cons p bs ih=>
  obtain⟨o,s⟩:=p;intro cv;cases cv with
  |nil=>rfl
  |cons cs cv=>simp only[e_];rw[zR hb (by omega),ih]
theorem Gt(hb:∀o,1000000<=o->st.M o=aa.M o){dst:Nat}{S:bp}{a:jU}:oh dst st S a=oh dst aa S a:=by
 unfold oh;simp only[RD hb,RE hb (show 1000000<=2000000+dst*10000 by omega)]
theorem Q5{g:FuncId}{n:Nat}{vs:List aF}(hb:∀o,1000000<=o->st.M o=aa.M o)(hn:1000000<=n):qG g n st vs=qG g n aa vs:=by
 unfold qG;rw[sy hb hn,sy hb (show 1000000<=n+1 by omega),sy hb (show 1000000<=n+2 by omega)]
theorem RP{n:Nat}{vs:List aF}(hb:∀o,1000000<=o->st.M o=aa.M o)(hn:1000000<=n):q3 n st vs=q3 n aa vs:=by
 unfold q3;rw[sy hb hn]
theorem R6{vs:List aF}(h:ca st aa (ev st (gL vs))):copyV st vs=copyV aa vs:=by
 unfold copyV;split
 ·rename_i o s;rw[show st.M o=aa.M o from n0 h o (by simp[gL,aF.names,bt.cells,cD,aw.names])]
 ·rfl
theorem QI{vs:List aF}(h:ca st aa (ev st (gL vs))):qt st vs=qt aa vs:=by
 unfold qt;split
 ·rename_i o s;have aQ:o∈gL [aF.av (.ak (.ptr o s 0))]:=by simp[gL,aF.names,bt.cells,cD,aw.names]
  rw[<-sA (n0 h o aQ)];split
  ·rfl
  ·rename_i P2 E u hb;have:=It h aQ;rw[zQ hb] at this;rw[show st.M E=aa.M E from this E (by simp[cD,aw.names])]
  ·rfl
 ·rfl
theorem FV{C:Ctx}(hb:∀o,1000000<=o->st.M o=aa.M o){dst:Nat}{f:aF}{vs:List aF}(hf:ca st aa (ev st f.names))(h:ca st aa (ev st (gL vs))):ln C dst st f vs=ln C dst aa f vs:=by
 unfold ln;split
 ·rename_i g bv;have:ca st aa (ev st (keys bv)):=by simpa[aF.names,bt.cells,cD,aw.names] using hf
  simp only[QM h,F8 this,Gt hb,Q5 hb (show 1000000<=3000000+dst*10 by omega),RP hb (show 1000000<=4000000+dst by omega),R6 h,QI h]
 ·simp only[F4 h,Gt hb]
 ·rfl
theorem Wg{C:Ctx}{x:Operand}{T:TypeId}(h:∀t,x=.tmp t->st.get t=aa.get t):aI C st T x=aI C aa T x:=by
 cases x with
 |tmp t=>exact h t rfl
 |_=>rfl
theorem QU{ti:cg}{v:Value}:(s9 ti v).names=[]:=by
 unfold s9;split<;>try rfl
 all_goals(split<;>rfl)
theorem we{C:Ctx}{x:Operand}{T:TypeId}:∀{xs:List Operand},x∈xs->∀o,o∈(aI C st T x).names->o∈m9 st xs:=by
 intro xs;induction xs with
 |nil=>intro h;cases h
 |cons y xs ih=>
  intro h o a_;rcases List.mem_cons.1 h with rfl|h
  ·cases x with
   |tmp t=>simp only[m9];exact List.mem_append.2 (.inl a_)
   |const v=>simp only[aI,QU] at a_;cases a_
   |global g=>simp[aI,aF.names,bt.cells,cD,aw.names,bQ] at a_
   |func g=>simp[aI,aF.names,bt.cells,cD,aw.names,bQ,keys] at a_
  ·have:=ih h o a_;cases y<;>simp only[m9]<;>first|exact List.mem_append.2 (.inr this)|exact this
theorem RQ{t:Nat}:∀{xs:List Operand},.tmp t∈xs->t∈n5 xs:=by
 intro xs;induction xs with
 |nil=>intro h;cases h
 |cons y xs ih=>
  intro h;rcases List.mem_cons.1 h with h|h
  ·subst h;simp only[n5];exact List.mem_cons_self
  ·have:=ih h;cases y<;>simp only[n5]<;>first|exact List.mem_cons_of_mem _ this|exact this
theorem GV{v:aF}{a:bt}(h:lI v=some a):cD a.cells=v.names:=by
 cases v with
 |av b=>simp only[lI,Option.some.injEq] at h;subst h;rfl
 |iX _=>cases h
theorem Gw{vs:List aF}:∀{as:List bt},mo vs=some as->∀o,o∈n2 as->o∈gL vs:=by
 induction vs with
 |nil=>intro as h;simp only[mo,Option.some.injEq] at h;subst h;intro o a_;cases a_
 |cons v vs ih=>
  intro as h o a_;simp only[mo] at h;split at h
  ·rename_i a jy h1 h2;simp only[Option.some.injEq] at h;subst h;simp only[n2,List.mem_append] at a_;simp only[gL,List.mem_append];rcases a_ with a_|a_
   ·exact .inl (by rw[GV h1] at a_;exact a_)
   ·exact .inr (ih h2 o a_)
  ·cases h
end
theorem Sn{C:Ctx}{st aa:ab}{D:Oper}(L:∀t,t∈n5 (kU D.op)->st.get t=aa.get t)(hn:ca st aa (Dh C st D))(hb:xO D.op=true->∀o,1000000<=o->st.M o=aa.M o):
  step C st D=step C aa D:=by
 have he:∀x,x∈kU D.op->∀T,aI C st T x=aI C aa T x:=fun x hx T=>Wg fun t aC=>L t (RQ (aC▸hx))
 have Mh:looks D.op=true->ca st aa (ev st (m9 st (kU D.op))):=fun h=>by have:=hn.left.left;rw[h] at this;exact this
 have Mc:looks D.op=true->∀x,x∈kU D.op->∀T,ca st aa (aI C st T x).names:=fun hl x hx T o a_=>n0 (Mh hl) o (we hx o a_)
 have JZ:looks D.op=true->∀N:List Nat,(∀o,o∈N->o∈m9 st (kU D.op))->ca st aa (ev st N):=by
  intro hl N;have uL:=Mh hl;induction N with
  |nil=>intro _ o a_;cases a_
  |cons n N ih=>
   intro h o a_;simp only[ev,List.mem_cons,List.mem_append] at a_;rcases a_ with rfl|a_|a_
   ·exact n0 uL o (h o List.mem_cons_self)
   ·exact It uL (h n List.mem_cons_self) o a_
   ·exact ih (fun E bg=>h E (List.mem_cons_of_mem _ bg)) o a_
 have U:∀d,D.dst=some d->st.M d=aa.M d:=fun d h=>hn.left.right d (by simp[h])
 have aM:ca st aa (C8 C D.op):=hn.right;obtain⟨dst,op,type,pos,after,guard⟩:=D;simp only at he Mc JZ U hb aM;cases op<;>(try have fe:=Mc rfl)<;>(try have kX:=JZ rfl)<;>(try simp only[kU,List.mem_cons,List.not_mem_nil,or_false,forall_eq_or_imp,forall_eq] at he)<;>
  (try simp only[kU,List.mem_cons,List.not_mem_nil,or_false,forall_eq_or_imp,forall_eq] at fe)<;>simp only[step]<;>try rfl
 case move x=>rw[he]
 case assign x=>rw[he]
 case makeMap t r=>
  simp only[kN];cases dst with
  |none=>rfl
  |some o=>
   have e:=j9 (U o rfl);cases C.tt t<;>try rfl
   cases r with
   |none=>simp only[e]
   |some x=>simp only[he x (by simp[kU]),e]
 case lookup t m k c=>
  simp only[kN];rw[he.1,he.2];have h1:=fe.1 t;rw[he.1] at h1;generalize aI C aa t m=PR at h1 ⊢;split
  ·rename_i ty l n _ _;have hl:ca st aa l.names:=fun o a_=>h1 o (by simp[aF.names,bt.cells,cD,a_])
   rw[Gj hl,Rf hl];cases mapOf aa l with
   |some _=>rfl
   |none=>
    cases ty<;>try rfl
    cases n9 aa l with
    |none=>rfl
    |some p=>
     cases dst with
     |none=>rfl
     |some d=>simp only[j9 (U d rfl)]
  ·rfl
 case mapUpdate t m k x=>
  simp only[kN,kN.qO];rw[he.1,he.2.1,he.2.2];have h1:=fe.1 t;rw[he.1] at h1;have h2:=fe.2.2 0;rw[he.2.2] at h2;generalize aI C aa t m=PR at h1 ⊢;generalize aI C aa 0 x=aeX at h2 ⊢;split
  ·rename_i o s n d _ _;rw[show st.M o=aa.M o from h1 o (by simp[aF.names,bt.cells,cD,aw.names])]
  ·rename_i o s n E u _ _;rw[show st.M o=aa.M o from h1 o (by simp[aF.names,bt.cells,cD,aw.names]),show st.M E=aa.M E from h2 E (by simp[aF.names,bt.cells,cD,aw.names])]
  ·rfl
 case insert t m k x=>
  simp only[kN,kN.qO];rw[he.1,he.2.1,he.2.2];have h1:=fe.1 t;rw[he.1] at h1;have h2:=fe.2.2 0;rw[he.2.2] at h2;generalize aI C aa t m=PR at h1 ⊢;generalize aI C aa 0 x=aeX at h2 ⊢;split
  ·rename_i o s n d _ _;rw[show st.M o=aa.M o from h1 o (by simp[aF.names,bt.cells,cD,aw.names])]
  ·rename_i o s n E u _ _;rw[show st.M o=aa.M o from h1 o (by simp[aF.names,bt.cells,cD,aw.names]),show st.M E=aa.M E from h2 E (by simp[aF.names,bt.cells,cD,aw.names])]
  ·rfl
 case pick c a b=>rw[he.1,he.2.1,he.2.2]
 case alloc elem=>
  cases dst with
  |none=>rfl
  |some o=>
   have e:=j9 (U o rfl);cases aS:C.tt elem with
   |arr _ t n=>exact Rr (U o rfl)
   |_=>simp only[e]
 case box elem x=>
  rw[he];cases dst with
  |none=>rfl
  |some o=>
   have e:=j9 (U o rfl);cases aS:C.tt elem with
   |arr _ t n=>exact Tb (U o rfl)
   |_=>simp only[e]
 case build t ps=>
  have go:∀(bJ:List (Nat×Nat)) (r:List (Nat×Operand)) (z:List aw),(∀x,x∈r.map (·.2)->∀T,aI C st T x=aI C aa T x)->step.mj C st bJ z r=step.mj C aa bJ z r:=by
    intro bJ r;induction r with
    |nil=>intro z _;rfl
    |cons p r ih=>
     obtain⟨i,x⟩:=p;intro z h;simp only[step.mj];rw[h x (by simp)]
     split
     ·rw[ih _ fun x hx=>h x (by simp only[List.map_cons,List.mem_cons];exact .inr hx)]
     ·rfl
  split
  ·exact go _ _ _ he
  ·split
   ·exact go _ _ _ he
   ·rfl
  ·rfl
 case buildSlice t len ps=>
  cases dst with
  |none=>rfl
  |some o=>
   cases h2:C.tt t<;>try rfl
   rename_i e ty bytes;simp only;have h1:some o=some o:=rfl;have em:(ps.toList.map fun p=>aI C st e p.2)=ps.toList.map fun p=>aI C aa e p.2:=by
    apply List.map_congr_left;intro p am;exact he _ (List.mem_map.2 ⟨p,am,rfl⟩) e
   have kr:ca st aa (gL (ps.toList.map fun p=>aI C st e p.2)):=by
    have:∀l:List (Nat×Operand),(∀p,p∈l->p∈ps.toList)->ca st aa (gL (l.map fun p=>aI C st e p.2)):=by
     intro l;induction l with
     |nil=>intro _ o a_;cases a_
     |cons p l ih=>
      intro h o a_;simp only[List.map_cons,gL,List.mem_append] at a_;rcases a_ with a_|a_
      ·exact fe _ (List.mem_map.2 ⟨p,h p List.mem_cons_self,rfl⟩) e o a_
      ·exact ih (fun q aD=>h q (List.mem_cons_of_mem _ aD)) o a_
    exact this _ fun _ h=>h
   rw[<-em,j9 (U o h1)];congr 1
   split
   ·rename_i as has;rw[S9 fun E bg=>kr E (Gw has E bg),Q_ fun E bg=>kr E (Gw has E bg)]
   ·rfl
 case load t a=>
  rw[<-he];split
  ·exact RW (fe _)
  ·rw[RV (fe _)]
 case store t a x=>
  rw[<-he.1,<-he.2];split
  ·rename_i v Z;split
   ·exact Q4 (fe.1 _)
   ·rw[Q3 (fe.1 _) (by rw[GV Z];exact fe.2 _)]
  ·rfl
 case nilCheck x=>rw[he]
 case makeInterface t x=>simp only[kN];rw[he]
 case binOp op t x y ty=>rw[he.1,he.2]
 case unOp op t x=>rw[he]
 case convert src ag8 x=>
  cases dst with
  |none=>rfl
  |some o=>simp only;rw[<-he,R7 (fe _) (U o rfl)]
 case makeFunc fn first captured=>
  split
  ·rename_i g;have go:∀(r:List Operand),(∀x,x∈r->∀T,aI C st T x=aI C aa T x)->step.nk C st r=step.nk C aa r:=by
    intro r;induction r with
    |nil=>intro _;rfl
    |cons x r ih=>
     intro h;simp only[step.nk];rw[h x (by simp),ih fun x hx=>h x (List.mem_cons_of_mem _ hx)]
   rw[go _ he]
  ·rfl
 case makeSlice t l c=>
  rw[<-he.1,<-he.2];cases dst with
  |none=>rfl
  |some o=>
   cases h2:C.tt t<;>try rfl
   rename_i e ty bytes;simp only[C8,h2] at aM;have e1:=j9 (U o rfl);have e2:∀z n m,(C.tt e).zero=some z->po C.dY bytes o st ty n m z=po C.dY bytes o aa ty n m z:=fun z n m nF=>by
    simp only[nF] at aM;unfold po;rw[vu aM,zK aM,e1]
   generalize aI C st 0 l=zs;generalize aI C st 0 c=l3;have eV:∀n m:Int,(match(C.tt e).zero with
      |some z=>po C.dY bytes o st ty n m z
      |none=>.fail)=(match(C.tt e).zero with
      |some z=>po C.dY bytes o aa ty n m z
      |none=>.fail):=by
    intro n m;cases nF:(C.tt e).zero with
    |none=>rfl
    |some z=>exact e2 z n m nF
   rcases zs with(cy|_)|_<;>try rfl
   cases cy<;>try rfl
   rename_i d1;cases d1<;>try rfl
   rcases l3 with(en|_)|_<;>try rfl
   cases en<;>try rfl
   rename_i d2;cases d2<;>try rfl
   exact eV _ _
 case slice t x ce af zv=>
  cases zv with
  |some _=>rfl
  |none=>
   simp only;have e1:ce.map (aI C st 0)=ce.map (aI C aa 0):=by
    cases ce with
    |none=>rfl
    |some y=>simp only[Option.map_some];rw[he.2 y (by simp)]
   have e2:af.map (aI C st 0)=af.map (aI C aa 0):=by
    cases af with
    |none=>rfl
    |some y=>simp only[Option.map_some];rw[he.2 y (by simp)]
   rw[<-he.1,e1,e2];rw[Rj (fe.1 t)];split
   ·exact Q9 (fe.1 _)
   ·cases qP aa (aI C st t x) with
    |true=>
     cases dst with
     |none=>rfl
     |some d=>exact Q8 (fe.1 _) (U d rfl)
    |false=>exact Q7 (fe.1 _)
 case fieldAddr s x f=>rw[he]
 case indexAddr t x i=>
  rw[<-he.1,<-he.2];split
  ·rw[Qv (fe.1 _)]
  ·rw[Qw (fe.1 _)]
  ·rfl
 case index t x i=>rw[he.1,he.2]
 case extract t i=>rw[he]
 case call c=>
  obtain⟨adY,args,El⟩:=c;simp only;cases adY with
  |invoke r m=>rfl
  |value f=>
   simp only[kU,List.mem_append,List.mem_cons,List.not_mem_nil,or_false] at kX;simp only[xO,forall_const] at hb;simp only[List.mem_append,List.mem_cons,List.not_mem_nil,or_false] at he;have em:∀(xs:List Operand) (cQ:List TypeId),(∀x,x∈xs->∀T,aI C st T x=aI C aa T x)->gu C st xs cQ=gu C aa xs cQ:=by
    intro xs;induction xs with
    |nil=>intro cQ _;cases cQ<;>rfl
    |cons x xs ih=>
     intro cQ h;cases cQ with
     |nil=>simp only[gu];rw[h x (by simp),ih [] fun y aq=>h y (List.mem_cons_of_mem _ aq)]
     |cons T cQ=>simp only[gu];rw[h x (by simp),ih cQ fun y aq=>h y (List.mem_cons_of_mem _ aq)]
   have FA:∀(xs ys:List Operand) (cQ:List TypeId),(∀x,x∈xs->x∈ys)->∀o,o∈gL (gu C st xs cQ)->o∈m9 st ys:=by
    intro xs ys;induction xs with
    |nil=>intro cQ _ o a_;cases cQ<;>cases a_
    |cons x xs ih=>
     intro cQ h o a_;cases cQ with
     |nil=>
      simp only[gu,gL,List.mem_append] at a_;rcases a_ with a_|a_
      ·exact we (h x List.mem_cons_self) o a_
      ·exact ih [] (fun y aq=>h y (List.mem_cons_of_mem _ aq)) o a_
     |cons T cQ=>
      simp only[gu,gL,List.mem_append] at a_;rcases a_ with a_|a_
      ·exact we (h x List.mem_cons_self) o a_
      ·exact ih cQ (fun y aq=>h y (List.mem_cons_of_mem _ aq)) o a_
   have h1:ca st aa (ev st (aI C st 0 f).names):=kX _ fun o a_=>we (List.mem_append.2 (.inl (by simp))) o a_
   have h2:ca st aa (ev st (gL (gu C st args.toList El.toList))):=kX _ fun o a_=>FA _ _ _ (fun x hx=>List.mem_append.2 (.inr hx)) o a_
   have Y:=he f (.inl rfl) 0;have aP:=em args.toList El.toList fun x hx=>he x (.inr hx)
   cases dst with
   |none=>show ln C 0 st _ _=ln C 0 aa _ _;rw[<-Y,<-aP];exact FV hb h1 h2
   |some d=>show ln C d st _ _=ln C d aa _ _;rw[<-Y,<-aP];exact FV hb h1 h2
  |builtin b=>
   simp only[List.nil_append] at he fe;generalize args.toList=xs at he fe;generalize El.toList=c_;cases b<;>try rfl
   case append=>
    rcases dst with _|o
    ·rfl
    rcases xs with _|⟨s,_|⟨x,_|_⟩⟩<;>try rfl
    rcases c_ with _|⟨t,_|⟨u,_|_⟩⟩<;>try rfl
    have e1:=he s (by simp) t
    have e2:=he x (by simp) u
    dsimp only;cases C.tt t<;>try rfl
    cases C.tt u<;>try rfl
    all_goals dsimp only
    all_goals rw[<-e1,<-e2]
    all_goals first|(rw[Rk (fe x (by simp) _),QY (fe s (by simp) _) (fe x (by simp) _) (U o rfl),QW (fe s (by simp) _) (fe x (by simp) _) (U o rfl)];done)|exact QX (fe s (by simp) _) (U o rfl)
   case len=>
    rcases xs with _|⟨s,_|⟨x,_|_⟩⟩<;>try rfl
    rcases c_ with _|⟨t,_|⟨u,_|_⟩⟩<;>try rfl
    have e1:=he s (by simp) t
    dsimp only;rw[<-e1];exact SR (fe s (by simp) _)
   case max=>
    rcases xs with _|⟨s,_|⟨x,_|⟨z,_|⟨u,_|⟨v,_|_⟩⟩⟩⟩⟩<;>try rfl
    ·have e1:=he s (by simp) type
     have e2:=he x (by simp) type
     dsimp only;rw[<-e1,<-e2]
    ·have e1:=he s (by simp) type
     have e2:=he x (by simp) type
     have cf:=he z (by simp) type
     have eV:=he u (by simp) type
     have gx:=he v (by simp) type
     dsimp only;rw[<-e1,<-e2,<-cf,<-eV,<-gx]
   case min=>
    rcases xs with _|⟨s,_|⟨x,_|_⟩⟩<;>try rfl
    have e1:=he s (by simp) type
    have e2:=he x (by simp) type
    dsimp only;rw[<-e1,<-e2]
section
variable {P:Program}{J:World}{H:List Nat}{X:Nat->Prop}{B:Nat->Value}{st:ab}{tm:Array Value}{w:World}{D:Oper}
structure o9(w:World)(av:Nat->Prop)(B:Nat->Value)(o:Nat)(t:aB)(xs:List (den t))(k off:Nat)(x:den t)(u:aB)(ys:List (den u))(e:TypeId)(v0 nv:Value)(b1 cM bI bB:List Value):Prop where
 sn:B o=.tuple (v0::(b1++nv::cM)).toArray
 sj:(bb (B o)).Nodup
 row:rowAt w t.fc e (au t) v0 xs.length (bI++nv::bB)
 len:bI.length=k*au t+off
 d1:Deep w av (flat t (xs.take k)++(enc t x).take off) bI b1
 mid:∃bz O,(∀d,d∈flat u ys->d.plain=true)/\rowAt w u.fc bz (au u) nv ys.length O/\ch w av (flat u ys) O
 d2:Deep w av ((enc t x).drop (off+1)++flat t (xs.drop (k+1))) bB cM
theorem ad.YL(S:ad J H X B st tm w){o s k off:Nat}{t u:aB}{xs:List (den t)}{x:den t}{ys:List (den u)}(hl:look st.sites o=some (.deep s t xs))(hx:xs[k]? =some x)(hu:(enc t x)[off]? =some (.sl u ys)):
  ∃e v0 nv b1 cM bI bB,o9 w (al X B st.sites) B o t xs k off x u ys e v0 nv b1 cM bI bB:=by
 obtain⟨e,v0,ap,cs,aQ,dF,cW,kX⟩:=S.sites o _ hl;have ah:k<xs.length:=(List.getElem?_eq_some_iff.1 hx).1;have an:off<(enc t x).length:=(List.getElem?_eq_some_iff.1 hu).1;rw[fj] at an;obtain⟨d0,zg,nz⟩:=J3 (x:=x) an;rw[hu] at zg;cases zg;have oC:flat t xs=(flat t (xs.take k)++(enc t x).take off)++(.sl u ys::((enc t x).drop (off+1)++flat t (xs.drop (k+1)))):=by
  rw[A' t hx];conv=>lhs;rw[nz]
  simp only[List.append_assoc,List.cons_append]
 rw[oC] at kX;obtain⟨bI,OW,b1,hy,rfl,rfl,d1,d23⟩:=kX.inv;have cy:bI.length=k*au t+off:=by
  rw[d1.len,List.length_append,dD,List.length_take,List.length_take,fj,Nat.min_eq_left (Nat.le_of_lt ah),Nat.min_eq_left (Nat.le_of_lt an)]
 cases d23 with
 |row bW mx bz O am h hr k'=>exact⟨e,v0,_,b1,_,bI,_,aQ,dF,cW,cy,d1,⟨bz,O,am,h,hr⟩,k'⟩
 |leaf am h k'=>cases am
theorem o9.aaI{av:Nat->Prop}{o:Nat}{t:aB}{xs:List (den t)}{k off:Nat}{x:den t}{u:aB}{ys:List (den u)}{e:TypeId}{v0 nv:Value}{b1 cM bI bB:List Value}(N:o9 w av B o t xs k off x u ys e v0 nv b1 cM bI bB):
  (∀b,aZ nv=some b->b∈bb (B o))/\(∀b,aZ v0=some b->aZ nv≠some b)/\(∀n,n∈b1->∀b,aZ n=some b->aZ nv≠some b)/\∀n,n∈cM->∀b,aZ n=some b->aZ nv≠some b:=by
 have dF:=N.sj;rw[N.sn] at dF;simp only[bb,List.flatMap_cons,List.flatMap_append] at dF;obtain⟨a1,a2,a3⟩:=List.nodup_append.1 dF;obtain⟨aX,aG,bU⟩:=List.nodup_append.1 a2;obtain⟨agT,agS,cC⟩:=List.nodup_append.1 aG;refine⟨fun b hb=>by rw[N.sn];exact hj.2 (.inr ⟨nv,by simp,hb⟩),fun b hb hn=>?_,fun n hn b hb Z=>?_,fun n hn b hb Z=>?_⟩
 ·exact a3 b (by rw[hb];simp) b (List.mem_append.2 (.inr (List.mem_append.2 (.inl (by rw[hn];simp))))) rfl
 ·exact bU b (List.mem_flatMap.2 ⟨n,hn,by rw[hb];simp⟩) b (List.mem_append.2 (.inl (by rw[Z];simp))) rfl
 ·exact cC b (by rw[Z];simp) b (List.mem_flatMap.2 ⟨n,hn,by rw[hb];simp⟩) rfl
theorem GO{C:Ctx}{D:Oper}{dY:Nat}{v:aF}(h:tf C st D=some (dY,v)):∃x,D.op=.move x/\D.dst=some dY/\D.guard=none/\Nat.blt dY st.bl=true/\v=aI C st D.type x:=by
 unfold tf at h;split at h
 ·rename_i x d an U aJ;cases hb:Nat.blt d st.bl with
  |false=>rw[hb] at h;cases h
  |true=>
   rw[hb] at h;cases h;exact⟨x,an,U,aJ,hb,rfl⟩
 ·cases h
theorem Af{C:Ctx}{o1 gw o2:Oper}{q:ph}(h:q4 C st o1 gw o2=some q):∃T a e oL aX c g x,o1.op=.load T a/\o1.dst=some q.d1/\o1.guard=none/\o2.op=.call c/\o2.guard=none/\C.tt T=.slice e oL aX/\aI C st T a=.av (.ak (.er q.o q.s q.t q.k q.off))/\
  st.M q.o=some (.deep q.s q.t q.xs)/\c.callee=.value (.func g)/\c.args.toList=[.tmp q.d1,x]/\C.bJ g=some q.S/\aI C (st.nr q) 0 x=.av (.ak (.d (.int q.i q.n)))/\Nat.blt q.d1 st.bl=true/\
  tf C (st.set q.d1 (bQ .any)) gw=some (q.dY,q.v)/\q.dY≠q.d1:=by
 unfold q4 at h;split at h
 ·rename_i T a d1 c za h8 h7 kq oB;split at h
  ·rename_i o s u k off bo;split at h
   ·rename_i ag t xs g d2 x L hc jN;split at h
    ·rename_i dY v hm;split at h
     ·rename_i e oL aX i n S aS hx hd;cases hb:(d2.beq d1&&ag.beq s&&decide (t=u)&&Nat.blt d1 st.bl&&!dY.beq d1) with
      |false=>rw[hb] at h;cases h
      |true=>
       rw[hb] at h;simp only[cond_true,Option.some.injEq] at h;simp only[Bool.and_eq_true,decide_eq_true_eq,Bool.not_eq_true'] at hb;obtain⟨⟨⟨⟨q1,q2⟩,db⟩,kA⟩,nT⟩:=hb;have q1:=Nat.eq_of_beq_eq_true q1;have q2:=Nat.eq_of_beq_eq_true q2;subst q1 q2 db h;exact⟨T,a,e,oL,aX,c,g,x,za,h8,h7,kq,oB,aS,bo,L,hc,jN,hd,hx,kA,hm,fun e=>by
        have e:dY=_:=e;subst e;rw[Nat.beq_refl] at nT;cases nT⟩
     ·cases h
    ·cases h
   ·cases h
  ·cases h
 ·cases h
theorem Xp(S:ad J H X B st tm w){C:Ctx}{gw:Oper}{dY:Nat}{v:aF}(h:tf C st gw=some (dY,v)){K:Act->World->Prop}{Q:Exit->Act->World->Prop}
  (bA:∀dI,ad J H X B (st.set dY v) dI w->(∀t,t≠dY->dI.getD t undef=tm.getD t undef)->K ⟨dI,[]⟩ w):gw.wp P ⟨tm,[]⟩ w K Q:=by
 obtain⟨x,an,U,aJ,ba,rfl⟩:=GO h;refine nc (vv:=Act.eval ⟨tm,[]⟩ x) ?_ (bA _ ?_ fun t aC=>?_)
 ·unfold execOp;simp only[an,Sem.run_bind,Sem.run_pure]
 ·have l0:b2 st gw.dst=true:=by rw[U];exact ba
  have:=ad.cK (us:=[]) S l0 (cJ S C gw.type x);rw[U] at this ⊢;exact this
 ·rw[U];have:dY≠t:=fun e=>aC e.symm
  simp[da,Array.getD_eq_getD_getElem?,Array.getElem?_setIfInBounds_ne this]
theorem VR(S:ad J H X B st tm w){C:Ctx}(az:bG P C){o1 gw o2:Oper}{q:ph}(aD:q4 C st o1 gw o2=some q){x:den q.t}(hx:q.xs[q.k]? =some x){u:aB}{ys:List (den u)}(hu:(enc q.t x)[q.off]? =some (.sl u ys))
  {K:Act->World->Prop} {Q:Exit->Act->World->Prop}
  (bA:∀dI,ad J H X B (st.set q.d1 (bQ .any)) dI w->(∀t,t≠q.d1->dI.getD t undef=tm.getD t undef)->(∃e v0 b1 cM bI bB,o9 w (al X B st.sites) B q.o q.t q.xs q.k q.off x u ys e v0 (dI.getD q.d1 undef) b1 cM bI bB)->K ⟨dI,[]⟩ w):o1.wp P ⟨tm,[]⟩ w K Q:=by
 obtain⟨T,a,hg,oL,aX,c,g,l3,za,h8,h7,kq,oB,aS,bo,L,hc,jN,hd,EC,ba,k_,cF⟩:=Af aD;have hl:look st.sites q.o=some (.deep q.s q.t q.xs):=L;obtain⟨e,v0,nv,b1,cM,bI,bB,N⟩:=S.YL hl hx hu;have bi:=cJ S C T a;rw[bo] at bi;obtain⟨b,q0,Z,hr⟩:=bi;obtain⟨n,afs,bw⟩:=Ref.at hr hl rfl;rw[N.sn] at bw;replace bw:v0=.slice (some ⟨b,q0,none⟩) n afs:=bw
 have acT:q0=0:=by
  rcases N.row.2 with⟨h,_⟩|⟨cw,cap,cur,br,h1,_⟩
  ·rw[h] at bw;cases bw
  ·rw[h1] at bw;cases bw;rfl
 subst acT;rw[Nat.zero_add] at Z;have is:w.cell? ⟨b,q.k*au q.t+q.off,none⟩=some nv:=by
  rcases N.row.2 with⟨h,_⟩|⟨cw,cap,cur,br,h1,_,h2,_,_,_,Y⟩
  ·rw[h] at bw;cases bw
  ·rw[h1] at bw;cases bw;rw[cell_of_row w b _ cur e br h2];have:(cur.toList.take (q.xs.length*au q.t))[q.k*au q.t+q.off]? =some nv:=by
    rw[Y,List.getElem?_append_right (by rw[N.len];exact Nat.le_refl _),N.len,Nat.sub_self]
    rfl
   rw[List.getElem?_take] at this;split at this
   ·simpa using this
   ·cases this
 have bk:=az.tt T;rw[aS] at bk;have cz:=sv (P:=P) (w:=w) bk (by rintro h;cases h) ⟨b,q.k*au q.t+q.off,none⟩ [nv] rfl (fun j y aq=>by
  match j,aq with
  |0,aq=>
   simp only[List.getElem?_cons_zero,Option.some.injEq] at aq;subst aq;rw[gg,Nat.add_zero];exact is)
 have DK:(da tm o1.dst nv).getD q.d1 undef=nv:=by
  rw[h8];have:q.d1<tm.size:=by rw[S.bl];exact Nat.le_of_ble_eq_true ba
  simp[da,Array.getD_eq_getD_getElem?,this]
 refine nc (vv:=nv) ?_ (bA _ ?_ (fun t aC=>?_) ?_)
 ·unfold execOp;simp only[za,Instr.loadAt,Instr.sureAddr,Z,Sem.run_bind,Sem.run_pure,Result.andThen_ok,cz];rfl
 ·have U:b2 st o1.dst=true:=by rw[h8];exact ba
  have:=ad.cK (us:=[]) (v:=bQ .any) (vv:=nv) S U trivial;rw[h8] at this ⊢;exact this
 ·rw[h8];have:q.d1≠t:=fun e=>aC e.symm
  simp[da,Array.getD_eq_getD_getElem?,Array.getElem?_setIfInBounds_ne this]
 ·rw[DK];exact⟨e,v0,b1,cM,bI,bB,N⟩
theorem VQ{dI:Array Value}{C:Ctx}(az:bG P C){o1 gw o2:Oper}{q:ph}(aD:q4 C st o1 gw o2=some q)(S:ad J H X B (st.nr q) dI w){x:den q.t}(hx:q.xs[q.k]? =some x){u:aB}{ys:List (den u)}(hu:(enc q.t x)[q.off]? =some (.sl u ys))
  {e:TypeId} {v0:Value} {b1 cM bI bB:List Value} (N:o9 w (al X B st.sites) B q.o q.t q.xs q.k q.off x u ys e v0 (dI.getD q.d1 undef) b1 cM bI bB) {y:(q.S [.av (.ak (.fresh u ys)),.av (.ak (.d (.int q.i q.n)))]).F}
  (aq:(q.S [.av (.ak (.fresh u ys)),.av (.ak (.d (.int q.i q.n)))]).comp=some y) {d:aK} {bW:aB} {mx:List (den bW)} (h1:(q.S [.av (.ak (.fresh u ys)),.av (.ak (.d (.int q.i q.n)))]).eT y=[.ak (.d d)]) (h2:(q.S [.av (.ak (.fresh u ys)),.av (.ak (.d (.int q.i q.n)))]).dP y=[])
  (Y:(q.S [.av (.ak (.fresh u ys)),.av (.ak (.d (.int q.i q.n)))]).eC y=[.fresh bW mx]) {dd:den q.t} (eg:dec q.t (b' (enc q.t x) q.off [.sl bW mx])=some dd) (oC:d.hs=true) (fA:bW.ho=false) (U:b2 st o2.dst=true)
  {K:Act->World->Prop} {Q:Exit->Act->World->Prop}
  (bA:∀ax bX w',ad J H X ax (((st.nr q).cK o2.dst (one d) [(q.o,.deep q.s q.t (q.xs.set q.k dd))])) bX w'->K ⟨bX,[]⟩ w'):o2.wp P ⟨dI,[]⟩ w K Q:=by
 obtain⟨T,a,hg,oL,aX,c,g,l3,za,h8,h7,kq,oB,aS,bo,L,hc,jN,hd,EC,ba,k_,cF⟩:=Af aD;have hl:look (st.nr q).sites q.o=some (.deep q.s q.t q.xs):=L;obtain⟨nv,uA⟩:∃nv,dI.getD q.d1 undef=nv:=⟨_,rfl⟩;rw[uA] at N;have N:o9 w (al X B (st.nr q).sites) B q.o q.t q.xs q.k q.off x u ys e v0 nv b1 cM bI bB:=N;generalize yK:st.nr q=ej at S hl EC N bA;have l0:b2 ej o2.dst=true:=by rw[<-yK];exact U
 obtain⟨ay,ai,bn,cu⟩:=N.aaI;have ft:bL ej.sites q.o:=⟨_,hl,rfl⟩;have ah:q.k<q.xs.length:=(List.getElem?_eq_some_iff.1 hx).1;have an:q.off<au q.t:=by
  have:=(List.getElem?_eq_some_iff.1 hu).1;rwa[fj] at this
 have om:=cJ S C 0 l3;rw[EC] at om;have hint:Act.eval ⟨dI,[]⟩ l3=.int q.i q.n:=by
  have om:Rd w _ (.int q.i q.n) (Act.eval ⟨dI,[]⟩ l3):=om;generalize Act.eval ⟨dI,[]⟩ l3=v at om;cases om;rfl
 have k8:c.args.toList.map (Act.eval ⟨dI,[]⟩)=[nv,.int q.i q.n]:=by
  rw[jN];simp only[List.map_cons,List.map_nil,hint];have:Act.eval ⟨dI,[]⟩ (.tmp q.d1)=nv:=uA;rw[this]
 have cz:(execOp (Act.eval ⟨dI,[]⟩) o2).run P w=(callFunc g #[nv,.int q.i q.n]).run P w:=by
  have hf:Act.eval ⟨dI,[]⟩ (.func g)=.func (.func g) #[] #[]:=rfl;have vb:(#[]++c.args.map (Act.eval ⟨dI,[]⟩))++#[]=#[nv,.int q.i q.n]:=by
   apply Array.ext';simpa using k8
  unfold execOp;simp only[kq,resolve,hc,hf,Deferred.ofValue,Sem.run_bind,Sem.run_pure,Result.andThen_ok,invoke,vb]
 obtain⟨bz,O,ox,cW,c2⟩:=N.mid;obtain⟨dG,oF⟩:∃dG,(aZ nv).toList=dG:=⟨_,rfl⟩;have L3:∀b,b∈dG <-> aZ nv=some b:=fun b=>by rw[<-oF];simp
 obtain⟨X',mL⟩:∃X':Nat->Prop,∀b,X' b <-> (al X B ej.sites b/\b∉dG):=⟨_,fun b=>Iff.rfl⟩
 have JF:∀{av bE:Nat->Prop} {w:World} {t:aB} {ga:List (den t)} {vs:List Value},(∀d,d∈flat t ga->d.plain=true)->ch w av (flat t ga) vs->ch w bE (flat t ga) vs:=fun am hr=>⟨hr.1,fun j g1 g2=>by
  have rU:=am _ (List.getElem_mem g1);refine sL ?_ (hr.2 j g1 g2);generalize(flat _ _)[j]=vc at rU ⊢;cases vc<;>first|rfl|cases rU⟩
 have XE:ii w (fun b=>X' b\/b∈dG) [.av (.ak (.fresh u ys)),.av (.ak (.d (.int q.i q.n)))] [nv,.int q.i q.n] dG:=
  ⟨dG,[],by simp,⟨oF.symm,bz,O,cW,JF ox c2⟩,[],[],rfl,⟨rfl,.int _ _⟩,rfl⟩
 have aaA:∀b,X' b->b<w.heap.size:=fun b hb=>S.lt ((mL b).1 hb).1
 have ja:ir w dG X':=by
  obtain⟨g1,g2⟩:=S.j6;refine⟨g1,fun b hb h=>?_,fun b hb h=>(g2 b hb).1 ((mL b).1 h).1,fun b hb=>(g2 b hb).2⟩
  exact(g2 b hb).1 (.inr ⟨q.o,ft,ay b ((L3 b).1 h)⟩)
 have d':=az.bJ g q.S hd _ y aq w X' [nv,.int q.i q.n] dG XE (by rw[<-oF];cases aZ nv<;>simp) (fun b hb hx=>((mL b).1 hx).2 hb) aaA ja
 refine vN (vs:=[nv,.int q.i q.n]) cz d' ?_
 rintro v w' ⟨eK,dZ,rv,aY,e8,ib,rfl,agn,hm⟩;obtain⟨mP,z2,rfl,fQ,mK⟩:=e8;rw[h2] at fQ;rw[h1] at ib;rw[Y] at mK;have mG:eW [.av (.ak (.fresh u ys)),.av (.ak (.d (.int q.i q.n)))] [nv,.int q.i q.n]=[nv]:=by
  simp only[eW,bt.cells,fT,aw.o6,Bool.and_true,cond_false,cond_true,List.append_nil,Bool.true_and];exact Au (zM cW)
 rw[mG] at mK;have mK:gj w' (fun b=>X' b\/b∈mP++z2++dZ) [.fresh bW mx] [nv] z2:=mK.resolve_left fun h=>by cases h.1
 obtain⟨jz,e6,aM,⟨agI,e2,acp,ZF,_5⟩,agH⟩:=mK;match rv,ib with
 |[mS],⟨a1,a2,agp,js,EW⟩=>
 have js:a1=[]/\Rd w' _ d mS:=js;have adm:aw.ho (.d d)=false:=by cases d<;>first|rfl|cases oC
 have pK:∀av,Rd w' av d mS:=fun av=>sL adm js.2
 have yl:enc q.t dd=(enc q.t x).take q.off++.sl bW mx::(enc q.t x).drop (q.off+1):=by rw[nb _ _ _ eg,GG]
 have pr:flat q.t (q.xs.set q.k dd)=(flat q.t (q.xs.take q.k)++(enc q.t x).take q.off)++(.sl bW mx::((enc q.t x).drop (q.off+1)++flat q.t (q.xs.drop (q.k+1)))):=by
  rw[vM q.t ah,yl];simp only[List.append_assoc,List.cons_append]
 have yh:∀b,b<w.heap.size->aZ nv≠some b->w'.heap[b]? =w.heap[b]? :=fun b hb hn=>aY.block b hb fun h=>hn ((L3 b).1 h)
 have yE:∀b,b∈bb (B q.o)->b<w.heap.size:=fun b hb=>S.dL ft hb
 have ul:∀n,n∈b1\/n∈cM->∀b,aZ n=some b->b∈bb (B q.o):=fun n hn b hb=>by
  rw[N.sn];exact hj.2 (.inr ⟨n,by simp only[List.mem_append,List.mem_cons];exact hn.imp id .inr,hb⟩)
 have bC:=S.rE (o:=q.o) (bm:=.deep q.s q.t (q.xs.set q.k dd)) (nv:=B q.o) (w':=w') (ks:=[]) (K:=[q.o]) .nil (fun E=>by simp[keys];intro e;subst e;exact ft)
  (fun b hb cF=>yh b hb fun h=>cF q.o (by simp) (ay b h)) aY.os aY.tape aY.output aY.size rfl (fun M L=>by rw[hl] at L;cases L;exact .inr ⟨rfl,rfl⟩)
  (fun b hb=>⟨Nat.lt_of_lt_of_le (yE b hb) aY.size,.inl ⟨q.o,by simp,hb⟩⟩) (fun {bd ax} dR go=>?_)
 ·have De:(fun E=>if E=q.o then B q.o else B E)=B:=by funext E;by_cases e:E=q.o<;>simp[e]
  rw[De] at bC;exact bA B _ w' (ad.cK (us:=[(q.o,.deep q.s q.t (q.xs.set q.k dd))]) bC l0 (v:=one d) (pK _))
 ·have ju:∀{d v},Rd w (al X B ej.sites) d v->Rd _ (al X ax bd) d v:=hB go;refine⟨e,v0,b1++nv::cM,bI++nv::bB,dR.trans N.sn,by rw[dR];exact N.sj,?_,?_⟩
  ·rw[List.length_set];refine m3 N.row fun b hb=>yh b (yE b ?_) (ai b hb)
   rw[N.sn];exact hj.2 (.inl hb)
  ·rw[pr];refine(N.d1.map ju fun n hn b hb=>yh b (yE b (ul n (.inl hn) b hb)) (bn n hn b hb)).cK (.row bW mx e2 acp (z1 fA) ZF (JF (z1 fA) _5) (N.d2.map ju fun n hn b hb=>yh b (yE b (ul n (.inr hn) b hb)) (cu n hn b hb)))
end
def eG(r:Option Nat):Fence:={Fence.wide with round:=r}
abbrev gJ(r:Option Nat)(P:Program)(c:Code)(Q:Exit->Act->World->Prop)(a:Act)(w:World):Prop:=c.wpIn (eG r) 0 P Q a w
theorem yy(r:Option Nat)(f:FuncId):(eG r).fn f:=trivial
theorem Jr(r:Option Nat)(n:Nat):(eG r).room n:=fun _ h=>by simp[eG,Fence.wide] at h
theorem gJ.any{r:Option Nat}{P:Program}{c:Code}{Q:Exit->Act->World->Prop}{a:Act}{w:World}(h:gJ r P c Q a w)(n:Nat):c.wpIn (eG r) n P Q a w:=
 fun b k cs EL hb _=>h b k cs EL hb (Jr r _)
theorem gJ.of{r:Option Nat}{P:Program}{c:Code}{Q:Exit->Act->World->Prop}{a:Act}{w:World}{n:Nat}(h:c.wpIn (eG r) n P Q a w):gJ r P c Q a w:=
 fun b k cs EL hb _=>h b k cs EL hb (Jr r _)
theorem gJ.wp{P:Program}{c:Code}{Q:Exit->Act->World->Prop}{a:Act}{w:World}(h:gJ none P c Q a w):c.wp P Q a w:=(wpIn_wide (n:=0)).1 h
theorem S'{r:Option Nat}{n:Nat}{P:Program}{f:FuncId}{args:Array Value}{w:World}{R:Ending->World->Prop}(h:Calls P f args w R):CallsIn (eG r) n P f args w R:=by
 cases r with
 |none=>exact callsIn_wide.2 h
 |some l=>exact CallsIn.inRound l (callsIn_wide.2 h)
theorem T3{r:Option Nat}{n:Nat}{P:Program}{row:String}{args:Array Value}{w:World}{R:Value->World->Prop}(h:Rows P row args w R):RowsIn (eG r) n P row args w R:=by
 intro c cs _;obtain⟨v,w',hr,L⟩:=h c cs;exact⟨v,w',hr,stepsIn_wide.2 L⟩
theorem sM(tm:Array Value)(ds:List Deferred)(dst:Option Nat)(v:Value):(⟨tm,ds⟩:Act).put dst v=⟨da tm dst v,ds⟩:=by cases dst<;>rfl
theorem tv{P:Program}{D:Oper}{tm:Array Value}{w:World}{K:Act->World->Prop}(bA:∀a w,K a w->a.defers=[])(h:D.wp P ⟨tm,[]⟩ w K (fun _ _ _=>False))(r:Option Nat)(ds:List Deferred){Q:Exit->Act->World->Prop}:
  D.wpIn (eG r) 0 P ⟨tm,ds⟩ w (fun fq w'=>∃v,fq=⟨da tm D.dst v,ds⟩/\K ⟨da tm D.dst v,[]⟩ w') Q:=by
 refine⟨fun f _=>yy r f,?_⟩
 have bi:(⟨tm,ds⟩:Act).eval=(⟨tm,[]⟩:Act).eval:=by funext x;cases x<;>rfl
 rw[bi];unfold Oper.wp at h;have U:∀c,D.op≠.defer c:=by
  intro c an;have:(execOp (Act.eval ⟨tm,[]⟩) D)=(do let d <-resolve (Act.eval ⟨tm,[]⟩) c D.type;pure (.defer d)):=by
   unfold execOp;simp only[an]
  rw[this] at h;simp only[Sem.run_bind] at h;cases hr:(resolve (Act.eval ⟨tm,[]⟩) c D.type).run P w with
  |ok d w'=>
   rw[hr] at h;simp only[Result.andThen_ok,Sem.run_pure,Oper.upon] at h;have:=bA _ _ h;cases c9:D.dst<;>rw[c9] at this<;>simp[Act.put] at this
  |halt x w'=>
   rw[hr] at h;cases x<;>simp[Result.andThen,Oper.upon] at h
 rw[Oper.semAt_eq _ _ _ U];generalize(execOp (Act.eval ⟨tm,[]⟩) D).run P w=eT at h;have am:∀v,(⟨tm,ds⟩:Act).put D.dst v=⟨da tm D.dst v,ds⟩:=sM tm ds D.dst;have nJ:∀v,(⟨tm,[]⟩:Act).put D.dst v=⟨da tm D.dst v,[]⟩:=sM tm [] D.dst;cases eT with
 |ok x w'=>
  cases x with
  |value v=>simp only[Oper.upon,Oper.uponIn,nJ] at h ⊢;exact⟨v,am v,h⟩
  |skip=>simp only[Oper.upon,Oper.uponIn,nJ] at h ⊢;exact⟨undef,am _,h⟩
  |defer d=>
   simp only[Oper.upon] at h;have:=bA _ _ h;cases c9:D.dst<;>rw[c9] at this<;>simp[Act.put] at this
  |enter f args=>
   simp only[Oper.upon,Oper.uponIn] at h ⊢;refine⟨fun h=>by simp[eG,Fence.wide] at h,(S' h).mono fun e yY he=>?_⟩
   cases e with
   |returned v=>simp only[nJ] at he;exact⟨v,am v,he⟩
   |panicked c=>exact he.elim
   |outgrown=>obtain⟨a0,J,aD⟩:=he;exact aD.elim
  |row row args=>
   simp only[Oper.upon,Oper.uponIn] at h ⊢;refine⟨fun h=>by simp[eG,Fence.wide] at h,(T3 h).mono fun v yY he=>?_⟩
   simp only[nJ] at he;exact⟨v,am v,he⟩
  |_=>simp only[Oper.upon] at h
 |halt x w'=>
  cases x<;>simp only[Oper.upon] at h
def nj:List Oper->List Nat
 |[]=>[]
 |D::r=>D.dst.toList++nj r
def lm:Nat:=1000000000
def c1:Code->List Nat
 |.region _ ops _=>nj ops.toList
 |.seq a b|.cond _ a b=>c1 a++c1 b
 |.block _ a|.loop a=>c1 a
 |.rangeFunc _ ps a b=>lm::(ps.toList++(c1 a++c1 b))
 |_=>[]
def hT:Code->Bool
 |.seq a b|.cond _ a b=>hT a&&hT b
 |.block _ a|.loop a=>hT a
 |.rangeFunc _ _ _ _=>false
 |_=>true
def mark(aK:Nat):Deferred:={target:=.collected aK,args:=#[]}
structure h3(J:World)(H:List Nat)(X:Nat->Prop)(cj:World)(dX:List Nat)(di:Nat->Prop):Prop where
 cB:∀w,Fr dX cj w->Fr H J w
 cc:∀b,(b∈dX\/cj.heap.size<=b)->(b∈H\/J.heap.size<=b)
 x:∀b,X b->di b
structure Marks(J:World)(dC:List Nat)(cj:World)(dX:List Nat)(di:Nat->Prop):Prop where
 nodup:dC.Nodup
 new:∀aK,aK∈dC->J.heap.size<=aK
 gG:∀aK,aK∈dC->cj.heap[aK]? =some (.deferred (some []))/\aK∉dX/\di aK
def At(J:World)(H:List Nat)(X:Nat->Prop)(ds:List Deferred)(ey:Array Value)(W:List Nat)(st:ab)(a:Act)(w:World):Prop:=
 ∃cj dX di B dC,h3 J H X cj dX di/\Marks J dC cj dX di/\(a.defers=dC.map mark++ds/\(lm∉W->dC=[]))/\ad cj dX di B st a.tmps w/\∀t,t∉W->a.tmps.getD t undef=ey.getD t undef
def fW(J:World)(H:List Nat)(X:Nat->Prop)(ds:List Deferred)(ey:Array Value)(W:List Nat):Out->Exit->Act->World->Prop
 |.norm st,.normal,a,w=>At J H X ds ey W st a w
 |.exit id st,.exit iy,a,w=>id=iy/\At J H X ds ey W st a w
 |.ret st,.ret,a,w=>At J H X ds ey W st a w
 |_,_,_,_=>False
theorem h3.refl(J:World)(H:List Nat)(X:Nat->Prop):h3 J H X J H X:=⟨fun _ h=>h,fun _ h=>h,fun _ h=>h⟩
theorem h3.trans{J cj w2:World}{H dX lf:List Nat}{X di dA:Nat->Prop}(h:h3 J H X cj dX di)(k:h3 cj dX di w2 lf dA):h3 J H X w2 lf dA:=
 ⟨fun w hw=>h.cB w (k.cB w hw),fun b hb=>h.cc b (k.cc b hb),fun b hb=>k.x b (h.x b hb)⟩
theorem Marks.nil(J cj:World)(H:List Nat)(X:Nat->Prop):Marks J [] cj H X:=⟨List.nodup_nil,fun _ h=>by simp at h,fun _ h=>by simp at h⟩
theorem Marks.lt{J cj:World}{H:List Nat}{X:Nat->Prop}{dC:List Nat}(h:Marks J dC cj H X){aK:Nat}(eF:aK∈dC):aK<cj.heap.size:=by
 have:=(h.gG aK eF).1;exact(Array.getElem?_eq_some_iff.1 this).1
theorem Marks.trans{J cj w2:World}{H dX lf:List Nat}{X di dA:Nat->Prop}{dC zr:List Nat}(hb:h3 J H X cj dX di)(h:Marks J dC cj dX di)(k:h3 cj dX di w2 lf dA)(m:Marks cj zr w2 lf dA):
  Marks J (zr++dC) w2 lf dA:=by
 have hf:Fr dX cj w2:=k.cB w2 (Fr.refl _ _);refine⟨List.nodup_append.2 ⟨m.nodup,h.nodup,fun a bo b hb e=>?_⟩,fun aK eF=>?_,fun aK eF=>?_⟩
 ·subst e;have h1:=m.new a bo;have h2:=h.lt hb;omega
 ·rcases List.mem_append.1 eF with eF|eF
  ·have h1:=m.new aK eF;have h2:Fr H J cj:=hb.cB cj (Fr.refl _ _);have:=h2.size;omega
  ·exact h.new aK eF
 ·rcases List.mem_append.1 eF with eF|eF
  ·exact m.gG aK eF
  ·obtain⟨h1,h2,Y⟩:=h.gG aK eF;have ba:=h.lt eF;refine⟨(hf.block aK ba h2).trans h1,fun aP=>?_,k.x aK Y⟩
   rcases k.cc aK (.inl aP) with bq|bq
   ·exact h2 bq
   ·omega
section
variable {J:World}{H:List Nat}{X:Nat->Prop}{ds:List Deferred}{ey:Array Value}{W:List Nat}
theorem At.of{B:Nat->Value}{st:ab}{tm:Array Value}{w:World}(S:ad J H X B st tm w)(aC:∀t,t∉W->tm.getD t undef=ey.getD t undef):At J H X ds ey W st ⟨tm,ds⟩ w:=
 ⟨J,H,X,B,[],h3.refl _ _ _,Marks.nil _ _ _ _,⟨rfl,fun _=>rfl⟩,S,aC⟩
theorem At.mono{c5:List Nat}(h:∀t,t∈W->t∈c5){st:ab}{a:Act}{w:World}(k:At J H X ds ey W st a w):At J H X ds ey c5 st a w:=by
 obtain⟨cj,dX,di,B,dC,h1,h2,Y,aP,bq⟩:=k;exact⟨cj,dX,di,B,dC,h1,h2,⟨Y.1,fun hn=>Y.2 fun ae=>hn (h _ ae)⟩,aP,fun t aC=>bq t fun ae=>aC (h t ae)⟩
theorem fW.mono{c5:List Nat}(h:∀t,t∈W->t∈c5):∀{D:Out} {e:Exit} {a:Act} {w:World},fW J H X ds ey W D e a w->fW J H X ds ey c5 D e a w:=by
 intro D e a w k;cases D<;>cases e<;>first|exact At.mono h k|exact⟨k.1,At.mono h k.2⟩|exact k.elim
theorem At.trans{cj:World}{dX:List Nat}{di:Nat->Prop}{dC:List Nat}{dn jc:List Nat}{dI:Array Value}(hb:h3 J H X cj dX di)(hm:Marks J dC cj dX di)(hr:lm∉dn->dC=[])(aC:∀t,t∉dn->dI.getD t undef=ey.getD t undef)
  {st:ab} {a:Act} {w:World} (k:At cj dX di (dC.map mark++ds) dI jc st a w):At J H X ds ey (dn++jc) st a w:=by
 obtain⟨w2,lf,dA,B,zr,h1,h2,Y,aP,bq⟩:=k;refine⟨w2,lf,dA,B,zr++dC,hb.trans h1,hm.trans hb h1 h2,⟨by rw[Y.1,List.map_append,List.append_assoc],fun hn=>by
  simp only[List.mem_append,not_or] at hn;rw[Y.2 hn.2,hr hn.1];rfl⟩,aP,fun t EI=>?_⟩
 simp only[List.mem_append,not_or] at EI;rw[bq t EI.2,aC t EI.1]
theorem fW.trans{cj:World}{dX:List Nat}{di:Nat->Prop}{dC:List Nat}{dn jc:List Nat}{dI:Array Value}(hb:h3 J H X cj dX di)(hm:Marks J dC cj dX di)(hr:lm∉dn->dC=[])(aC:∀t,t∉dn->dI.getD t undef=ey.getD t undef)
  {D:Out} {e:Exit} {a:Act} {w:World} (k:fW cj dX di (dC.map mark++ds) dI jc D e a w):fW J H X ds ey (dn++jc) D e a w:=by
 cases D<;>cases e<;>first|exact At.trans hb hm hr aC k|exact⟨k.1,At.trans hb hm hr aC k.2⟩|exact k.elim
end
def bx(P:Program)(c:Code)(f:ha):Prop:=
 ∀r,r=none\/hT c=true->∀J H X st y,(f st).comp=some y->∀B tm w ds,ad J H X B st tm w->gJ r P c (fW J H X ds tm (c1 c) ((f st).out y)) ⟨tm,ds⟩ w
def hH(P:Program)(C:hI):Code->Nat->Prop
 |.seq a b,p=>(∀f,C.nE p=some f->bx P (.seq a b) f)/\hH P C a (2*p)/\hH P C b (2*p+1)
 |.cond c a b,p=>(∀f,C.nE p=some f->bx P (.cond c a b) f)/\hH P C a (2*p)/\hH P C b (2*p+1)
 |.block id a,p=>(∀f,C.nE p=some f->bx P (.block id a) f)/\hH P C a (2*p)
 |c,p=>∀f,C.nE p=some f->bx P c f
def fX:Code->Nat->List (Nat×Code)
 |.seq a b,p=>(p,.seq a b)::(fX a (2*p)++fX b (2*p+1))
 |.cond c a b,p=>(p,.cond c a b)::(fX a (2*p)++fX b (2*p+1))
 |.block id a,p=>(p,.block id a)::fX a (2*p)
 |c,p=>[(p,c)]
theorem I2{P:Program}{C:hI}:∀(c:Code) (p:Nat),(∀q fF,(q,fF)∈fX c p->∀f,C.nE q=some f->bx P fF f)->hH P C c p:=by
 intro c;induction c with
 |seq a b lN pz=>
  intro p h;simp only[fX] at h;exact⟨h p _ List.mem_cons_self,lN _ fun q fF hm=>h q fF (List.mem_cons_of_mem _ (List.mem_append.2 (.inl hm))),pz _ fun q fF hm=>h q fF (List.mem_cons_of_mem _ (List.mem_append.2 (.inr hm)))⟩
 |cond D a b lN pz=>
  intro p h;simp only[fX] at h;exact⟨h p _ List.mem_cons_self,lN _ fun q fF hm=>h q fF (List.mem_cons_of_mem _ (List.mem_append.2 (.inl hm))),pz _ fun q fF hm=>h q fF (List.mem_cons_of_mem _ (List.mem_append.2 (.inr hm)))⟩
 |block id a lN=>
  intro p h;simp only[fX] at h;exact⟨h p _ List.mem_cons_self,lN _ fun q fF hm=>h q fF (List.mem_cons_of_mem _ hm)⟩
 |_=>intro p h;exact h p _ (by simp[fX])
section
variable {P:Program}{J:World}{H:List Nat}{X:Nat->Prop}{B:Nat->Value}{st:ab}{tm:Array Value}{w:World}
theorem ad.n8(S:ad J H X B st tm w){t:Nat}{v:aF}(Z:b4 B st.sites w (al X B st.sites) v (tm.getD t undef)):ad J H X B (st.set t v) tm w:=by
 refine⟨S.bl,fun u=>?_,S.sites,S.df,S.cc,S.frame,S.old,S.fO⟩
 rw[ab.B5];by_cases h:t=u
 ·subst h;simp only[if_true];exact Z
 ·simp only[h,if_false];exact S.cV u
variable {R:Type}{C:Ctx}{ops:Array Oper}
theorem Hg(S:ad J H X B st tm w)(az:bG P C){D:Oper}{K:ab->Option R}{r:R}(h:kc C st D K=some r){N:Act->World->Prop}{Q:Exit->Act->World->Prop}
  (bA:∀aa ax bX w',K aa=some r->ad J H X ax aa bX w'->N ⟨bX,[]⟩ w'):D.wp P ⟨tm,[]⟩ w N Q:=by
 unfold kc at h;cases U:b2 st D.dst with
 |false=>simp[U] at h
 |true=>
  simp only[U,cond_true] at h;have L:=WI S az U;cases hc:(step C st D).comp with
  |none=>simp[hc] at h
  |some y=>
   simp only[hc,Option.bind_some] at h;cases ah:(step C st D).pT y with
   |false=>simp[ah] at h
   |true=>
    simp only[ah,cond_true] at h;exact L y hc ah N Q fun ax bX w' bO=>bA _ ax bX w' h bO
theorem Ss{T e:TypeId}(h:P.underlying T=some (.slice e))(a:Option Addr)(n c:Nat)(neg:Bool):
  (binOp (if neg then .neq else .eql) T (.slice a n c) (.slice none 0 0)).run P w=.ok (.bool (if neg then !a.isNone else a.isNone)) w:=by
 have e:(Op.equal T (.slice a n c) (.slice none 0 0)).run P w=.ok a.isNone w:=by
  have key:∀d:Nat,(Op.equalIn (d+1) T (.slice a n c) (.slice none 0 0)).run P w=.ok a.isNone w:=fun d=>by cases a<;>simp[Op.equalIn,run_underlying h]
  exact key 9999
 cases neg
 ·show((do pure (.bool (<-Op.equal T (.slice a n c) (.slice none 0 0)))):Sem Value).run P w=_
  simp only[Sem.run_bind,e,Result.andThen_ok,Sem.run_pure];rfl
 ·show((do pure (.bool (!(<-Op.equal T (.slice a n c) (.slice none 0 0))))):Sem Value).run P w=_
  simp only[Sem.run_bind,e,Result.andThen_ok,Sem.run_pure];rfl
theorem Qr{op:BinOp}{T:TypeId}{x y:Operand}{a b:Option Addr}{n c li fF:Nat}:(eqGuard op T x y (.slice a n c) (.slice b li fF)).run P w=.ok () w:=by
 unfold eqGuard;cases op<;>rfl
theorem SH{D:Oper}{t:aB}{xs:List (den t)}{neg:Bool}(h:CH C st D=some (⟨t,xs⟩,neg)):∃T x mQ e ty bytes,D.op=.binOp (if neg then .neq else .eql) T x (.const (.slice none 0 0)) mQ/\C.tt T=.slice e ty bytes/\aI C st T x=.av (.ak (.d (.sl t xs))):=by
 unfold CH at h;split at h
 ·rename_i op T x mQ an;split at h
  ·rename_i e ty bytes aS;split at h
   ·split at h
    ·rename_i be hv hx;cases h;exact⟨T,x,mQ,e,ty,bytes,an,aS,hx⟩
    ·cases h
   ·split at h
    ·rename_i be hv hx;cases h;exact⟨T,x,mQ,e,ty,bytes,an,aS,hx⟩
    ·cases h
   ·cases h
  ·cases h
 ·cases h
theorem QG{t:aB}{xs:List (den t)}{a b:Option R}{r:R}(h:sG xs a b=some r):b=some r/\(xs=[]->a=some r):=by
 unfold sG at h;split at h
 ·rename_i uQ;exact⟨h,fun he=>(uQ he).trans h⟩
 ·cases h
theorem Vq(S:ad J H X B st tm w)(az:bG P C){D:Oper}{K:ab->Option R}{r:R}(h:tu C st D K=some r){N:Act->World->Prop}{Q:Exit->Act->World->Prop}
  (bA:∀aa ax bX w',K aa=some r->ad J H X ax aa bX w'->N ⟨bX,[]⟩ w'):D.wp P ⟨tm,[]⟩ w N Q:=by
 unfold tu at h;split at h
 ·rename_i t xs neg hn;cases U:b2 st D.dst with
  |false=>simp[U] at h
  |true=>
   simp only[U,cond_true] at h;obtain⟨h2,h1⟩:=QG h;obtain⟨T,x,mQ,e,ty,bytes,an,aS,hx⟩:=SH hn;have L:=cJ S C T x;rw[hx] at L;have bk:=az.tt T;rw[aS] at bk;have run:∀{a:Option Addr} {n c:Nat},Act.eval ⟨tm,[]⟩ x=.slice a n c->(execOp (Act.eval ⟨tm,[]⟩) D).run P w=.ok (.value (.bool (if neg then !a.isNone else a.isNone))) w:=by
    intro a n c Z;unfold execOp;have hc:Act.eval ⟨tm,[]⟩ (.const (.slice none 0 0))=.slice none 0 0:=rfl;simp only[an,Z,hc,Sem.run_bind,Qr,Ss bk.1.1,Result.andThen_ok,Sem.run_pure]
   have fin:∀b:Bool,(execOp (Act.eval ⟨tm,[]⟩) D).run P w=.ok (.value (.bool b)) w->K (st.cK D.dst (one (.bool b)) [])=some r->D.wp P ⟨tm,[]⟩ w N Q:=by
    intro b hr ah;refine nc hr (bA _ _ _ _ ah (ad.cK (us:=[]) S U ?_));exact Rd.bool b
   have L:Rd w (al X B st.sites) (.sl t xs) (Act.eval ⟨tm,[]⟩ x):=L;generalize iv:Act.eval ⟨tm,[]⟩ x=v at L;cases L with
   |nil=>
    have:=run iv;cases neg
    ·exact fin true this (h1 rfl)
    ·exact fin false this (h1 rfl)
   |sl t xs a cap cs n ff hcap hb hl hc hr=>
    have:=run iv;cases neg
    ·exact fin false this h2
    ·exact fin true this h2
 ·exact Hg S az h bA
theorem TV(S:ad J H X B st tm w){D:Oper}{K:ab->Option R}{r:R}(h:qL st D K=some r){N:Act->World->Prop}
  (bA:∀aa ax bX w',K aa=some r->ad J H X ax aa bX w'->N ⟨bX,[]⟩ w'):N ((⟨tm,[]⟩:Act).put D.dst undef) w:=by
 unfold qL at h;cases U:b2 st D.dst with
 |false=>simp[U] at h
 |true=>
  simp only[U,cond_true] at h;have:(⟨tm,[]⟩:Act).put D.dst undef=⟨da tm D.dst undef,[]⟩:=by cases D.dst<;>rfl
  rw[this];exact bA _ _ _ _ h (ad.cK (us:=[]) S U rfl)
theorem n4{tm:Array Value}{dst:Option Nat}{v:Value}{t:Nat}(h:t∉dst.toList):(da tm dst v).getD t undef=tm.getD t undef:=by
 cases dst with
 |none=>rfl
 |some d=>
  have:d≠t:=fun e=>h (by simp[e])
  simp[da,Array.getD_eq_getD_getElem?,Array.getElem?_setIfInBounds_ne this]
variable {rn:Option Nat}{ds:List Deferred}
theorem AN(S:ad J H X B st tm w)(az:bG P C){D:Oper}{K:ab->Option R}{r:R}(h:tu C st D K=some r){N:Act->World->Prop}{Q:Exit->Act->World->Prop}
  (bA:∀aa ax bX w',K aa=some r->ad J H X ax aa bX w'->(∀t,t∉D.dst.toList->bX.getD t undef=tm.getD t undef)->N ⟨bX,ds⟩ w'):D.wpIn (eG rn) 0 P ⟨tm,ds⟩ w N Q:=by
 refine Oper.wpIn_mono ?_ (tv (K:=fun a w=>a.defers=[]/\∃aa ax,K aa=some r/\ad J H X ax aa a.tmps w) (fun _ _ h=>h.1) (Vq S az h fun aa ax bX w' ah bO=>⟨rfl,aa,ax,ah,bO⟩) rn ds)
 rintro a w' ⟨v,rfl,_,aa,ax,ah,bO⟩;exact bA aa ax _ w' ah bO fun t aC=>n4 aC
theorem sE(S:ad J H X B st tm w)(az:bG P C){D:Oper}{K:ab->Option R}{r:R}(h:kc C st D K=some r){N:Act->World->Prop}{Q:Exit->Act->World->Prop}
  (bA:∀aa ax bX w',K aa=some r->ad J H X ax aa bX w'->(∀t,t∉D.dst.toList->bX.getD t undef=tm.getD t undef)->N ⟨bX,ds⟩ w'):D.wpIn (eG rn) 0 P ⟨tm,ds⟩ w N Q:=by
 refine Oper.wpIn_mono ?_ (tv (K:=fun a w=>a.defers=[]/\∃aa ax,K aa=some r/\ad J H X ax aa a.tmps w) (fun _ _ h=>h.1) (Hg S az h fun aa ax bX w' ah bO=>⟨rfl,aa,ax,ah,bO⟩) rn ds)
 rintro a w' ⟨v,rfl,_,aa,ax,ah,bO⟩;exact bA aa ax _ w' ah bO fun t aC=>n4 aC
theorem vx(S:ad J H X B st tm w){D:Oper}{K:ab->Option R}{r:R}(h:qL st D K=some r){N:Act->World->Prop}
  (bA:∀aa ax bX w',K aa=some r->ad J H X ax aa bX w'->(∀t,t∉D.dst.toList->bX.getD t undef=tm.getD t undef)->N ⟨bX,ds⟩ w'):N ((⟨tm,ds⟩:Act).put D.dst undef) w:=by
 rw[sM];refine TV (N:=fun a w=>∀t0,a.tmps=t0->t0=da tm D.dst undef->N ⟨t0,ds⟩ w) S h (fun aa ax bX w' ah bO t0 e1 e2=>?_) (da tm D.dst undef) (by rw[sM]) rfl
 subst e1;exact bA aa ax _ w' ah bO fun t aC=>by have e2:bX=da tm D.dst undef:=e2;rw[e2];exact n4 aC
theorem RL{D:Oper}{r:List Oper}{K:ab->Option R}{y:R}(h:mg C ops (D::r) st K=some y):s8 C ops st D (fun aa=>mg C ops r aa K)=some y\/
  ∃gw o2 de q,r=gw::o2::de/\q4 C st D gw o2=some q/\I4 st o2 q (fun aa=>mg C ops de aa K)=some y:=by
 match r,h with
 |[],h=>exact .inl h
 |[o2],h=>exact .inl h
 |gw::o2::de,h=>
  simp only[mg] at h;split at h
  ·rename_i q aD;exact .inr ⟨gw,o2,de,q,rfl,aD,h⟩
  ·exact .inl h
theorem T2(az:bG P C){r:R}{W:List Nat}:∀(n k:Nat),ops.size=k+n->(∀D,D∈ops.toList.drop k->∀t,t∈D.dst.toList->t∈W)->∀(st:ab) (B:Nat->Value) (tm:Array Value) (w:World) (K:ab->Option R) (Q:Exit->Act->World->Prop),ad J H X B st tm w->
  mg C ops (ops.toList.drop k) st K=some r->(∀aa ax bX w',K aa=some r->ad J H X ax aa bX w'->(∀t,t∉W->bX.getD t undef=tm.getD t undef)->Q .normal ⟨bX,ds⟩ w')->wpOpsIn (eG rn) 0 P ops Q (List.range' k n) ⟨tm,ds⟩ w:=by
 intro n;induction n using Nat.strongRecOn with
 |ind n ih=>
 intro k ah j5 st B tm w K Q S h bA;match n,ih,ah with
 |0,ih,ah=>
  rw[List.drop_eq_nil_of_le (by simp;omega)] at h
  exact bA st B tm w h S fun _ _=>rfl
 |n+1,ih,ah=>
  have ba:k<ops.size:=by omega
  have an:ops[k]? =some ops[k]:=Array.getElem?_eq_getElem ba;have ZN:ops.toList.drop k=ops[k]::ops.toList.drop (k+1):=by
   rw[List.drop_eq_getElem_cons (by simpa using ba)];simp
  rw[ZN] at h j5;rw[show List.range' k (n+1)=k::List.range' (k+1) n from rfl]
  simp only[wpOpsIn,an];rcases RL h with h|⟨gw,o2,de,q,pJ,aD,h⟩
  rotate_left
  ·-- three at agh
   have jn:k+1<ops.size/\k+2<ops.size:=by
    have:=congrArg List.length pJ;simp at this;omega
   have kq:ops[k+1]? =some (ops[k+1]'jn.1):=Array.getElem?_eq_getElem jn.1;have Ox:ops[k+2]? =some (ops[k+2]'jn.2):=Array.getElem?_eq_getElem jn.2;have YT:ops.toList.drop (k+1)=(ops[k+1]'jn.1)::(ops[k+2]'jn.2)::ops.toList.drop (k+3):=by
    rw[List.drop_eq_getElem_cons (by simpa using jn.1),List.drop_eq_getElem_cons (by simpa using jn.2)];simp
   rw[YT] at pJ j5;obtain⟨e1,EM⟩:=List.cons.inj pJ;obtain⟨e2,cf⟩:=List.cons.inj EM;subst e1 e2 cf;obtain⟨li,rfl⟩:∃li,n=li+2:=⟨n-2,by omega⟩
   have zi:=j5 _ List.mem_cons_self;have OJ:=j5 _ (List.mem_cons_of_mem _ List.mem_cons_self);have Ml:=j5 _ (List.mem_cons_of_mem _ (List.mem_cons_of_mem _ List.mem_cons_self));have uR:=fun D an=>j5 D (List.mem_cons_of_mem _ (List.mem_cons_of_mem _ (List.mem_cons_of_mem _ an)))
   generalize(ops[k+1]'jn.1)=gw at aD OJ kq;generalize(ops[k+2]'jn.2)=o2 at h aD Ml Ox;generalize ops[k]=D at aD zi ⊢;obtain⟨_,_,_,_,_,_,_,_,_,h8,h7,_,oB,_,_,_,_,_,_,_,_,k_,cF⟩:=Af aD;obtain⟨_,_,agL,adi,_,_⟩:=GO k_;rw[if_pos (by simp[Region.wanted,h7])]
   obtain⟨x,hx,h⟩:=Option.bind_eq_some_iff.1 h;split at h
   ·rename_i u ys hu;obtain⟨y,aq,h⟩:=Option.bind_eq_some_iff.1 h;unfold Ks at h;split at h
    ·rename_i d bW mx h1 h2 Y;split at h
     ·rename_i dd eg;cases hb:(d.hs&&!bW.ho&&b2 st o2.dst) with
      |false=>rw[hb] at h;cases h
      |true=>
       rw[hb] at h;simp only[cond_true] at h;simp only[Bool.and_eq_true,Bool.not_eq_true'] at hb;obtain⟨⟨aX,aG⟩,bU⟩:=hb;refine Oper.wpIn_mono ?_ (tv (K:=fun a cj=>a.defers=[]/\cj=w/\ad J H X B (st.set q.d1 (bQ .any)) a.tmps w/\(∀t,t≠q.d1->a.tmps.getD t undef=tm.getD t undef)/\
        ∃e v0 b1 cM bI bB,o9 w (al X B st.sites) B q.o q.t q.xs q.k q.off x u ys e v0 (a.tmps.getD q.d1 undef) b1 cM bI bB) (fun _ _ h=>h.1) (VR S az aD hx hu fun dI q1 q2 db=>⟨rfl,rfl,q1,q2,db⟩) rn ds)
       rintro a cj ⟨v,rfl,_,rfl,cY,kept,e,v0,b1,cM,bI,bB,N⟩;rw[show List.range' (k+1) (li+2)=(k+1)::(k+2)::List.range' (k+3) li from rfl]
       simp only[wpOpsIn,kq,Ox];rw[if_pos (by simp[Region.wanted,adi])]
       refine Oper.wpIn_mono ?_ (tv (K:=fun a w2=>a.defers=[]/\w2=cj/\ad J H X B (st.nr q) a.tmps cj/\(∀t,t≠q.dY->a.tmps.getD t undef=(da tm D.dst v).getD t undef)) (fun _ _ h=>h.1) (Xp cY k_ fun dI q1 q2=>⟨rfl,rfl,q1,q2⟩) rn ds)
       rintro a w2 ⟨mS,rfl,_,rfl,aed,ZA⟩;rw[if_pos (by simp[Region.wanted,oB])]
       rw[<-ZA q.d1 (fun e=>cF e.symm)] at N
       refine Oper.wpIn_mono ?_ (tv (K:=fun a cj=>a.defers=[]/\∃ax,ad J H X ax (((st.nr q).cK o2.dst (one d) [(q.o,.deep q.s q.t (q.xs.set q.k dd))])) a.tmps cj) (fun _ _ h=>h.1)
        (VQ az aD aed hx hu N aq h1 h2 Y eg aX aG bU fun ax bX w' bO=>⟨rfl,ax,bO⟩) rn ds)
       rintro a iE ⟨v2,rfl,_,ax,gd⟩;refine ih li (by omega) (k+3) (by omega) uR _ ax _ iE K Q gd h fun py f_ my aeW h5 iH uw=>bA py f_ my aeW h5 iH fun t pG=>?_
       rw[uw t pG,n4 fun ae=>pG (Ml t ae),n4 fun ae=>pG (OJ t ae)]
       exact n4 fun ae=>pG (zi t ae)
     ·cases h
    ·cases h
   ·cases h
  have zi:=j5 _ List.mem_cons_self;have uR:=fun D an=>j5 D (List.mem_cons_of_mem _ an)
  have next:∀aa ax bX w',mg C ops (ops.toList.drop (k+1)) aa K=some r->ad J H X ax aa bX w'->(∀t,t∉(ops[k]).dst.toList->bX.getD t undef=tm.getD t undef)->wpOpsIn (eG rn) 0 P ops Q (List.range' (k+1) n) ⟨bX,ds⟩ w':=
   fun aa ax bX w' ae bO aC=>ih n (by omega) (k+1) (by omega) uR aa ax bX w' K Q bO ae fun py f_ my w2 h5 gd uw=>bA py f_ my w2 h5 gd fun t pG=>(uw t pG).trans (aC t fun ae=>pG (zi t ae))
  generalize ops[k]=D at h next ⊢
  have nX:∀f,D.about P w (Act.eval ⟨tm,ds⟩)=some f->(eG rn).fn f:=fun f _=>yy rn f
  unfold s8 at h;cases aJ:D.guard with
  |none=>
   simp only[aJ] at h;rw[if_pos (by simp[Region.wanted,aJ])]
   exact AN S az h next
  |some Fw=>
   obtain⟨j,want⟩:=Fw;simp only[aJ] at h;have hw:Region.wanted D (yielded ops tm)=(yielded ops tm j==some want):=by simp[Region.wanted,aJ]
   cases bF:(ops[j]?).bind (·.dst) with
   |none=>simp[bF] at h
   |some t=>
    simp only[bF] at h;have iN:=S.cV t;split at h
    ·rename_i b hb;rw[hb] at iN;have Z:=jf iN;have aq:yielded ops tm j=some b:=by
      have aC:t<tm.size:=by
       rcases Nat.lt_or_ge t tm.size with ae|ae
       ·exact ae
       ·simp[Array.getD,Nat.not_lt.2 ae,undef] at Z
      have:tm[t]? =some (.bool b):=by
       rw[Array.getElem?_eq_getElem aC];simpa[Array.getD,aC] using Z
      simp[yielded,bF,this]
     rw[aq] at hw;have go:∀a8,b=a8->ad J H X B (st.set t (one (.bool a8))) tm w:=fun a8 e=>S.n8 (by rw[Z,e];exact .bool _)
     cases b<;>cases want<;>simp only[cond_true,cond_false,Bool.not_true,Bool.not_false] at h
     ·rw[if_pos (by rw[hw];rfl)];exact AN (go false rfl) az h next
     ·rw[if_neg (by rw[hw];decide)];exact⟨nX,vx (go false rfl) h next⟩
     ·rw[if_neg (by rw[hw];decide)];exact⟨nX,vx (go true rfl) h next⟩
     ·rw[if_pos (by rw[hw];rfl)];exact AN (go true rfl) az h next
    ·rename_i x hb;rw[hb] at iN;have Z:tm.getD t undef=.tuple x:=iN;have aq:yielded ops tm j=none:=by
      simp only[yielded,bF,Option.bind_some];cases aC:tm[t]? with
      |none=>rfl
      |some v=>
       have:tm.getD t undef=v:=by simp[Array.getD_eq_getD_getElem?,aC]
       rw[this] at Z;rw[Z]
     rw[aq] at hw;rw[if_neg (by rw[hw];simp)]
     exact⟨nX,vx S h next⟩
    ·cases h
end
abbrev nY:=Nat⊕Nat
def gk(st:ab):nY->aF⊕Option Site
 |.inl t=>.inl (st.get t)
 |.inr o=>.inr (st.M o)
def m6{aA:Type}:List (Nat×aA)->Nat->Option aA
 |[],_=>none
 |(k,v)::r,n=>match m6 r n with
  |some x=>some x
  |none=>bif k.beq n then some v else none
def Rec.wr(x:Rec):nY->Option (aF⊕Option Site)
 |.inl t=>match x.D.dst with
  |some d=>bif d.beq t then some (.inl x.v) else none
  |none=>none
 |.inr o=>(m6 x.us o).map fun s=>.inr (some s)
theorem TG:∀(us:List (Nat×Site)) (st:ab) (o:Nat),(st.hF us).M o=match m6 us o with|some s=>some s|none=>st.M o:=by
 intro us;induction us with
 |nil=>intro st o;rfl
 |cons p us ih=>
  obtain⟨k,s⟩:=p;intro st o;simp only[ab.hF,ih,m6];cases m6 us o with
  |some x=>rfl
  |none=>
   simp only[ab.kI];by_cases h:k=o
   ·subst h;simp
   ·simp[h,lH h]
theorem HL:∀(us:List (Nat×Site)) (st:ab) (t:Nat),(st.hF us).get t=st.get t:=by
 intro us;induction us with
 |nil=>intro st t;rfl
 |cons p us ih=>intro st t;simp only[ab.hF,ih,ab.R1]
theorem IA:∀(us:List (Nat×Site)) (st:ab),(st.hF us).bl=st.bl:=by
 intro us;induction us with
 |nil=>intro st;rfl
 |cons p us ih=>intro st;simp only[ab.hF,ih,ab.SG]
theorem C6(st:ab)(d:Option Nat)(v:aF)(us:List (Nat×Site)):(st.cK d v us).bl=st.bl:=by
 cases d<;>simp only[ab.cK,ab.YK,IA]
theorem vQ(st:ab)(x:Rec)(l:nY):gk (st.cK x.D.dst x.v x.us) l=match x.wr l with|some u=>u|none=>gk st l:=by
 cases l with
 |inl t=>
  simp only[gk,Rec.wr];cases x.D.dst with
  |none=>simp only[ab.cK,HL]
  |some d=>
   simp only[ab.cK,ab.B5,HL];by_cases h:d=t
   ·subst h;simp
   ·simp[h,lH h]
 |inr o=>
  simp only[gk,Rec.wr];have:(st.cK x.D.dst x.v x.us).M o=(st.hF x.us).M o:=by cases x.D.dst<;>simp only[ab.cK,ab.Vn]
  rw[this,TG];cases m6 x.us o<;>rfl
def ed(ar:Nat->Bool):Nat->List Rec->ab->ab
 |_,[],st=>st
 |k,x::r,st=>ed ar (k+1) r (bif ar k then st.cK x.D.dst x.v x.us else st)
theorem Bc{ar:Nat->Bool}:∀{xs:List Rec} {k:Nat} {st:ab},(ed ar k xs st).bl=st.bl:=by
 intro xs;induction xs with
 |nil=>intro k st;rfl
 |cons x xs ih=>intro k st;simp only[ed,ih];cases ar k<;>simp[C6]
theorem z7{ar L':Nat->Bool}:∀{xs:List Rec} {k:Nat} {st aa:ab} {l:nY},gk st l=gk aa l->(∀j x,xs[j]? =some x->x.wr l≠none->ar (k+j)=L' (k+j))->gk (ed ar k xs st) l=gk (ed L' k xs aa) l:=by
 intro xs;induction xs with
 |nil=>intro k st aa l h _;exact h
 |cons x xs ih=>
  intro k st aa l h dj;simp only[ed];refine ih ?_ fun j y aq hw=>?_
  ·cases hw:x.wr l with
   |none=>
    have e1:∀s:ab,gk (s.cK x.D.dst x.v x.us) l=gk s l:=fun s=>by rw[vQ,hw]
    cases ar k<;>cases L' k<;>simp only[cond_true,cond_false,e1,h]
   |some u=>
    have:=dj 0 x rfl (by rw[hw];intro h;cases h)
    simp only[Nat.add_zero] at this;rw[this];cases L' k with
    |true=>simp only[cond_true,vQ,hw]
    |false=>simp only[cond_false,h]
  ·have:=dj (j+1) y (by simpa using aq) hw
   rw[show k+(j+1)=k+1+j from by omega] at this
   exact this
theorem z8{xs:List Rec}:∀{k:Nat} {st:ab} {ar:Nat->Bool},(∀j,k<=j->ar j=false)->ed ar k xs st=st:=by
 induction xs with
 |nil=>intro k st ar _;rfl
 |cons x xs ih=>
  intro k st ar h;simp only[ed,h k (Nat.le_refl _),cond_false];exact ih fun j bF=>h j (by omega)
theorem Gx{ar L':Nat->Bool}:∀{xs:List Rec} {k k':Nat} {st:ab},(∀j,j<xs.length->ar (k+j)=L' (k'+j))->ed ar k xs st=ed L' k' xs st:=by
 intro xs;induction xs with
 |nil=>intro k k' st _;rfl
 |cons x xs ih=>
  intro k k' st h;simp only[ed];have aQ:=h 0 (by simp)
  simp only[Nat.add_zero] at aQ;rw[aQ];exact ih fun j bF=>by have:=h (j+1) (by simpa using bF);rw[show k+(j+1)=k+1+j from by omega,show k'+(j+1)=k'+1+j from by omega] at this;exact this
theorem Tc{ar:Nat->Bool}:∀{xs:List Rec} {k i:Nat} {st:ab} {l:nY} {x:Rec} {u:aF⊕Option Site},xs[i]? =some x->ar (k+i)=true->x.wr l=some u->
  (∀j y,i<j->xs[j]? =some y->y.wr l≠none->ar (k+j)=false)->gk (ed ar k xs st) l=u:=by
 intro xs;induction xs with
 |nil=>intro k i st l x u h;cases h
 |cons y xs ih=>
  intro k i st l x u h dj hw bF;simp only[ed];cases i with
  |zero=>
   simp only[List.getElem?_cons_zero,Option.some.injEq] at h;subst h;simp only[Nat.add_zero] at dj;rw[dj];simp only[cond_true];have e:gk (st.cK y.D.dst y.v y.us) l=u:=by rw[vQ,hw]
   rw[<-e];have e2:st.cK y.D.dst y.v y.us=ed (fun _=>false) (k+1) xs (st.cK y.D.dst y.v y.us):=(z8 fun _ _=>rfl).symm
   conv=>rhs;rw[e2]
   refine z7 rfl fun j z aM ED=>?_
   have:=bF (j+1) z (by omega) (by simpa using aM) ED
   rw[show k+(j+1)=k+1+j from by omega] at this
   exact this
  |succ i=>
   refine ih (by simpa using h) (by rw[show k+1+i=k+(i+1) from by omega];exact dj) hw fun j z oA aM ED=>?_
   have:=bF (j+1) z (by omega) (by simpa using aM) ED
   rw[show k+(j+1)=k+1+j from by omega] at this
   exact this
section
variable {P:Program}{ops:Array Oper}
def yV(ops:Array Oper)(ar:Nat->Bool)(i:Nat):Prop:=∀D,ops[i]? =some D->∀e,e∈D.after.toList->Region.binds .any e=true->ar e.on=true
def x'(ops:Array Oper)(ar:Nat->Bool):Prop:=∀j,ar j=true->yV ops ar j
def sg(ops:Array Oper)(k i:Nat):Prop:=∀ar,x' ops ar->yV ops ar i->ar k=true
theorem I_{aA:Type}{l:List (Nat×aA)}{n:Nat}{v:aA}(h:look l n=some v):(n,v)∈l:=by
 induction l with
 |nil=>cases h
 |cons p l ih=>
  obtain⟨m,u⟩:=p;simp only[look] at h;cases hb:m.beq n with
  |true=>
   simp only[hb,cond_true,Option.some.injEq] at h;rw[<-Nat.eq_of_beq_eq_true hb,h];exact List.mem_cons_self
  |false=>simp only[hb,cond_false] at h;exact List.mem_cons_of_mem _ (ih h)
theorem Wr{b0:List (Nat×Nat)}(bo:∀k b,(k,b)∈b0->∀m,Nat.testBit b m=true->sg ops m k){i:Nat}:∀{es:List Edge} {m:Nat},Nat.testBit (ki b0 es) m=true->∀ar,x' ops ar->
  (∀e,e∈es->Region.binds .any e=true->ar e.on=true)->ar m=true:=by
 intro es;induction es with
 |nil=>intro m h;simp[ki] at h
 |cons e es ih=>
  intro m h ar hc hf;simp only[ki] at h;cases hb:Region.binds .any e with
  |false=>
   simp only[hb,cond_false] at h;exact ih h ar hc fun bz lY=>hf bz (List.mem_cons_of_mem _ lY)
  |true=>
   simp only[hb,cond_true] at h;have aQ:=hf e List.mem_cons_self hb;split at h
   ·rename_i x hx;have h:Nat.testBit (2^e.on ||| (x ||| ki b0 es)) m=true:=h;rw[Nat.testBit_or,Nat.testBit_or,Nat.testBit_two_pow] at h;simp only[Bool.or_eq_true,decide_eq_true_eq] at h;rcases h with h|h|h
    ·subst h;exact aQ
    ·have hm:(e.on,x)∈b0:=I_ hx;exact bo _ _ hm m h ar hc (hc _ aQ)
    ·exact ih h ar hc fun bz lY=>hf bz (List.mem_cons_of_mem _ lY)
   ·exact ih h ar hc fun bz lY=>hf bz (List.mem_cons_of_mem _ lY)
structure rj(C:Ctx)(ops:Array Oper)(st:ab)(D:Oper)(x:Rec):Prop where
 gG:x.D=D
 guard:∀j want,D.guard=some (j,want)->∃t,(ops[j]?).bind (·.dst)=some t/\t∈x.kz/\((∃b,st.get t=one (.bool b)/\(x.go=(b==want)))\/((∃u,st.get t=bQ (.cx (.tuple u)))/\x.go=false))
 free:D.guard=none->x.go=true
 skip:x.go=false->x.v=xo/\x.us=[]
 run:x.go=true->∃y,(step C st D).comp=some y/\(step C st D).pT y=true/\x.v=(step C st D).val y/\x.us=(step C st D).us y/\(∀t,t∈n5 (kU D.op)->t∈x.kz)/\(∀o,o∈Dh C st D->o∈x.rn)/\(xO D.op=true->x.zp=true)
inductive kD(C:Ctx)(ops:Array Oper):List Oper->Nat->List (Nat×Rec)->List (Nat×Nat)->ab->List Rec->ab->Prop where
 |nil {i b0 bs st}:kD C ops [] i b0 bs st [] st
 |cons {D r i b0 bs st x xs aa} (U:b2 st D.dst=true) (he:qz i D.after.toList=true) (hx:rj C ops st D x) (ah:qN (ki bs D.after.toList) x b0=true)
   (h:kD C ops r (i+1) ((i,x)::b0) ((i,ki bs D.after.toList)::bs) (st.cK D.dst x.v x.us) xs aa):kD C ops (D::r) i b0 bs st (x::xs) aa
theorem Ux{R:Type}{g:Bool}{v:aF}{K:aF->Option R}{r:R}(h:DE g v K=some r):K v=some r:=by
 unfold DE at h;cases g with
 |false=>exact h
 |true=>
  simp only[cond_true] at h;split at h
  ·rename_i b;cases b<;>exact h
  ·exact h
theorem R5{R:Type}{C:Ctx}{g:Bool}{st:ab}{D:Oper}{K:Rec->Option R}{r:R}(h:C4 C ops g st D K=some r):∃x,rj C ops st D x/\K x=some r:=by
 have run:∀gs,xj C g st D gs K=some r->(∀j want,D.guard=some (j,want)->∃t,(ops[j]?).bind (·.dst)=some t/\t∈gs/\∃b,st.get t=one (.bool b)/\(b==want)=true)->∃x,rj C ops st D x/\K x=some r:=by
  intro gs h aJ;unfold xj at h;obtain⟨y,aq,h⟩:=Option.bind_eq_some_iff.1 h;cases hc:(step C st D).pT y with
  |false=>simp[hc] at h
  |true=>
   simp only[hc,cond_true] at h;refine⟨_,⟨rfl,fun j want bF=>?_,fun _=>rfl,fun h=>(by cases h),fun _=>⟨y,aq,hc,rfl,rfl,fun t aC=>List.mem_append.2 (.inr aC),fun _ h=>h,fun h=>h⟩⟩,Ux h⟩
   obtain⟨t,h1,h2,b,Y,aP⟩:=aJ j want bF;exact⟨t,h1,List.mem_append.2 (.inl h2),.inl ⟨b,Y,aP.symm⟩⟩
 have skip:∀gs,Ba D gs K=some r->(∃j want,D.guard=some (j,want)/\∃t,(ops[j]?).bind (·.dst)=some t/\t∈gs/\((∃b,st.get t=one (.bool b)/\(b==want)=false)\/∃u,st.get t=bQ (.cx (.tuple u))))->∃x,rj C ops st D x/\K x=some r:=by
  intro gs h aJ;obtain⟨j,want,bF,t,h1,h2,Y⟩:=aJ;refine⟨_,⟨rfl,fun P4 af4 iA=>?_,fun h=>(by rw[bF] at h;cases h),fun _=>⟨rfl,rfl⟩,fun h=>(by cases h)⟩,h⟩
  rw[bF] at iA;cases iA;refine⟨t,h1,h2,?_⟩;rcases Y with⟨b,Y,aP⟩|Y
  ·exact .inl ⟨b,Y,aP.symm⟩
  ·exact .inr ⟨Y,rfl⟩
 unfold C4 at h;split at h
 ·rename_i aJ;exact run [] h fun j want bF=>by rw[aJ] at bF;cases bF
 ·rename_i j want aJ;split at h
  ·rename_i t aC;split at h
   ·rename_i b hb;cases b<;>cases want<;>simp only[cond_true,cond_false,Bool.not_true,Bool.not_false] at h
    ·exact run [t] h fun P4 w' iA=>by rw[aJ] at iA;cases iA;exact⟨t,aC,List.mem_singleton.2 rfl,false,hb,rfl⟩
    ·exact skip [t] h ⟨j,true,aJ,t,aC,List.mem_singleton.2 rfl,.inl ⟨false,hb,rfl⟩⟩
    ·exact skip [t] h ⟨j,false,aJ,t,aC,List.mem_singleton.2 rfl,.inl ⟨true,hb,rfl⟩⟩
    ·exact run [t] h fun P4 w' iA=>by rw[aJ] at iA;cases iA;exact⟨t,aC,List.mem_singleton.2 rfl,true,hb,rfl⟩
   ·rename_i u hu;exact skip [t] h ⟨j,want,aJ,t,aC,List.mem_singleton.2 rfl,.inr ⟨u,hu⟩⟩
   ·cases h
  ·cases h
theorem UO{R:Type}{C:Ctx}{K:ab->Option R}{r:R}:∀{os:List Oper} {i:Nat} {b0:List (Nat×Rec)} {bs:List (Nat×Nat)} {st:ab},x8 C ops os i b0 bs st K=some r->∃xs aa,kD C ops os i b0 bs st xs aa/\K aa=some r:=by
 intro os;induction os with
 |nil=>intro i b0 bs st h;exact⟨[],st,.nil,h⟩
 |cons D os ih=>
  intro i b0 bs st h;simp only[x8] at h;cases U:b2 st D.dst&&qz i D.after.toList with
  |false=>simp[U] at h
  |true=>
   simp only[U,cond_true] at h;obtain⟨x,hx,h⟩:=R5 h;cases ah:qN (ki bs D.after.toList) x b0 with
   |false=>simp[ah] at h
   |true=>
    simp only[ah,cond_true] at h;obtain⟨xs,aa,h1,h2⟩:=ih h;simp only[Bool.and_eq_true] at U;exact⟨x::xs,aa,.cons U.1 U.2 hx ah h1,h2⟩
theorem kD.length{C:Ctx}{os:List Oper}{i:Nat}{b0:List (Nat×Rec)}{bs:List (Nat×Nat)}{st aa:ab}{xs:List Rec}(h:kD C ops os i b0 bs st xs aa):xs.length=os.length:=by
 induction h with
 |nil=>rfl
 |cons _ _ _ _ _ ih=>simp[ih]
theorem kD.aaD{C:Ctx}{os:List Oper}{i:Nat}{b0:List (Nat×Rec)}{bs:List (Nat×Nat)}{st aa:ab}{xs:List Rec}(h:kD C ops os i b0 bs st xs aa):∀k,ed (fun _=>true) k xs st=aa:=by
 induction h with
 |nil=>intro k;rfl
 |cons _ _ hx _ _ ih=>intro k;simp only[ed,cond_true,hx.gG];exact ih _
theorem kD.at_{C:Ctx}{os:List Oper}{i:Nat}{b0:List (Nat×Rec)}{bs:List (Nat×Nat)}{st aa:ab}{xs:List Rec}(h:kD C ops os i b0 bs st xs aa):∀j x,xs[j]? =some x->
  ∃D,os[j]? =some D/\b2 st D.dst=true/\qz (i+j) D.after.toList=true/\rj C ops (ed (fun k=>decide (k<j)) 0 xs st) D x:=by
 induction h with
 |nil=>intro j x h;cases h
 |@cons D r i b0 bs st x xs aa U he hx ah h ih=>
  intro j y aq;cases j with
  |zero=>
   simp only[List.getElem?_cons_zero,Option.some.injEq] at aq;subst aq;refine⟨D,rfl,U,he,?_⟩;rw[z8 fun j _=>by simp[Nat.blt]]
   exact hx
  |succ j=>
   obtain⟨cX,h1,h2,Y,aP⟩:=ih j y (by simpa using aq)
   refine⟨cX,by simpa using h1,?_,by rw[show i+(j+1)=i+1+j from by omega];exact Y,?_⟩
   ·revert h2;cases cX.dst<;>simp[b2,C6]
   ·simp only[ed];have hg:decide (0<j+1)=true:=by simp
    rw[hg,cond_true,hx.gG];rw[Gx (L':=fun k=>decide (k<j)) (k':=0) fun m _=>by simp only[decide_eq_decide];omega]
    exact aP
theorem Up{n:Nat}{l:List Nat}:fN n l=true <-> n∈l:=by
 induction l with
 |nil=>simp[fN]
 |cons m l ih=>
  simp only[fN,Bool.or_eq_true,ih,List.mem_cons];constructor
  ·rintro(h|h)
   ·exact .inl (Nat.eq_of_beq_eq_true h)
   ·exact .inr h
  ·rintro(h|h)
   ·exact .inl (by rw[h];exact Nat.beq_refl m)
   ·exact .inr h
theorem SF{uU:Nat}{x:Rec}:∀{b0:List (Nat×Rec)},qN uU x b0=true->∀k y,(k,y)∈b0->Nat.testBit uU k=true\/lC y x=false:=by
 intro b0;induction b0 with
 |nil=>intro _ k y h;cases h
 |cons p b0 ih=>
  obtain⟨j,z⟩:=p;intro h k y hm;simp only[qN,Bool.and_eq_true,Bool.or_eq_true] at h;rcases List.mem_cons.1 hm with hm|hm
  ·cases hm;rcases h.1 with h1|h1
   ·exact .inl h1
   ·exact .inr (by simpa using h1)
  ·exact ih h.2 k y hm
theorem kD.acb{C:Ctx}{os:List Oper}{i:Nat}{b0:List (Nat×Rec)}{bs:List (Nat×Nat)}{st aa:ab}{xs:List Rec}(h:kD C ops os i b0 bs st xs aa):∀(pre:List Rec),pre.length=i->(∀j,ops[i+j]? =os[j]?)->
  (∀k y,pre[k]? =some y->(k,y)∈b0)->(∀k b,(k,b)∈bs->∀m,Nat.testBit b m=true->sg ops m k)->∀j x,xs[j]? =some x->∀k y,k<i+j->(pre++xs)[k]? =some y->sg ops k (i+j)\/lC y x=false:=by
 induction h with
 |nil=>intro pre _ _ _ _ j x h;cases h
 |@cons D r i b0 bs st x xs aa U he hx ah h ih=>
  intro pre hlen Mb Ma Mk j y aq k z ac8 aM;have Mi:∀m,Nat.testBit (ki bs D.after.toList) m=true->sg ops m i:=fun m hm ar hc hf=>by
   refine Wr Mk (i:=i) hm ar hc fun e he hb=>hf D ?_ e he hb
   have:=Mb 0;simpa using this
  cases j with
  |zero=>
   simp only[List.getElem?_cons_zero,Option.some.injEq] at aq;subst aq;simp only[Nat.add_zero] at ac8 ⊢;rw[List.getElem?_append_left (by omega)] at aM
   rcases SF ah k z (Ma k z aM) with h1|h1
   ·exact .inl (Mi k h1)
   ·exact .inr h1
  |succ j=>
   have:=ih (pre++[x]) (by simp[hlen]) (fun j=>by have:=Mb (j+1);rw[show i+1+j=i+(j+1) from by omega];simpa using this)
    (fun k y aq=>?_) (fun k b hm m Oy=>?_) j y (by simpa using aq) k z (by omega) (by simpa using aM)
   ·rw[show i+(j+1)=i+1+j from by omega];exact this
   ·rcases Nat.lt_or_ge k pre.length with ae|ae
    ·rw[List.getElem?_append_left ae] at aq;exact List.mem_cons_of_mem _ (Ma k y aq)
    ·rw[List.getElem?_append_right ae] at aq;have aQ:k-pre.length=0:=by
      rcases Nat.eq_zero_or_pos (k-pre.length) with aQ|aQ
      ·exact aQ
      ·rw[List.getElem?_eq_none (by simp;omega)] at aq;cases aq
     rw[aQ] at aq;simp only[List.getElem?_cons_zero,Option.some.injEq] at aq;subst aq;have:k=i:=by omega
     subst this;exact List.mem_cons_self
   ·rcases List.mem_cons.1 hm with hm|hm
    ·cases hm;exact Mi m Oy
    ·exact Mk k b hm m Oy
end
section
variable {P:Program}{J:World}{H:List Nat}{X:Nat->Prop}{B:Nat->Value}{st aa:ab}{tm:Array Value}{w:World}
theorem ad.same(S:ad J H X B st tm w)(Z:∀l,gk st l=gk aa l)(hn:st.bl=aa.bl):ad J H X B aa tm w:=by
 have L:∀o,look st.sites o=look aa.sites o:=fun o=>by have:=Z (.inr o);simpa[gk,ab.M] using this
 have aJ:∀t,st.get t=aa.get t:=fun t=>by have:=Z (.inl t);simpa[gk] using this
 have hl:∀o,bL st.sites o <-> bL aa.sites o:=fun o=>by unfold bL;rw[L]
 have bo:al X B aa.sites=al X B st.sites:=by
  funext b
  unfold al;simp only[hl]
 have bC:gW B B st.sites aa.sites w w (al X B st.sites) (al X B aa.sites):=by
  rw[bo];exact⟨fun o M h=>⟨M,by rw[<-L];exact h,Nat.le_refl _,fun _=>rfl⟩,fun _ _ _=>rfl,fun _ h _=>h⟩
 have ba:∀b,al X B aa.sites b->b<w.heap.size:=fun b hb=>S.lt (by rw[<-bo];exact hb)
 refine⟨S.bl.trans hn,fun t=>?_,fun o M h=>?_,fun o E b h1 h2=>S.df o E b ((hl o).2 h1) ((hl E).2 h2),fun o b h=>S.cc o b ((hl o).2 h),S.frame,S.old,S.fO⟩
 ·rw[<-aJ];exact(S.cV t).goes bC (Nat.le_refl _) ba
 ·exact(S.sites o M (by rw[L];exact h)).goes bC (Nat.le_refl _) ba rfl (fun _ _ _=>rfl)
theorem ad.drawn(S:ad J H X B st tm w)(n:Nat):ad J H X B st tm {w with drawn:=n}:=by
 have bC:gW B B st.sites st.sites w {w with drawn:=n} (al X B st.sites) (al X B st.sites):=
  ⟨fun o M h=>⟨M,h,Nat.le_refl _,fun _=>rfl⟩,fun _ _ _=>rfl,fun _ h _=>h⟩
 refine⟨S.bl,fun t=>(S.cV t).goes bC (Nat.le_refl _) fun b hb=>S.lt hb,fun o M h=>(S.sites o M h).goes bC (Nat.le_refl _) (fun b hb=>S.lt hb) rfl (fun _ _ _=>rfl),S.df,S.cc,⟨S.frame.os,S.frame.tape,S.frame.output,S.frame.size,S.frame.block⟩,S.old,S.fO⟩
theorem QP{aA:Type}:∀{us:List (Nat×aA)} {o:Nat} {s:aA},m6 us o=some s->o∈keys us:=by
 intro us;induction us with
 |nil=>intro o s h;cases h
 |cons p us ih=>
  obtain⟨k,v⟩:=p;intro o s h;simp only[m6] at h;split at h
  ·rename_i x hx;exact List.mem_cons_of_mem _ (ih hx)
  ·cases hb:k.beq o with
   |true=>rw[<-Nat.eq_of_beq_eq_true hb];exact List.mem_cons_self
   |false=>simp[hb] at h
theorem Ag{n:Nat}{l:List Nat}:fN n l=true <-> n∈l:=Up
theorem qi{l m:List Nat}{n:Nat}(h1:n∈l)(h2:n∈m):fa l m=false:=by
 induction l with
 |nil=>cases h1
 |cons k l ih=>
  simp only[fa];rcases List.mem_cons.1 h1 with rfl|h1
  ·rw[Ag.2 h2];rfl
  ·rw[ih h1,Bool.and_false]
theorem GZ{l:List Nat}{n:Nat}(h1:n∈l)(h2:1000000<=n):tl l=true:=by
 induction l with
 |nil=>cases h1
 |cons k l ih=>
  simp only[tl,Bool.or_eq_true];rcases List.mem_cons.1 h1 with rfl|h1
  ·exact .inl (Nat.ble_eq_true_of_le h2)
  ·exact .inr (ih h1)
def Rec.at_(x:Rec):nY->Prop
 |.inl t=>t∈x.kz
 |.inr o=>o∈x.rn\/(x.zp=true/\1000000<=o)
theorem xn{x:Rec}{t:Nat}(h:x.wr (.inl t)≠none):x.D.dst=some t:=by
 simp only[Rec.wr] at h;split at h
 ·rename_i d U;cases hb:d.beq t with
  |true=>rw[U,Nat.eq_of_beq_eq_true hb]
  |false=>simp[hb] at h
 ·exact absurd rfl h
theorem xm{x:Rec}{o:Nat}(h:x.wr (.inr o)≠none):o∈keys x.us:=by
 simp only[Rec.wr] at h;cases hl:m6 x.us o with
 |none=>simp[hl] at h
 |some s=>exact QP hl
theorem XC{a b:Rec}{l:nY}(h1:a.wr l≠none)(h2:b.at_ l):lC a b=true:=by
 unfold lC;cases l with
 |inl t=>
  have:=xn h1;have h2:t∈b.kz:=h2;simp[this,ru,Ag.2 h2]
 |inr o=>
  have:=xm h1;rcases h2 with h2|⟨h2,Y⟩
  ·have:fa (keys a.us) (b.rn++keys b.us)=false:=qi this (List.mem_append.2 (.inl h2));simp[this]
  ·have:=GZ this Y;simp[this,h2]
theorem XD{a b:Rec}{l:nY}(h1:a.at_ l)(h2:b.wr l≠none):lC a b=true:=by
 unfold lC;cases l with
 |inl t=>
  have:=xn h2;have h1:t∈a.kz:=h1;simp[this,ru,Ag.2 h1]
 |inr o=>
  have:=xm h2;rcases h1 with h2|⟨h2,Y⟩
  ·have:fa (keys b.us) a.rn=false:=qi this h2;simp[this]
  ·have:=GZ this Y;simp[this,h2]
theorem XB{a b:Rec}{l:nY}(h1:a.wr l≠none)(h2:b.wr l≠none):lC a b=true:=by
 unfold lC;cases l with
 |inl t=>
  have e1:=xn h1;have e2:=xn h2;simp[e1,e2,ru,fN]
 |inr o=>
  have e1:=xm h1;have e2:=xm h2;have:fa (keys a.us) (b.rn++keys b.us)=false:=qi e1 (List.mem_append.2 (.inr e2));simp[this]
variable {C:Ctx}{ops:Array Oper}{rn:Option Nat}{ds:List Deferred}
def nB(ar:Nat->Bool)(i:Nat):Nat->Bool:=fun j=>ar j||decide (j=i)
theorem UN(az:bG P C){xs:List Rec}{bj:ab}{i:Nat}{D:Oper}{x:Rec}(hx:xs[i]? =some x)(U:b2 bj D.dst=true)(hr:rj C ops (ed (fun k=>decide (k<i)) 0 xs bj) D x)
  (lB:∀j y,xs[j]? =some y->∀k z,k<j->xs[k]? =some z->sg ops k j\/lC z y=false) {ar:Nat->Bool} (hc:x' ops ar) (af:ar i=false) (hf:yV ops ar i) (acY:ops[i]? =some D)
  (S:ad J H X B (ed ar 0 xs bj) tm w) {Q:Exit->Act->World->Prop} {K:Act->World->Prop} (bA:∀ax bX w',ad J H X ax (ed (nB ar i) 0 xs bj) bX w'->(∀t,t∉D.dst.toList->bX.getD t undef=tm.getD t undef)->K ⟨bX,ds⟩ w'):wpOpIn (eG rn) 0 P ops Q i K ⟨tm,ds⟩ w:=by
 have En:∀l,x.at_ l->gk (ed (fun k=>decide (k<i)) 0 xs bj) l=gk (ed ar 0 xs bj) l:=fun l hl=>by
  refine(z7 rfl fun j y aq hw=>?_).symm
  simp only[Nat.zero_add];rcases Nat.lt_trichotomy j i with h|h|h
  ·rcases lB i x hx j y h aq with h1|h1
   ·rw[h1 ar hc hf];simp[h]
   ·rw[XC hw hl] at h1;cases h1
  ·subst h;rw[af];simp
  ·have:ar j=false:=by
    cases pP:ar j with
    |false=>rfl
    |true=>
     rcases lB j y aq i x h hx with h1|h1
     ·have:=h1 ar hc (hc j pP);rw[af] at this;cases this
     ·rw[XD hl hw] at h1;cases h1
   rw[this];simp;omega
 have K5:∀t,t∈x.kz->(ed (fun k=>decide (k<i)) 0 xs bj).get t=(ed ar 0 xs bj).get t:=fun t aC=>by
  have:=En (.inl t) aC;simpa[gk] using this
 have yg:∀l,gk ((ed ar 0 xs bj).cK x.D.dst x.v x.us) l=gk (ed (nB ar i) 0 xs bj) l:=fun l=>by
  rw[vQ];cases hw:x.wr l with
  |none=>
   simp only;refine z7 rfl fun j y aq EE=>?_
   simp only[Nat.zero_add,nB];by_cases h:j=i
   ·subst h;rw[hx] at aq;cases aq;exact absurd hw EE
   ·simp[h]
  |some u=>
   simp only;refine(Tc hx (by simp[nB]) hw fun j y oA aq EE=>?_).symm
   simp only[Nat.zero_add,nB];have:ar j=false:=by
    cases pP:ar j with
    |false=>rfl
    |true=>
     rcases lB j y aq i x oA hx with h1|h1
     ·have:=h1 ar hc (hc j pP);rw[af] at this;cases this
     ·rw[XB (by rw[hw];intro h;cases h) EE] at h1;cases h1
   rw[this];simp;omega
 have OH:b2 (ed ar 0 xs bj) D.dst=true:=by revert U;cases D.dst<;>simp[b2,Bc]
 have fin:∀ax bX w',ad J H X ax ((ed ar 0 xs bj).cK x.D.dst x.v x.us) bX w'->(∀t,t∉D.dst.toList->bX.getD t undef=tm.getD t undef)->K ⟨bX,ds⟩ w':=fun ax bX w' bO=>bA ax bX w' (bO.same yg (by rw[C6,Bc,Bc]))
 unfold wpOpIn;rw[acY];simp only;have yi:Region.wanted D (yielded ops tm)=x.go:=by
  cases aJ:D.guard with
  |none=>rw[hr.free aJ];simp[Region.wanted,aJ]
  |some Fw=>
   obtain⟨j,want⟩:=Fw;obtain⟨t,h1,h2,Y⟩:=hr.guard j want aJ;rw[show Region.wanted D (yielded ops tm)=(yielded ops tm j==some want) by simp[Region.wanted,aJ]]
   have iN:=S.cV t;rw[<-K5 t h2] at iN;rcases Y with⟨b,Y,aP⟩|⟨⟨u,Y⟩,aP⟩
   ·rw[Y] at iN;have Z:=jf iN;have aq:yielded ops tm j=some b:=by
     have aC:t<tm.size:=by
      rcases Nat.lt_or_ge t tm.size with ae|ae
      ·exact ae
      ·simp[Array.getD,Nat.not_lt.2 ae,undef] at Z
     have:tm[t]? =some (.bool b):=by
      rw[Array.getElem?_eq_getElem aC];simpa[Array.getD,aC] using Z
     simp[yielded,h1,this]
    rw[aq,aP];cases b<;>cases want<;>rfl
   ·rw[Y] at iN;have Z:tm.getD t undef=.tuple u:=iN;have aq:yielded ops tm j=none:=by
     simp only[yielded,h1,Option.bind_some];cases aC:tm[t]? with
     |none=>rfl
     |some v=>
      have:tm.getD t undef=v:=by simp[Array.getD_eq_getD_getElem?,aC]
      rw[this] at Z;rw[Z]
    rw[aq,aP];rfl
 cases r3:x.go with
 |false=>
  rw[r3] at yi;rw[if_neg (by rw[yi];decide)]
  obtain⟨e1,e2⟩:=hr.skip r3;refine⟨fun f _=>yy rn f,vx (R:=ab) (r:=(ed ar 0 xs bj).cK D.dst xo []) S (K:=some) (by simp[qL,OH]) fun ej f' dI cj h1 cY=>?_⟩
  cases h1;refine fin f' dI cj ?_
  rw[hr.gG,e1,e2];exact cY
 |true=>
  rw[r3] at yi;rw[if_pos yi];obtain⟨y,g1,g2,g3,g4,g5,g6,g7⟩:=hr.run r3;have dr:step C (ed (fun k=>decide (k<i)) 0 xs bj) D=step C (ed ar 0 xs bj) D:=by
   refine Sn (fun t aC=>K5 t (g5 t aC)) (fun o a_=>?_) fun ZO o a_=>?_
   ·have:=En (.inr o) (.inl (g6 o a_));simpa[gk] using this
   ·have:=En (.inr o) (.inr ⟨g7 ZO,a_⟩);simpa[gk] using this
  revert y
  rw[dr];intro y g1 g2 g3 g4;refine sE (R:=ab) (r:=(ed ar 0 xs bj).cK D.dst x.v x.us) S az (K:=some) ?_ fun ej f' dI cj h1 cY=>?_
  ·unfold kc;rw[OH,cond_true,g1];simp only[Option.bind_some,g2,cond_true,g3,g4]
  ·cases h1;refine fin f' dI cj ?_
   rw[hr.gG];exact cY
def ue(listed:Array Bool):Nat:=listed.toList.count false
def gA(listed:Array Bool):Nat->Bool:=fun j=>listed.getD j false
theorem WD{listed:Array Bool}{i:Nat}(h:listed.getD i true=false):ue (listed.setIfInBounds i true)+1=ue listed:=by
 unfold ue;have ba:i<listed.size:=by
  rcases Nat.lt_or_ge i listed.size with ae|ae
  ·exact ae
  ·simp[Array.getD,Nat.not_lt.2 ae] at h
 have Z:listed.toList[i]'(by simpa using ba)=false:=by simpa[Array.getD,ba] using h
 rw[Array.toList_setIfInBounds,List.count_set (by simpa using ba)]
 rw[Z];have:0<listed.toList.count false:=List.count_pos_iff.2 (by rw[<-Z];exact List.getElem_mem _)
 have e1:(if(false==false)=true then 1 else 0)=1:=rfl
 have e2:(if(true==false)=true then 1 else 0)=0:=rfl
 rw[e1,e2];omega
theorem Hz{D:Oper}{t:Nat}:∀{l:List Oper},D∈l->t∈D.dst.toList->t∈nj l:=by
 intro l;induction l with
 |nil=>intro h;cases h
 |cons p l ih=>
  intro h aC;simp only[nj,List.mem_append];rcases List.mem_cons.1 h with rfl|h
  ·exact .inl aC
  ·exact .inr (ih h aC)
theorem Wj(az:bG P C){bj y1:ab}{xs:List Rec}(aS:kD C ops ops.toList 0 [] [] bj xs y1){Q:Exit->Act->World->Prop}{ey:Array Value}(zx:∀B tm w,ad J H X B y1 tm w->(∀t,t∉nj ops.toList->tm.getD t undef=ey.getD t undef)->Q .normal ⟨tm,ds⟩ w):
  ∀(oo:Nat) (listed:Array Bool) (B:Nat->Value) (tm:Array Value) (w:World),listed.size=ops.size->ue listed<=oo->x' ops (gA listed)->ad J H X B (ed (gA listed) 0 xs bj) tm w->
   (∀t,t∉nj ops.toList->tm.getD t undef=ey.getD t undef)->wpAnyIn (eG rn) 0 P .any ops Q oo listed ⟨tm,ds⟩ w:=by
 have hlen:xs.length=ops.size:=by rw[aS.length];simp
 have lB:∀j y,xs[j]? =some y->∀k z,k<j->xs[k]? =some z->sg ops k j\/lC z y=false:=fun j y aq k z ah aM=>by
  have:=aS.acb [] rfl (fun j=>by simp) (fun k y h=>by simp at h) (fun k b h=>by simp at h) j y aq k z (by omega) (by simpa using aM)
  simpa using this
 have all:∀listed:Array Bool,listed.size=ops.size->(∀j,j<ops.size->gA listed j=true)->∀B tm w,ad J H X B (ed (gA listed) 0 xs bj) tm w->(∀t,t∉nj ops.toList->tm.getD t undef=ey.getD t undef)->Q .normal ⟨tm,ds⟩ w:=fun listed L hl B tm w S aC=>by
  refine zx B tm w ?_ aC;rw[<-aS.aaD 0];rw[Gx (L':=gA listed) (k':=0) fun j bF=>by simp only[Nat.zero_add];rw[hl j (by omega)]]
  exact S
 have done:∀listed:Array Bool,listed.size=ops.size->Region.ready .any ops listed=[]->∀j,j<ops.size->gA listed j=true:=fun listed L hr j=>by
  induction j using Nat.strongRecOn with
  |_ j ih=>
   intro bF;cases pP:gA listed j with
   |true=>rfl
   |false=>
    exfalso
    have hx:xs[j]? =some (xs[j]'(by omega)):=List.getElem?_eq_getElem _
    obtain⟨D,h1,_,Y,_⟩:=aS.at_ j _ hx;have h1:ops[j]? =some D:=by simpa using h1
    have hm:j∈Region.ready .any ops listed:=by
     rw[mem_ready];refine⟨?_,D,h1,fun e he hb=>?_⟩
     ·have ba:j<listed.size:=by omega
      simpa[gA,Array.getD,ba] using pP
     ·have:e.on<j:=by
       have lY:e∈D.after.toList:=by simpa using he
       clear he hr;revert Y
       simp only[Nat.zero_add];generalize D.after.toList=es at lY;induction es with
       |nil=>cases lY
       |cons bz es acC=>
        intro Y;simp only[qz,Bool.and_eq_true] at Y;rcases List.mem_cons.1 lY with rfl|lY
        ·rw[hb] at Y;simpa using Y.1
        ·exact acC lY Y.2
      have:=ih e.on this (by omega)
      simpa[gA] using this
    rw[hr] at hm;cases hm
 intro oo;induction oo with
 |zero=>
  intro listed B tm w L hu hc S aC;have iR:∀j,j<ops.size->gA listed j=true:=fun j bF=>by
   have aQ:listed.toList.count false=0:=Nat.le_zero.1 hu;rw[List.count_eq_zero] at aQ;cases pP:gA listed j with
   |true=>rfl
   |false=>
    exfalso
    have ba:j<listed.size:=by omega
    apply aQ;have:listed.toList[j]'(by simpa using ba)=false:=by simpa[gA,Array.getD,ba] using pP
    rw[<-this];exact List.getElem_mem _
  refine⟨?_,all listed L iR B tm w S aC⟩;rw[List.eq_nil_iff_forall_not_mem];intro j bF;rw[mem_ready] at bF;obtain⟨h1,D,h2,_⟩:=bF;have bF:j<ops.size:=(Array.getElem?_eq_some_iff.1 h2).1;have:=iR j bF;have ba:j<listed.size:=by omega
  simp[gA,Array.getD,ba] at this h1;rw[h1] at this;cases this
 |succ oo ih=>
  intro listed B tm w L hu hc S aC;refine⟨fun hr=>all listed L (done listed L hr) B tm w S aC,fun i af=>?_⟩
  have lb:=mem_ready.1 af;obtain⟨h1,D,h2,Y⟩:=lb;have ku:i<ops.size:=(Array.getElem?_eq_some_iff.1 h2).1;have hx:xs[i]? =some (xs[i]'(by omega)):=List.getElem?_eq_getElem _
  obtain⟨cX,g1,g2,g3,g4⟩:=aS.at_ i _ hx;have g1:ops[i]? =some cX:=by simpa using g1
  rw[h2] at g1;cases g1;have ba:i<listed.size:=by omega
  have adA:gA listed i=false:=by simpa[gA,Array.getD,ba] using h1
  have hf:yV ops (gA listed) i:=fun o2 kq e he hb=>by
   rw[h2] at kq;cases kq;have:=Y e (by simpa using he) hb
   simpa[gA] using this
  have pr:gA (listed.setIfInBounds i true)=nB (gA listed) i:=by
   funext j
   simp only[gA,nB];by_cases h:j=i
   ·subst h;simp[ba]
   ·simp[h,Array.getElem?_setIfInBounds_ne (show i≠j from fun e=>h e.symm)]
  refine UN az hx g2 g4 lB hc adA hf h2 S fun ax bX w' bO ux=>ih _ ax bX w' (by simpa using L) (by have:=WD h1;omega) ?_ (by rw[pr];exact bO) fun t Om=>(ux t fun ae=>Om (Hz (l:=ops.toList) (by simpa using Array.mem_of_getElem? h2) ae)).trans (aC t Om)
  rw[pr];intro j bF o2 kq e he hb;simp only[nB,Bool.or_eq_true,decide_eq_true_eq] at bF;simp only[nB,Bool.or_eq_true,decide_eq_true_eq];rcases bF with bF|bF
  ·exact .inl (hc j bF o2 kq e he hb)
  ·subst bF;exact .inl (hf o2 kq e he hb)
theorem UE:∀l:List Nat,dv st.sites (x2 st l):=by
 intro l;induction l with
 |nil=>exact .nil
 |cons t l ih=>
  refine dv.append ?_ ih;unfold KO;split
  ·rename_i o s _;split
   ·rename_i ag t xs L;cases hb:ag.beq s with
    |false=>exact .nil
    |true=>
     intro E M hm;simp only[cond_true,List.mem_singleton,Prod.mk.injEq] at hm;obtain⟨rfl,rfl⟩:=hm;exact⟨ag,t,xs,rfl,.inl L⟩
   ·exact .nil
  ·exact .nil
theorem S6(az:bG P C)(hm:P.follows .mixedOrders=true){R:Type}{r:R}{K:ab->Option R}{id:Nat}{Q:Exit->Act->World->Prop}(S:ad J H X B st tm w)(h:Jl C ops st K=some r)
  (bA:∀aa ax bX w',K aa=some r->ad J H X ax aa bX w'->(∀t,t∉nj ops.toList->bX.getD t undef=tm.getD t undef)->Q .normal ⟨bX,ds⟩ w'):gJ rn P (Code.region id ops true) Q ⟨tm,ds⟩ w:=by
 obtain⟨xs,y1,aS,ah⟩:=UO h;have S:ad J H X B (st.hF (x2 st (AK ops.toList ops.toList))) tm w:=by rw[ab.sV];exact S.xg (UE _)
 refine wpIn_region_any hm (Wj az aS (fun B tm w S=>bA y1 B tm w ah S) _ _ B tm _ (by simp) ?_ ?_ ?_ (fun _ _=>rfl))
 ·unfold ue;simp
 ·intro j bF;simp only[gA] at bF;exfalso
  rw[Array.getD_eq_getD_getElem?,Array.getElem?_replicate] at bF;split at bF<;>cases bF
 ·rw[z8 fun j _=>by
   simp only[gA];rw[Array.getD_eq_getD_getElem?,Array.getElem?_replicate];split<;>rfl]
  exact S.drawn _
end
end Go.Jk
