/- Required packs cannot be removed: of drawn roots, RootOut refuses a pack that others need, with the code that says so, and otherwise the root without it is ok and has its tree without that pack's own files. (part 2 of 6: JnOps14, JnOps15, JnOps16, JnOps17, JnOps18, JnCall1, JnCall2, JnCall3, JnCall4, JnCall5, JnBld, JnCall6, JnDraw1, JnNest, JnLogic, JnWalk0, JnDraw2, JnDraw3) Conditions: none beyond the statement. -/
import Derived.Test.YthllakklnccioaaGreatDoorZFnRootOut0
import Derived.Laws.BytesArg
import Derived.Lib.ConvBytes
import Derived.RangeFuncRecord
import Derived.Below
import Derived.RangeFuncSeq
import Derived.Orders
import Derived.OrdersIn
import Derived.ControlIn
import Derived.LoopIn
import Derived.RangeFuncCalls
set_option linter.unusedVariables false
set_option linter.unusedSimpArgs false
namespace Go.Jk
section
variable {P:Program}{U:World}{O:List Nat}{X:Nat->Prop}{B:Nat->Value}{st:ai}{tm:Array Value}{w:World}{D:Oper}
theorem td(xs:List Int):flat .u8 xs=xs.map (aU.int .u8):=by
 unfold flat;induction xs with
 |nil=>rfl
 |cons x xs ih=>simp only[List.flatMap_cons,List.map_cons,ih];rfl
theorem Qs{w:World}{av:Nat->Prop}{xs:List Int}{cs:List Value}(h:ck w av (flat .u8 xs) cs):cs=xs.map (Value.int .u8):=by
 obtain⟨h1,h2⟩:=h;rw[td] at h1;apply List.ext_getElem
 ·rw[h1];simp
 ·intro j g1 g2;have g3:j<xs.length:=by simpa using g2
  have:=h2 j (by rw[td];simpa using g3) g1
  have e:(flat .u8 xs)[j]'(by rw[td];simpa using g3)=aU.int .u8 xs[j]:=by simp[td]
  rw[e] at this;rw[iJ this];simp
theorem LG{src dst e:TypeId}{a:Addr}{len cap:Nat}{xs:List Int}(M:P.underlying src=some (.slice e))(he:P.underlying e=some (.int .u8))(Z:P.underlying dst=some .string)
  (hlen:xs.length=len) (hc:∀j u,(xs.map (Value.int .u8))[j]? =some u->w.cell? (a.add j)=some u):
  ∃b:ByteArray,(convert src dst (.slice (some a) len cap)).run P w=.ok (.string b) w/\b.data.toList=strOf xs:=by
 have hl:(loadCells a len).run P w=.ok (xs.map (Value.int .u8)).toArray w:=by
  have:=run_loadCells_list (P:=P) w a (xs.map (Value.int .u8)) hc;simpa[hlen] using this
 rw[run_convert_bytes_string w src dst e _ len cap M he Z,run_bytesToString w a len cap xs hl,foldl_push_bytes];exact⟨_,rfl,by simp[strOf]⟩
theorem yy{ti:cm}(h:isByte ti=true):ti=.int .u8:=by
 unfold isByte at h;split at h
 ·rfl
 ·cases h
theorem ack(s:J):(bytesOf s).length=s.length:=by simp[bytesOf]
theorem ad7(S:ak U O X B st tm w){C:Ctx}(aG:CtxOk P C){src dst:TypeId}{x:Operand}{o:Nat}(ap:D.op=.convert src dst x)(dh:D.dst=some o)(Z:cd st D.dst=true):
  Holds (uf C src dst o st (aS C st src x)) (cG P U O X st tm w D):=by
 have bx:=cV S C src x;have M:=aG.tt src;have aA:=aG.tt dst;have run:∀{vv:Value} {w':World},(convert src dst (Act.eval ⟨tm,[]⟩ x)).run P w=.ok vv w'->(execOp (Act.eval ⟨tm,[]⟩) D).run P w=.ok (.value vv) w':=by
  intro vv w' h;unfold execOp;simp only[ap,Sem.run_bind,h,Result.andThen_ok,Sem.run_pure]
 have rS:∀{ti:cm},ti.ok P src->ti≠.none->∃d,P.underlying src=some d:=by
  intro ti h hn;cases ti with
  |none=>exact absurd rfl hn
  |int k=>exact⟨_,h.1⟩
  |bool=>exact⟨_,h.1⟩
  |str=>exact⟨_,h.1⟩
  |ptr=>obtain⟨_,h⟩:=h;exact⟨_,h.1⟩
  |func=>obtain⟨_,_,_,h⟩:=h;exact⟨_,h.1⟩
  |iface=>obtain⟨_,h⟩:=h;exact⟨_,h.1⟩
  |slice e t b=>exact⟨_,h.1.1⟩
  |map k e t=>exact⟨_,h.1.1⟩
  |struct b1 n z eq=>obtain⟨f,h,_⟩:=h;exact⟨_,h⟩
  |arr e t n=>exact⟨_,h.1⟩
 unfold uf;split
 ·exact .fail
 ·rename_i k k' n af hx hn;rw[hx] at bx;rw[af] at aA;obtain⟨d,nj⟩:=rS M (by rintro h;exact absurd h (by simpa using hn))
  refine Holds.ok (dH S Z (run (vv:=.int k (k.wrap n)) ?_) (.int _ _));rw[iJ bx];simp[convert,run_underlying nj,run_underlying aA.1,Conv.intToInt]
 ·rename_i s af hx hn;rw[hx] at bx;rw[af] at aA;obtain⟨b,hb,dA⟩:=gF bx;obtain⟨d,nj⟩:=rS M (by rintro h;exact absurd h (by simpa using hn))
  refine Holds.ok (dH S Z (run (vv:=.string b) ?_) (.str _ _ dA));rw[hb];simp[convert,run_underlying nj,run_underlying aA.1]
 ·rename_i e b xs hsrc ry hx;cases kP:isByte (C.tt e) with
  |false=>exact .fail
  |true=>
   rw[hx] at bx;rw[ry] at aA;rw[hsrc] at M;have he:=aG.tt e;rw[yy kP] at he;have bx:Rd w (au X B st.sites) (.sl .u8 xs) (Act.eval ⟨tm,[]⟩ x):=bx;have:∃b:ByteArray,(convert src dst (Act.eval ⟨tm,[]⟩ x)).run P w=.ok (.string b) w/\b.data.toList=strOf xs:=by
    generalize Act.eval ⟨tm,[]⟩ x=v at bx;cases bx with
    |nil=>exact⟨_,run_convert_bytes_nil w src e M.1.1 he.1 _ _ dst aA.1,rfl⟩
    |sl _ _ a cap cs n hn hcap hb hl hc hr=>
     have:=Qs (xs:=xs) ⟨hl,hr⟩;subst this;exact LG M.1.1 he.1 aA.1 hn.symm hc
   obtain⟨b,h1,h2⟩:=this;exact Holds.ok (dH S Z (run h1) (.str _ _ h2))
 ·rename_i e b u hsrc ry hx;cases kP:isByte (C.tt e) with
  |false=>exact .fail
  |true=>
   rw[hx] at bx;rw[ry] at aA;rw[hsrc] at M;have he:=aG.tt e;rw[yy kP] at he;have bx:Act.eval ⟨tm,[]⟩ x=.slice none 0 0:=bx;refine Holds.ok (dH S Z (run (vv:=.string ByteArray.empty) ?_) (.str _ _ rfl));rw[bx];exact run_convert_bytes_nil w src e M.1.1 he.1 _ _ dst aA.1
 ·rename_i e b H s hsrc ry hx;split
  ·rename_i xs cC;cases kP:isByte (C.tt e) with
   |false=>exact .fail
   |true=>
    rw[hx] at bx;rw[ry] at aA;rw[hsrc] at M;have he:=aG.tt e;rw[yy kP] at he;have hv:=afg bx cC;have:∃b:ByteArray,(convert src dst (Act.eval ⟨tm,[]⟩ x)).run P w=.ok (.string b) w/\b.data.toList=strOf xs:=by
     rw[hv];obtain⟨cs,h1,hc⟩:=S.row cC;rcases hc with⟨h2,ab⟩|⟨be,c,h2,ab,aF⟩
     ·subst ab;rw[h2];exact⟨_,run_convert_bytes_nil w src e M.1.1 he.1 _ _ dst aA.1,rfl⟩
     ·have:=Qs (xs:=xs) (iF h1);subst this;rw[h2];exact LG M.1.1 he.1 aA.1 rfl (fun j u hu=>by rw[fZ];exact ab j u hu)
    obtain⟨b,h1,h2⟩:=this;exact Holds.ok (dH S Z (run h1) (.str _ _ h2))
  ·exact .fail
 ·rename_i e b s hsrc ry hx;cases kP:isByte (C.tt e) with
  |false=>exact .fail
  |true=>
   rw[hx] at bx;rw[ry] at aA;rw[hsrc] at M;have he:=aG.tt e;rw[yy kP] at he;obtain⟨hs,hb,dA⟩:=gF bx;have cP:(convert src dst (Act.eval ⟨tm,[]⟩ x)).run P w=.ok (.slice (some ⟨w.heap.size,0,none⟩) hs.size (grownCap w hs.size 0 e)) (Go.Lib.bytesWorld w e hs):=by
    rw[hb];exact Go.Lib.run_convert_string_bytes w src dst e hs M.1 aA.1.1 he.1
   have hcap:hs.size<=grownCap w hs.size 0 e:=grownCap_ge w hs.size 0 e;refine Holds.eA fun r hr=>?_
   have wR:hs.size<=maxLen:=by
    have hr:(if s.length<=maxLen then some () else none)=some r:=hr
    split at hr
    ·rename_i h;rw[<-dA] at h;simpa using h
    ·cases hr
   have hsz:(Go.Lib.bytesCells w e hs).size=grownCap w hs.size 0 e:=by
    simp only[Go.Lib.bytesCells,Array.size_append,Array.size_map,Array.size_replicate];have:hs.data.size=hs.size:=rfl;omega
   have hlen:hs.size=(bytesOf s).length:=by rw[ack,<-dA];rfl
   have hY:ak U O X (fun H=>if H=o then .slice (some ⟨w.heap.size,0,none⟩) hs.size (grownCap w hs.size 0 e) else B H) {st with sites:=cf st.sites o (.row (a6 st o) .u8 (bytesOf s))} tm (Go.Lib.bytesWorld w e hs):=by
    refine S.make (fun b hb=>Go.Lib.bytesWorld_at_old w e hs b hb) rfl rfl rfl (by rw[Go.Lib.bytesWorld_size];omega) (fun Y M=>jp M)
     (fun b hb=>by have hb:=List.mem_singleton.1 hb;subst hb;exact⟨Nat.le_refl _,by rw[Go.Lib.bytesWorld_size];exact Nat.lt_succ_self _⟩) ?_
    intro bp aE eU ee go ar1 ar9;refine⟨e,hs.data.toList.map fun b=>Value.int .u8 b.toNat,⟨?_,.inr ⟨_,_,Go.Lib.bytesCells w e hs,_,ee.trans (by rw[hlen]),⟨(fun h=>by obtain⟨_,z,_,_,eX⟩:=aA;exact eX h),.inr ⟨rfl,Nat.le_refl _⟩⟩,Go.Lib.bytesWorld_at_new w e hs,by rw[<-hlen];exact hcap,grownCap_le_maxLen w hs.size 0 e wR,?_,?_⟩⟩,fun j g1 g2=>?_⟩
    ·rw[List.length_map,<-hlen];exact(Nat.mul_one _).symm
    ·rw[hsz];exact(Nat.mul_one _).symm
    ·have h1:(bytesOf s).length*aC .u8=(hs.data.toList.map fun b=>Value.int .u8 b.toNat).length:=by rw[List.length_map,<-hlen];exact Nat.mul_one _
     rw[h1];simp only[Go.Lib.bytesCells,Array.toList_append,Array.toList_map];exact List.take_left
    ·subst dA;simp only[td,bytesOf,List.getElem_map];exact .int _ _
   refine ik (us:=[(o,.row (a6 st o) .u8 (bytesOf s))]) hY Z (run cP) ?_
   refine⟨rfl,Ref.mk (Y:=.row (a6 st o) .u8 (bytesOf s)) ?_ rfl (by simp[bT])⟩
   simp only[ba,cv];simp
 ·exact .fail
end
section
variable {P:Program}{U:World}{O:List Nat}{X:Nat->Prop}{B:Nat->Value}{st:ai}{tm:Array Value}{w:World}{D:Oper}
theorem PD(S:ak U O X B st tm w){C:Ctx}{x:Operand}(ap:D.op=.move x\/D.op=.assign x)(Z:cd st D.dst=true)(T:TypeId):cG P U O X st tm w D (aS C st T x) []:=by
 refine dH S Z (vv:=Act.eval ⟨tm,[]⟩ x) ?_ (cV S C T x);unfold execOp;rcases ap with h|h<;>simp only[h,Sem.run_pure]
theorem Pv(S:ak U O X B st tm w){C:Ctx}{c a b:Operand}{t:Bool}{T:TypeId}(ap:D.op=.pick c a b)(Z:cd st D.dst=true)(hc:aS C st T c=.av (.am (.d (.bool t)))):
  cG P U O X st tm w D (aS C st T (if t then a else b)) []:=by
 refine dH S Z (vv:=Act.eval ⟨tm,[]⟩ (if t then a else b)) ?_ (cV S C T _)
 unfold execOp;have:=GO S hc;cases t<;>simp[ap,this,asBool]
theorem ZS(S:ak U O X B st tm w){C:Ctx}{x:Operand}{t:Bool}{T ew:TypeId}(ap:D.op=.unOp .not ew x)(Z:cd st D.dst=true)(hc:aS C st T x=.av (.am (.d (.bool t)))):
  cG P U O X st tm w D (one (.bool (!t))) []:=by
 refine dH S Z (vv:=.bool (!t)) ?_ (.bool _);unfold execOp;simp[ap,GO S hc,Op.unary]
theorem ZT(S:ak U O X B st tm w){C:Ctx}{x:Operand}{k:IntKind}{n:Int}{T ew:TypeId}(ap:D.op=.unOp .neg ew x)(Z:cd st D.dst=true)(hc:aS C st T x=.av (.am (.d (.int k n)))):
  cG P U O X st tm w D (one (.int k (k.wrap (0-n)))) []:=by
 refine dH S Z (vv:=.int k (k.wrap (0-n))) ?_ (.int _ _);unfold execOp;simp[ap,kt S hc,Op.unary,Op.intArith]
theorem DH(S:ak U O X B st tm w){C:Ctx}{x:Operand}{v:aP}{T:TypeId}(ap:D.op=.nilCheck x)(Z:cd st D.dst=true)(hc:aS C st T x=v)
  (hv:∀vv,ce B st.sites w (au X B st.sites) v vv->∃a,vv=.pointer (some a)):cG P U O X st tm w D v []:=by
 have:=cV S C T x;rw[hc] at this;obtain⟨a,aT⟩:=hv _ this;refine dH S Z (vv:=Act.eval ⟨tm,[]⟩ x) ?_ this;unfold execOp;simp[ap,aT]
theorem aap(S:ak U O X B st tm w){C:Ctx}{x:Operand}{i:Nat}{as:List bH}{a:bH}{T:TypeId}(ap:D.op=.extract x i)(Z:cd st D.dst=true)(hc:aS C st T x=.jE as)(aT:as[i]? =some a):
  cG P U O X st tm w D (.av a) []:=by
 have bx:=cV S C T x;rw[hc] at bx;obtain⟨vs,h1,h2,ab⟩:=bx;obtain⟨hi,aoC⟩:=List.getElem?_eq_some_iff.1 aT;have iU:i<vs.length:=by omega
 refine dH S Z (vv:=vs[i]) ?_ (by rw[<-aoC];exact ab i hi iU)
 unfold execOp;simp[ap,h1,Instr.extract,iU]
theorem Nz(S:ak U O X B st tm w){C:Ctx}{x y:Operand}{k k':IntKind}{a b:Int}{T:TypeId}{t':Bool}{cY:Array TypeId}(ap:D.op=.call {callee:=.builtin (if t' then .max else .min),args:=#[x,y],argTypes:=cY})(Z:cd st D.dst=true)
  (hx:aS C st T x=.av (.am (.d (.int k a)))) (al:aS C st T y=.av (.am (.d (.int k' b)))):cG P U O X st tm w D (one (.int k (if t' then hJ a b else B8 a b))) []:=by
 refine dH S Z (vv:=.int k (if t' then hJ a b else B8 a b)) ?_ (.int _ _)
 unfold execOp;cases t'<;>simp[ap,resolve,invoke,builtin,kt S hx,kt S al,Builtin.max_,Builtin.min_,Builtin.max2,Builtin.min2,hJ,B8]
theorem afn(S:ak U O X B st tm w){C:Ctx}{x y z u v:Operand}{k ax an bG ci:IntKind}{a b c d e:Int}{T:TypeId}{cY:Array TypeId}(ap:D.op=.call {callee:=.builtin .max,args:=#[x,y,z,u,v],argTypes:=cY})(Z:cd st D.dst=true)
  (hx:aS C st T x=.av (.am (.d (.int k a)))) (al:aS C st T y=.av (.am (.d (.int ax b)))) (hz:aS C st T z=.av (.am (.d (.int an c)))) (hu:aS C st T u=.av (.am (.d (.int bG d)))) (hv:aS C st T v=.av (.am (.d (.int ci e)))):
  cG P U O X st tm w D (one (.int k (hJ (hJ (hJ (hJ a b) c) d) e))) []:=by
 refine dH S Z (vv:=.int k (hJ (hJ (hJ (hJ a b) c) d) e)) ?_ (.int _ _);unfold execOp;simp[ap,resolve,invoke,builtin,kt S hx,kt S al,kt S hz,kt S hu,kt S hv,Builtin.max_,Builtin.max2,hJ]
theorem ad8(S:ak U O X B st tm w){C:Ctx}:∀{xs:List Operand} {bP:List (Nat×Nat)},step.o6 C st xs=some bP->xs.length=bP.length/\
  ∀i (h:i<bP.length) (ah:i<xs.length),Ref st.sites (bP[i]).1 (bP[i]).2 (Act.eval ⟨tm,[]⟩ (xs[i])=bT (B (bP[i]).1)):=by
 intro xs;induction xs with
 |nil=>intro bP h;simp only[step.o6] at h;cases h;exact⟨rfl,fun i h=>by simp at h⟩
 |cons x xs ih=>
  intro bP h;simp only[step.o6] at h;split at h
  ·rename_i o s l hx hl;cases h;obtain⟨h1,h2⟩:=ih hl;refine⟨by simp[h1],fun i g1 g2=>?_⟩
   cases i with
   |zero=>
    have:=cV S C 0 x;rw[hx] at this;obtain⟨b,hb,Y,r1,r2,c9⟩:=this;exact⟨Y,r1,r2,fun e=>by simp only[List.getElem_cons_zero];rw[c9 e];exact hb⟩
   |succ i=>simpa using h2 i (by simpa using g1) (by simpa using g2)
  ·cases h
theorem _e(S:ak U O X B st tm w){C:Ctx}{g:FuncId}{first captured:Array Operand}{bP:List (Nat×Nat)}(ap:D.op=.makeFunc (.func g) first captured)(Z:cd st D.dst=true)(hf:first.toList.isEmpty=true)
  (hc:step.o6 C st captured.toList=some bP):cG P U O X st tm w D (bZ (.clo g bP)) []:=by
 obtain⟨h1,h2⟩:=ad8 S hc;refine dH S Z (vv:=.func (.func g) #[] (captured.toList.map (Act.eval ⟨tm,[]⟩)).toArray) ?_ ⟨captured.toList.map (Act.eval ⟨tm,[]⟩),rfl,by simpa using h1,fun i g1 g2=>?_⟩
 ·have:first=#[]:=by simpa using hf
  unfold execOp;simp only[ap,Instr.makeFunc,Sem.run_bind,Sem.run_pure,Result.andThen_ok,this];simp;apply Array.ext';simp
 ·have:=h2 i g1 (by simpa using g2)
  simpa using this
theorem NW(S:ak U O X B st tm w){C:Ctx}{b1:List (Nat×Nat)}:∀(parts:List (Nat×Operand)) (z:List aD) (cells:Array Value),cw B st.sites w (au X B st.sites) z cells.toList->
  Holds (step.nK C st b1 z parts) (fun v us=>us=[]/\∃jT,Instr.fill (b1.toArray[·]?) cells (parts.map fun p=>(p.1,Act.eval ⟨tm,[]⟩ p.2))=some jT/\ce B st.sites w (au X B st.sites) v (.agg jT)):=by
 intro parts;induction parts with
 |nil=>intro z cells h;exact Holds.ok ⟨rfl,cells,rfl,cells.toList,by simp,h.1,h.2⟩
 |cons p parts ih=>
  obtain⟨i,x⟩:=p;intro z cells h;simp only[step.nK];split
  ·rename_i off n a hf aT;cases hb:(a.cells.length.beq n&&gX a.cells&&Nat.ble (off+n) z.length) with
   |false=>exact .fail
   |true=>
    simp only[cond_true];simp only[Bool.and_eq_true] at hb;obtain⟨⟨bc,aO⟩,ca⟩:=hb;have bc:=Nat.eq_of_beq_eq_true bc;have ca:=Nat.le_of_ble_eq_true ca;have bx:=cV S C 0 x;rw[q4 aT] at bx;have nI:=gO.cells (bx:gO B st.sites w _ a _) aO;have hsz:(Act.eval ⟨tm,[]⟩ x).cells.size=n:=by rw[<-bc,<-nI.1];simp
    have c7:off+(Act.eval ⟨tm,[]⟩ x).cells.size<=cells.size:=by
     have:=h.1;simp at this;omega
    have:=ih (Jk.bw z off a.cells) (Jk.bw cells.toList off (Act.eval ⟨tm,[]⟩ x).cells.toList).toArray (by simpa using cw.bw off h nI)
    intro y al hc;obtain⟨g1,jT,g2,g3⟩:=this y al hc;refine⟨g1,jT,?_,g3⟩;simp only[List.map_cons,Instr.fill];have xL:b1.toArray[i]? =some (off,n):=by simpa using hf
    simp only[xL];have c1:¬((Act.eval ⟨tm,[]⟩ x).cells.size≠n\/off+(Act.eval ⟨tm,[]⟩ x).cells.size>cells.size):=by omega
    have c2:(decide ((Act.eval ⟨tm,[]⟩ x).cells.size≠n)||decide (off+(Act.eval ⟨tm,[]⟩ x).cells.size>cells.size))=false:=by
     simp;omega
    have jy:off+n<=cells.size:=by omega
    rw[Md _ _ _ c7];simp only[Bool.decide_or,hsz] at*;simpa[c2,jy] using g2
  ·exact .fail
theorem aea(S:ak U O X B st tm w){C:Ctx}(aG:CtxOk P C){T:TypeId}{parts:Array (Nat×Operand)}{b1:List (Nat×Nat)}{n:Nat}{z:List aD}{eq:Bool}(aZ:C.tt T=.struct b1 n z eq)(ap:D.op=.build T parts)
  (Z:cd st D.dst=true):Holds (step.nK C st b1 z parts.toList) (cG P U O X st tm w D):=by
 have bA:=aG.tt T;rw[aZ] at bA;obtain⟨fields,ef,⟨hf,_⟩,⟨fT,hz,hzz,hzl⟩,_⟩:=bA;obtain⟨ax,an,bG⟩:=sP hzz;intro y al hc;obtain⟨g1,jT,g2,g3⟩:=NW S parts.toList z fT ⟨ax,fun j h ah=>bG _ _ _ _ j h ah⟩ y al hc
 rw[g1];refine dH S Z (vv:=.agg jT) ?_ g3;cases hi:P.info? T with
 |none=>simp[hi] at hz
 |some K0=>
  simp only[hi,Option.map_some,Option.some.injEq,Prod.mk.injEq] at hz;have hb:P.built T (parts.toList.map fun p=>(p.1,Act.eval ⟨tm,[]⟩ p.2))=some jT:=by
   unfold Program.built;simp only[hi,ef,hz.2,hf];exact g2
  have ch:P.built T (parts.map fun p=>(p.1,Act.eval ⟨tm,[]⟩ p.2)).toList=some jT:=by simpa using hb
  unfold execOp;simp only[ap,Sem.run_bind,run_build w T _ jT ch,Result.andThen_ok,Sem.run_pure]
end
def kp(w:World)(b:Nat)(D:Obj):World:={w with heap:=w.heap.setIfInBounds b D}
theorem s8{b:ByteArray}{l:J}(h:b.data.toList=l):Value.string b=ev l:=by
 subst h;rfl
def gI{aK:Type}:List (J×aK)->J->Nat->Option (Nat×aK)
 |[],_,_=>none
 |(k,v)::r,n,i=>bif k==n then some (i,v) else gI r n (i+1)
theorem abV{aK:Type}(n:J):∀(es:List (J×aK)) (i:Nat),(gI es n i).map (·.2)=dy es n:=by
 intro es;induction es with
 |nil=>intro i;rfl
 |cons p es ih=>
  intro i;simp only[gI,dy];cases p.1==n with
  |true=>rfl
  |false=>exact ih (i+1)
theorem _d{aK:Type}(n:J)(v:aK):∀(es:List (J×aK)) (i:Nat),gI es n i=none->c4 es n v=es++[(n,v)]:=by
 intro es;induction es with
 |nil=>intro i _;rfl
 |cons p es ih=>
  intro i h;simp only[gI] at h;simp only[c4];cases ag:(p.1==n) with
  |true=>rw[ag] at h;cases h
  |false=>rw[ag] at h;simp only[cond_false,ih (i+1) h,List.cons_append]
theorem aae{aK:Type}(n:J)(v:aK):∀(es:List (J×aK)) (i j:Nat) (v0:aK),gI es n i=some (j,v0)->i<=j/\(∃p,es[j-i]? =some p/\p.1=n)/\c4 es n v=es.modify (j-i) fun p=>(p.1,v):=by
 intro es;induction es with
 |nil=>intro i j v0 h;cases h
 |cons p es ih=>
  intro i j v0 h;simp only[gI] at h;simp only[c4];cases ag:(p.1==n) with
  |true=>
   rw[ag] at h;cases h;refine⟨Nat.le_refl _,⟨p,by simp,eq_of_beq ag⟩,?_⟩
   simp
  |false=>
   rw[ag] at h;obtain⟨h1,⟨q,h2,ab⟩,aF⟩:=ih (i+1) j v0 h;have e:j-i=(j-(i+1))+1:=by omega
   refine⟨by omega,⟨q,by rw[e];simpa using h2,ab⟩,?_⟩
   rw[e,cond_false,aF,List.modify_succ_cons]
theorem abU{aK iW:Type}(g:aK->iW)(n:J):∀(es:List (J×aK)) (i:Nat),gI (es.map fun p=>(p.1,g p.2)) n i=(gI es n i).map fun p=>(p.1,g p.2):=by
 intro es;induction es with
 |nil=>intro i;rfl
 |cons p es ih=>
  intro i;simp only[List.map_cons,gI];cases p.1==n with
  |true=>rfl
  |false=>exact ih (i+1)
theorem Mz{aK iW:Type}(g:aK->iW)(n:J)(x:aK):∀(es:List (J×aK)),c4 (es.map fun p=>(p.1,g p.2)) n (g x)=(c4 es n x).map fun p=>(p.1,g p.2):=by
 intro es;induction es with
 |nil=>rfl
 |cons p es ih=>
  simp only[List.map_cons,c4];cases p.1==n with
  |true=>rfl
  |false=>simp only[cond_false,List.map_cons,ih]
theorem F5{t:aJ}(es:List (J×den t)):o5 t es=jd (es.map fun p=>(p.1,ou t p.2)):=by simp[o5,jd]
theorem NP(n:J):∀(es:List (J×Value)) (jl:List MapEntry) (i:Nat),jl.map (fun e=>(e.key,e.val))=jd es->
  Instr.findNow .string (ev n) jl i=some (gI es n i)
 |[],jl,i,h=>by
  have:jl=[]:=by simpa[jd] using h
  subst this;rfl
 |(k,v)::es,[],i,h=>by simp[jd] at h
 |(k,v)::es,m::jl,i,h=>by
  simp only[jd,List.map_cons,List.cons.injEq,Prod.mk.injEq] at h;obtain⟨⟨h1,h2⟩,ab⟩:=h;have ih:=NP n es jl (i+1) ab;have M:Instr.sameNow .string (ev n) m.key=some (k==n):=by
   rw[h1];show some ((⟨n.toArray⟩:ByteArray)==⟨k.toArray⟩)=_;rw[bytes_beq];congr 1
   rw[Bool.eq_iff_iff];simp only[beq_iff_eq];exact eq_comm
  unfold Instr.findNow gI;rw[M];cases k==n with
  |true=>simp only[cond_true,h2]
  |false=>simp only[cond_false];exact ih
section
variable {P:Program}{w:World}{e6 fH T:TypeId}{t:aJ}
theorem _R{e6:TypeId}(af:P.underlying e6=some .string)(c:Bool)(s:J)(n:Nat):(Instr.checkKey c (n+1) e6 (ev s)).run P w=.ok () w:=by
 simp[Instr.checkKey,run_underlying af,ev,Result.andThen]
theorem nz{e6:TypeId}(af:P.underlying e6=some .string)(c:Bool)(s:J):(Instr.checkKey c 10000 e6 (ev s)).run P w=.ok () w:=_R af c s 9999
theorem sW{e6:TypeId}(af:P.underlying e6=some .string){es:List (J×Value)}{arr:Array MapEntry}(h:iK arr=jd es)(n:J):
  (Instr.findKey e6 (ev n) arr.toList).run P w=.ok (gI es n 0) w:=by
 simp[Instr.findKey,run_underlying af,NP n es arr.toList 0 h,Result.andThen]
theorem OK{e6:TypeId}(af:P.underlying e6=some .string){es:List (J×den t)}{arr:Array MapEntry}(h:iK arr=o5 t es)(n:J):
  (Instr.findKey e6 (ev n) arr.toList).run P w=.ok ((gI es n 0).map fun p=>(p.1,ou t p.2)) w:=by
 rw[sW af (h.trans (F5 es)),abU]
theorem abj(s:J):(Instr.keyThatStays (ev s) (ev s)).run P w=.ok (ev s) w:=by
 have:Instr.sameBits 10000 (ev s) (ev s)=true:=by
  show((⟨s.toArray⟩:ByteArray)==⟨s.toArray⟩)=true;rw[bytes_beq];simp
 simp[Instr.keyThatStays,this]
theorem ail{t:aJ}{d:aU}{x:den t}{v:Value}{av:Nat->Prop}(h:H7 t d=some x)(hr:Rd w av d v):v=ou t x:=by
 unfold H7 at h;split at h
 ·cases h;cases hr;rfl
 ·cases h;cases hr;rfl
 ·cases h
theorem LZ(aZ:P.underlying T=some (.map e6 fH))(af:P.underlying e6=some .string){b:Nat}{arr:Array MapEntry}{clock:Nat}{es:List (J×Value)}(hb:w.heap[b]? =some (.map arr clock))(he:iK arr=jd es)(n:J)(x:Value):
  ∃jB jS,(Instr.mapUpdate T (.map (some b)) (ev n) x).run P w=.ok () (kp w b (.map jB jS))/\iK jB=jd (c4 es n x):=by
 cases hm:gI es n 0 with
 |none=>
  refine⟨arr.push ⟨ev n,x,clock⟩,clock+1,?_,?_⟩
  ·have hf:=sW (w:=w) af he n;rw[hm] at hf;simp[Instr.mapUpdate,run_underlying aZ,MapKept.run_getObj_map hb,nz af,hf,MapKept.run_setObj_map _ hb,Result.andThen,kp]
  ·rw[_d n x es 0 hm];unfold iK jd at he ⊢;simp[he]
 |some p=>
  obtain⟨j,v0⟩:=p;obtain⟨_,⟨q,h2,ab⟩,aF⟩:=aae n x es 0 j v0 hm;rw[Nat.sub_zero] at h2 aF;have hlen:arr.size=es.length:=by have:=congrArg List.length he;simpa[iK,jd] using this
  have hj:j<arr.size:=by rw[hlen];exact(List.getElem?_eq_some_iff.1 h2).1
  have akF:((arr[j]?).map (·.key)).getD (ev n)=ev n:=by
   have bo:=congrArg (fun l=>l[j]?) he
   simp only[iK,jd,List.getElem?_map,h2,Option.map_some,Array.getElem?_toList] at bo;cases aT:arr[j]? with
   |none=>rfl
   |some e=>
    rw[aT] at bo;simp only[Option.map_some,Option.some.injEq,Prod.mk.injEq] at bo;simp[bo.1,ab]
  refine⟨arr.modify j fun e=>{e with key:=ev n,val:=x},clock,?_,?_⟩
  ·have hf:=sW (w:=w) af he n;rw[hm] at hf;simp[Instr.mapUpdate,run_underlying aZ,MapKept.run_getObj_map hb,nz af,hf,MapKept.run_setObj_map _ hb,Result.andThen,kp,akF,abj]
  ·rw[aF];unfold iK jd at he ⊢;apply List.ext_getElem?;intro i;have bo:=congrArg (fun l=>l[i]?) he
   simp only[List.getElem?_map,Array.getElem?_toList] at bo;simp only[List.getElem?_map,Array.getElem?_toList,Array.getElem?_modify,List.getElem?_modify];by_cases hij:j=i
   ·subst hij;simp only[if_true,h2,Option.map_some,<-ab];cases aT:arr[j]? with
    |none=>rw[aT,h2] at bo;cases bo
    |some e=>rfl
   ·simp only[hij,if_false];cases aT:arr[i]? <;>cases ch:es[i]? <;>rw[aT,ch] at bo<;>simp_all
theorem _P(aZ:P.underlying T=some (.map e6 fH))(af:P.underlying e6=some .string){b:Nat}{arr:Array MapEntry}{clock:Nat}{es:List (J×den t)}(hb:w.heap[b]? =some (.map arr clock))(he:iK arr=o5 t es)(n:J)(x:den t):
  ∃jB jS,(Instr.mapUpdate T (.map (some b)) (ev n) (ou t x)).run P w=.ok () (kp w b (.map jB jS))/\iK jB=o5 t (c4 es n x):=by
 obtain⟨jB,jS,h1,h2⟩:=LZ (T:=T) aZ af hb (he.trans (F5 es)) n (ou t x);exact⟨jB,jS,h1,by rw[h2,Mz (ou t),<-F5]⟩
end
section
variable {P:Program}{U:World}{O:List Nat}{X:Nat->Prop}{B:Nat->Value}{st:ai}{tm:Array Value}{w:World}{D:Oper}
theorem vq(w:World)(b be:Nat)(D:Obj)(h:be≠b):(kp w b D).heap[be]? =w.heap[be]? :=by
 simp only[kp,Array.getElem?_setIfInBounds];rw[if_neg (fun e=>h e.symm)]
theorem Lr(w:World)(b:Nat)(D cX:Obj)(h:w.heap[b]? =some cX):(kp w b D).heap[b]? =some D:=by
 have:=(Array.getElem?_eq_some_iff.1 h).1;simp[kp,Array.getElem?_setIfInBounds,this]
theorem ak.agE(S:ak U O X B st tm w){o s b:Nat}{t:aJ}{es hQ:List (J×den t)}{D:Obj}{jB:Array MapEntry}{jS:Nat}(hl:look st.sites o=some (.map s t es))(bQ:B o=.map (some b))(hg:w.heap[b]? =some D)
  (he:iK jB=o5 t hQ):ak U O X B {st with sites:=cf st.sites o (.map s t hQ)} tm (kp w b (.map jB jS)):=by
 have xP:b∈bl (B o):=fY (by rw[bQ];rfl)
 have cI:b2 st.sites o:=⟨_,hl,rfl⟩;have mV:∀H,b2 (cf st.sites o (.map s t hQ)) H <-> b2 st.sites H:=MF hl rfl;have b':∀be,au X B (cf st.sites o (.map s t hQ)) be <-> au X B st.sites be:=by
  intro be;unfold au;simp only[mV]
 have hne:∀be,¬au X B st.sites be->be≠b:=by
  rintro be h rfl;exact h (.inr ⟨o,cI,xP⟩)
 have hsz:(kp w b (.map jB jS)).heap.size=w.heap.size:=by simp[kp]
 refine S.o9 (fun H ar br=>?_) (fun be h _=>vq w b be _ (hne be h)) (fun be h _=>by rw[b'];exact h) (fun go H ar br=>?_) (fun H aN be h1 h2=>S.dp H aN be ((mV H).1 h1) ((mV aN).1 h2))
  (fun H be h=>S.cg H be ((mV H).1 h)) (fun H be h hb=>by rw[hsz];exact S.dX ((mV H).1 h) hb) ?_ (by rw[hsz];exact Nat.le_refl _)
 ·rw[cv];by_cases e:o=H
  ·subst e;rw[hl] at br;cases br;exact⟨.map s t hQ,by simp,Nat.le_refl _,fun _=>rfl⟩
  ·exact⟨ar,by simp[e,br],Nat.le_refl _,fun _=>rfl⟩
 ·rw[cv] at br;by_cases e:o=H
  ·subst e;simp only[if_true,Option.some.injEq] at br;subst br;exact .inr ⟨b,bQ,jB,jS,Lr w b _ _ hg,he⟩
  ·simp only[e,if_false] at br;refine .inl ⟨br,rfl,fun uv be ch=>vq w b be _ ?_⟩
   rintro rfl;exact e (S.dp o H _ cI ⟨ar,br,uv⟩ xP ch)
 ·have aL:=S.frame;refine⟨aL.os,aL.tape,aL.output,by rw[hsz];exact aL.size,fun be h1 h2=>?_⟩
  rw[vq w b be _ ?_]
  ·exact aL.block be h1 h2
  ·rintro rfl;rcases(S.cg o _ cI xP).2 with h|h
   ·exact h2 h
   ·omega
theorem ak.makeMap(S:ak U O X B st tm w){o:Nat}{t:aJ}:
  ak U O X (fun H=>if H=o then .map (some w.heap.size) else B H) {st with sites:=cf st.sites o (.map (a6 st o) t [])} tm (w.alloc (.map #[] 0)):=
 S.make (fun b hb=>RowKit.Below.heap_alloc w _ b hb) rfl rfl rfl (by simp) (fun Y M=>jp M) (fun b hb=>by have hb:=List.mem_singleton.1 hb;subst hb;exact⟨Nat.le_refl _,by simp⟩)
  (fun M bQ go _ _=>⟨w.heap.size,bQ,#[],0,heap_alloc_new w _,rfl⟩)
theorem ak.adF(S:ak U O X B st tm w){o:Nat}:
  ak U O X (fun H=>if H=o then .tuple [.map (some w.heap.size)].toArray else B H) {st with sites:=cf st.sites o (.eB (a6 st o) [])} tm (w.alloc (.map #[] 0)):=
 S.make (fun b hb=>RowKit.Below.heap_alloc w _ b hb) rfl rfl rfl (by simp) (fun Y M=>jp M) (fun b hb=>by
   have hb:=List.mem_singleton.1 hb;subst hb;exact⟨Nat.le_refl _,by simp⟩)
  (fun M bQ go _ _=>⟨w.heap.size,#[],0,[],bQ,by rw[bQ];simp[bl,aW],heap_alloc_new w _,[],rfl,.nil⟩)
end
section
variable {P:Program}{U:World}{O:List Nat}{X:Nat->Prop}{B:Nat->Value}{st:ai}{tm:Array Value}{w:World}{D:Oper}
theorem MA(S:ak U O X B st tm w){T:TypeId}{e6 fH:TypeId}{t:aJ}{r:Option Operand}{o:Nat}(ap:D.op=.makeMap T r)(dh:D.dst=some o)(Z:cd st D.dst=true)(aZ:P.underlying T=some (.map e6 fH))
  (hr:∀x,r=some x->∃k n,Act.eval ⟨tm,[]⟩ x=.int k n):cG P U O X st tm w D (bZ (.own o (a6 st o))) [(o,A6 (a6 st o) t)]:=by
 have cP:(execOp (Act.eval ⟨tm,[]⟩) D).run P w=.ok (.value (.map (some w.heap.size))) (w.alloc (.map #[] 0)):=by
  unfold execOp;cases r with
  |none=>simp[ap,Instr.makeMap]
  |some x=>
   obtain⟨k,n,hx⟩:=hr x rfl;simp[ap,Instr.makeMap,hx,run_underlying aZ,asInt,asIntOf,Result.andThen]
 have fin:∀{Y:Site} {nv:Value},Y.b9=a6 st o->bT nv=.map (some w.heap.size)->ak U O X (fun H=>if H=o then nv else B H) {st with sites:=cf st.sites o Y} tm (w.alloc (.map #[] 0))->
   cG P U O X st tm w D (bZ (.own o (a6 st o))) [(o,Y)]:=by
  intro Y nv h1 h2 b3;refine ik (us:=[(o,Y)]) b3 Z cP ?_
  refine⟨rfl,Ref.mk (Y:=Y) ?_ h1 (by simp[h2])⟩
  simp only[ba,cv];simp
 by_cases aA:t=.strs
 ·subst aA;exact fin rfl rfl S.adF
 ·have e:A6 (a6 st o) t=.map (a6 st o) t []:=by cases t<;>first|rfl|exact absurd rfl aA
  rw[e];exact fin rfl rfl (S.makeMap (t:=t))
theorem ak.ak7(S:ak U O X B st tm w){o dst:Nat}{Y bF ir:Site}{nv uH:Value}(hne:o≠dst)(hl:look st.sites o=some Y)(fM:Y.live=true)(dr:bF.b9=Y.b9)(uV:bT nv=bT (B o))
  (Ce:∀s,look st.sites dst=some s->s.b9<ir.b9) (dz:∀b,b∈bl nv->b∈bl (B o)) (aiy:∀b,b∈bl uH->b∈bl (B o)/\b∉bl nv)
  (eE:∀{bp:List (Nat×Site)} {aE:Nat->Value},aE o=nv->aE dst=uH->(∀{a v},ce B st.sites w (au X B st.sites) a v->ce aE bp w (au X aE bp) a v)->
   io aE bp w (au X aE bp) o bF/\io aE bp w (au X aE bp) dst ir):
  ak U O X (fun H=>if H=dst then uH else if H=o then nv else B H) {st with sites:=ba st.sites [(o,bF),(dst,ir)]} tm w:=by
 have bn:b2 st.sites o:=⟨_,hl,fM⟩;have is:∀H,look (ba st.sites [(o,bF),(dst,ir)]) H=if dst=H then some ir else if o=H then some bF else look st.sites H:=by
  intro H;simp only[ba,cv]
 have hold:∀H b,b2 (ba st.sites [(o,bF),(dst,ir)]) H->b∈bl (if H=dst then uH else if H=o then nv else B H)->
   (H=dst/\b∈bl (B o)/\b∉bl nv)\/(H=o/\H≠dst/\b∈bl nv)\/(H≠dst/\H≠o/\b2 st.sites H/\b∈bl (B H)):=by
  rintro H b ⟨s,h1,h2⟩ hb;rw[is] at h1;by_cases e:H=dst
  ·rw[if_pos e] at hb;exact .inl ⟨e,aiy b hb⟩
  ·rw[if_neg e] at hb;rw[if_neg (fun h=>e h.symm)] at h1
   by_cases e2:H=o
   ·rw[if_pos e2] at hb;exact .inr (.inl ⟨e2,e,hb⟩)
   ·rw[if_neg e2] at hb;rw[if_neg (fun h=>e2 h.symm)] at h1
    exact .inr (.inr ⟨e,e2,⟨s,h1,h2⟩,hb⟩)
 have Jt:∀H b,b2 (ba st.sites [(o,bF),(dst,ir)]) H->b∈bl (if H=dst then uH else if H=o then nv else B H)->∃aN,b2 st.sites aN/\b∈bl (B aN):=by
  intro H b h1 h2;rcases hold H b h1 h2 with⟨_,h,_⟩|⟨_,_,h⟩|⟨_,_,h,ah⟩
  ·exact⟨o,bn,h⟩
  ·exact⟨o,bn,dz b h⟩
  ·exact⟨H,h,ah⟩
 refine S.o9 (fun H s br=>?_) (fun b _ _=>rfl) (fun b h hb ah=>?_) (fun go H s br=>?_) (fun H aN b h1 h2 g1 g2=>?_) (fun H b h1 g1=>?_) (fun H b h1 g1=>?_) S.frame (Nat.le_refl _)
 ·rw[is];by_cases e:dst=H
  ·subst e;exact⟨ir,by simp,Nat.le_of_lt (Ce s br),fun h=>by have:=Ce s br;omega⟩
  ·have bK:¬H=dst:=fun h=>e h.symm
   by_cases e2:o=H
   ·subst e2;rw[hl] at br;cases br;exact⟨bF,by simp[e],Nat.le_of_eq dr.symm,fun _=>by simp[bK,uV]⟩
   ·have Kr:¬H=o:=fun h=>e2 h.symm
    exact⟨s,by simp[e,e2,br],Nat.le_refl _,fun _=>by simp[bK,Kr]⟩
 ·rcases ah with ah|⟨H,h1,h2⟩
  ·exact h (.inl ah)
  ·obtain⟨aN,ax,an⟩:=Jt H b h1 h2;exact h (.inr ⟨aN,ax,an⟩)
 ·rw[is] at br;by_cases e:dst=H
  ·subst e;simp only[if_true,Option.some.injEq] at br;subst br;exact .inr (eE (by simp[hne]) (by simp) go).2
  ·have bK:¬H=dst:=fun h=>e h.symm
   by_cases e2:o=H
   ·subst e2;simp only[e,if_false,if_true,Option.some.injEq] at br;subst br;exact .inr (eE (by simp[hne]) (by simp) go).1
   ·have Kr:¬H=o:=fun h=>e2 h.symm
    simp only[e,e2,if_false] at br;exact .inl ⟨br,by simp[bK,Kr],fun _ _ _=>rfl⟩
 ·rcases hold H b h1 g1 with⟨rfl,ax,an⟩|⟨rfl,mx,ax⟩|⟨mx,ax,an,bG⟩<;>rcases hold aN b h2 g2 with⟨rfl,m1,m2⟩|⟨rfl,m0,m1⟩|⟨m0,m1,m2,m3⟩
  ·rfl
  ·exact absurd m1 an
  ·exact absurd (S.dp o aN b bn m2 ax m3).symm m1
  ·exact absurd ax m2
  ·rfl
  ·exact absurd (S.dp _ aN b bn m2 (dz b ax) m3).symm m1
  ·exact absurd (S.dp H o b an bn bG m1) ax
  ·exact absurd (S.dp H _ b an bn bG (dz b m1)) ax
  ·exact S.dp H aN b an m2 bG m3
 ·obtain⟨aN,ax,an⟩:=Jt H b h1 g1;exact S.cg aN b ax an
 ·obtain⟨aN,ax,an⟩:=Jt H b h1 g1;exact S.dX ax an
theorem fQ.map{w':World}{av bX:Nat->Prop}{F:List (J×Value)}{es:List (J×Option (List J))}{aw:List Value}(h:fQ w av F es aw)(go:∀{d v},Rd w av d v->Rd w' bX d v):
  (∀n,n∈aw->∀b,aW n=some b->w'.heap[b]? =w.heap[b]?)->fQ w' bX F es aw:=by
 induction h with
 |nil=>intro _;exact .nil
 |l_ k v _ ih=>intro af;exact .l_ k v (ih af)
 |row k v xs e aa h hr _ ih=>intro af;exact .row k v xs e aa (oG h (af _ List.mem_cons_self)) ⟨hr.1,fun j g1 g2=>go (hr.2 j g1 g2)⟩ (ih fun n hn=>af n (List.mem_cons_of_mem _ hn))
theorem fQ.get{av:Nat->Prop}{F:List (J×Value)}{es:List (J×Option (List J))}{aw:List Value}(h:fQ w av F es aw)(n:J):∀i,(dy es n=none->gI F n i=none)/\
  ∀xs,dy es n=some (some xs)->∃j v e aa fg kG,gI F n i=some (j,v)/\rowAt w false e 1 v xs.length aa/\ck w av (flat .str xs) aa/\aw=fg++v::kG/\fQ w av F (c4 es n none) (fg++kG):=by
 induction h with
 |nil=>intro i;exact⟨fun _=>rfl,fun xs h=>by cases h⟩
 |l_ k v r ih=>
  intro i;simp only[dy,gI,c4];cases k==n with
  |true=>exact⟨(fun h=>by cases h),(fun xs h=>by cases h)⟩
  |false=>
   simp only[cond_false];obtain⟨h1,h2⟩:=ih (i+1);refine⟨h1,fun xs h=>?_⟩
   obtain⟨j,v',e,aa,fg,kG,a1,a2,a3,a4,a5⟩:=h2 xs h;exact⟨j,v',e,aa,fg,kG,a1,a2,a3,a4,.l_ k v a5⟩
 |row k v ys gi CI cC c5 r ih=>
  rename_i F es aw;intro i;simp only[dy,gI,c4];cases k==n with
  |true=>
   simp only[cond_true];refine⟨fun h=>(by cases h),fun xs h=>?_⟩
   cases h;exact⟨i,v,gi,CI,[],aw,rfl,cC,c5,rfl,.l_ k v r⟩
  |false=>
   simp only[cond_false];obtain⟨h1,h2⟩:=ih (i+1);refine⟨h1,fun xs h=>?_⟩
   obtain⟨j,v',e,aa,fg,kG,a1,a2,a3,a4,a5⟩:=h2 xs h;exact⟨j,v',e,aa,v::fg,kG,a1,a2,a3,by rw[a4];rfl,.row k v ys gi CI cC c5 a5⟩
theorem fQ.put{av:Nat->Prop}{F:List (J×Value)}{es:List (J×Option (List J))}{aw:List Value}(h:fQ w av F es aw)(n:J){v:Value}{xs:List J}{e:TypeId}{aa:List Value}(cC:rowAt w false e 1 v xs.length aa)(c5:ck w av (flat .str xs) aa):
  ∃cx D ea,aw=cx++(D++ea)/\fQ w av (c4 F n v) (c4 es n (some xs)) (cx++v::ea):=by
 induction h with
 |nil=>exact⟨[],[],[],rfl,.row n v xs e aa cC c5 .nil⟩
 |l_ k v0 r ih=>
  rename_i F es aw;simp only[c4];cases k==n with
  |true=>exact⟨[],[],aw,rfl,.row k v xs e aa cC c5 r⟩
  |false=>
   obtain⟨cx,D,ea,h1,h2⟩:=ih;exact⟨cx,D,ea,h1,.l_ k v0 h2⟩
 |row k v0 ys gi CI aiA akp r ih=>
  rename_i F es aw;simp only[c4];cases k==n with
  |true=>exact⟨[],[v0],aw,rfl,.row k v xs e aa cC c5 r⟩
  |false=>
   obtain⟨cx,D,ea,h1,h2⟩:=ih;exact⟨v0::cx,D,ea,by rw[h1];rfl,.row k v0 ys gi CI aiA akp h2⟩
theorem fQ.keys{av:Nat->Prop}{F:List (J×Value)}{es:List (J×Option (List J))}{aw:List Value}(h:fQ w av F es aw):F.map (·.1)=es.map (·.1)/\F.length=es.length:=by
 induction h with
 |nil=>exact⟨rfl,rfl⟩
 |l_ _ _ _ ih=>exact⟨by simp[ih.1],by simp[ih.2]⟩
 |row _ _ _ _ _ _ _ _ ih=>exact⟨by simp[ih.1],by simp[ih.2]⟩
theorem _c{l:aD}{o s:Nat}{es:List (J×Option (List J))}(h:qa st l=some (o,s,es)):l=.own o s/\look st.sites o=some (.eB s es):=by
 cases l<;>first|(cases h;done)|skip
 rename_i H u;simp only[qa] at h;split at h
 ·rename_i ar hQ hl;cases hb:ar.beq u with
  |false=>simp[hb] at h
  |true=>
   simp only[hb,cond_true,Option.some.injEq,Prod.mk.injEq] at h;obtain⟨rfl,rfl,rfl⟩:=h;have:=Nat.eq_of_beq_eq_true hb;subst this;exact⟨rfl,hl⟩
 ·cases h
theorem _I(S:ak U O X B st tm w){C:Ctx}(aG:CtxOk P C){T e6 fH:TypeId}{m k:Operand}{l:aD}{n:J}{o s dst:Nat}{es:List (J×Option (List J))}(ap:D.op=.lookup T m k false)(dh:D.dst=some dst)(Z:cd st D.dst=true)
  (aZ:C.tt T=.map e6 fH .strs) (hm:aS C st T m=.av (.am l)) (af:aS C st 0 k=.av (.am (.d (.str n)))) (oe:qa st l=some (o,s,es)) (hne:o≠dst):
  Holds (.eA (q_ es n) (fun _=>bZ (.own dst (a6 st dst))) fun r=>[(o,.eB s r.1),(dst,.row (a6 st dst) .str r.2)]) (cG P U O X st tm w D):=by
 have bA:=aG.tt T;rw[aZ] at bA;obtain⟨rfl,hl⟩:=_c oe;have em:=cV S C T m;rw[hm] at em;have jK:=cV S C 0 k;rw[af] at jK;obtain⟨bs,kN,gR⟩:=gF (s:=n) jK;have nd:Act.eval ⟨tm,[]⟩ k=ev n:=by rw[kN];exact s8 gR
 obtain⟨b,arr,clock,aw,h1,h2,ab,F,aF,bo⟩:=S.sites o _ hl;have ml:Act.eval ⟨tm,[]⟩ m=.map (some b):=(Ref.at em.2 hl rfl:_=bT (B o)).trans (by rw[h1];rfl)
 obtain⟨bK,hz⟩:∃bK,iw P fH (.slice bK) (.slice none 0 0):=bA.2.2;have CM:(zeroValue fH).run P w=.ok (.slice none 0 0) w:=by
  obtain⟨_,_,_,h⟩:=hz;cases hi:P.info? fH with
  |none=>simp[hi] at h
  |some i=>
   simp only[hi,Option.map_some,Option.some.injEq,Prod.mk.injEq] at h;simp[zeroValue,jM hi,h.2]
 have hf:=sW (w:=w) bA.2.1 aF n;have dm:(b::aw.flatMap fun v=>(aW v).toList).Nodup:=by rw[h1] at h2;simpa[bl,aW] using h2
 refine Holds.eA fun r hr=>?_
 obtain⟨hQ,xs⟩:=r;have hr:q_ es n=some (hQ,xs):=hr;have main:∃v e aa n8,(Instr.lookup T (.map (some b)) (ev n) false).run P w=.ok v w/\rowAt w false e 1 v xs.length aa/\ck w (au X B st.sites) (flat .str xs) aa/\fQ w (au X B st.sites) F hQ n8/\
   (∀q,aW v=some q->q∈bl (B o))/\(b::n8.flatMap fun v=>(aW v).toList).Nodup/\(∀q,q∈(n8.flatMap fun v=>(aW v).toList)->q∈(aw.flatMap fun v=>(aW v).toList))/\∀q,aW v=some q->q∉(b::n8.flatMap fun v=>(aW v).toList):=by
  unfold q_ at hr;split at hr
  ·rename_i hg;cases hr;rw[(bo.get n 0).1 hg] at hf;refine⟨.slice none 0 0,0,[],aw,?_,q3 w _ _ _,⟨rfl,fun j h=>by simp[flat] at h⟩,bo,fun q ao=>(by cases ao),dm,fun q ao=>ao,fun q ao=>(by cases ao)⟩
   simp[Instr.lookup,run_underlying bA.1.1,MapKept.run_getObj_map ab,nz bA.2.1,hf,CM,Result.andThen]
  ·cases hr
  ·rename_i ys hg;cases hr;obtain⟨j,v,e,aa,fg,kG,g1,g2,g3,g4,g5⟩:=(bo.get n 0).2 _ hg;rw[g1] at hf;subst g4;have jx:∀q,aW v=some q->q∈((fg++v::kG).flatMap fun v=>(aW v).toList):=fun q ao=>by
    rw[List.flatMap_append,List.flatMap_cons,ao];simp
   refine⟨v,e,aa,fg++kG,?_,g2,g3,g5,fun q ao=>?_,?_,fun q ao=>?_,fun q ao hm=>?_⟩
   ·simp[Instr.lookup,run_underlying bA.1.1,MapKept.run_getObj_map ab,nz bA.2.1,hf,Result.andThen]
   ·rw[h1];exact hC.2 (.inr ⟨v,by simp,ao⟩)
   ·refine dm.sublist (List.Sublist.cons_cons b ?_);rw[List.flatMap_append,List.flatMap_append,List.flatMap_cons];exact(List.Sublist.refl _).append (List.sublist_append_right _ _)
   ·rw[List.flatMap_append] at ao ⊢;rw[List.flatMap_cons];rcases List.mem_append.1 ao with ao|ao
    ·exact List.mem_append.2 (.inl ao)
    ·exact List.mem_append.2 (.inr (List.mem_append.2 (.inr ao)))
   ·rw[List.flatMap_append,List.flatMap_cons,ao] at dm;rcases List.mem_cons.1 hm with rfl|hm
    ·exact(List.nodup_cons.1 dm).1 (by simp)
    ·have h:=(List.nodup_cons.1 dm).2;rw[List.flatMap_append] at hm;have h:=List.nodup_append.1 h;rcases List.mem_append.1 hm with hm|hm
     ·exact h.2.2 q hm q (by simp) rfl
     ·have:=h.2.1;simp only[Option.toList_some,List.singleton_append,List.nodup_cons] at this;exact this.1 hm
 obtain⟨v,e,aa,n8,r1,r2,c9,fV,r5,pI,r7,r8⟩:=main;have gA:∀{l:List Value},bl (.tuple (.map (some b)::l).toArray)=b::l.flatMap fun v=>(aW v).toList:=by intro l;simp[bl,aW]
 have qw:bl v=(aW v).toList:=(h6 r2).2;have b3:=S.ak7 (o:=o) (dst:=dst) (bF:=.eB s hQ) (ir:=.row (a6 st dst) .str xs) (nv:=.tuple (.map (some b)::n8).toArray) (uH:=v) hne hl rfl rfl (by rw[h1];rfl) (fun Y M=>jp M)
  (fun q ao=>by rw[h1,gA];rw[gA] at ao;exact(List.mem_cons.1 ao).elim (fun h=>List.mem_cons.2 (.inl h)) fun h=>List.mem_cons_of_mem _ (r7 q h))
  (fun q ao=>by
   rw[qw] at ao;have ao:aW v=some q:=by simpa using ao
   exact⟨r5 q ao,by rw[gA];exact r8 q ao⟩)
  (fun bQ Cb go=>⟨⟨b,arr,clock,n8,bQ,by rw[bQ,gA];exact pI,ab,F,aF,fV.map (fun h=>iq go h) fun _ _ _ _=>rfl⟩,e,aa,by rw[Cb];exact r2,fun j g1 g2=>iq go (c9.2 j g1 g2)⟩)
 refine ik (us:=[(o,.eB s hQ),(dst,.row (a6 st dst) .str xs)]) b3 Z (vv:=v) ?_ ?_
 ·unfold execOp;simp only[ap,ml,nd,Sem.run_bind,r1,Result.andThen_ok,Sem.run_pure]
 ·refine⟨by rcases r2.2 with⟨h,_⟩|⟨_,_,_,_,h,_⟩<;>rw[h]<;>rfl,Ref.mk (Y:=.row (a6 st dst) .str xs) ?_ rfl (by simp[(h6 r2).1])⟩
  simp only[ba,cv];simp
theorem NA(S:ak U O X B st tm w){C:Ctx}(aG:CtxOk P C){T:TypeId}{m k x:Operand}(ap:D.op=.mapUpdate T m k x\/D.op=.insert T m k x)(Z:cd st D.dst=true):
  Holds (lV.tz C st T m k x) (cG P U O X st tm w D):=by
 have bA:=aG.tt T;unfold lV.tz;split
 ·rename_i e6 fH t o s n d aZ hm af hx;rw[aZ] at bA;split
  ·rename_i ar u es hl;cases hb:(ar.beq s&&decide (u=t)) with
   |false=>exact .fail
   |true=>
    simp only[cond_true];simp only[Bool.and_eq_true,decide_eq_true_eq] at hb;have M:=Nat.eq_of_beq_eq_true hb.1;subst M;split
    ·rename_i v hv;refine Holds.fe ?_
     have em:=cV S C T m;rw[hm] at em;have jK:=cV S C 0 k;rw[af] at jK;have ex:=cV S C 0 x;rw[hx] at ex;have hl:look st.sites o=some (.map ar u es):=hl;obtain⟨b,h1,arr,clock,h2,ab⟩:=S.sites o _ hl;have ml:Act.eval ⟨tm,[]⟩ m=B o:=(Ref.at em.2 hl rfl:_=bT (B o)).trans (by rw[h1];rfl)
     obtain⟨bs,kN,gR⟩:=gF (s:=n) jK;have nd:Act.eval ⟨tm,[]⟩ k=ev n:=by rw[kN];exact s8 gR
     have rW:Act.eval ⟨tm,[]⟩ x=ou u v:=ail hv (av:=au X B st.sites) ex;obtain⟨jB,jS,r1,r2⟩:=_P (T:=T) bA.1.1 bA.2.1 h2 ab n v;have b3:=S.agE hl h1 h2 (jS:=jS) r2;refine qW (us:=[(o,.map ar u (c4 es n v))]) b3 Z ?_
     unfold execOp;rcases ap with ap|ap
     ·simp only[ap,ml,h1,nd,rW,Sem.run_bind,r1,Result.andThen_ok,Sem.run_pure]
     ·simp only[ap,ml,h1,nd,rW,Sem.run_bind,r1,Result.andThen_ok,Sem.run_pure]
    ·exact .fail
  ·exact .fail
 ·rename_i e6 fH o s n H u aZ hm af hx;rw[aZ] at bA;split
  ·rename_i ar es bv ys hl ic;cases hb:(ar.beq s&&bv.beq u) with
   |false=>exact .fail
   |true=>
    simp only[cond_true];simp only[Bool.and_eq_true] at hb;have M:=Nat.eq_of_beq_eq_true hb.1;have hu:=Nat.eq_of_beq_eq_true hb.2;subst M hu;refine Holds.fe ?_
    have em:=cV S C T m;rw[hm] at em;have jK:=cV S C 0 k;rw[af] at jK;have ex:=cV S C 0 x;rw[hx] at ex;have hl:look st.sites o=some (.eB ar es):=hl;have ic:look st.sites H=some (.row bv .str ys):=ic;obtain⟨b,arr,clock,aw,h1,h2,ab,F,aF,bo⟩:=S.sites o _ hl;obtain⟨e,aa,r1,r2⟩:=S.sites H _ ic;have ml:Act.eval ⟨tm,[]⟩ m=.map (some b):=(Ref.at em.2 hl rfl:_=bT (B o)).trans (by rw[h1];rfl)
    obtain⟨bs,kN,gR⟩:=gF (s:=n) jK;have nd:Act.eval ⟨tm,[]⟩ k=ev n:=by rw[kN];exact s8 gR
    have rW:Act.eval ⟨tm,[]⟩ x=B H:=(Ref.at ex.2 ic rfl:_=bT (B H)).trans (h6 r1).1;have hne:H≠o:=by rintro rfl;rw[hl] at ic;cases ic
    obtain⟨jB,jS,q1,q2⟩:=LZ (T:=T) bA.1.1 bA.2.1 ab aF n (B H);obtain⟨cx,cX,ea,rfl,an⟩:=bo.put n r1 ⟨by rw[dU];exact r1.1,r2⟩
    have gA:∀{l:List Value},bl (.tuple (.map (some b)::l).toArray)=b::l.flatMap fun v=>(aW v).toList:=by intro l;simp[bl,aW]
    have qw:bl (B H)=(aW (B H)).toList:=(h6 r1).2;have bn:b2 st.sites o:=⟨_,hl,rfl⟩;have br:b2 st.sites H:=⟨_,ic,rfl⟩;have dm:((b::(cx++ea).flatMap fun v=>(aW v).toList)++(aW (B H)).toList).Nodup:=by
     have h:=S.G_ (ks:=[o,H]) (fun aN h=>by simp only[List.mem_cons,List.not_mem_nil,or_false] at h;rcases h with rfl|rfl<;>assumption) (by simp;exact fun h=>hne h.symm)
     have e1:cz B [o,H]=bl (B o)++bl (B H):=by simp[cz]
     rw[e1,h1,gA,qw] at h;refine h.sublist (List.Sublist.append (List.Sublist.cons_cons b ?_) (List.Sublist.refl _));rw[List.flatMap_append,List.flatMap_append,List.flatMap_append];exact(List.Sublist.refl _).append (List.sublist_append_right _ _)
    have Uq:(b::(cx++B H::ea).flatMap fun v=>(aW v).toList).Nodup:=by
     refine(List.Perm.nodup_iff ?_).2 dm;rw[List.flatMap_append,List.flatMap_append,List.flatMap_cons,List.cons_append,List.append_assoc];exact List.Perm.cons _ (List.Perm.append_left _ List.perm_append_comm)
    have ph:b∈bl (B o):=by rw[h1,gA];exact List.mem_cons_self
    have b3:=S.uw (o:=o) (bF:=.eB ar (c4 es n (some ys))) (nv:=.tuple (.map (some b)::(cx++B H::ea)).toArray) (w':=kp w b (.map jB jS)) (ks:=[(H,.dead bv)]) (K:=[H,o])
     (fun aN s2 hm=>by
      simp only[List.mem_singleton,Prod.mk.injEq] at hm;obtain⟨rfl,rfl⟩:=hm;exact⟨_,ic,rfl,rfl⟩)
     (fun aN=>by
      simp only[keys,List.mem_cons,List.not_mem_nil,or_false];exact⟨fun h=>h.imp id fun h=>⟨h,bn⟩,fun h=>h.imp id fun h=>h.1⟩)
     (fun q ao hn=>vq w b q _ (by rintro rfl;exact hn o (by simp) ph)) rfl rfl rfl (by simp[kp]) rfl
     (fun Y M=>by rw[hl] at M;cases M;exact .inr ⟨rfl,by rw[h1];rfl⟩)
     (fun q ao=>by
      rw[gA] at ao;have hin:∃aN,aN∈[H,o]/\q∈bl (B aN):=by
       rcases List.mem_cons.1 ao with rfl|ao
       ·exact⟨o,by simp,ph⟩
       ·rw[List.flatMap_append,List.flatMap_cons] at ao;rcases List.mem_append.1 ao with ao|ao
        ·exact⟨o,by simp,by rw[h1,gA,List.flatMap_append];exact List.mem_cons_of_mem _ (List.mem_append.2 (.inl ao))⟩
        ·rcases List.mem_append.1 ao with ao|ao
         ·exact⟨H,by simp,by rw[qw];exact ao⟩
         ·exact⟨o,by simp,by rw[h1,gA,List.flatMap_append,List.flatMap_append];exact List.mem_cons_of_mem _ (List.mem_append.2 (.inr (List.mem_append.2 (.inr ao))))⟩
      obtain⟨aN,g1,g2⟩:=hin;refine⟨?_,.inl ⟨aN,g1,g2⟩⟩;have:b2 st.sites aN:=by simp only[List.mem_cons,List.not_mem_nil,or_false] at g1;rcases g1 with rfl|rfl<;>assumption
      have:=S.dX this g2;simpa[kp] using this)
     (fun bQ go=>⟨b,jB,jS,_,bQ,by rw[bQ,gA];exact Uq,Lr w b _ _ ab,_,q2,an.map (fun h=>iq go h) fun v hv q ao=>vq w b q _ (by
      rintro rfl;exact(List.nodup_cons.1 Uq).1 (List.mem_flatMap.2 ⟨v,hv,by rw[ao];simp⟩))⟩)
    refine qW (us:=[(H,.dead bv),(o,.eB ar (c4 es n (some ys)))]) b3 Z ?_
    unfold execOp;rcases ap with ap|ap
    ·simp only[ap,ml,nd,rW,Sem.run_bind,q1,Result.andThen_ok,Sem.run_pure]
    ·simp only[ap,ml,nd,rW,Sem.run_bind,q1,Result.andThen_ok,Sem.run_pure]
  ·exact .fail
 ·exact .fail
theorem abY(S:ak U O X B st tm w){C:Ctx}(aG:CtxOk P C){T e6 fH:TypeId}{t:aJ}{m k:Operand}{c:Bool}{l:aD}{n:J}{es:List (J×den t)}{d:aU}(ap:D.op=.lookup T m k c)(Z:cd st D.dst=true)
  (aA:t≠.strs) (aZ:C.tt T=.map e6 fH t) (hm:aS C st T m=.av (.am l)) (af:aS C st 0 k=.av (.am (.d (.str n)))) (oe:mapOf st l=some ⟨t,es⟩) (xM:uh t (dy es n)=some d):
  cG P U O X st tm w D (bif c then .jE [.am (.d d),.am (.d (.bool (dy es n).isSome))] else one d) []:=by
 have bA:=aG.tt T;rw[aZ] at bA;have em:=cV S C T m;rw[hm] at em;have jK:=cV S C 0 k;rw[af] at jK;obtain⟨bs,kN,gR⟩:=gF (s:=n) jK;have nd:Act.eval ⟨tm,[]⟩ k=ev n:=by rw[kN];exact s8 gR
 have hz:∀cX:Option (den t),uh t cX=some d->(∀x,cX=some x->∀av,Rd w av d (ou t x))/\(cX=none->∃z,(zeroValue fH).run P w=.ok z w/\∀av,Rd w av d z):=by
  intro cX h;have he:=bA.2.2;have key:∀{Yi:TypeDesc} {z:Value},iw P fH Yi z->(zeroValue fH).run P w=.ok z w:=by
   intro Yi z h;obtain⟨_,_,_,h⟩:=h;cases hi:P.info? fH with
   |none=>simp[hi] at h
   |some i=>
    simp only[hi,Option.map_some,Option.some.injEq,Prod.mk.injEq] at h;simp[zeroValue,jM hi,h.2]
  cases t<;>first|(exact he.elim)|(exact absurd rfl aA)|skip
  ·simp only[uh,Option.some.injEq] at h;subst h;refine⟨fun x hx av=>by subst hx;exact .int _ _,fun hn=>?_⟩
   subst hn;exact⟨_,key he,fun av=>.int _ _⟩
  ·simp only[uh,Option.some.injEq] at h;subst h;refine⟨fun x hx av=>by subst hx;exact .bool _,fun hn=>?_⟩
   subst hn;exact⟨_,key he,fun av=>.bool _⟩
 obtain⟨hz1,hz2⟩:=hz _ xM;have main:∃v,(Instr.lookup T (Act.eval ⟨tm,[]⟩ m) (Act.eval ⟨tm,[]⟩ k) c).run P w=.ok (if c then .tuple #[v,.bool (dy es n).isSome] else v) w/\∀av,Rd w av d v:=by
  rw[nd];rcases PF S aA em oe with⟨h1,rfl⟩|⟨b,h1,arr,clock,h2,ab⟩
  ·obtain⟨z,hS,z2⟩:=hz2 rfl;refine⟨z,?_,z2⟩;have hf:=OK (w:=w) (t:=t) bA.2.1 (es:=[]) (arr:=#[]) rfl n;have xL:(Instr.findKey e6 (ev n) []).run P w=.ok none w:=hf;simp[Instr.lookup,run_underlying bA.1.1,h1,nz bA.2.1,xL,hS,dy,Result.andThen]
  ·have hf:=OK (w:=w) bA.2.1 ab n;have hg:=abV n es 0;cases aT:gI es n 0 with
   |none=>
    rw[aT] at hf hg;have hg:dy es n=none:=hg.symm;obtain⟨z,hS,z2⟩:=hz2 hg;refine⟨z,?_,z2⟩;simp[Instr.lookup,run_underlying bA.1.1,h1,MapKept.run_getObj_map h2,nz bA.2.1,hf,hS,hg,Result.andThen]
   |some p=>
    rw[aT] at hf hg;have hg:dy es n=some p.2:=hg.symm;refine⟨ou t p.2,?_,hz1 p.2 hg⟩;simp[Instr.lookup,run_underlying bA.1.1,h1,MapKept.run_getObj_map h2,nz bA.2.1,hf,hg,Result.andThen]
 obtain⟨v,r1,r2⟩:=main;refine dH S Z (vv:=if c then .tuple #[v,.bool (dy es n).isSome] else v) ?_ ?_
 ·unfold execOp;simp only[ap,Sem.run_bind,r1,Result.andThen_ok,Sem.run_pure]
 ·cases c with
  |true=>
   refine⟨[v,.bool (dy es n).isSome],rfl,rfl,fun j g1 g2=>?_⟩
   match j,g1 with
   |0,_=>exact r2 _
   |1,_=>exact Rd.bool _
  |false=>exact r2 _
theorem aaf(S:ak U O X B st tm w){C:Ctx}(aG:CtxOk P C){T e6 fH:TypeId}{m k:Operand}{c:Bool}{l:aD}{n:J}{es:List (J×List J)}(ap:D.op=.lookup T m k c)(Z:cd st D.dst=true)
  (aZ:C.tt T=.map e6 fH .strs) (hm:aS C st T m=.av (.am l)) (af:aS C st 0 k=.av (.am (.d (.str n)))) (oe:mapOf st l=some ⟨.strs,es⟩):
  cG P U O X st tm w D (bif c then .jE [.am (.d (.sl .str ((dy es n).getD []))),.am (.d (.bool (dy es n).isSome))] else one (.sl .str ((dy es n).getD []))) []:=by
 have bA:=aG.tt T;rw[aZ] at bA;have em:=cV S C T m;rw[hm] at em;have jK:=cV S C 0 k;rw[af] at jK;obtain⟨bs,kN,gR⟩:=gF (s:=n) jK;have nd:Act.eval ⟨tm,[]⟩ k=ev n:=by rw[kN];exact s8 gR
 obtain⟨bK,hz⟩:∃bK,iw P fH (.slice bK) (.slice none 0 0):=bA.2.2;have CM:(zeroValue fH).run P w=.ok (.slice none 0 0) w:=by
  obtain⟨_,_,_,h⟩:=hz;cases hi:P.info? fH with
  |none=>simp[hi] at h
  |some i=>
   simp only[hi,Option.map_some,Option.some.injEq,Prod.mk.injEq] at h;simp[zeroValue,jM hi,h.2]
 have main:∃v,(Instr.lookup T (Act.eval ⟨tm,[]⟩ m) (Act.eval ⟨tm,[]⟩ k) c).run P w=.ok (if c then .tuple #[v,.bool (dy es n).isSome] else v) w/\Rd w (au X B st.sites) (.sl .str ((dy es n).getD [])) v:=by
  rw[nd];rcases OP S em oe with⟨h1,rfl⟩|⟨b,arr,clock,F,h1,h2,ab,aF,bo,dk⟩
  ·refine⟨.slice none 0 0,?_,.nil _⟩;have xL:(Instr.findKey e6 (ev n) []).run P w=.ok none w:=sW (w:=w) bA.2.1 (es:=[]) (arr:=#[]) rfl n;simp[Instr.lookup,run_underlying bA.1.1,h1,nz bA.2.1,xL,CM,dy,Result.andThen]
  ·have hf:=sW (w:=w) bA.2.1 aF n;have key:∀(F:List (J×Value)) (es:List (J×List J)) (i:Nat),F.map (·.1)=es.map (·.1)->F.length=es.length->(∀i (h1:i<es.length) (h2:i<F.length),Rd w (au X B st.sites) (.sl .str (es[i]).2) (F[i]).2)->
     (dy es n=none/\gI F n i=none)\/∃xs j v,dy es n=some xs/\gI F n i=some (j,v)/\Rd w (au X B st.sites) (.sl .str xs) v:=by
    intro F;induction F with
    |nil=>
     intro es i h1 h2 _;match es,h2 with
     |[],_=>exact .inl ⟨rfl,rfl⟩
    |cons p F ih=>
     intro es i h1 h2 ab;match es,h2 with
     |q::es,h2=>
      simp only[List.map_cons,List.cons.injEq] at h1;obtain⟨k,v⟩:=p;obtain⟨k',xs⟩:=q;obtain⟨e1,e2⟩:=h1;have e1:k=k':=e1;subst e1;simp only[dy,gI];cases k==n with
      |true=>exact .inr ⟨xs,i,v,rfl,rfl,ab 0 (by simp) (by simp)⟩
      |false=>exact ih es (i+1) e2 (by simpa using h2) fun j g1 g2=>ab (j+1) (by simpa using g1) (by simpa using g2)
   rcases key F es 0 bo ab dk with⟨g1,g2⟩|⟨xs,j,v,g1,g2,g3⟩
   ·rw[g2] at hf;refine⟨.slice none 0 0,?_,by rw[g1];exact .nil _⟩
    simp[Instr.lookup,run_underlying bA.1.1,h1,MapKept.run_getObj_map h2,nz bA.2.1,hf,CM,g1,Result.andThen]
   ·rw[g2] at hf;refine⟨v,?_,by rw[g1];exact g3⟩
    simp[Instr.lookup,run_underlying bA.1.1,h1,MapKept.run_getObj_map h2,nz bA.2.1,hf,g1,Result.andThen]
 obtain⟨v,r1,r2⟩:=main;refine dH S Z (vv:=if c then .tuple #[v,.bool (dy es n).isSome] else v) ?_ ?_
 ·unfold execOp;simp only[ap,Sem.run_bind,r1,Result.andThen_ok,Sem.run_pure]
 ·cases c with
  |true=>
   refine⟨[v,.bool (dy es n).isSome],rfl,rfl,fun j g1 g2=>?_⟩
   match j,g1 with
   |0,_=>exact r2
   |1,_=>exact Rd.bool _
  |false=>exact r2
theorem aac(S:ak U O X B st tm w){C:Ctx}(aG:CtxOk P C)(Z:cd st D.dst=true):Holds (lV C st D) (cG P U O X st tm w D):=by
 unfold lV;split
 ·rename_i t r ap;split
  ·rename_i o e6 fH ty dh aZ;have bA:=aG.tt t;rw[aZ] at bA;split
   ·exact Holds.fe (MA S ap dh Z bA.1.1 (fun x h=>by cases h))
   ·rename_i x;split
    ·rename_i k n hx;refine Holds.fe (MA S ap dh Z bA.1.1 (fun y h=>?_))
     cases h;have ex:=cV S C 0 x;rw[hx] at ex;exact⟨k,n,iJ ex⟩
    ·exact .fail
  ·exact .fail
 ·rename_i t m k x ap;exact NA S aG (.inl ap) Z
 ·rename_i t m k x ap;exact NA S aG (.inr ap) Z
 ·rename_i t m k c ap;split
  ·rename_i e6 fH ty l n aZ hm af;split
   ·rename_i u es oe;cases hu:decide (u=ty) with
    |false=>exact .fail
    |true=>
     have hu:=of_decide_eq_true hu;subst hu;simp only[cond_true];split
     ·rename_i d xM;by_cases aA:u=.strs
      ·subst aA;simp only[uh,Option.some.injEq] at xM;subst xM;exact Holds.ok (aaf S aG ap Z aZ hm af oe)
      ·exact Holds.ok (abY S aG ap Z aA aZ hm af oe xM)
     ·exact .fail
   ·split
    ·rename_i o s es d oe dh;cases hc:(c||o.beq d) with
     |true=>exact .fail
     |false=>
      simp only[cond_false];simp only[Bool.or_eq_false_iff] at hc;rw[hc.1] at ap;exact _I S aG ap dh Z aZ hm af oe (by rintro rfl;simp at hc)
    ·exact .fail
  ·exact .fail
 ·rename_i t x ap;split
  ·rename_i b1 q z e n aZ hx;exact Holds.ok (YA S aG ap Z aZ hx)
  ·exact .fail
 ·exact .fail
end
theorem oC{P:Program}{e:TypeId}{t:aJ}(h:GU P e t):aC t=1/\(∃d z,iw P e d z)/\∃l eF,uC t=some l/\x6 t=some eF/\cu (enc t eF)=[l]:=by
 cases t<;>first|exact h.elim|exact⟨rfl,⟨_,_,h⟩,_,_,rfl,rfl,rfl⟩
theorem MO{P:Program}{e:TypeId}{t:aJ}{T:TypeId}(h:GU P e t):t.ei=true->T=mq:=by intro ah;cases t<;>first|exact h.elim|cases ah
theorem EE(t:aJ)(x:den t)(xs:List (den t)):flat t (x::xs)=enc t x++flat t xs:=by simp[flat]
theorem GS(a b:List aU):cu (a++b)=cu a++cu b:=by simp[cu]
theorem P6{t:aJ}{z:den t}(hz:x6 t=some z)(xs:List (den t)):Cn t xs xs.length=cu (flat t xs):=by
 unfold Cn;rw[hz];suffices h:∀(ys gB:List (den t)),xs=gB++ys->((List.range' gB.length ys.length).flatMap fun j=>cu (enc t (xs.getD j z)))=cu (flat t ys) by
  have:=h xs [] rfl;rw[List.length_nil,<-List.range_eq_range'] at this;exact this
 intro ys;induction ys with
 |nil=>intro gB _;rfl
 |cons y ys ih=>
  intro gB hx;rw[List.length_cons,List.range'_succ,List.flatMap_cons,EE,GS];have e1:xs.getD gB.length z=y:=by rw[hx];simp[List.getD]
  have e2:=ih (gB++[y]) (by rw[hx];simp)
  rw[List.length_append,List.length_singleton] at e2;rw[e1,e2]
theorem GP{t:aJ}:∀{aa:List aD} {xs:List (den t)},uz t aa=some xs->aa=cu (flat t xs):=by
 intro aa;induction aa with
 |nil=>intro xs h;cases h;rfl
 |cons l aa ih=>
  intro xs h;cases l<;>try(cases h;done)
  rename_i d;simp only[uz] at h;split at h
  ·rename_i x ys h1 h2;cases h;rw[EE,GS,<-ih h2,oW _ _ _ h1];rfl
  ·cases h
theorem vz{aK:Type}{n:Nat}{xs ys:List aK}(h:long n xs=some ys):ys=xs/\xs.length=n:=by
 unfold long at h;split at h
 ·cases h;exact⟨rfl,by assumption⟩
 ·cases h
section
variable {P:Program}{U:World}{O:List Nat}{X:Nat->Prop}{B:Nat->Value}{st:ai}{tm:Array Value}{w:World}{D:Oper}
theorem ak.kV(S:ak U O X B st tm w):qF w/\∀b,b∈px->¬au X B st.sites b/\b<w.heap.size:=by
 have G:=S.fk;refine⟨aiL (fun b hb=>S.frame.block b (G.lt b hb) (G.O b hb)) G.ok,fun b hb=>⟨?_,Nat.lt_of_lt_of_le (G.lt b hb) S.frame.size⟩⟩
 rintro(h|⟨o,h1,h2⟩)
 ·exact G.X b hb h
 ·rcases(S.cg o b h1 h2).2 with h|h
  ·exact G.O b hb h
  ·have:=G.lt b hb;omega
theorem agJ{ds:List aU}{vs:List Value}{av:Nat->Prop}(h:ck w av ds vs):∀u∈vs,u.oneCell'=true:=by
 intro u hu;obtain⟨j,hj,rfl⟩:=List.getElem_of_mem hu;exact(h.2 j (by rw[<-h.1];exact hj) hj).ja
theorem PB(S:ak U O X B st tm w){T:TypeId}{o n:Nat}{t:aJ}{xs:List (den t)}{vs:List Value}(he:aC t=1)(eX:t.ei=true->T=mq)(hv:ck w (au X B st.sites) (flat t xs) vs)(Z:cd st D.dst=true)
  (cP:(execOp (Act.eval ⟨tm,[]⟩) D).run P w=.ok (.value (.pointer (some ⟨w.heap.size,0,none⟩))) (w.alloc (.cells vs.toArray T (0,0)))):Holds (rI o st t n xs) (cG P U O X st tm w D):=by
 unfold rI;cases hc:(xs.length.beq n&&Nat.ble n 1000) with
 |false=>exact .fail
 |true=>
  simp only[Bool.and_eq_true] at hc;have h1:=Nat.eq_of_beq_eq_true hc.1;have h2:=Nat.le_of_ble_eq_true hc.2;simp only[cond_true];have hl:vs.length=xs.length:=by rw[hv.1,dU,he,Nat.mul_one]
  have b3:=S.F6 (o:=o) (T:=T) (rest:=[]) (cap:=n) hv (by rw[he,hl,h1];simp) (by unfold maxLen;omega) eX
  rw[List.append_nil] at b3;refine Holds.fe (ik (us:=[(o,.row (a6 st o) t xs)]) b3 Z cP ?_);refine⟨w.heap.size,0,by simp,Ref.mk (Y:=.row (a6 st o) t xs) ?_ rfl ⟨xs.length,n,by simp[bT]⟩⟩
  simp only[ba,cv];simp
theorem acp(S:ak U O X B st tm w){C:Ctx}(aG:CtxOk P C){elem e:TypeId}{t:aJ}{n o:Nat}(aZ:C.tt elem=.arr e t n)(ap:D.op=.alloc elem)(Z:cd st D.dst=true):Holds (tM o st t n) (cG P U O X st tm w D):=by
 have bA:=aG.tt elem;rw[aZ] at bA;obtain⟨_,_,ni⟩:=id bA;obtain⟨he,_,l,eF,hzl,kH,hzz⟩:=oC ni;unfold tM;rw[kH];obtain⟨v,hv,hzv⟩:=cm.zf (w:=w) bA (z:=List.replicate n l) (by simp only[cm.zero,hzl,Option.map_some])
 obtain⟨h1,h2,ab⟩:=sP hzv;have hr:ck w (au X B st.sites) (flat t (List.replicate n eF)) v.cells.toList:=by
  have:=ab B st.sites w (au X B st.sites);have e1:∀n,cu (flat t (List.replicate n eF))=List.replicate n l:=by
   intro n;induction n with
   |zero=>rfl
   |succ n ih=>rw[List.replicate_succ,EE,GS,hzz,List.replicate_succ,ih];rfl
  refine iF (B:=B) (sites:=st.sites) ?_
  rw[e1];exact⟨h1,this⟩
 refine PB (T:=elem) S he (MO ni) hr Z ?_
 unfold execOp;simp[ap,Instr.alloc,hv,newVar,newRow]
theorem afJ(S:ak U O X B st tm w){C:Ctx}(aG:CtxOk P C){elem e:TypeId}{t:aJ}{n o:Nat}{x:Operand}(aZ:C.tt elem=.arr e t n)(ap:D.op=.box elem x)(Z:cd st D.dst=true):Holds (uB o st t n (aS C st elem x)) (cG P U O X st tm w D):=by
 have bA:=aG.tt elem;rw[aZ] at bA;have he:=(oC bA.2.2).1;have bx:=cV S C elem x;unfold uB;split
 ·rename_i aa hx;rw[hx] at bx;split
  ·rename_i xs rX;obtain⟨vs,hv,hl,hr⟩:∃vs:List Value,Act.eval ⟨tm,[]⟩ x=.agg vs.toArray/\vs.length=aa.length/\∀j (h:j<aa.length) (ah:j<vs.length),dx B st.sites w (au X B st.sites) (aa[j]) (vs[j]):=bx;have oc:cw B st.sites w (au X B st.sites) aa vs:=⟨hl,hr⟩;rw[GP rX] at oc;refine PB (T:=elem) S he (MO bA.2.2) (iF oc) Z ?_
   unfold execOp;simp[ap,Instr.box,newVar,newRow,hv,Value.cells]
  ·exact .fail
 ·exact .fail
theorem ak.arr(S:ak U O X B st tm w){o s:Nat}{t:aJ}{xs:List (den t)}{v:Value}(hr:rowOf st o s=some ⟨t,xs⟩)(hv:dx B st.sites w (au X B st.sites) (.eN o s t 0 0) v):
  ∃b c,∃cs:List Value,v=.pointer (some ⟨b,0,none⟩)/\bT (B o)=.slice (some ⟨b,0,none⟩) xs.length c/\hH w b 0 cs/\ck w (au X B st.sites) (flat t xs) cs:=by
 obtain⟨cs,hl,jc⟩:=S.row hr;obtain⟨Y,fB,jF⟩:∃Y,look st.sites o=some Y/\Y.b9=s:=by
  rcases kj hr with h|h<;>exact⟨_,h,rfl⟩
 obtain⟨b,D,hv,wW⟩:=hv;obtain⟨n,c,bQ⟩:=Ref.at wW fB jF;rcases jc with⟨qm,_⟩|⟨be,fW,ee,hcs,_⟩
 ·rw[qm] at bQ;cases bQ
 ·have Cb:=bQ;rw[ee] at Cb;cases Cb;exact⟨b,c,cs,by simpa using hv,ee,hcs,iF hl⟩
theorem adH(S:ak U O X B st tm w){C:Ctx}(aG:CtxOk P C){T e:TypeId}{t:aJ}{n:Nat}{x:Operand}(aZ:C.tt T=.arr e t n)(ap:D.op=.load T x)(Z:cd st D.dst=true):Holds (t_ st t n (aS C st T x)) (cG P U O X st tm w D):=by
 have bA:=aG.tt T;rw[aZ] at bA;obtain⟨he,_,_,eF,_,kH,_⟩:=oC bA.2.2;have bx:=cV S C T x;unfold t_;split
 ·rename_i o s u hx;rw[hx] at bx;split
  ·rename_i bm xs cC;split
   ·rename_i hk;obtain⟨rfl,rfl⟩:=hk;refine Holds.eD fun y al=>?_
    obtain⟨rfl,hlen⟩:=vz (al:long n xs=some y);obtain⟨b,c,cs,hv,_,hc,hr⟩:=S.arr cC bx;have hcl:cs.length=n:=by rw[hr.1,dU,he,hlen,Nat.mul_one]
    refine dH S Z (vv:=.agg cs.toArray) ?_ ?_
    ·have cP:=sN (P:=P) (w:=w) bA (by rintro h;cases h) ⟨b,0,none⟩ cs hcl (fun j u hu=>by rw[fZ];exact hc j u hu)
     unfold execOp;simp only[ap,Instr.loadAt,Instr.sureAddr,hv,Sem.run_bind,Sem.run_pure,Result.andThen_ok,cP];rfl
    ·subst hlen;have:=gp (B:=B) (sites:=st.sites) hr.1 hr.2;rw[<-P6 kH] at this;exact⟨cs,rfl,this.1,this.2⟩
   ·exact .fail
  ·exact .fail
 ·exact .fail
theorem aba(S:ak U O X B st tm w){C:Ctx}(aG:CtxOk P C){T e:TypeId}{t:aJ}{n:Nat}{a x:Operand}{v:bH}(aZ:C.tt T=.arr e t n)(ap:D.op=.store T a x)(Z:cd st D.dst=true)(hv:m6 (aS C st T x)=some v):
  Holds (tn st t n (aS C st T a) v) (cG P U O X st tm w D):=by
 have bA:=aG.tt T;rw[aZ] at bA;have he:=(oC bA.2.2).1;have pu:=cV S C T a;have hex:=cV S C T x;rw[q4 hv] at hex;unfold tn;split
 ·rename_i o s u aa hx;rw[hx] at pu;split
  ·rename_i ar bm xs fr;have fr:look st.sites o=some (.row ar bm xs):=fr;split
   ·rename_i hk;obtain⟨rfl,rfl,rfl⟩:=hk;split
    ·rename_i ys an4;cases hc:ys.length.beq n with
     |false=>exact .fail
     |true=>
      have CN:=Nat.eq_of_beq_eq_true hc;refine Holds.eA fun r hr=>?_
      obtain⟨_,hlen⟩:=vz (hr:long n xs=some r);obtain⟨vs,pn,hl,c5⟩:∃vs:List Value,Act.eval ⟨tm,[]⟩ x=.agg vs.toArray/\vs.length=aa.length/\∀j (h:j<aa.length) (ah:j<vs.length),dx B st.sites w (au X B st.sites) (aa[j]) (vs[j]):=hex;have oc:cw B st.sites w (au X B st.sites) aa vs:=⟨hl,c5⟩;rw[GP an4] at oc;have oa:=iF oc;have j9:vs.length=n:=by rw[oa.1,dU,he,CN,Nat.mul_one]
      obtain⟨b,q0,CR,wW⟩:=pu;obtain⟨m,c,bQ⟩:=Ref.at wW fr rfl;obtain⟨bK,cs,gL,hcs⟩:=S.sites o _ fr;rcases gL.2 with⟨hn,_⟩|⟨g,cap,cur,bL,hp,hz,hg,hnc,fD,hK,ho⟩
      ·rw[hn] at bQ;cases bQ
      ·have qA:=bQ;rw[hp] at qA;cases qA;have aoM:cur.size=c:=by rw[hK,he,Nat.mul_one]
       have iv:0+vs.length<=cur.toList.length:=by
        have:cur.toList.length=cur.size:=Array.length_toList;omega
       have b3:ak U O X B {st with sites:=cf st.sites o (.row ar bm ys)} tm (w.setRow b (bw cur.toList 0 vs).toArray):=by
        refine S.write fr rfl rfl rfl (fY (by rw[hp];rfl)) hg (fun M hw lx go=>?_)
        refine⟨bK,vs,⟨by rw[he,CN,Nat.mul_one];exact j9,.inr ⟨b,c,_,bL,by rw[hp,hlen,CN],?_,lx,by omega,fD,?_,?_⟩⟩,fun j g1 g2=>iq go (oa.2 j g1 g2)⟩
        ·refine⟨hz.1,hz.2.imp id fun h=>⟨h.1,?_⟩⟩
         rw[List.size_toArray,ny _ _ _ iv];simpa using h.2
        ·rw[List.size_toArray,ny _ _ _ iv,Array.length_toList,aoM,he,Nat.mul_one]
        ·rw[he,Nat.mul_one,CN,<-j9];simp[bw]
       refine qW (us:=[(o,.row ar bm ys)]) b3 Z ?_
       have cP:=Lq (P:=P) (w:=w) bA (by rintro h;cases h) (vv:=.agg vs.toArray) (cur:=cur.toList) (off:=0) (by simpa using hg) (by simpa using hz) (by simpa[Value.cells,cm.size] using j9) (by simpa[Value.cells] using iv) (by simpa[Value.cells] using agJ oa)
       unfold execOp;simp only[ap,CR,pn,Instr.storeAt,Instr.sureAddr,Sem.run_bind,Sem.run_pure,Result.andThen_ok,Nat.zero_mul,Nat.zero_add,cP];simp[Value.cells]
    ·exact .fail
   ·exact .fail
  ·exact .fail
 ·exact .fail
theorem YZ(S:ak U O X B st tm w){C:Ctx}(aG:CtxOk P C){T e:TypeId}{t:aJ}{m:Nat}{x i:Operand}{k:IntKind}{n:Int}(aZ:C.tt T=.arr e t m)(hi:aS C st 0 i=.av (.am (.d (.int k n))))(ap:D.op=.indexAddr T x i)(Z:cd st D.dst=true):
  Holds (sS C st t m (aS C st T x) n) (cG P U O X st tm w D):=by
 have bA:=aG.tt T;rw[aZ] at bA;obtain⟨ef,_,ni⟩:=bA;obtain⟨he,⟨d,z0,n'⟩,_⟩:=oC ni;have wV:=kt S hi;have bx:=cV S C T x;obtain⟨inf,j2,gM⟩:∃inf,P.info? e=some inf/\inf.size=1:=by
  have:=n'.2.2.2;cases ao:P.info? e with
  |none=>simp[ao] at this
  |some i=>simp only[ao,Option.map_some,Option.some.injEq,Prod.mk.injEq] at this;exact⟨i,rfl,this.1⟩
 have run:∀{b:Nat},Act.eval ⟨tm,[]⟩ x=.pointer (some ⟨b,0,none⟩)->0<=n->n<m->(execOp (Act.eval ⟨tm,[]⟩) D).run P w=.ok (.value (.pointer (some ⟨b,n.toNat,none⟩))) w:=by
  intro b hx h0 h1;unfold execOp;simp[ap,hx,wV,Instr.indexAt,Instr.sureAddr,asIntOf,run_underlying ef,h0,h1,sizeOf,jM j2,gM,fZ]
 unfold sS;split
 ·rename_i o s u hx;rw[hx] at bx;split
  ·rename_i bm xs cC;split
   ·rename_i hk;obtain⟨rfl,rfl⟩:=hk;refine Holds.eD fun y al=>?_
    obtain⟨gB,hz1,hz2⟩:=Option.bind_eq_some_iff.1 (al:(long m xs).bind (fun xs=>iz xs.length n)=some y)
    obtain⟨rfl,hlen⟩:=vz hz1;unfold iz at hz2;split at hz2
    ·rename_i hb;cases hz2;obtain⟨b,c,cs,hv,bQ,_⟩:=S.arr cC bx;refine dH S Z (run hv hb.1 (by rw[<-hlen];exact hb.2)) ⟨b,0,?_,?_⟩
     ·rw[he,Nat.mul_one,Nat.add_zero,Nat.zero_add]
     ·rcases kj cC with h|h<;>exact Ref.mk h rfl ⟨_,_,bQ⟩
    ·cases hz2
   ·exact .fail
  ·exact .fail
 ·rename_i g hx;rw[hx] at bx;split
  ·rename_i bm xs sn;cases hc:(decide (bm=t)&&xs.length.beq m) with
   |false=>exact .fail
   |true=>
    simp only[Bool.and_eq_true,decide_eq_true_eq] at hc;obtain⟨rfl,hlen⟩:=hc;have hlen:=Nat.eq_of_beq_eq_true hlen;refine Holds.eD fun y al=>?_
    have d_:bd xs n=some y:=al;unfold bd at d_;split at d_
    ·rename_i h0;have a':n.toNat<xs.length:=by
      rcases Nat.lt_or_ge n.toNat xs.length with h|h
      ·exact h
      ·rw[List.getElem?_eq_none h] at d_;cases d_
     obtain⟨CY,uW⟩:=aG.gt g _ _ sn;obtain⟨eE,b'⟩:=S.kV;obtain⟨gk,u3,cs,hg,c5⟩:=uW w (au X B st.sites) eE;have hv:Act.eval ⟨tm,[]⟩ x=.pointer (some ⟨g,0,none⟩):=bx;refine dH S Z (run hv h0 (by omega)) ⟨g,n.toNat,rfl,(b' g CY).1,(b' g CY).2,(cs.drop n.toNat).take 1,?_,fun j u hu=>?_,?_⟩
     ·have:cs.length=xs.length:=by rw[c5.1,dU,he,Nat.mul_one]
      rw[fz,he];simp;omega
     ·exact(((hH.row hg).drop n.toNat).take 1) j u hu|>fun h=>by simpa using h
     ·have M:=vr bm xs n.toNat y d_;rw[he,Nat.mul_one] at M;have jz:ck w (au X B st.sites) (flat bm xs) cs:=c5;have aiI:=gp (B:=B) (sites:=st.sites) jz.1 jz.2;have h2:=iF (ds:=((flat bm xs).drop n.toNat).take 1) (by
       have:=(aiI.drop n.toNat).take 1;simpa[cu,List.map_drop,List.map_take] using this)
      rw[M] at h2;exact h2.2
    ·cases d_
  ·exact .fail
 ·exact .fail
theorem ab7(S:ak U O X B st tm w){C:Ctx}(aG:CtxOk P C){T e:TypeId}{t:aJ}{m:Nat}{x i:Operand}{k:IntKind}{n:Int}(aZ:C.tt T=.arr e t m)(hi:aS C st 0 i=.av (.am (.d (.int k n))))(ap:D.op=.index T x i)(Z:cd st D.dst=true):
  Holds (Hl t m (aS C st T x) n) (cG P U O X st tm w D):=by
 have bA:=aG.tt T;rw[aZ] at bA;obtain⟨ef,_,ni⟩:=bA;obtain⟨he,⟨d,z0,n'⟩,_⟩:=oC ni;have wV:=kt S hi;have bx:=cV S C T x;obtain⟨inf,j2,gM⟩:∃inf,P.info? e=some inf/\inf.size=1:=by
  have:=n'.2.2.2;cases ao:P.info? e with
  |none=>simp[ao] at this
  |some i=>simp only[ao,Option.map_some,Option.some.injEq,Prod.mk.injEq] at this;exact⟨i,rfl,this.1⟩
 unfold Hl;split
 ·rename_i aa hx;rw[hx] at bx;split
  ·rename_i xs rX;cases hc:xs.length.beq m with
   |false=>exact .fail
   |true=>
    have hlen:=Nat.eq_of_beq_eq_true hc;refine Holds.eD fun y al=>?_
    have d_:bd xs n=some y:=al;unfold bd at d_;split at d_
    ·rename_i h0;have a':n.toNat<xs.length:=by
      rcases Nat.lt_or_ge n.toNat xs.length with h|h
      ·exact h
      ·rw[List.getElem?_eq_none h] at d_;cases d_
     obtain⟨vs,hv,hl,hr⟩:∃vs:List Value,Act.eval ⟨tm,[]⟩ x=.agg vs.toArray/\vs.length=aa.length/\∀j (h:j<aa.length) (ah:j<vs.length),dx B st.sites w (au X B st.sites) (aa[j]) (vs[j]):=bx;have oc:cw B st.sites w (au X B st.sites) aa vs:=⟨hl,hr⟩;rw[GP rX] at oc;have oa:=iF oc;have j9:vs.length=xs.length:=by rw[oa.1,dU,he,Nat.mul_one]
     obtain⟨d1,gz⟩:∃d1,enc t y=[d1]:=by
      have:=fz t y;rw[he] at this;match h:enc t y,this with
      |[d1],_=>exact⟨d1,rfl⟩
     simp only[gz];have cI:n.toNat<vs.length:=by omega
     refine dH S Z (vv:=vs[n.toNat]) ?_ ?_
     ·have IQ:(isAgg e).run P w=.ok false w:=by
       have h1:=n'.1;simp only[isAgg,Sem.run_bind,run_underlying h1,Result.andThen_ok];have g1:=n'.2.1;have g2:=n'.2.2.1;cases d<;>first|rfl|exact absurd rfl (g1 _)|exact absurd rfl (g2 _ _)
      have h1:n<(m:Int):=by omega
      unfold execOp;simp[ap,hv,wV,Instr.index,asIntOf,run_underlying ef,h0,h1,sizeOf,jM j2,gM,part,IQ,cI]
     ·have M:=vr t xs n.toNat y d_;rw[he,Nat.mul_one,gz] at M;have od:n.toNat<(flat t xs).length:=by rw[dU,he,Nat.mul_one];exact a'
      have e1:(flat t xs)[n.toNat]=d1:=by
       have:=congrArg (fun l=>l[0]?) M
       simp only[List.getElem?_take,List.getElem?_drop] at this;rw[if_pos (by decide),Nat.add_zero,List.getElem?_eq_getElem od] at this
       simpa using this
      have:=oa.2 n.toNat od cI;rw[e1] at this;exact this
    ·cases d_
  ·exact .fail
 ·exact .fail
theorem abf(S:ak U O X B st tm w){C:Ctx}(aG:CtxOk P C){T e:TypeId}{t:aJ}{m:Nat}{x:Operand}{cp hi:Option Operand}(aZ:C.tt T=.arr e t m)(ap:D.op=.slice T x cp hi none)(Z:cd st D.dst=true):
  Holds (ts st t m (aS C st T x) (cp.map (aS C st 0)) (hi.map (aS C st 0))) (cG P U O X st tm w D):=by
 have bA:=aG.tt T;rw[aZ] at bA;obtain⟨ef,_,ni⟩:=bA;obtain⟨he,⟨d,z0,n'⟩,_⟩:=oC ni;have bx:=cV S C T x;obtain⟨inf,j2,gM⟩:∃inf,P.info? e=some inf/\inf.size=1:=by
  have:=n'.2.2.2;cases ao:P.info? e with
  |none=>simp[ao] at this
  |some i=>simp only[ao,Option.map_some,Option.some.injEq,Prod.mk.injEq] at this;exact⟨i,rfl,this.1⟩
 have pf:∀{cp:Option Operand} {jA l:Int},it jA (cp.map (aS C st 0))=some l->(cp.map (Act.eval ⟨tm,[]⟩)=none/\l=jA)\/∃k,cp.map (Act.eval ⟨tm,[]⟩)=some (.int k l):=by
  intro cp jA l h;rcases Fk S h with⟨rfl,ah⟩|⟨x,k,rfl,ah⟩
  ·exact .inl ⟨rfl,ah⟩
  ·exact .inr ⟨k,by simp[ah]⟩
 unfold ts;split
 ·rename_i o s u hx;rw[hx] at bx;split
  ·rename_i bm xs l h cC fS iV;split
   ·rename_i hk;obtain⟨rfl,rfl⟩:=hk;refine Holds.eA fun r hr=>?_
    obtain⟨gB,hz1,hz2⟩:=Option.bind_eq_some_iff.1 (hr:(long m xs).bind (fun xs=>cA xs l h)=some r)
    obtain⟨rfl,hlen⟩:=vz hz1;unfold cA at hz2;split at hz2
    ·rename_i hb;obtain⟨h0,h1,h2⟩:=hb;cases hz2;obtain⟨b,c,cs,hv,bQ,_⟩:=S.arr cC bx;refine Nh (us:=[(o,.da s bm gB)]) (OW cC).symm ?_
     have gS:dJ st.sites [(o,.da s bm gB)]:=by
      intro H Y hm;simp only[List.mem_singleton,Prod.mk.injEq] at hm;obtain⟨rfl,rfl⟩:=hm;exact⟨s,bm,gB,rfl,(kj cC).elim .inl fun h=>.inr (.inl h)⟩
     have aL:lM U O X B st tm w [(o,.da s bm gB)]:=⟨S,gS⟩;have qy:=yl gS (List.mem_singleton.2 rfl);obtain⟨c5,SB⟩:=aL.new.sites o _ qy;rw[bQ] at c5;generalize mg:Value.slice (some ⟨b,0,none⟩) gB.length c=v at c5;cases c5 with
     |nil=>cases mg
     |sl _ _ a cap ke k af hcap ch hl hc hr=>
      cases mg;have aoP:=yw (P:=P) (w:=w) false m m (cp.map (Act.eval ⟨tm,[]⟩)) (hi.map (Act.eval ⟨tm,[]⟩)) l h (pf fS) (pf iV) h0 h1 (by omega) (Nat.le_refl _)
      refine ik (us:=[(o,.da s bm gB)]) aL.new Z (vv:=.slice (if m=l.toNat then some ⟨b,0,none⟩ else(some (⟨b,0,none⟩:Addr)).map (·.add (l.toNat*aC bm))) (h.toNat-l.toNat) (m-l.toNat)) ?_ ?_
      ·unfold execOp;simp only[ap,Option.map_none,Sem.run_bind,Instr.sliceAt,run_underlying ef,Result.andThen_ok,hv,Instr.sureAddr,Sem.run_pure,aoP,sizeOf,jM j2,gM,he];split<;>simp
      ·exact F3 ch ⟨hl,hr⟩ hc l.toNat h.toNat m (by omega) (by omega) (by omega)
    ·cases hz2
   ·exact .fail
  ·exact .fail
 ·exact .fail
theorem acc{f g:Nat->Option (Nat×Nat)}(h:∀i p,f i=some p->g i=some p):∀(l:List (Nat×Value)) (cs ke:Array Value),Instr.fill f cs l=some ke->Instr.fill g cs l=some ke:=by
 intro l;induction l with
 |nil=>intro cs ke k;exact k
 |cons p l ih=>
  obtain⟨i,v⟩:=p;intro cs ke k;simp only[Instr.fill] at k ⊢;cases hf:f i with
  |none=>simp[hf] at k
  |some q=>
   obtain⟨off,size⟩:=q;rw[h i _ hf];rw[hf] at k;simp only at k ⊢;split at k
   ·cases k
   ·rename_i hn;rw[if_neg hn];exact ih _ _ k
theorem acl(S:ak U O X B st tm w){C:Ctx}(aG:CtxOk P C){T e:TypeId}{t:aJ}{n:Nat}{z:aD}{parts:Array (Nat×Operand)}(aZ:C.tt T=.arr e t n)(hz:uC t=some z)(ap:D.op=.build T parts)(Z:cd st D.dst=true):
  Holds (step.nK C st ((List.range n).map fun j=>(j,1)) (List.replicate n z) parts.toList) (cG P U O X st tm w D):=by
 have bA:=aG.tt T;rw[aZ] at bA;obtain⟨ef,⟨fT,hS,j2,hz1,hzz⟩,ni⟩:=bA;rw[hz] at hz1;cases hz1;obtain⟨he,⟨d,z0,n'⟩,_⟩:=oC ni;obtain⟨atq,aoB,akG⟩:∃inf,P.info? e=some inf/\inf.size=1:=by
  have:=n'.2.2.2;cases ao:P.info? e with
  |none=>simp[ao] at this
  |some i=>simp only[ao,Option.map_some,Option.some.injEq,Prod.mk.injEq] at this;exact⟨i,rfl,this.1⟩
 obtain⟨ax,an,bG⟩:=sP hzz;intro y al hc;obtain⟨g1,jT,g2,g3⟩:=NW S parts.toList (List.replicate n z) fT ⟨ax,fun j h ah=>bG _ _ _ _ j h ah⟩ y al hc
 rw[g1];refine dH S Z (vv:=.agg jT) ?_ g3;cases hi:P.info? T with
 |none=>simp[hi] at j2
 |some K0=>
  simp only[hi,Option.map_some,Option.some.injEq,Prod.mk.injEq] at j2;have hb:P.built T (parts.toList.map fun p=>(p.1,Act.eval ⟨tm,[]⟩ p.2))=some jT:=by
   unfold Program.built;simp only[hi,ef,j2.2,aoB,akG];refine acc (fun i p ag=>?_) _ _ _ g2
   simp only[List.getElem?_toArray,List.getElem?_map,Option.map_eq_some_iff] at ag;obtain⟨a,aT,rfl⟩:=ag;have:=List.getElem?_eq_some_iff.1 aT;obtain⟨h1,h2⟩:=this;simp at h2;subst h2;simp
  have ch:P.built T (parts.map fun p=>(p.1,Act.eval ⟨tm,[]⟩ p.2)).toList=some jT:=by simpa using hb
  unfold execOp;simp only[ap,Sem.run_bind,run_build w T _ jT ch,Result.andThen_ok,Sem.run_pure]
theorem ZR(S:ak U O X B st tm w){C:Ctx}{x:Operand}{k:IntKind}{n:Int}{T ew:TypeId}(ap:D.op=.unOp .xor ew x)(Z:cd st D.dst=true)(hc:aS C st T x=.av (.am (.d (.int k n)))):
  cG P U O X st tm w D (one (.int k (nS k (if k.signed then-1 else k.max) n))) []:=by
 refine dH S Z (vv:=.int k (nS k (if k.signed then-1 else k.max) n)) ?_ (.int _ _)
 unfold execOp;simp[ap,kt S hc,Op.unary,Op.intBits,nS]
end
def mR:Nat->Value:=fun _=>undef
def mQ(w:World)(av:Nat->Prop)(l:aD)(v:Value)(bs:List Nat):Prop:=
 match l with
 |.fresh t xs=>bs=(aW v).toList/\∃e,∃cs:List Value,rowAt w t.ei e (aC t) v xs.length cs/\ck w av (flat t xs) cs
 |.gG t xs=>∃e,∃cs aw:List Value,bs=bl (.tuple (v::aw).toArray)/\rowAt w t.ei e (aC t) v xs.length cs/\Deep w av (flat t xs) cs aw
 |l=>bs=[]/\dx mR [] w av l v
def gK(w:World)(av:Nat->Prop):List aD->List Value->List Nat->Prop
 |[],[],bs=>bs=[]
 |l::aa,v::vs,bs=>∃bc aO,bs=bc++aO/\mQ w av l v bc/\gK w av aa vs aO
 |_,_,_=>False
def B0(w:World)(av:Nat->Prop):bH->Value->List Nat->Prop
 |.am l,v,bs=>mQ w av l v bs
 |.agg aa,v,bs=>∃vs:List Value,v=.agg vs.toArray/\gK w av aa vs bs
def kv(w:World)(av:Nat->Prop):List bH->List Value->List Nat->Prop
 |[],[],bs=>bs=[]
 |l::aa,v::vs,bs=>∃bc aO,bs=bc++aO/\B0 w av l v bc/\kv w av aa vs aO
 |_,_,_=>False
def GW(w:World)(av:Nat->Prop)(b:Nat)(cells:List aD)(bs:List Nat):Prop:=
 ∃T,∃cur:List Value,∃pz,bs=b::pz/\w.heap[b]? =some (.cells cur.toArray T (0,0))/\(∀u∈cur,u.oneCell'=true)/\nR cells T cur b/\gK w av cells cur pz
def P7(w:World)(av:Nat->Prop):Arg->Value->List Nat->Prop
 |.av a,v,bs=>B0 w av a v bs
 |.ec cells,v,bs=>∃b,v=.pointer (some ⟨b,0,none⟩)/\GW w av b cells bs
def i'(w:World)(av:Nat->Prop):List Arg->List Value->List Nat->Prop
 |[],[],bs=>bs=[]
 |l::aa,v::vs,bs=>∃bc aO,bs=bc++aO/\P7 w av l v bc/\i' w av aa vs aO
 |_,_,_=>False
def dD:List Arg->List Value->List Nat
 |.ec _::as,.pointer (some a)::vs=>a.block::dD as vs
 |_::as,_::vs=>dD as vs
 |_,_=>[]
def mK(w:World)(av:Nat->Prop):List Nat->List (List aD)->List Nat->Prop
 |[],[],bs=>bs=[]
 |b::du,cs::cJ,bs=>∃bc aO,bs=bc++aO/\GW w av b cs bc/\mK w av du cJ aO
 |_,_,_=>False
def h9:Value->List Value
 |.agg vs=>vs.toList
 |v=>[v]
def e0:List Arg->List Value->List Value
 |.av a::as,v::vs=>(bif gl a.cells then [] else h9 v)++e0 as vs
 |.ec _::as,_::vs=>e0 as vs
 |_,_=>[]
def oZ(w:World)(av:Nat->Prop)(du:List Nat)(cJ:List (List aD))(rv:List Value)(eW:List aD)(bs:List Nat):Prop:=
 ∃c1 c2,bs=c1++c2/\mK w av du cJ c1/\(eW=[]/\c2=[]\/gK w av eW rv c2)
theorem oZ.of{w:World}{av:Nat->Prop}{du:List Nat}{cJ:List (List aD)}{rv:List Value}{bs:List Nat}(h:mK w av du cJ bs):oZ w av du cJ rv [] bs:=⟨bs,[],by simp,h,.inl ⟨rfl,rfl⟩⟩
def nG:List Value->Value
 |[v]=>v
 |vs=>.tuple vs.toArray
def Enters(P:Program)(g:FuncId)(vs:Array Value)(w:World)(R:Value->World->Prop):Prop:=
 ((callFunc g vs).run P w=.ok (.enter g vs) w/\Calls P g vs w fun|.returned v,w'=>R v w'|_,_=>False)\/(∃v w',(callFunc g vs).run P w=.ok (.value v) w'/\R v w')
def a_(P:Program)(g:FuncId)(S:bb):Prop:=
 ∀as y,(S as).comp=some y->∀(w:World) (X:Nat->Prop) (vs:List Value) (cT:List Nat),i' w (fun b=>X b\/b∈cT) as vs cT->cT.Nodup->(∀b,b∈cT->¬X b)->(∀b,X b->b<w.heap.size)->iL w cT X->
  Enters P g vs.toArray w fun v w'=>∃dM dv rv,Fr cT w w'/\oZ w' (fun b=>X b\/b∈dM++dv) (dD as vs) ((S as).ec y) (e0 as vs) ((S as).eW y) dM/\kv w' (fun b=>X b\/b∈dM++dv) ((S as).fc y) rv dv/\
   v=nG rv/\(dM++dv).Nodup/\∀b,b∈dM++dv->¬X b/\(b∈cT\/w.heap.size<=b)
section
variable {U:World}{O:List Nat}{X:Nat->Prop}{B:Nat->Value}{st:ai}{tm:Array Value}{w:World}
theorem ce.fl{sites:List (Nat×Site)}{av bX:Nat->Prop}(h:∀b,bX b->av b)(a':∀b,bX b->b<w.heap.size){a:aP}{v:Value}(k:ce B sites w av a v):ce B sites w bX a v:=by
 have G:hd B B sites sites w w av bX:=⟨fun o Y M=>⟨Y,M,Nat.le_refl _,fun _=>rfl⟩,fun _ _ _=>rfl,fun b hb _ ah=>hb (h b ah)⟩
 exact k.goes G (Nat.le_refl _) a'
theorem io.fl{sites:List (Nat×Site)}{av bX:Nat->Prop}(h:∀b,bX b->av b)(a':∀b,bX b->b<w.heap.size){o:Nat}{Y:Site}(k:io B sites w av o Y):io B sites w bX o Y:=by
 have G:hd B B sites sites w w av bX:=⟨fun o Y M=>⟨Y,M,Nat.le_refl _,fun _=>rfl⟩,fun _ _ _=>rfl,fun b hb _ ah=>hb (h b ah)⟩
 exact k.goes G (Nat.le_refl _) a' rfl (fun _ _ _=>rfl)
theorem ak.lt(S:ak U O X B st tm w){b:Nat}(h:au X B st.sites b):b<w.heap.size:=by
 rcases h with h|⟨o,h1,h2⟩
 ·exact S.old b h
 ·exact S.dX h1 h2
theorem ak.shrink(S:ak U O X B st tm w){X':Nat->Prop}(h:∀b,X' b->X b):ak U O X' B st tm w:=by
 have b':∀b,au X' B st.sites b->au X B st.sites b:=by
  rintro b (hb|hb)
  ·exact .inl (h b hb)
  ·exact .inr hb
 have a':=fun b hb=>S.lt (b' b hb)
 exact⟨S.nt,fun t=>(S.cU t).fl b' a',fun o Y M=>(S.sites o Y M).fl b' a',S.dp,fun o b h1 h2=>⟨fun hx=>(S.cg o b h1 h2).1 (h b hx),(S.cg o b h1 h2).2⟩,S.frame,fun b hb=>S.old b (h b hb),S.fk.less fun b _=>h b⟩
theorem ak.kill(S:ak U O X B st tm w){o:Nat}{Y:Site}(hl:look st.sites o=some Y)(fM:Y.live=true):
  ak U O (fun b=>X b\/b∈bl (B o)) B {st with sites:=cf st.sites o (.dead Y.b9)} tm w:=by
 have cI:∀H,b2 (cf st.sites o (.dead Y.b9)) H->H≠o/\b2 st.sites H:=by
  rintro H ⟨s,h1,h2⟩;rw[cv] at h1;by_cases e:o=H
  ·subst e;simp at h1;subst h1;cases h2
  ·simp only[e,if_false] at h1;exact⟨fun h=>e h.symm,s,h1,h2⟩
 have b':∀b,au (fun b=>X b\/b∈bl (B o)) B (cf st.sites o (.dead Y.b9)) b->au X B st.sites b:=by
  rintro b ((h|h)|⟨H,h1,h2⟩)
  ·exact .inl h
  ·exact .inr ⟨o,⟨Y,hl,fM⟩,h⟩
  ·exact .inr ⟨H,(cI H h1).2,h2⟩
 have a':=fun b hb=>S.lt (b' b hb)
 have b3:ak U O X B {st with sites:=cf st.sites o (.dead Y.b9)} tm w:=by
  have wX:∀b,au X B (cf st.sites o (.dead Y.b9)) b->au X B st.sites b:=by
   rintro b (h|⟨H,h1,h2⟩)
   ·exact .inl h
   ·exact .inr ⟨H,(cI H h1).2,h2⟩
  refine S.o9 (fun H s M=>?_) (fun _ _ _=>rfl) (fun b hb _ ah=>hb (wX b ah)) (fun go H s M=>?_) (fun H aN b h1 h2 g1 g2=>S.dp H aN b (cI H h1).2 (cI aN h2).2 g1 g2) (fun H b h1 h2=>S.cg H b (cI H h1).2 h2)
   (fun H b h1 h2=>S.dX (cI H h1).2 h2) S.frame (Nat.le_refl _)
  ·rw[cv];by_cases e:o=H
   ·subst e;rw[hl] at M;cases M;exact⟨.dead Y.b9,by simp,Nat.le_refl _,fun _=>rfl⟩
   ·exact⟨s,by simp[e,M],Nat.le_refl _,fun _=>rfl⟩
  ·rw[cv] at M;by_cases e:o=H
   ·simp only[e,if_true,Option.some.injEq] at M;subst M;exact .inr trivial
   ·simp only[e,if_false] at M;exact .inl ⟨M,rfl,fun _ _ _=>rfl⟩
 refine⟨b3.nt,fun t=>?_,fun H s M=>?_,b3.dp,fun H b h1 h2=>⟨?_,(b3.cg H b h1 h2).2⟩,b3.frame,?_,S.fk.less fun b hb hx=>hx.elim id fun e=>absurd (.inr ⟨o,⟨Y,hl,fM⟩,e⟩) (S.kV.2 b hb).1⟩
 ·have G:hd B B st.sites (cf st.sites o (.dead Y.b9)) w w (au X B st.sites) (au (fun b=>X b\/b∈bl (B o)) B (cf st.sites o (.dead Y.b9))):=
   ⟨fun H s M=>by
    rw[cv];by_cases e:o=H
    ·subst e;rw[hl] at M;cases M;exact⟨.dead Y.b9,by simp,Nat.le_refl _,fun _=>rfl⟩
    ·exact⟨s,by simp[e,M],Nat.le_refl _,fun _=>rfl⟩,fun _ _ _=>rfl,fun b hb _ ah=>hb (b' b ah)⟩
  exact(S.cU t).goes G (Nat.le_refl _) a'
 ·have eU:look (cf st.sites o (.dead Y.b9)) H=some s:=M;rw[cv] at eU;by_cases e:o=H
  ·simp only[e,if_true,Option.some.injEq] at eU;subst eU;trivial
  ·simp only[e,if_false] at eU;have G:hd B B st.sites (cf st.sites o (.dead Y.b9)) w w (au X B st.sites) (au (fun b=>X b\/b∈bl (B o)) B (cf st.sites o (.dead Y.b9))):=
    ⟨fun H s M=>by
     rw[cv];by_cases e:o=H
     ·subst e;rw[hl] at M;cases M;exact⟨.dead Y.b9,by simp,Nat.le_refl _,fun _=>rfl⟩
     ·exact⟨s,by simp[e,M],Nat.le_refl _,fun _=>rfl⟩,fun _ _ _=>rfl,fun b hb _ ah=>hb (b' b ah)⟩
   exact(S.sites H s eU).goes G (Nat.le_refl _) a' rfl (fun _ _ _=>rfl)
 ·rintro(hx|hx)
  ·exact(b3.cg H b h1 h2).1 hx
  ·exact(cI H h1).1 (S.dp H o b (cI H h1).2 ⟨Y,hl,fM⟩ h2 hx)
 ·rintro b (hb|hb)
  ·exact S.old b hb
  ·exact S.dX ⟨Y,hl,fM⟩ hb
theorem ak.jump(S:ak U O X B st tm w){w':World}(h:∀b,¬X b->b<w.heap.size->w'.heap[b]? =w.heap[b]?)(M:w.heap.size<=w'.heap.size)(hf:Fr O U w'):
  ak U O (fun b=>X b\/(w.heap.size<=b/\b<w'.heap.size)) B st tm w':=by
 have a':∀b,au (fun b=>X b\/(w.heap.size<=b/\b<w'.heap.size)) B st.sites b->b<w'.heap.size:=by
  rintro b ((hb|hb)|⟨H,h1,h2⟩)
  ·exact Nat.lt_of_lt_of_le (S.old b hb) M
  ·exact hb.2
  ·exact Nat.lt_of_lt_of_le (S.dX h1 h2) M
 have G:hd B B st.sites st.sites w w' (au X B st.sites) (au (fun b=>X b\/(w.heap.size<=b/\b<w'.heap.size)) B st.sites):=
  ⟨fun H s h=>⟨s,h,Nat.le_refl _,fun _=>rfl⟩,fun b hb ch=>h b (fun hx=>hb (.inl hx)) ch,fun b hb ch ah=>by
   rcases ah with(ah|ah)|ah
   ·exact hb (.inl ah)
   ·omega
   ·exact hb (.inr ah)⟩
 refine⟨S.nt,fun t=>(S.cU t).goes G M a',fun o s h1=>(S.sites o s h1).goes G M a' rfl (fun hl b hb=>?_),S.dp,fun o b h1 h2=>⟨?_,(S.cg o b h1 h2).2⟩,hf,?_,S.fk.less fun b hb hx=>hx.elim id fun e=>absurd (S.kV.2 b hb).2 (by omega)⟩
 ·exact h b (S.cg o b ⟨s,h1,hl⟩ hb).1 (S.dX ⟨s,h1,hl⟩ hb)
 ·rintro(hx|hx)
  ·exact(S.cg o b h1 h2).1 hx
  ·have:=S.dX h1 h2;omega
 ·rintro b (hb|hb)
  ·exact Nat.lt_of_lt_of_le (S.old b hb) M
  ·exact hb.2
theorem ak.wH(S:ak U O X B st tm w){X':Nat->Prop}{n:Nat}{bF:Site}{nv:Value}(gV:∀b,X' b->X b)
  (dr:(∀Y,look st.sites n=some Y->Y.b9<bF.b9)\/(bT (B n)=bT nv/\∀Y,look st.sites n=some Y->Y.b9=bF.b9/\Y.live=false))
  (hb:∀b,b∈bl nv->X b/\¬X' b/\(b∈O\/U.heap.size<=b))
  (eE:∀{bp:List (Nat×Site)} {aE:Nat->Value},bp=cf st.sites n bF->aE n=nv->(∀{a v},ce B st.sites w (au X B st.sites) a v->ce aE bp w (au X' aE bp) a v)->
   (∀b,au X' aE bp b->au X B st.sites b)->io aE bp w (au X' aE bp) n bF):
  ak U O X' (fun H=>if H=n then nv else B H) {st with sites:=cf st.sites n bF} tm w/\
   (∀b,au X' (fun H=>if H=n then nv else B H) (cf st.sites n bF) b->au X B st.sites b)/\
   (∀{a v},ce B st.sites w (au X B st.sites) a v->ce (fun H=>if H=n then nv else B H) (cf st.sites n bF) w (au X' (fun H=>if H=n then nv else B H) (cf st.sites n bF)) a v):=by
 have cI:∀H,b2 (cf st.sites n bF) H->H=n\/(H≠n/\b2 st.sites H):=by
  rintro H ⟨s,h1,h2⟩;rw[cv] at h1;by_cases e:n=H
  ·exact .inl e.symm
  ·simp only[e,if_false] at h1;exact .inr ⟨fun h=>e h.symm,s,h1,h2⟩
 have b':∀b,au X' (fun H=>if H=n then nv else B H) (cf st.sites n bF) b->au X B st.sites b:=by
  rintro b (h|⟨H,h1,h2⟩)
  ·exact .inl (gV b h)
  ·rcases cI H h1 with rfl|⟨ab,aF⟩
   ·simp at h2;exact .inl (hb b h2).1
   ·simp only[ab,if_false] at h2;exact .inr ⟨H,aF,h2⟩
 have rN:∀o Y,look st.sites o=some Y->∃ar,look (cf st.sites n bF) o=some ar/\Y.b9<=ar.b9/\(ar.b9=Y.b9->bT ((fun H=>if H=n then nv else B H) o)=bT (B o)):=by
  intro H s M;rw[cv];by_cases e:n=H
  ·subst e;refine⟨bF,by simp,?_,fun h=>?_⟩
   ·rcases dr with h|⟨_,h⟩
    ·exact Nat.le_of_lt (h s M)
    ·exact Nat.le_of_eq (h s M).1
   ·rcases dr with ah|⟨ah,_⟩
    ·have:=ah s M;omega
    ·simp[ah]
  ·have bK:¬H=n:=fun h=>e h.symm
   exact⟨s,by simp[e,M],Nat.le_refl _,fun _=>by simp[bK]⟩
 have G:hd B (fun H=>if H=n then nv else B H) st.sites (cf st.sites n bF) w w (au X B st.sites) (au X' (fun H=>if H=n then nv else B H) (cf st.sites n bF)):=
  ⟨rN,fun _ _ _=>rfl,fun b hb _ ah=>hb (b' b ah)⟩
 have a':=fun b hb=>S.lt (b' b hb)
 refine⟨⟨S.nt,fun t=>(S.cU t).goes G (Nat.le_refl _) a',fun H s M=>?_,fun H aN b h1 h2 g1 g2=>?_,fun H b h1 h2=>?_,S.frame,fun b h=>S.old b (gV b h),S.fk.less fun b _=>gV b⟩,b',fun h=>h.goes G (Nat.le_refl _) a'⟩
 ·have eU:look (cf st.sites n bF) H=some s:=M;rw[cv] at eU;by_cases e:n=H
  ·subst e;simp only[if_true,Option.some.injEq] at eU;subst eU;exact eE rfl (by simp) (fun h=>h.goes G (Nat.le_refl _) a') b'
  ·have bK:¬H=n:=fun h=>e h.symm
   simp only[e,if_false] at eU;exact(S.sites H s eU).goes G (Nat.le_refl _) a' (by simp[bK]) (fun _ _ _=>rfl)
 ·rcases cI H h1 with rfl|⟨n1,cx⟩<;>rcases cI aN h2 with rfl|⟨n2,ea⟩
  ·rfl
  ·simp only[if_true] at g1;simp only[n2,if_false] at g2;exact absurd (hb b g1).1 (S.cg aN b ea g2).1
  ·simp only[if_true] at g2;simp only[n1,if_false] at g1;exact absurd (hb b g2).1 (S.cg H b cx g1).1
  ·simp only[n1,if_false] at g1;simp only[n2,if_false] at g2;exact S.dp H aN b cx ea g1 g2
 ·rcases cI H h1 with rfl|⟨n1,cx⟩
  ·simp only[if_true] at h2;exact⟨(hb b h2).2.1,(hb b h2).2.2⟩
  ·simp only[n1,if_false] at h2;exact⟨fun hx=>(S.cg H b cx h2).1 (gV b hx),(S.cg H b cx h2).2⟩
end
def k7(w:World)(av:Nat->Prop):List (List aU)->List Value->Prop
 |[],[]=>True
 |ds::r,v::vs=>(∃b,∃cs:List Value,v=.pointer (some ⟨b,0,none⟩)/\¬av b/\b<w.heap.size/\hH w b 0 cs/\ck w av ds cs)/\k7 w av r vs
 |_,_=>False
theorem k7.fn{w:World}{av:Nat->Prop}{g:FuncId}:∀{bP:List (List aU)} {vs:List Value},k7 w av bP vs->Rd w av (.fn g bP) (.func (.func g) #[] vs.toArray):=by
 intro bP vs h;have key:∀{bP:List (List aU)} {vs:List Value},k7 w av bP vs->∃ox:List Nat,∃fm:List (List Value),vs=ox.map (fun b=>Value.pointer (some ⟨b,0,none⟩))/\ox.length=bP.length/\fm.length=bP.length/\
   (∀b,b∈ox->¬av b/\b<w.heap.size)/\(∀i (h:i<ox.length) (ah:i<fm.length),hH w ox[i] 0 fm[i])/\(∀i (h:i<bP.length) (ah:i<fm.length),ck w av bP[i] fm[i]):=by
  intro bP;induction bP with
  |nil=>
   intro vs h;match vs,h with
   |[],_=>exact⟨[],[],rfl,rfl,rfl,fun b h=>by simp at h,fun i h=>by simp at h,fun i h=>by simp at h⟩
  |cons ds bP ih=>
   intro vs h;match vs,h with
   |v::vs,⟨⟨b,cs,h1,h2,ab,aF,bo⟩,dk⟩=>
    obtain⟨ox,fm,ax,an,bG,ci,er,hX⟩:=ih dk;refine⟨b::ox,cs::fm,by simp[h1,ax],by simp[an],by simp[bG],fun c hc=>?_,fun i g1 g2=>?_,fun i g1 g2=>?_⟩
    ·rcases List.mem_cons.1 hc with rfl|hc
     ·exact⟨h2,ab⟩
     ·exact ci c hc
    ·cases i with
     |zero=>exact aF
     |succ i=>exact er i (by simpa using g1) (by simpa using g2)
    ·cases i with
     |zero=>exact bo
     |succ i=>exact hX i (by simpa using g1) (by simpa using g2)
 obtain⟨ox,fm,ax,an,bG,ci,er,hX⟩:=key h;refine .fn g bP ox (fun i=>fm.getD i []) _ (by rw[ax]) an (fun b hb=>(ci b hb).1) (fun b hb=>(ci b hb).2) (fun i hi=>?_) (fun i hi j u hu=>?_) (fun i hi j h1 h2=>?_)
 ·have ah:i<fm.length:=by omega
  have:=(hX i hi ah).1;simpa[List.getD,ah] using this
 ·have ah:i<fm.length:=by omega
  have:=er i hi ah j u (by simpa[List.getD,ah] using hu)
  simpa using this
 ·have ah:i<fm.length:=by omega
  have h2':j<fm[i].length:=by simpa[List.getD,ah] using h2
  have:=(hX i hi ah).2 j h1 h2';simpa[List.getD,ah] using this
theorem k7.Sc{w:World}{av:Nat->Prop}{g:FuncId}{bP:List (List aU)}{v:Value}(h:Rd w av (.fn g bP) v):∃vs:List Value,v=.func (.func g) #[] vs.toArray/\k7 w av bP vs:=by
 cases h with
 |fn _ _ bs jm lb CT gA hb a' hl hc hr=>
  refine⟨bs.map fun b=>Value.pointer (some ⟨b,0,none⟩),by rw[CT],?_⟩
  have key:∀(bP:List (List aU)) (bs:List Nat) (jm:Nat->List Value),bs.length=bP.length->(∀b,b∈bs->¬av b/\b<w.heap.size)->(∀i (h:i<bP.length),(jm i).length=(bP[i]).length)->
    (∀i (h:i<bs.length) j u,(jm i)[j]? =some u->w.cell? ⟨bs[i],j,none⟩=some u)->(∀i (h:i<bP.length) j (h1:j<(bP[i]).length) (h2:j<(jm i).length),Rd w av ((bP[i])[j]) ((jm i)[j]))->
    k7 w av bP (bs.map fun b=>Value.pointer (some ⟨b,0,none⟩)):=by
   intro bP;induction bP with
   |nil=>intro bs jm h _ _ _ _;rw[List.eq_nil_of_length_eq_zero h];trivial
   |cons ds bP ih=>
    intro bs jm h h1 h2 ab aF;match bs,h with
    |b::bs,h=>
     refine⟨⟨b,jm 0,rfl,(h1 b List.mem_cons_self).1,(h1 b List.mem_cons_self).2,fun j u hu=>?_,h2 0 (by simp),fun j g1 g2=>aF 0 (by simp) j g1 g2⟩,?_⟩
     ·have:=ab 0 (by simp) j u hu
      simpa using this
     ·exact ih bs (fun i=>jm (i+1)) (by simpa using h) (fun c hc=>h1 c (List.mem_cons_of_mem _ hc)) (fun i hi=>h2 (i+1) (by simpa using hi)) (fun i hi j u hu=>ab (i+1) (by simpa using hi) j u hu)
       (fun i hi j g1 g2=>aF (i+1) (by simpa using hi) j g1 g2)
  exact key bP bs jm gA (fun b h=>⟨hb b h,a' b h⟩) hl hc hr
section
variable {U:World}{O:List Nat}{X:Nat->Prop}{B:Nat->Value}{st:ai}{tm:Array Value}{w:World}
structure fj(U:World)(O:List Nat)(X:Nat->Prop)(B:Nat->Value)(st:ai)(tm:Array Value)(w:World)(cZ:List (Nat×Site))(eK:List Nat)(av:Nat->Prop):Prop where
 bL:lM U O X B st tm w cZ
 le:∀b,av b->au X B (ba st.sites cZ) b
 x9:∀o,o∈eK->∀b,aW (B o)=some b->¬av b
variable {cZ:List (Nat×Site)}{eK:List Nat}{av:Nat->Prop}
theorem fj.lt(ay:fj U O X B st tm w cZ eK av){b:Nat}(h:av b):b<w.heap.size:=ay.bL.new.lt (ay.le b h)
theorem fj.sub(ay:fj U O X B st tm w cZ eK av){b:Nat}(h:av b):au X B st.sites b:=by
 rcases ay.le b h with h|⟨o,⟨Y,h1,h2⟩,ab⟩
 ·exact .inl h
 ·refine .inr ⟨o,?_,ab⟩;rcases mB ay.bL.bL o with h|⟨s,t,xs,aF,bo⟩
  ·exact⟨Y,h▸h1,h2⟩
  ·rw[bo] at h1;cases h1;cases h2
theorem fj.rd(ay:fj U O X B st tm w cZ eK av){d:aU}{v:Value}(h:Rd w (au X B (ba st.sites cZ)) d v):Rd w av d v:=
 ce.fl (B:=B) (sites:=[]) (a:=one d) (v:=v) ay.le (fun b hb=>ay.lt hb) h
theorem fj.uF(ay:fj U O X B st tm w cZ eK av){d:aU}{v:Value}(h:Rd w (au X B st.sites) d v):Rd w av d v:=
 ce.fl (B:=B) (sites:=[]) (a:=one d) (v:=v) (fun b hb=>ay.sub hb) (fun b hb=>ay.lt hb) h
theorem NU(ay:fj U O X B st tm w cZ eK av):∀{bP:List (Nat×Nat)} {cs:List (List aU)} {us:List (Nat×Site)} {bs:List Nat} {vs:List Value},l1 st bP=some (cs,us,bs)->
  (∀p,p∈us->p∈cZ)->(∀o,o∈bs->o∈eK)->vs.length=bP.length->(∀i (h:i<bP.length) (ah:i<vs.length),Ref st.sites (bP[i]).1 (bP[i]).2 (vs[i]=bT (B (bP[i]).1)))->k7 w av cs vs:=by
 intro bP;induction bP with
 |nil=>
  intro cs us bs vs h _ _ hl _;simp only[l1] at h;cases h;rw[List.eq_nil_of_length_eq_zero hl];trivial
 |cons c bP ih=>
  obtain⟨o,s⟩:=c;intro cs us bs vs h ej dA hl hr;simp only[l1] at h;split at h
  ·rename_i cells mX;split at h
   ·rename_i ds u1 rest u2 aO eI l4;cases h;match vs,hl with
    |v::vs,hl=>
     have is:=ht mX;obtain⟨b,T,cur,h1,h2,ab,aF,_,bo⟩:=ay.bL.old.sites o _ is;have hv:v=B o:=(Ref.at (hr 0 (by simp) (by simp)) is rfl:v=bT (B o)).trans (by rw[h1];rfl)
     have c5:=AM eI ⟨ab,bo⟩ ay.bL (fun p ag=>ej p (List.mem_append.2 (.inl ag)))
     refine⟨⟨b,cur,by rw[hv,h1],ay.x9 o (dA o List.mem_cons_self) b (by rw[h1];rfl),ay.bL.old.dX ⟨_,is,rfl⟩ (fY (by rw[h1];rfl)),.row h2,c5.1,fun j g1 g2=>ay.rd (c5.2 j g1 g2)⟩,?_⟩
     exact ih l4 (fun p ag=>ej p (List.mem_append.2 (.inr ag))) (fun H br=>dA H (List.mem_cons_of_mem _ br)) (by simpa using hl) (fun i g1 g2=>hr (i+1) (by simpa using g1) (by simpa using g2))
   ·cases h
  ·cases h
theorem F7(ay:fj U O X B st tm w cZ eK av){l fG:aD}{us:List (Nat×Site)}{bs:List Nat}{v:Value}(h:nX st l=some (fG,us,bs))(ej:∀p,p∈us->p∈cZ)(dA:∀o,o∈bs->o∈eK)
  (hv:dx B st.sites w (au X B st.sites) l v):mQ w av fG v []:=by
 unfold nX at h;split at h
 ·rename_i cells;cases h;obtain⟨b,D,h1,h2,ab,cs,aF,bo,dk⟩:=hv;exact⟨rfl,b,D,h1,fun hx=>h2 (ay.sub hx),ab,cs,aF,bo,fun j g1 g2=>ay.uF (dk j g1 g2)⟩
 ·rename_i g c cs;split at h
  ·rename_i ds u b hc;cases h;obtain⟨vs,h1,h2,ab⟩:=hv;rw[h1];exact⟨rfl,(NU ay hc ej dA h2 ab).fn⟩
  ·cases h
 ·split at h
  ·rename_i d u Z;cases h;exact⟨rfl,ay.rd (RA Z hv ay.bL ej)⟩
  ·cases h
theorem adI(ay:fj U O X B st tm w cZ eK av):∀{aa dF:List aD} {us:List (Nat×Site)} {bs:List Nat} {vs:List Value},mM st aa=some (dF,us,bs)->(∀p,p∈us->p∈cZ)->(∀o,o∈bs->o∈eK)->
  cw B st.sites w (au X B st.sites) aa vs->gK w av dF vs []:=by
 intro aa;induction aa with
 |nil=>intro dF us bs vs h _ _ hv;simp only[mM] at h;cases h;rw[hv.lW];rfl
 |cons l aa ih=>
  intro dF us bs vs h ej dA hv;simp only[mM] at h;split at h
  ·rename_i a u1 bc as u2 aO h1 h2;cases h;obtain⟨v,cH,rfl,j_,kK⟩:=hv.inv;exact⟨[],[],rfl,F7 ay h1 (fun p ag=>ej p (List.mem_append.2 (.inl ag))) (fun p ag=>dA p (List.mem_append.2 (.inl ag))) j_,
    ih h2 (fun p ag=>ej p (List.mem_append.2 (.inr ag))) (fun p ag=>dA p (List.mem_append.2 (.inr ag))) kK⟩
  ·cases h
theorem afh(ay:fj U O X B st tm w cZ eK av){o s:Nat}{t:aJ}{xs:List (den t)}(hl:look st.sites o=some (.row s t xs)):
  ∃e,∃cs:List Value,rowAt w t.ei e (aC t) (B o) xs.length cs/\ck w av (flat t xs) cs:=by
 obtain⟨e,cs,h1,h2⟩:=ay.bL.old.sites o _ hl;refine⟨e,cs,h1,by rw[dU];exact h1.1,fun j g1 g2=>ay.uF (h2 j g1 g2)⟩
theorem zk(ay:fj U O X B st tm w cZ eK av){l fG:aD}{us:List (Nat×Site)}{v:Value}(h:nO st l=some (fG,us))(hv:dx B st.sites w (au X B st.sites) l v):
  mQ w av fG v (cz B (keys us))/\fa st.sites us:=by
 unfold nO at h;split at h
 ·cases h;exact⟨⟨rfl,ay.uF hv⟩,.nil⟩
 ·rename_i t;cases h;have hv:v=.slice none 0 0:=hv;subst hv;exact⟨⟨rfl,0,[],⟨by simp,.inl ⟨rfl,rfl⟩⟩,rfl,fun j g=>by simp[flat] at g⟩,.nil⟩
 ·rename_i o s;split at h
  ·rename_i ar t xs hl;cases hb:ar.beq s with
   |false=>simp[hb] at h
   |true=>
    simp only[hb,cond_true,Option.some.injEq,Prod.mk.injEq] at h;obtain⟨rfl,rfl⟩:=h;have M:=Nat.eq_of_beq_eq_true hb;subst M;have hl:look st.sites o=some (.row ar t xs):=hl;obtain⟨e,cs,h1,h2⟩:=afh ay hl;have hN:v=B o:=(Ref.at hv.2 hl rfl:v=bT (B o)).trans (h6 h1).1;refine⟨⟨?_,e,cs,by rw[hN];exact h1,h2⟩,fun H anr hm=>?_⟩
    ·simp only[keys,cz,List.flatMap_cons,List.flatMap_nil,hN,(h6 h1).2,List.append_nil]
    ·simp only[List.mem_singleton,Prod.mk.injEq] at hm;obtain⟨rfl,rfl⟩:=hm;exact⟨_,hl,rfl,rfl⟩
  ·rename_i ar t xs hl;cases hb:ar.beq s with
   |false=>simp[hb] at h
   |true=>
    simp only[hb,cond_true,Option.some.injEq,Prod.mk.injEq] at h;obtain⟨rfl,rfl⟩:=h;have M:=Nat.eq_of_beq_eq_true hb;subst M;have hl:look st.sites o=some (.da ar t xs):=hl;have hN:v=bT (B o):=Ref.at hv.2 hl rfl;refine⟨⟨rfl,?_⟩,.nil⟩;rw[hN];exact ay.uF (ay.bL.old.sites o _ hl).1
  ·rename_i ar t xs hl;cases hb:ar.beq s with
   |false=>simp[hb] at h
   |true=>
    simp only[hb,cond_true,Option.some.injEq,Prod.mk.injEq] at h;obtain⟨rfl,rfl⟩:=h;have M:=Nat.eq_of_beq_eq_true hb;subst M;have hl:look st.sites o=some (.deep ar t xs):=hl;obtain⟨e,v',aw,cs,h1,_,h2,ab⟩:=ay.bL.old.sites o _ hl;have hN:v=v':=(Ref.at hv.2 hl rfl:v=bT (B o)).trans (by rw[h1];rfl)
    subst hN;refine⟨⟨e,cs,aw,?_,h2,ab.map (fun h=>ay.uF h) fun _ _ _ _=>rfl⟩,fun H anr hm=>?_⟩
    ·simp only[keys,cz,List.flatMap_cons,List.flatMap_nil,List.append_nil,h1]
    ·simp only[List.mem_singleton,Prod.mk.injEq] at hm;obtain⟨rfl,rfl⟩:=hm;exact⟨_,hl,rfl,rfl⟩
  ·cases h
 ·cases h;exact⟨⟨rfl,trivial⟩,.nil⟩
 ·cases h;exact⟨⟨rfl,hv⟩,.nil⟩
 ·cases h
theorem NJ{aa dF:List aD}{us:List (Nat×Site)}(h:kC st aa=some (dF,us))(bW:dF.head?=some .eS):aa.head?=some .eS:=by
 cases aa with
 |nil=>simp only[kC] at h;cases h;cases bW
 |cons l aa=>
  simp only[kC] at h;split at h
  ·rename_i a u1 as u2 h1 h2;cases h;simp only[List.head?_cons,Option.some.injEq] at bW ⊢;subst bW;unfold nO at h1;split at h1<;>try(cases h1;done)
   ·split at h1;all_goals first|cases h1;done|skip
    all_goals
     rename_i ar t xs _;revert h1
     generalize ar.beq _=q;intro h1;cases q<;>cases h1
   ·rfl
  ·cases h
theorem Aj(ay:fj U O X B st tm w cZ eK av):∀{aa dF:List aD} {us:List (Nat×Site)} {vs:List Value},kC st aa=some (dF,us)->cw B st.sites w (au X B st.sites) aa vs->
  gK w av dF vs (cz B (keys us))/\fa st.sites us:=by
 intro aa;induction aa with
 |nil=>intro dF us vs h hv;simp only[kC] at h;cases h;rw[hv.lW];exact⟨rfl,.nil⟩
 |cons l aa ih=>
  intro dF us vs h hv;simp only[kC] at h;split at h
  ·rename_i a u1 as u2 h1 h2;cases h;obtain⟨v,cH,rfl,j_,kK⟩:=hv.inv;obtain⟨ax,an⟩:=zk ay h1 j_;obtain⟨bG,ci⟩:=ih h2 kK;exact⟨⟨_,_,by rw[gW,kY],ax,bG⟩,an.append ci⟩
  ·cases h
theorem i'.append{as kf:List Arg}{vs cH:List Value}{bs pz:List Nat}(h:i' w av as vs bs)(ah:i' w av kf cH pz):i' w av (as++kf) (vs++cH) (bs++pz):=by
 induction as generalizing vs bs with
 |nil=>
  match vs,h with
  |[],h=>have h:bs=[]:=h;subst h;exact ah
 |cons a as ih=>
  match vs,h with
  |v::vs,⟨bc,aO,h1,h2,ab⟩=>exact⟨bc,aO++pz,by rw[h1,List.append_assoc],h2,ih ab⟩
theorem aaA{cs:List (List aU)}{vs:List Value}(h:k7 w av cs vs):i' w av (lX cs) vs []:=by
 induction cs generalizing vs with
 |nil=>
  match vs,h with
  |[],_=>rfl
 |cons ds cs ih=>
  match vs,h with
  |v::vs,⟨⟨b,cur,h1,h2,ab,aF,bo⟩,dk⟩=>
   refine⟨[],[],rfl,⟨rfl,b,0,by rw[h1],h2,ab,cur,by rw[bo.1],fun j u hu=>aF j u hu,bo.2⟩,ih dk⟩
theorem LN{as kf:List Arg}{vs cH:List Value}(hl:as.length=vs.length):dD (as++kf) (vs++cH)=dD as vs++dD kf cH:=by
 induction as generalizing vs with
 |nil=>rw[List.eq_nil_of_length_eq_zero hl.symm];rfl
 |cons a as ih=>
  match vs,hl with
  |v::vs,hl=>
   have:=ih (vs:=vs) (by simpa using hl)
   cases a with
   |av a=>cases v<;>simp[dD,this]
   |ec c=>
    cases v<;>try(simp[dD,this];done)
    rename_i p;cases p<;>simp[dD,this]
theorem aaC(cs:List (List aU))(vs:List Value):dD (lX cs) vs=[]:=by
 induction cs generalizing vs with
 |nil=>cases vs<;>rfl
 |cons c cs ih=>cases vs<;>simp[lX,dD,ih]
theorem Zp{as kf:List Arg}{vs cH:List Value}(hl:as.length=vs.length):e0 (as++kf) (vs++cH)=e0 as vs++e0 kf cH:=by
 induction as generalizing vs with
 |nil=>rw[List.eq_nil_of_length_eq_zero hl.symm];rfl
 |cons a as ih=>
  match vs,hl with
  |v::vs,hl=>
   have:=ih (vs:=vs) (by simpa using hl)
   cases a<;>simp[e0,this]
theorem _S(cs:List (List aU))(vs:List Value):e0 (lX cs) vs=[]:=by
 induction cs generalizing vs with
 |nil=>cases vs<;>rfl
 |cons c cs ih=>cases vs<;>simp[lX,e0,ih,bH.cells,gl,aD.rc]
def iB(B:Nat->Value):List (Option (Nat×Nat))->List Value->Prop
 |[],_=>True
 |none::r,_::vs=>iB B r vs
 |some p::r,v::vs=>v=bT (B p.1)/\iB B r vs
 |_::_,[]=>False
theorem iB.append{B:Nat->Value}{r kS:List (Option (Nat×Nat))}{vs cH:List Value}(hl:r.length=vs.length)(h:iB B r vs)(ah:iB B kS cH):iB B (r++kS) (vs++cH):=by
 induction r generalizing vs with
 |nil=>rw[List.eq_nil_of_length_eq_zero hl.symm];exact ah
 |cons D r ih=>
  match vs,hl with
  |v::vs,hl=>
   cases D with
   |none=>exact ih (by simpa using hl) h
   |some p=>exact⟨h.1,ih (by simpa using hl) h.2⟩
theorem i'.length{as:List Arg}{vs:List Value}{bs:List Nat}(h:i' w av as vs bs):as.length=vs.length:=by
 induction as generalizing vs bs with
 |nil=>
  match vs,h with
  |[],_=>rfl
 |cons a as ih=>
  match vs,h with
  |v::vs,⟨_,_,_,_,h⟩=>simp[ih h]
theorem abP(ay:fj U O X B st tm w cZ eK av):∀{cQ:List aP} {a:kE} {vs:List Value},js st cQ=some a->cQ.length=vs.length->
  (∀i (h:i<cQ.length) (ah:i<vs.length),ce B st.sites w (au X B st.sites) (cQ[i]) (vs[i]))->(∀p,p∈a.eQ->p∈cZ)->(∀o,o∈a.f'->o∈eK)->
  i' w av a.as vs (cz B (keys a.gone))/\fa st.sites a.gone/\dD a.as vs=cz B (keys a.boxes)/\(∀o s,(o,s)∈a.boxes->(o,.dead s)∈a.gone/\∃b,B o=.pointer (some ⟨b,0,none⟩))/\a.rows=[]:=by
 intro cQ;induction cQ with
 |nil=>
  intro a vs h hl _ _ _;simp only[js] at h;cases h;rw[List.eq_nil_of_length_eq_zero hl.symm];exact⟨rfl,.nil,rfl,fun o s hm=>by simp at hm,rfl⟩
 |cons sE cQ ih=>
  intro a vs h hl hv ej dA;match vs,hl with
  |v::vs,hl=>
   have mi:=hv 0 (by simp) (by simp)
   have hvs:∀i (h:i<cQ.length) (ah:i<vs.length),ce B st.sites w (au X B st.sites) (cQ[i]) (vs[i]):=fun i g1 g2=>hv (i+1) (by simpa using g1) (by simpa using g2)
   have fC:cQ.length=vs.length:=by simpa using hl
   simp only[List.getElem_cons_zero] at mi;unfold js at h;split at h
   ·cases ‹sE::cQ=[]›
   ·rename_i o s cH b5;cases b5;split at h
    ·rename_i cells r mX hr;split at h
     ·rename_i cs gone hg;cases h;obtain⟨ax,an,bG,ci,er⟩:=ih hr fC hvs ej dA;have is:=ht mX;obtain⟨b,T,cur,e1,e2,b0,eu,fI⟩:=ay.bL.old.box is mi;have IA:nR cells T cur b:=by
       obtain⟨aO,dT,UF,q1,q2,_,_,dG,_⟩:=ay.bL.old.sites o _ is;rw[e1] at q1;cases q1;rw[b0] at q2;cases q2;exact dG
      obtain⟨g1,g2⟩:=Aj ay hg fI;subst e2;refine⟨⟨b::cz B (keys gone),_,?_,⟨b,rfl,T,cur,_,rfl,b0,eu,fun bW=>IA (NJ hg bW),g1⟩,ax⟩,?_,?_,?_,er⟩
      ·show cz B (keys (((o,Site.dead s)::gone)++r.gone))=_;rw[gW,kY];congr 1
       simp[keys,cz,e1,aW,bl]
      ·refine fa.append ?_ an;intro H ar hm;rcases List.mem_cons.1 hm with hm|hm
       ·cases hm;exact⟨_,is,rfl,rfl⟩
       ·exact g2 H ar hm
      ·simp[dD,bG,keys,cz,e1,aW,bl]
      ·intro H ar hm;rcases List.mem_cons.1 hm with hm|hm
       ·cases hm;exact⟨by simp,b,e1⟩
       ·obtain⟨q1,q2⟩:=ci H ar hm;exact⟨List.mem_append.2 (.inr q1),q2⟩
     ·cases h
    ·cases h
   ·rename_i l cH _ b5;cases b5;split at h
    ·rename_i fG us bs r h1 hr;cases h;obtain⟨ax,an,bG,ci,_⟩:=ih hr fC hvs (fun p ag=>ej p (List.mem_append.2 (.inr ag))) (fun p ag=>dA p (List.mem_append.2 (.inr ag)))
     have:=F7 ay h1 (fun p ag=>ej p (List.mem_append.2 (.inl ag))) (fun p ag=>dA p (List.mem_append.2 (.inl ag))) mi
     refine⟨⟨[],_,rfl,this,ax⟩,an,?_,ci,rfl⟩;cases v<;>simp[dD,bG]
    ·cases h
   ·rename_i aa cH b5;cases b5;split at h
    ·rename_i dF us bs r h1 hr;cases h;obtain⟨ax,an,bG,ci,_⟩:=ih hr fC hvs (fun p ag=>ej p (List.mem_append.2 (.inr ag))) (fun p ag=>dA p (List.mem_append.2 (.inr ag)))
     obtain⟨j7,e1,e2,b0⟩:=mi;have:=adI ay h1 (fun p ag=>ej p (List.mem_append.2 (.inl ag))) (fun p ag=>dA p (List.mem_append.2 (.inl ag))) ⟨e2,b0⟩
     refine⟨⟨[],_,rfl,⟨j7,e1,this⟩,ax⟩,an,?_,ci,rfl⟩;cases v<;>simp[dD,bG]
    ·cases h
   ·cases h
theorem NK(ay:fj U O X B st tm w cZ eK av){l fG:aD}{gs us:List (Nat×Site)}{bs:List Nat}{v:Value}(h:mH st l=some (fG,gs,us,bs))(ej:∀p,p∈us->p∈cZ)(dA:∀o,o∈bs->o∈eK)
  (hv:dx B st.sites w (au X B st.sites) l v):mQ w av fG v (cz B (keys gs))/\fa st.sites gs:=by
 unfold mH at h;split at h
 ·split at h
  ·rename_i hg;cases h;exact zk ay hg hv
  ·cases h
 ·cases h;exact zk (l:=.nil _) (us:=[]) ay rfl hv
 ·split at h
  ·rename_i hl;cases h;exact⟨F7 ay hl ej dA hv,.nil⟩
  ·cases h
theorem MH(ay:fj U O X B st tm w cZ eK av){l fG:aD}{gs us:List (Nat×Site)}{bs:List Nat}{v:Value}(h:mH st l=some (fG,gs,us,bs))(hv:dx B st.sites w (au X B st.sites) l v):
  ∀o s,l6 st l=some (o,s)->v=bT (B o)/\(o,.dead s)∈gs:=by
 intro o s hg;unfold l6 at hg;split at hg
 ·rename_i Jq ar;unfold mH at h;simp only[nO] at h;split at hg
  ·rename_i u t xs hl;cases hg;rw[hl] at h;simp only at h;cases hb:u.beq s with
   |false=>simp[hb] at h
   |true=>
    have M:=Nat.eq_of_beq_eq_true hb;subst M;simp only[hb,cond_true] at h;cases h;exact⟨Ref.at hv.2 hl rfl,List.mem_singleton.2 rfl⟩
  ·rename_i u t xs hl;cases hg;rw[hl] at h;simp only at h;cases hb:u.beq s with
   |false=>simp[hb] at h
   |true=>
    have M:=Nat.eq_of_beq_eq_true hb;subst M;simp only[hb,cond_true] at h;cases h;exact⟨Ref.at hv.2 hl rfl,List.mem_singleton.2 rfl⟩
  ·cases hg
 ·cases hg
theorem aam(ay:fj U O X B st tm w cZ eK av):∀{aa dF:List aD} {gs us:List (Nat×Site)} {bs:List Nat} {vs:List Value},mF st aa=some (dF,gs,us,bs)->(∀p,p∈us->p∈cZ)->(∀o,o∈bs->o∈eK)->
  cw B st.sites w (au X B st.sites) aa vs->gK w av dF vs (cz B (keys gs))/\fa st.sites gs/\iB B (aa.map (l6 st)) vs/\∀o s,some (o,s)∈aa.map (l6 st)->(o,.dead s)∈gs:=by
 intro aa;induction aa with
 |nil=>intro dF gs us bs vs h _ _ hv;simp only[mF] at h;cases h;rw[hv.lW];exact⟨rfl,.nil,trivial,fun o s h=>by simp at h⟩
 |cons l aa ih=>
  intro dF gs us bs vs h ej dA hv;simp only[mF] at h;split at h
  ·rename_i a u1 f1 bc as u2 f2 aO h1 h2;cases h;obtain⟨v,cH,rfl,j_,kK⟩:=hv.inv;obtain⟨ax,an⟩:=NK ay h1 (fun p ag=>ej p (List.mem_append.2 (.inl ag))) (fun p ag=>dA p (List.mem_append.2 (.inl ag))) j_
   obtain⟨bG,ci,er,hX⟩:=ih h2 (fun p ag=>ej p (List.mem_append.2 (.inr ag))) (fun p ag=>dA p (List.mem_append.2 (.inr ag))) kK
   have hr:=MH ay h1 j_;refine⟨⟨_,_,by rw[gW,kY],ax,bG⟩,an.append ci,?_,fun o s hm=>?_⟩
   ·simp only[List.map_cons];cases ao:l6 st l with
    |none=>exact er
    |some p=>exact⟨(hr p.1 p.2 ao).1,er⟩
   ·simp only[List.map_cons,List.mem_cons] at hm;rcases hm with hm|hm
    ·exact List.mem_append.2 (.inl (hr o s hm.symm).2)
    ·exact List.mem_append.2 (.inr (hX o s hm))
  ·cases h
theorem EF{v:Value}(h:v.oneCell'=true):h9 v=[v]:=by
 cases v<;>first|rfl|cases h
theorem ab9{l:aD}{v:Value}{bs:List Nat}(hn:l.rc=false)(h:mQ w av l v bs):v.oneCell'=true:=by
 cases l with
 |fresh t xs=>
  obtain⟨_,e,cs,k,_⟩:=h;rcases k.2 with⟨h,_⟩|⟨g,cap,cur,bL,h,_⟩<;>rw[h]<;>rfl
 |gG t xs=>
  obtain⟨e,cs,aw,_,k,_⟩:=h;rcases k.2 with⟨h,_⟩|⟨g,cap,cur,bL,h,_⟩<;>rw[h]<;>rfl
 |_=>cases hn
theorem gK.length{aa:List aD}{vs:List Value}{bs:List Nat}(h:gK w av aa vs bs):vs.length=aa.length:=by
 induction aa generalizing vs bs with
 |nil=>
  match vs,h with
  |[],_=>rfl
 |cons l aa ih=>
  match vs,h with
  |v::vs,⟨_,_,_,_,h⟩=>simp[ih h]
theorem aaa(ay:fj U O X B st tm w cZ eK av):∀{cQ:List aP} {a:kE} {vs:List Value},k0 st cQ=some a->cQ.length=vs.length->
  (∀i (h:i<cQ.length) (ah:i<vs.length),ce B st.sites w (au X B st.sites) (cQ[i]) (vs[i]))->(∀p,p∈a.eQ->p∈cZ)->(∀o,o∈a.f'->o∈eK)->
  i' w av a.as vs (cz B (keys a.gone))/\fa st.sites a.gone/\dD a.as vs=cz B (keys a.boxes)/\(∀o s,(o,s)∈a.boxes->(o,.dead s)∈a.gone/\∃b,B o=.pointer (some ⟨b,0,none⟩))/\
   iB B a.rows (e0 a.as vs)/\∀o s,some (o,s)∈a.rows->(o,.dead s)∈a.gone:=by
 intro cQ;induction cQ with
 |nil=>
  intro a vs h hl _ _ _;simp only[k0] at h;cases h;rw[List.eq_nil_of_length_eq_zero hl.symm];exact⟨rfl,.nil,rfl,fun o s hm=>by simp at hm,trivial,fun o s hm=>by simp at hm⟩
 |cons sE cQ ih=>
  intro a vs h hl hv ej dA;match vs,hl with
  |v::vs,hl=>
   have mi:=hv 0 (by simp) (by simp)
   have hvs:∀i (h:i<cQ.length) (ah:i<vs.length),ce B st.sites w (au X B st.sites) (cQ[i]) (vs[i]):=fun i g1 g2=>hv (i+1) (by simpa using g1) (by simpa using g2)
   have fC:cQ.length=vs.length:=by simpa using hl
   simp only[List.getElem_cons_zero] at mi;unfold k0 at h;split at h
   ·cases ‹sE::cQ=[]›
   ·rename_i l cH b5;cases b5;split at h
    ·rename_i fG gs us bs r h1 hr;cases h;obtain⟨ax,an,bG,ci,er,hX⟩:=ih hr fC hvs (fun p ag=>ej p (List.mem_append.2 (.inr ag))) (fun p ag=>dA p (List.mem_append.2 (.inr ag)))
     obtain⟨g1,g2⟩:=NK ay h1 (fun p ag=>ej p (List.mem_append.2 (.inl ag))) (fun p ag=>dA p (List.mem_append.2 (.inl ag))) mi
     have cC:=MH ay h1 mi;refine⟨⟨_,_,by rw[gW,kY],g1,ax⟩,g2.append an,?_,fun H ar hm=>?_,?_,fun H ar hm=>?_⟩
     ·cases v<;>simp[dD,bG]
     ·obtain⟨q1,q2⟩:=ci H ar hm;exact⟨List.mem_append.2 (.inr q1),q2⟩
     ·simp only[e0,bH.cells,o4];cases hn:gl [fG] with
      |true=>exact er
      |false=>
       have fw:fG.rc=false:=by simpa[gl] using hn
       simp only[cond_false,EF (ab9 fw g1)];refine iB.append (by simp) ?_ er
       simp only[List.map_cons,List.map_nil];cases ao:l6 st l with
       |none=>trivial
       |some p=>exact⟨(cC p.1 p.2 ao).1,trivial⟩
     ·simp only[o4] at hm;rcases List.mem_append.1 hm with hm|hm
      ·cases hn:gl [fG] with
       |true=>rw[hn] at hm;simp at hm
       |false=>
        rw[hn] at hm;simp only[cond_false,List.map_cons,List.map_nil,List.mem_singleton] at hm;exact List.mem_append.2 (.inl (cC H ar hm.symm).2)
      ·exact List.mem_append.2 (.inr (hX H ar hm))
    ·cases h
   ·rename_i aa cH b5;cases b5;split at h
    ·rename_i dF gs us bs r h1 hr;cases h;obtain⟨ax,an,bG,ci,er,hX⟩:=ih hr fC hvs (fun p ag=>ej p (List.mem_append.2 (.inr ag))) (fun p ag=>dA p (List.mem_append.2 (.inr ag)))
     obtain⟨j7,e1,e2,b0⟩:=mi;obtain⟨g1,g2,g3,g4⟩:=aam ay h1 (fun p ag=>ej p (List.mem_append.2 (.inl ag))) (fun p ag=>dA p (List.mem_append.2 (.inl ag))) ⟨e2,b0⟩
     subst e1;refine⟨⟨_,_,by rw[gW,kY],⟨j7,rfl,g1⟩,ax⟩,g2.append an,?_,fun H ar hm=>?_,?_,fun H ar hm=>?_⟩
     ·simp[dD,bG]
     ·obtain⟨q1,q2⟩:=ci H ar hm;exact⟨List.mem_append.2 (.inr q1),q2⟩
     ·simp only[e0,bH.cells,o4];cases hn:gl dF with
      |true=>exact er
      |false=>
       simp only[cond_false,h9];exact iB.append (by simp[e2]) g3 er
     ·simp only[o4] at hm;rcases List.mem_append.1 hm with hm|hm
      ·cases hn:gl dF with
       |true=>rw[hn] at hm;simp at hm
       |false=>
        rw[hn] at hm;exact List.mem_append.2 (.inl (g4 H ar hm))
      ·exact List.mem_append.2 (.inr (hX H ar hm))
    ·cases h
   ·cases h
theorem My{b:Bool}(ay:fj U O X B st tm w cZ eK av){cQ:List aP}{a:kE}{vs:List Value}(h:s_ b st cQ=some a)(hl:cQ.length=vs.length)
  (hv:∀i (h:i<cQ.length) (ah:i<vs.length),ce B st.sites w (au X B st.sites) (cQ[i]) (vs[i])) (h1:∀p,p∈a.eQ->p∈cZ) (h2:∀o,o∈a.f'->o∈eK):
  i' w av a.as vs (cz B (keys a.gone))/\fa st.sites a.gone/\dD a.as vs=cz B (keys a.boxes)/\(∀o s,(o,s)∈a.boxes->(o,.dead s)∈a.gone/\∃b,B o=.pointer (some ⟨b,0,none⟩))/\
   iB B a.rows (e0 a.as vs)/\∀o s,some (o,s)∈a.rows->(o,.dead s)∈a.gone:=by
 cases b
 ·obtain⟨ax,an,bG,ci,er⟩:=abP ay h hl hv h1 h2;exact⟨ax,an,bG,ci,by rw[er];trivial,by rw[er];intro o s h;simp at h⟩
 ·exact aaa ay h hl hv h1 h2
end
theorem NR(l m:List Nat):e' l m=true <-> ∀n,n∈l->n∉m:=by
 induction l with
 |nil=>simp[e']
 |cons n l ih=>
  simp only[e',Bool.and_eq_true,ih,Bool.not_eq_true',List.mem_cons];constructor
  ·rintro⟨h1,h2⟩ k (rfl|af)
   ·intro h;rw[(vH k m).2 h] at h1;cases h1
   ·exact h2 k af
  ·intro h;refine⟨?_,fun k af=>h k (.inr af)⟩
   cases ah:gd n m with
   |false=>rfl
   |true=>exact absurd ((vH n m).1 ah) (h n (.inl rfl))
section
variable {U:World}{O:List Nat}{X:Nat->Prop}{B:Nat->Value}{st:ai}{tm:Array Value}{w:World}
theorem ak.aip:∀{us:List (Nat×Site)} {st:ai} {X:Nat->Prop},ak U O X B st tm w->fa st.sites us->(keys us).Nodup->
  ak U O (fun b=>X b\/b∈cz B (keys us)) B {st with sites:=ba st.sites us} tm w:=by
 intro us;induction us with
 |nil=>intro st X S _ _;exact S.shrink fun b h=>by rcases h with h|h;exact h;simp[keys,cz] at h
 |cons p us ih=>
  obtain⟨o,ar⟩:=p;intro st X S hg hn;obtain⟨Y,h1,h2,rfl⟩:=hg o ar List.mem_cons_self;simp only[keys,List.nodup_cons] at hn;have c':=S.kill h1 h2;have gC:=ih c' (fun H s hm=>by
   obtain⟨t,ax,an,bG⟩:=hg H s (List.mem_cons_of_mem _ hm);have:¬o=H:=fun e=>hn.1 (by rw[e];exact E1 hm)
   exact⟨t,by simp[cv,this,ax],an,bG⟩) hn.2
  refine gC.shrink fun b h=>?_
  rcases h with h|h
  ·exact .inl (.inl h)
  ·simp only[keys,cz,List.flatMap_cons,List.mem_append] at h;rcases h with h|h
   ·exact .inl (.inr h)
   ·exact .inr h
structure gf(U:World)(O:List Nat)(X X':Nat->Prop)(B aE:Nat->Value)(st:ai)(tm:Array Value)(w:World)(us:List (Nat×Site)):Prop where
 gQ:ak U O X' aE {st with sites:=ba st.sites us} tm w
 le:∀c,au X' aE (ba st.sites us) c->au X B st.sites c
 go:∀{a v},ce B st.sites w (au X B st.sites) a v->ce aE (ba st.sites us) w (au X' aE (ba st.sites us)) a v
 same:∀o,o∉keys us->aE o=B o
theorem gf.nil{X':Nat->Prop}(S:ak U O X B st tm w)(h:∀b,X' b->X b):gf U O X X' B B st tm w []:=
 ⟨S.shrink h,fun c hc=>by
  rcases hc with hc|hc
  ·exact .inl (h c hc)
  ·exact .inr hc,fun k=>k.fl (fun c hc=>by
   rcases hc with hc|hc
   ·exact .inl (h c hc)
   ·exact .inr hc) (fun c hc=>(S.shrink h).lt hc),fun _ _=>rfl⟩
theorem gf.trans{c_ cO:Nat->Prop}{gx gw:Nat->Value}{us vs:List (Nat×Site)}(A:gf U O X c_ B gx st tm w us)(bR:gf U O c_ cO gx gw {st with sites:=ba st.sites us} tm w vs):
  gf U O X cO B gw st tm w (us++vs):=by
 refine⟨?_,?_,?_,fun o h=>?_⟩
 ·rw[i_];exact bR.gQ
 ·rw[i_];exact fun c hc=>A.le c (bR.le c hc)
 ·rw[i_];exact fun h=>bR.go (A.go h)
 ·rw[gW,List.mem_append,not_or] at h;rw[bR.same o h.2,A.same o h.1]
theorem gf.one{X':Nat->Prop}{n:Nat}{bF:Site}{nv:Value}(S:ak U O X B st tm w)(gV:∀b,X' b->X b)
  (dr:(∀Y,look st.sites n=some Y->Y.b9<bF.b9)\/(bT (B n)=bT nv/\∀Y,look st.sites n=some Y->Y.b9=bF.b9/\Y.live=false))
  (hb:∀b,b∈bl nv->X b/\¬X' b/\(b∈O\/U.heap.size<=b))
  (eE:∀{bp:List (Nat×Site)} {aE:Nat->Value},bp=cf st.sites n bF->aE n=nv->(∀{a v},ce B st.sites w (au X B st.sites) a v->ce aE bp w (au X' aE bp) a v)->
   (∀b,au X' aE bp b->au X B st.sites b)->io aE bp w (au X' aE bp) n bF):
  gf U O X X' B (fun H=>if H=n then nv else B H) st tm w [(n,bF)]:=by
 obtain⟨h1,h2,ab⟩:=S.wH gV dr hb eE;exact⟨h1,h2,ab,fun o h=>by
  simp only[keys,List.mem_singleton] at h;simp[h]⟩
theorem DU{av bX:Nat->Prop}{l:aD}{v:Value}{sites:List (Nat×Site)}(hf:∀t xs,l≠.fresh t xs)(CZ:∀t xs,l≠.gG t xs)(h:dx mR [] w av l v)(c7:∀b,bX b->av b)(a':∀b,bX b->b<w.heap.size):dx B sites w bX l v:=by
 have fl:∀{d:aU} {v:Value},Rd w av d v->Rd w bX d v:=fun h=>ce.fl (B:=B) (sites:=[]) (a:=one _) c7 a' h
 cases l with
 |d x=>exact fl h
 |nil t=>exact h
 |own o s=>obtain⟨_,_,h,_⟩:=h;cases h
 |ptr o s off=>obtain⟨_,_,_,h,_⟩:=h;cases h
 |eH cells off=>
  obtain⟨b,D,h1,h2,ab,cs,aF,bo,dk⟩:=h;exact⟨b,D,h1,fun hx=>h2 (c7 b hx),ab,cs,aF,bo,fun j g1 g2=>fl (dk j g1 g2)⟩
 |eN o s t k off=>obtain⟨_,_,_,_,h,_⟩:=h;cases h
 |clo g bP=>
  obtain⟨vs,h1,h2,ab⟩:=h;match bP,vs,h2 with
  |[],[],_=>exact⟨[],h1,rfl,fun i h=>by simp at h⟩
  |c::bP,v::vs,_=>obtain⟨_,h,_⟩:=ab 0 (by simp) (by simp);cases h
 |cL u=>exact h
 |fresh t xs=>exact absurd rfl (hf t xs)
 |gG t xs=>exact absurd rfl (CZ t xs)
 |eS=>trivial
 |any=>trivial
theorem cw.go{aE:Nat->Value}{sites bp:List (Nat×Site)}{w':World}{av bX:Nat->Prop}(go:∀{a:aP} {v:Value},ce B sites w av a v->ce aE bp w' bX a v){aa:List aD}{vs:List Value}
  (h:cw B sites w av aa vs):cw aE bp w' bX aa vs:=A7 go h
structure Left(U:World)(O:List Nat)(X:Nat->Prop)(B:Nat->Value)(st:ai)(av:Nat->Prop)(bs:List Nat):Prop where
 nodup:bs.Nodup
 cg:∀b,b∈bs->¬X b/\(b∈O\/U.heap.size<=b)
 le:∀c,au (fun b=>X b\/b∈bs) B st.sites c->av c
def jY(bz:ai)(sites:List (Nat×Site))(ks:List Nat):Prop:=∀m,m∈ks->∀Y,look sites m=some Y->Y.b9<a6 bz m
theorem jY.step{bz:ai}{sites us:List (Nat×Site)}{ks:List Nat}(h:jY bz sites ks)(Z:∀n,n∈keys us->n∉ks):jY bz (ba sites us) ks:=by
 intro m hm Y M;rw[lN (fun ah=>Z m ah hm)] at M
 exact h m hm Y M
theorem DG{u:Bool}{e:TypeId}{s:Nat}{v:Value}{n:Nat}{cs:List Value}(h:rowAt w u e s v n cs):v.oneCell'=true:=by
 rcases h.2 with⟨h,_⟩|⟨g,cap,cur,bL,h,_⟩<;>rw[h]<;>rfl
theorem O9{av:Nat->Prop}(bz:ai):∀(aa:List aD) (n:Nat) {B:Nat->Value} {st:ai} {vs:List Value} {bs rest:List Nat},ak U O (fun b=>X b\/b∈bs++rest) B st tm w->gK w av aa vs bs->
  Left U O X B st av (bs++rest)->jY bz st.sites (keys (take bz n aa).2)->(keys (take bz n aa).2).Nodup->
  ∃aE,gf U O (fun b=>X b\/b∈bs++rest) (fun b=>X b\/b∈rest) B aE st tm w (take bz n aa).2/\cw aE (ba st.sites (take bz n aa).2) w (au (fun b=>X b\/b∈rest) aE (ba st.sites (take bz n aa).2)) (take bz n aa).1 vs/\
   Left U O X aE {st with sites:=ba st.sites (take bz n aa).2} av rest:=by
 intro aa;induction aa with
 |nil=>
  intro n B st vs bs rest S h ay fi Z;match vs,h with
  |[],h=>
   have h:bs=[]:=h;subst h;exact⟨B,.nil S (fun b hb=>hb),.nil,ay⟩
 |cons l aa ih=>
  intro n B st vs bs rest S h ay fi Z;match vs,h with
  |v::vs,⟨bc,aO,dA,h1,h2⟩=>
   subst dA;by_cases hf:∃t xs,l=.fresh t xs
   ·obtain⟨t,xs,rfl⟩:=hf;obtain⟨hb1,e,cs,ap,hr⟩:=h1;simp only[take,keys,List.nodup_cons] at Z fi;have dm:=ay.nodup;rw[List.append_assoc,hb1] at dm;have cW:gf U O (fun b=>X b\/b∈bc++aO++rest) (fun b=>X b\/b∈aO++rest) B (fun H=>if H=n then v else B H) st tm w [(n,.row (a6 bz n) t xs)]:=by
     refine .one S (fun b hb=>?_) (.inl fun Y M=>fi n List.mem_cons_self Y M) (fun b hb=>?_) (fun eU ee go le=>?_)
     ·rcases hb with hb|hb
      ·exact .inl hb
      ·exact .inr (by rw[List.append_assoc];exact List.mem_append.2 (.inr hb))
     ·have hb:aW v=some b:=vM ap hb;have hm:b∈bc:=by rw[hb1,hb];simp
      have hO:b∈bc++aO++rest:=by rw[List.append_assoc];exact List.mem_append.2 (.inl hm)
      refine⟨.inr hO,?_,(ay.cg b hO).2⟩;rintro(hx|hx)
      ·exact(ay.cg b hO).1 hx
      ·rw[hb] at dm;simp only[Option.toList_some,List.singleton_append,List.nodup_cons] at dm;exact dm.1 hx
     ·refine⟨e,cs,by rw[ee];exact ap,fun j g1 g2=>?_⟩
      have k:=hr.2 j g1 g2;have c7:∀b,au (fun b=>X b\/b∈aO++rest) _ _ b->av b:=fun b hb=>ay.le b (le b hb)
      exact ce.fl (B:=B) (sites:=[]) (a:=one _) c7 (fun b hb=>S.lt (le b hb)) k
    have lL:Left U O X (fun H=>if H=n then v else B H) {st with sites:=ba st.sites [(n,.row (a6 bz n) t xs)]} av (aO++rest):=by
     refine⟨(List.nodup_append.1 (by rw[List.append_assoc] at ay;exact ay.nodup)).2.1,fun b hb=>ay.cg b (by rw[List.append_assoc];exact List.mem_append.2 (.inr hb)),fun c hc=>ay.le c (cW.le c hc)⟩
    obtain⟨aE,dT,ab,aF⟩:=ih (n+1) (st:={st with sites:=ba st.sites [(n,.row (a6 bz n) t xs)]}) cW.gQ h2 lL
     (jY.step (us:=[(n,.row (a6 bz n) t xs)]) (fun m hm=>fi m (List.mem_cons_of_mem _ hm)) (fun m hm=>by simp only[keys,List.mem_singleton] at hm;subst hm;exact Z.1)) Z.2
    refine⟨aE,cW.trans dT,?_,aF⟩;refine cw.cons ?_ ab;have:dx (fun H=>if H=n then v else B H) (ba st.sites [(n,.row (a6 bz n) t xs)]) w (au (fun b=>X b\/b∈aO++rest) (fun H=>if H=n then v else B H) (ba st.sites [(n,.row (a6 bz n) t xs)])) (.own n (a6 bz n)) v:=
     ⟨DG ap,Ref.mk (Y:=.row (a6 bz n) t xs) (by simp[ba,cv]) rfl (by simp[(h6 ap).1])⟩
    exact dT.go (a:=bZ (.own n (a6 bz n))) (v:=v) this
   ·by_cases CZ:∃t xs,l=.gG t xs
    ·obtain⟨t,xs,rfl⟩:=CZ;obtain⟨e,cs,aw,hb1,ap,hr⟩:=h1;simp only[take,keys,List.nodup_cons] at Z fi;have dm:=ay.nodup;rw[List.append_assoc,hb1] at dm;have cW:gf U O (fun b=>X b\/b∈bc++aO++rest) (fun b=>X b\/b∈aO++rest) B (fun H=>if H=n then .tuple (v::aw).toArray else B H) st tm w [(n,.deep (a6 bz n) t xs)]:=by
      refine .one S (fun b hb=>?_) (.inl fun Y M=>fi n List.mem_cons_self Y M) (fun b hb=>?_) (fun eU ee go le=>?_)
      ·rcases hb with hb|hb
       ·exact .inl hb
       ·exact .inr (by rw[List.append_assoc];exact List.mem_append.2 (.inr hb))
      ·have hm:b∈bc:=by rw[hb1];exact hb
       have hO:b∈bc++aO++rest:=by rw[List.append_assoc];exact List.mem_append.2 (.inl hm)
       refine⟨.inr hO,?_,(ay.cg b hO).2⟩;rintro(hx|hx)
       ·exact(ay.cg b hO).1 hx
       ·exact(List.nodup_append.1 dm).2.2 b hb b hx rfl
      ·have c7:∀b,au (fun b=>X b\/b∈aO++rest) _ _ b->av b:=fun b hb=>ay.le b (le b hb)
       exact⟨e,v,aw,cs,ee,by rw[ee];exact(List.nodup_append.1 dm).1,ap,hr.map (fun k=>ce.fl (B:=B) (sites:=[]) (a:=one _) c7 (fun b hb=>S.lt (le b hb)) k) fun _ _ _ _=>rfl⟩
     have lL:Left U O X (fun H=>if H=n then .tuple (v::aw).toArray else B H) {st with sites:=ba st.sites [(n,.deep (a6 bz n) t xs)]} av (aO++rest):=by
      refine⟨(List.nodup_append.1 (by rw[List.append_assoc] at ay;exact ay.nodup)).2.1,fun b hb=>ay.cg b (by rw[List.append_assoc];exact List.mem_append.2 (.inr hb)),fun c hc=>ay.le c (cW.le c hc)⟩
     obtain⟨aE,dT,ab,aF⟩:=ih (n+1) (st:={st with sites:=ba st.sites [(n,.deep (a6 bz n) t xs)]}) cW.gQ h2 lL
      (jY.step (us:=[(n,.deep (a6 bz n) t xs)]) (fun m hm=>fi m (List.mem_cons_of_mem _ hm)) (fun m hm=>by simp only[keys,List.mem_singleton] at hm;subst hm;exact Z.1)) Z.2
     refine⟨aE,cW.trans dT,?_,aF⟩;refine cw.cons ?_ ab;have:dx (fun H=>if H=n then .tuple (v::aw).toArray else B H) (ba st.sites [(n,.deep (a6 bz n) t xs)]) w (au (fun b=>X b\/b∈aO++rest) (fun H=>if H=n then .tuple (v::aw).toArray else B H) (ba st.sites [(n,.deep (a6 bz n) t xs)])) (.own n (a6 bz n)) v:=
      ⟨DG ap,Ref.mk (Y:=.deep (a6 bz n) t xs) (by simp[ba,cv]) rfl (by simp[bT])⟩
     exact dT.go (a:=bZ (.own n (a6 bz n))) (v:=v) this
    ·have J7:∀t xs,l≠.fresh t xs:=fun t xs h=>hf ⟨t,xs,h⟩
     have IG:∀t xs,l≠.gG t xs:=fun t xs h=>CZ ⟨t,xs,h⟩
     have aiN:take bz n (l::aa)=(l::(take bz (n+1) aa).1,(take bz (n+1) aa).2):=by
      cases l<;>first|rfl|exact absurd rfl (J7 _ _)|exact absurd rfl (IG _ _)
     have h1':bc=[]/\dx mR [] w av l v:=by
      cases l<;>first|exact h1|exact absurd rfl (J7 _ _)|exact absurd rfl (IG _ _)
     obtain⟨rfl,h1'⟩:=h1';rw[aiN] at Z fi ⊢;simp only[List.nil_append] at S ay ⊢;obtain⟨aE,dT,ab,aF⟩:=ih (n+1) S h2 ay fi Z;refine⟨aE,dT,?_,aF⟩;refine cw.cons ?_ ab;exact DU J7 IG h1' (fun b hb=>ay.le b (dT.le b hb)) (fun b hb=>dT.gQ.lt hb)
end
section
variable {U:World}{O:List Nat}{X:Nat->Prop}{B:Nat->Value}{st:ai}{tm:Array Value}{w:World}
def o8(B:Nat->Value)(sites:List (Nat×Site))(w:World)(av:Nat->Prop)(as:List bH)(vs:List Value):Prop:=
 vs.length=as.length/\∀j (h:j<as.length) (ah:j<vs.length),gO B sites w av (as[j]) (vs[j])
theorem o8.cons{sites:List (Nat×Site)}{av:Nat->Prop}{a:bH}{as:List bH}{v:Value}{vs:List Value}(h:gO B sites w av a v)(M:o8 B sites w av as vs):o8 B sites w av (a::as) (v::vs):=
 ⟨by simp[M.1],fun j h1 h2=>by
  cases j with
  |zero=>exact h
  |succ j=>exact M.2 j (by simpa using h1) (by simpa using h2)⟩
theorem Left.rest{av:Nat->Prop}{a b:List Nat}(ay:Left U O X B st av (a++b)){aE:Nat->Value}{aj:ai}(h:∀c,au (fun c=>X c\/c∈b) aE aj.sites c->au (fun c=>X c\/c∈a++b) B st.sites c):Left U O X aE aj av b:=
 ⟨(List.nodup_append.1 ay.nodup).2.1,fun c hc=>ay.cg c (List.mem_append.2 (.inr hc)),fun c hc=>ay.le c (h c hc)⟩
theorem aa6{bz:ai}{n:Nat}{aa:List aD}(h:(take bz n aa).1.head?=some .eS):aa.head?=some .eS:=by
 cases aa with
 |nil=>cases h
 |cons l aa=>cases l<;>first|exact h|cases h
theorem take_one(bz:ai)(n:Nat)(l:aD):∃fG,(take bz n [l]).1=[fG]:=by cases l<;>exact⟨_,rfl⟩
theorem Oa{av:Nat->Prop}(bz:ai):∀(as:List bH) (n:Nat) {B:Nat->Value} {st:ai} {vs:List Value} {bs rest:List Nat},ak U O (fun b=>X b\/b∈bs++rest) B st tm w->kv w av as vs bs->
  Left U O X B st av (bs++rest)->jY bz st.sites (keys (dY bz n as).2)->(keys (dY bz n as).2).Nodup->
  ∃aE,gf U O (fun b=>X b\/b∈bs++rest) (fun b=>X b\/b∈rest) B aE st tm w (dY bz n as).2/\o8 aE (ba st.sites (dY bz n as).2) w (au (fun b=>X b\/b∈rest) aE (ba st.sites (dY bz n as).2)) (dY bz n as).1 vs/\
   Left U O X aE {st with sites:=ba st.sites (dY bz n as).2} av rest:=by
 intro as;induction as with
 |nil=>
  intro n B st vs bs rest S h ay fi Z;match vs,h with
  |[],h=>
   have h:bs=[]:=h;subst h;exact⟨B,.nil S (fun b hb=>hb),⟨rfl,fun j h=>by simp[dY] at h⟩,ay⟩
 |cons a as ih=>
  intro n B st vs bs rest S h ay fi Z;match vs,h with
  |v::vs,⟨bc,aO,dA,h1,h2⟩=>
   subst dA;have go:∀(aa:List aD) (us:List Value),gK w av aa us bc->(dY bz n (a::as)).2=(take bz n aa).2++(dY bz (n+100) as).2->
     ∃aE,gf U O (fun b=>X b\/b∈bc++aO++rest) (fun b=>X b\/b∈rest) B aE st tm w (dY bz n (a::as)).2/\cw aE (ba st.sites (dY bz n (a::as)).2) w (au (fun b=>X b\/b∈rest) aE (ba st.sites (dY bz n (a::as)).2)) (take bz n aa).1 us/\
      o8 aE (ba st.sites (dY bz n (a::as)).2) w (au (fun b=>X b\/b∈rest) aE (ba st.sites (dY bz n (a::as)).2)) (dY bz (n+100) as).1 vs/\Left U O X aE {st with sites:=ba st.sites (dY bz n (a::as)).2} av rest:=by
    intro aa us bW e;rw[e] at fi Z ⊢;rw[gW] at fi Z;obtain⟨d1,d2,d3⟩:=List.nodup_append.1 Z;rw[List.append_assoc] at S ay ⊢;obtain⟨gx,cW,ax,lL⟩:=O9 bz aa n S bW ay (fun m hm=>fi m (List.mem_append.2 (.inl hm))) d1
    obtain⟨gw,dT,an,qS⟩:=ih (n+100) (st:={st with sites:=ba st.sites (take bz n aa).2}) cW.gQ h2 lL
     (jY.step (fun m hm=>fi m (List.mem_append.2 (.inr hm))) (fun m hm hO=>d3 m hm m hO rfl)) d2
    refine⟨gw,cW.trans dT,?_,?_,?_⟩
    ·rw[i_];exact ax.go dT.go
    ·rw[i_];exact an
    ·rw[i_];exact qS
   cases a with
   |am l=>
    have h1:mQ w av l v bc:=h1;obtain⟨aE,T,ax,an,bG⟩:=go [l] [v] ⟨bc,[],by simp,h1,rfl⟩ rfl
    refine⟨aE,T,?_,bG⟩;obtain⟨fG,fC⟩:=take_one bz n l;have:(dY bz n (bH.am l::as)).1=bH.am fG::(dY bz (n+100) as).1:=by simp only[dY,fC]
    rw[this];refine o8.cons ?_ an;rw[fC] at ax;exact ax.2 0 (by simp) (by simp)
   |agg aa=>
    obtain⟨us,e,h1⟩:=h1;obtain⟨aE,T,ax,an,bG⟩:=go aa us h1 rfl;refine⟨aE,T,?_,bG⟩;have:(dY bz n (bH.agg aa::as)).1=bH.agg (take bz n aa).1::(dY bz (n+100) as).1:=rfl;rw[this];exact o8.cons ⟨us,e,ax.1,ax.2⟩ an
def om(B:Nat->Value):List (Nat×Nat)->List Nat->Prop
 |[],[]=>True
 |p::r,b::du=>B p.1=.pointer (some ⟨b,0,none⟩)/\om B r du
 |_,_=>False
theorem om.of:∀{boxes:List (Nat×Nat)},(∀o s,(o,s)∈boxes->∃b,B o=.pointer (some ⟨b,0,none⟩))->om B boxes (cz B (keys boxes)):=by
 intro boxes;induction boxes with
 |nil=>intro _;trivial
 |cons q boxes ih=>
  obtain⟨aN,r⟩:=q;intro h;obtain⟨c,hc⟩:=h aN r List.mem_cons_self;have:=ih fun o s hm=>h o s (List.mem_cons_of_mem _ hm)
  have e:cz B (keys ((aN,r)::boxes))=c::cz B (keys boxes):=by simp[cz,keys,hc,aW,bl]
  rw[e];exact⟨hc,this⟩
theorem om.congr{aE:Nat->Value}:∀{boxes:List (Nat×Nat)} {du:List Nat},om B boxes du->(∀H,H∈keys boxes->aE H=B H)->om aE boxes du:=by
 intro boxes;induction boxes with
 |nil=>
  intro du h _;match du,h with
  |[],_=>trivial
 |cons q boxes ih=>
  intro du h ah;match du,h with
  |b::du,⟨h1,h2⟩=>exact⟨by rw[ah q.1 List.mem_cons_self];exact h1,ih h2 fun H br=>ah H (List.mem_cons_of_mem _ br)⟩
theorem Mq{av:Nat->Prop}{bz:ai}{H:Nat}:∀{boxes:List (Nat×Nat)} {cJ:List (List aD)} {du bs:List Nat},om B boxes du->mK w av du cJ bs->H∈keys boxes->H∈keys (fq bz boxes cJ):=by
 intro boxes;induction boxes with
 |nil=>intro cJ du bs _ _ h;simp[keys] at h
 |cons q boxes ih=>
  obtain⟨aN,r⟩:=q;intro cJ du bs hl bW hm;match du,cJ,hl,bW with
  |c::du,cs::cJ,⟨_,hl⟩,⟨_,_,_,_,bW⟩=>
   simp only[fq,gW,keys,List.mem_append,List.mem_cons];rcases List.mem_cons.1 hm with rfl|hm
   ·exact .inr (.inl rfl)
   ·exact .inr (.inr (ih hl bW hm))
theorem N'{av:Nat->Prop}(bz:ai):∀(boxes:List (Nat×Nat)) {cJ:List (List aD)} {B:Nat->Value} {st:ai} {du bs rest:List Nat},ak U O (fun b=>X b\/b∈bs++rest) B st tm w->om B boxes du->mK w av du cJ bs->
  (∀o s,(o,s)∈boxes->look st.sites o=some (.dead s))->
  Left U O X B st av (bs++rest)->jY bz st.sites (keys (fq bz boxes cJ))->(keys (fq bz boxes cJ)).Nodup->
  ∃aE,gf U O (fun b=>X b\/b∈bs++rest) (fun b=>X b\/b∈rest) B aE st tm w (fq bz boxes cJ)/\Left U O X aE {st with sites:=ba st.sites (fq bz boxes cJ)} av rest:=by
 intro boxes;induction boxes with
 |nil=>
  intro cJ B st du bs rest S eV h et ay fi Z;match du,cJ,eV,h with
  |[],[],_,h=>
   have h:bs=[]:=h;subst h;exact⟨B,.nil S (fun b hb=>hb),ay⟩
 |cons p boxes ih=>
  obtain⟨o,s⟩:=p;intro cJ B st du bs rest S eV h et ay fi Z;have bn:=et o s List.mem_cons_self;match du,cJ,eV,h with
  |b::du,cs::cJ,⟨hb,eV⟩,⟨bc,aO,dA,⟨T,cur,qJ,e1,e2,b0,eu⟩,h2⟩=>
   subst dA e1;have hb:B o=.pointer (some ⟨b,0,none⟩):=hb;have jK:fq bz ((o,s)::boxes) (cs::cJ)=(take bz (1000000+o*100) cs).2++([(o,Site.box s (take bz (1000000+o*100) cs).1)]++fq bz boxes cJ):=rfl;rw[jK] at fi Z ⊢;rw[gW,gW] at fi Z;obtain⟨d1,d2,d3⟩:=List.nodup_append.1 Z;obtain⟨d4,d5,d6⟩:=List.nodup_append.1 d2;have BO:∀c,c∈b::qJ++aO++rest <-> c∈qJ++(b::(aO++rest)):=by intro c;simp[or_assoc,or_left_comm]
   have apT:=ay.nodup;have c':ak U O (fun c=>X c\/c∈qJ++(b::(aO++rest))) B st tm w:=S.shrink fun c hc=>hc.imp id (BO c).2
   have lL:Left U O X B st av (qJ++(b::(aO++rest))):=by
    refine⟨?_,fun c hc=>ay.cg c ((BO c).2 hc),fun c hc=>ay.le c ?_⟩
    ·have:List.Perm (b::qJ++aO++rest) (qJ++(b::(aO++rest))):=by
      simp only[List.cons_append,List.append_assoc];exact List.perm_middle.symm
     exact this.nodup_iff.1 apT
    ·rcases hc with hc|hc
     ·exact .inl (hc.imp id (BO c).2)
     ·exact .inr hc
   obtain⟨gx,cW,ax,qS⟩:=O9 bz cs (1000000+o*100) c' eu.2 lL (fun m hm=>fi m (List.mem_append.2 (.inl hm))) d1
   have Ug:o∉keys (take bz (1000000+o*100) cs).2:=fun h=>d3 o h o (by simp[keys]) rfl
   have Ix:gx o=B o:=cW.same o Ug;have hl1:look (ba st.sites (take bz (1000000+o*100) cs).2) o=some (.dead s):=by rw[lN Ug,bn]
   have C5:=qS.nodup;simp only[List.nodup_cons] at C5;have dT:gf U O (fun c=>X c\/c∈b::(aO++rest)) (fun c=>X c\/c∈aO++rest) gx (fun H=>if H=o then B o else gx H) {st with sites:=ba st.sites (take bz (1000000+o*100) cs).2} tm w [(o,Site.box s (take bz (1000000+o*100) cs).1)]:=by
    refine .one cW.gQ (fun c hc=>hc.imp id (List.mem_cons_of_mem _)) (.inr ⟨by rw[Ix],fun Y M=>?_⟩) (fun c hc=>?_) (fun eU ee go le=>?_)
    ·have M:look (ba st.sites (take bz (1000000+o*100) cs).2) o=some Y:=M;rw[hl1] at M;cases M;exact⟨rfl,rfl⟩
    ·rw[hb] at hc;have hc:c=b:=List.mem_singleton.1 hc;rw[hc];refine⟨.inr List.mem_cons_self,?_,(qS.cg b List.mem_cons_self).2⟩;rintro(hx|hx)
     ·exact(qS.cg b List.mem_cons_self).1 hx
     ·exact C5.1 hx
    ·have:=A7 go ax;exact⟨b,T,cur,by rw[ee,hb],e2,this.1,b0,fun bW=>eu.1 (aa6 bW),this.2⟩
   have arw:Left U O X (fun H=>if H=o then B o else gx H) {st with sites:=ba (ba st.sites (take bz (1000000+o*100) cs).2) [(o,Site.box s (take bz (1000000+o*100) cs).1)]} av (aO++rest):=
    Left.rest (a:=[b]) (st:={st with sites:=ba st.sites (take bz (1000000+o*100) cs).2}) qS dT.le
   have xP:∀H,H∈keys boxes->(fun H=>if H=o then B o else gx H) H=B H:=by
    intro H br;have af:=Mq (bz:=bz) eV h2 br;by_cases e:H=o
    ·subst e;simp
    ·simp only[e,if_false];exact cW.same H fun hm=>d3 H hm H (List.mem_append.2 (.inr af)) rfl
   obtain⟨aE,gj,arv⟩:=ih (st:={st with sites:=ba (ba st.sites (take bz (1000000+o*100) cs).2) [(o,Site.box s (take bz (1000000+o*100) cs).1)]}) dT.gQ (eV.congr xP) h2
    (fun H r hm=>by
     have af:=Mq (bz:=bz) eV h2 (E1 hm);show look (ba (ba st.sites _) _) H=_;rw[lN (fun h=>d6 H h H af rfl),lN (fun h=>d3 H h H (List.mem_append.2 (.inr af)) rfl)]
     exact et H r (List.mem_cons_of_mem _ hm))
    arw
    (jY.step (jY.step (fun m hm=>fi m (List.mem_append.2 (.inr (List.mem_append.2 (.inr hm))))) (fun m hm hO=>d3 m hm m (List.mem_append.2 (.inr hO)) rfl)) (fun m hm hO=>d6 m hm m hO rfl)) d5
   refine⟨aE,?_,?_⟩
   ·have apE:=cW.trans dT;have nw:gf U O (fun c=>X c\/c∈b::qJ++aO++rest) (fun c=>X c\/c∈qJ++(b::(aO++rest))) B B st tm w []:=.nil S fun c hc=>hc.imp id (BO c).2
    have ala:=nw.trans (vs:=(take bz (1000000+o*100) cs).2++[(o,Site.box s (take bz (1000000+o*100) cs).1)]) apE;have:=ala.trans (vs:=fq bz boxes cJ) (by simpa only[List.nil_append,i_] using gj)
    simpa only[List.nil_append,List.append_assoc] using this
   ·simpa only[i_] using arv
theorem iB.congr{aE:Nat->Value}:∀{rows:List (Option (Nat×Nat))} {vs:List Value},iB B rows vs->(∀o s,some (o,s)∈rows->bT (aE o)=bT (B o))->iB aE rows vs:=by
 intro rows;induction rows with
 |nil=>intro vs h _;trivial
 |cons D r ih=>
  intro vs h hc;match D,vs,h with
  |none,v::vs,h=>exact ih h fun o s hm=>hc o s (List.mem_cons_of_mem _ hm)
  |some p,v::vs,h=>exact⟨h.1.trans (hc p.1 p.2 List.mem_cons_self).symm,ih h.2 fun o s hm=>hc o s (List.mem_cons_of_mem _ hm)⟩
  |none,[],h=>exact h.elim
  |some p,[],h=>exact h.elim
theorem aa7{aa:List aD}:e9 [] aa=[]:=by cases aa<;>rfl
theorem Mp{rows:List (Option (Nat×Nat))}:e9 rows []=[]:=by
 cases rows with
 |nil=>rfl
 |cons D r=>cases D<;>rfl
theorem _H{r:List (Option (Nat×Nat))}{l:aD}{aa:List aD}:e9 (none::r) (l::aa)=e9 r aa:=by cases l<;>rfl
theorem yp{o s:Nat}:∀{rows:List (Option (Nat×Nat))},some (o,s)∈rows->o∈pY rows
 |[],h=>by cases h
 |none::r,h=>by
  rcases List.mem_cons.1 h with h|h
  ·cases h
  ·exact yp (rows:=r) h
 |some p::r,h=>by
  rcases List.mem_cons.1 h with h|h
  ·cases h;exact List.mem_cons_self
  ·exact List.mem_cons_of_mem _ (yp h)
theorem Zq{D:Option (Nat×Nat)}{rows:List (Option (Nat×Nat))}(h:(pY (D::rows)).Nodup):(pY rows).Nodup:=by
 cases D with
 |none=>exact h
 |some p=>exact(List.nodup_cons.1 h).2
theorem acS{av:Nat->Prop}:∀(rows:List (Option (Nat×Nat))) {aa:List aD} {B:Nat->Value} {st:ai} {vs:List Value} {bs rest:List Nat},ak U O (fun b=>X b\/b∈bs++rest) B st tm w->gK w av aa vs bs->iB B rows vs->
  (∀o s,some (o,s)∈rows->look st.sites o=some (.dead s))->(pY rows).Nodup->Left U O X B st av (bs++rest)->(keys (e9 rows aa)).Nodup->
  ∃aE,gf U O (fun b=>X b\/b∈bs++rest) (fun b=>X b\/b∈rest) B aE st tm w (e9 rows aa)/\Left U O X aE {st with sites:=ba st.sites (e9 rows aa)} av rest:=by
 intro rows;have skip:∀{B:Nat->Value} {st:ai} {bs rest:List Nat},ak U O (fun b=>X b\/b∈bs++rest) B st tm w->Left U O X B st av (bs++rest)->
   gf U O (fun b=>X b\/b∈bs++rest) (fun b=>X b\/b∈rest) B B st tm w []/\Left U O X B st av rest:=by
  intro B st bs rest S ay;have T:gf U O (fun b=>X b\/b∈bs++rest) (fun b=>X b\/b∈rest) B B st tm w []:=.nil S fun b hb=>hb.imp id fun h=>List.mem_append.2 (.inr h)
  exact⟨T,ay.rest (fun c hc=>T.le c hc)⟩
 induction rows with
 |nil=>
  intro aa B st vs bs rest S h hr eY fi ay Z;obtain⟨T,L'⟩:=skip S ay;rw[aa7];exact⟨B,T,L'⟩
 |cons D r ih=>
  intro aa B st vs bs rest S h hr eY fi ay Z;match aa,vs,h with
  |[],[],h=>
   obtain⟨T,L'⟩:=skip S ay;rw[Mp];exact⟨B,T,L'⟩
  |l::aa,v::vs,⟨bc,aO,dA,h1,h2⟩=>
   subst dA;have pass:iB B r vs->e9 (D::r) (l::aa)=e9 r aa->∃aE,gf U O (fun b=>X b\/b∈bc++aO++rest) (fun b=>X b\/b∈rest) B aE st tm w (e9 (D::r) (l::aa))/\Left U O X aE {st with sites:=ba st.sites (e9 (D::r) (l::aa))} av rest:=by
    intro cn e;rw[e] at Z ⊢;have nw:gf U O (fun b=>X b\/b∈bc++aO++rest) (fun b=>X b\/b∈aO++rest) B B st tm w []:=.nil S fun b hb=>hb.imp id fun h=>by rw[List.append_assoc];exact List.mem_append.2 (.inr h)
    have yi:Left U O X B st av (aO++rest):=Left.rest (a:=bc) (by rw[<-List.append_assoc];exact ay) fun c hc=>(nw.le c hc).imp (fun h=>h.imp id fun h=>by rwa[<-List.append_assoc]) id
    obtain⟨aE,T,L'⟩:=ih nw.gQ h2 cn (fun o s hm=>eY o s (List.mem_cons_of_mem _ hm)) (Zq fi) yi Z
    exact⟨aE,nw.trans (vs:=e9 r aa) T,L'⟩
   have back:∀(o s:Nat) (bF:Site) (nv:Value),D=some (o,s)->bF.b9=s->e9 (D::r) (l::aa)=(o,bF)::e9 r aa->bT nv=v->(∀b,b∈bl nv->b∈bc)->
     (∀{bp:List (Nat×Site)} {aE:Nat->Value},aE o=nv->(∀b,au (fun b=>X b\/b∈aO++rest) aE bp b->av b)->(∀b,au (fun b=>X b\/b∈aO++rest) aE bp b->b<w.heap.size)->io aE bp w (au (fun b=>X b\/b∈aO++rest) aE bp) o bF)->
     ∃aE,gf U O (fun b=>X b\/b∈bc++aO++rest) (fun b=>X b\/b∈rest) B aE st tm w (e9 (D::r) (l::aa))/\Left U O X aE {st with sites:=ba st.sites (e9 (D::r) (l::aa))} av rest:=by
    intro o s bF nv ap dr e xD gA eE;subst ap;rw[e] at Z ⊢;simp only[keys,List.nodup_cons] at Z;have bn:=eY o s List.mem_cons_self;have dm:=ay.nodup;rw[List.append_assoc] at dm;have cW:gf U O (fun b=>X b\/b∈bc++aO++rest) (fun b=>X b\/b∈aO++rest) B (fun H=>if H=o then nv else B H) st tm w [(o,bF)]:=by
     refine .one S (fun b hb=>hb.imp id fun h=>by rw[List.append_assoc];exact List.mem_append.2 (.inr h)) (.inr ⟨?_,fun Y M=>?_⟩) (fun b hb=>?_) (fun eU ee go le=>?_)
     ·rw[xD];exact hr.1.symm
     ·rw[bn] at M;cases M;exact⟨dr.symm,rfl⟩
     ·have hm:=gA b hb;have hO:b∈bc++aO++rest:=by rw[List.append_assoc];exact List.mem_append.2 (.inl hm)
      refine⟨.inr hO,?_,(ay.cg b hO).2⟩;rintro(hx|hx)
      ·exact(ay.cg b hO).1 hx
      ·exact(List.nodup_append.1 dm).2.2 b hm b hx rfl
     ·exact eE ee (fun b hb=>ay.le b (le b hb)) (fun b hb=>S.lt (le b hb))
    have lL:Left U O X (fun H=>if H=o then nv else B H) {st with sites:=ba st.sites [(o,bF)]} av (aO++rest):=
     ⟨(List.nodup_append.1 dm).2.1,fun b hb=>ay.cg b (by rw[List.append_assoc];exact List.mem_append.2 (.inr hb)),fun c hc=>ay.le c (cW.le c hc)⟩
    have sd:iB (fun H=>if H=o then nv else B H) r vs:=hr.2.congr fun H t hm=>by
     by_cases e:H=o
     ·subst e;have:=hr.1;simp only[if_true,xD];exact this
     ·simp[e]
    obtain⟨aE,dT,qS⟩:=ih (st:={st with sites:=ba st.sites [(o,bF)]}) cW.gQ h2 sd (fun H t hm=>by
     have bK:¬o=H:=fun e=>(List.nodup_cons.1 fi).1 (by subst e;exact yp hm)
     simp only[ba,cv,bK,if_false];exact eY H t (List.mem_cons_of_mem _ hm)) (List.nodup_cons.1 fi).2 lL Z.2
    exact⟨aE,cW.trans dT,qS⟩
   match D,hr with
   |none,hr=>exact pass hr _H
   |some (o,s),hr=>
    cases l with
    |fresh t xs=>
     obtain⟨hb1,e,cs,ap,c5⟩:=h1;refine back o s (.row s t xs) v rfl rfl rfl (h6 ap).1 (fun b hb=>by rw[hb1,vM ap hb];simp) fun ee c7 a'=>⟨e,cs,by rw[ee];exact ap,fun j g1 g2=>?_⟩
     exact ce.fl (B:=B) (sites:=[]) (a:=one _) c7 a' (c5.2 j g1 g2)
    |gG t xs=>
     obtain⟨e,cs,aw,hb1,ap,c5⟩:=h1;refine back o s (.deep s t xs) (.tuple (v::aw).toArray) rfl rfl rfl rfl (fun b hb=>by rw[hb1];exact hb) fun ee c7 a'=>⟨e,v,aw,cs,ee,?_,ap,c5.map (fun k=>ce.fl (B:=B) (sites:=[]) (a:=one _) c7 a' k) fun _ _ _ _=>rfl⟩
     rw[ee,<-hb1];have:=ay.nodup;rw[List.append_assoc] at this;exact(List.nodup_append.1 this).1
    |_=>exact pass hr.2 rfl
end
theorem ym{us:List (Nat×Site)}:∀{sites:List (Nat×Site)} {o:Nat} {s:Site},(keys us).Nodup->(o,s)∈us->look (ba sites us) o=some s:=by
 induction us with
 |nil=>intro sites o s _ h;simp at h
 |cons p us ih=>
  obtain⟨n,ar⟩:=p;intro sites o s hn hm;simp only[keys,List.nodup_cons] at hn;simp only[ba];rcases List.mem_cons.1 hm with hm|hm
  ·cases hm;rw[lN hn.1,cv];simp
  ·exact ih hn.2 hm
section plain
variable {w:World}{av bX:Nat->Prop}
theorem vE{d:aU}{v:Value}(h:aD.h5 (.d d)=false)(r:Rd w av d v):Rd w bX d v:=by
 cases r with
 |int k n=>exact .int k n
 |bool b=>exact .bool b
 |str l s M=>exact .str l s M
 |nil t=>cases h
 |sl=>cases h
 |fn=>cases h
 |rK=>cases h
 |map=>cases h
 |maps=>cases h
 |rP T=>exact .rP T
 |err T n=>exact .err T n
theorem acf{t:aJ}(h:t.h5=false)(x:den t):∀d,d∈enc t x->aD.h5 (.d d)=false:=by
 cases t<;>first|(cases h;done)|(intro d Z;simp only[enc,List.mem_cons,List.not_mem_nil,or_false] at Z;(rcases Z with rfl|rfl|rfl|rfl|rfl);all_goals rfl)|skip
 all_goals(intro d Z;simp only[enc,List.mem_cons,List.not_mem_nil,or_false] at Z)
 all_goals first|(subst Z;rfl)|(rcases Z with rfl|rfl<;>rfl)|(rcases Z with rfl|rfl|rfl<;>rfl)|(rcases Z with rfl|rfl|rfl|rfl<;>rfl)
theorem abp{t:aJ}{xs:List (den t)}{cs:List Value}(h:t.h5=false)(r:ck w av (flat t xs) cs):ck w bX (flat t xs) cs:=by
 refine⟨r.1,fun j g1 g2=>vE ?_ (r.2 j g1 g2)⟩
 have hm:(flat t xs)[j]∈flat t xs:=List.getElem_mem g1;simp only[flat,List.mem_flatMap] at hm;obtain⟨x,_,hx⟩:=hm;exact acf h x _ hx
theorem aay{ds:List aU}{cs aw:List Value}(k:Deep w av ds cs aw):Deep w bX ds cs aw:=by
 have pl:∀{d:aU} {v:Value},d.plain=true->Rd w av d v->Rd w bX d v:=fun {d v} ag r=>vE (by cases d<;>first|rfl|cases ag) r
 induction k with
 |nil=>exact .nil
 |row u ys e aa ag h hr _ ih=>exact .row u ys e aa ag h ⟨hr.1,fun j g1 g2=>pl (ag _ (List.getElem_mem g1)) (hr.2 j g1 g2)⟩ ih
 |leaf ag h _ ih=>exact .leaf ag (pl ag h) ih
theorem L_{l:aD}{v:Value}{bs:List Nat}(h:l.h5=false)(k:mQ w av l v bs):mQ w bX l v bs:=by
 cases l with
 |d x=>exact⟨k.1,vE h k.2⟩
 |fresh t xs=>
  obtain⟨h1,e,cs,h2,ab⟩:=k;exact⟨h1,e,cs,h2,abp h ab⟩
 |gG t xs=>
  obtain⟨e,cs,aw,h1,h2,ab⟩:=k;exact⟨e,cs,aw,h1,h2,aay ab⟩
 |cL v=>exact k
 |eS=>exact k
 |_=>cases h
theorem DI:∀{aa:List aD} {vs:List Value} {bs:List Nat},oJ aa=false->gK w av aa vs bs->gK w bX aa vs bs:=by
 intro aa;induction aa with
 |nil=>
  intro vs bs _ k;match vs,k with
  |[],k=>exact k
 |cons l aa ih=>
  intro vs bs h k;simp only[oJ,Bool.or_eq_false_iff] at h;match vs,k with
  |v::vs,⟨bc,aO,ax,an,bG⟩=>exact⟨bc,aO,ax,L_ h.1 an,ih h.2 bG⟩
theorem ZC:∀{as:List bH} {vs:List Value} {bs:List Nat},sU as=false->kv w av as vs bs->kv w bX as vs bs:=by
 intro as;induction as with
 |nil=>
  intro vs bs _ k;match vs,k with
  |[],k=>exact k
 |cons a as ih=>
  intro vs bs h k;simp only[sU,Bool.or_eq_false_iff] at h;match vs,k with
  |v::vs,⟨bc,aO,ax,an,bG⟩=>
   refine⟨bc,aO,ax,?_,ih h.2 bG⟩;cases a with
   |am l=>
    have h1:=h.1;simp only[bH.cells,oJ,Bool.or_false] at h1;exact L_ h1 an
   |agg aa=>
    obtain⟨us,e,an⟩:=an;exact⟨us,e,DI h.1 an⟩
theorem ZB:∀{cJ:List (List aD)} {du bs:List Nat},sT cJ=false->mK w av du cJ bs->mK w bX du cJ bs:=by
 intro cJ;induction cJ with
 |nil=>
  intro du bs _ k;match du,k with
  |[],k=>exact k
 |cons a as ih=>
  intro du bs h k;simp only[sT,Bool.or_eq_false_iff] at h;match du,k with
  |b::du,⟨bc,aO,ax,⟨T,cur,pz,e1,e2,b0,eu,fI⟩,bG⟩=>
   exact⟨bc,aO,ax,⟨T,cur,pz,e1,e2,b0,eu,DI h.1 fI⟩,ih h.2 bG⟩
theorem OT{l:aD}{v:Value}{bs:List Nat}(k:mQ w av l v bs):∀b,b∈bs->b<w.heap.size:=by
 cases l with
 |fresh t xs=>
  obtain⟨h1,e,cs,h2,ab⟩:=k;intro b hb;rw[h1] at hb;exact s0 h2 (Option.mem_toList.1 hb)
 |gG t xs=>
  obtain⟨e,cs,aw,h1,h2,ab⟩:=k;intro b hb;rw[h1] at hb;rcases hC.1 hb with hb|⟨n,hn,hb⟩
  ·exact s0 h2 hb
  ·exact ab.lt n hn b hb
 |_=>intro b hb;rw[k.1] at hb;simp at hb
theorem E7:∀{aa:List aD} {vs:List Value} {bs:List Nat},gK w av aa vs bs->∀b,b∈bs->b<w.heap.size:=by
 intro aa;induction aa with
 |nil=>
  intro vs bs k;match vs,k with
  |[],k=>have k:bs=[]:=k;intro b hb;rw[k] at hb;simp at hb
 |cons l aa ih=>
  intro vs bs k;match vs,k with
  |v::vs,⟨bc,aO,ax,an,bG⟩=>
   intro b hb;rw[ax] at hb;rcases List.mem_append.1 hb with hb|hb
   ·exact OT an b hb
   ·exact ih bG b hb
theorem NI:∀{as:List bH} {vs:List Value} {bs:List Nat},kv w av as vs bs->∀b,b∈bs->b<w.heap.size:=by
 intro as;induction as with
 |nil=>
  intro vs bs k;match vs,k with
  |[],k=>have k:bs=[]:=k;intro b hb;rw[k] at hb;simp at hb
 |cons a as ih=>
  intro vs bs k;match vs,k with
  |v::vs,⟨bc,aO,ax,an,bG⟩=>
   intro b hb;rw[ax] at hb;rcases List.mem_append.1 hb with hb|hb
   ·cases a with
    |am l=>exact OT (show mQ w av l v bc from an) b hb
    |agg aa=>obtain⟨us,e,an⟩:=an;exact E7 an b hb
   ·exact ih bG b hb
theorem NH:∀{cJ:List (List aD)} {du bs:List Nat},mK w av du cJ bs->∀b,b∈bs->b<w.heap.size:=by
 intro cJ;induction cJ with
 |nil=>
  intro du bs k;match du,k with
  |[],k=>have k:bs=[]:=k;intro b hb;rw[k] at hb;simp at hb
 |cons a as ih=>
  intro du bs k;match du,k with
  |c::du,⟨bc,aO,ax,⟨T,cur,pz,e1,e2,b0,_,eu⟩,bG⟩=>
   intro b hb;rw[ax] at hb;rcases List.mem_append.1 hb with hb|hb
   ·rw[e1] at hb;rcases List.mem_cons.1 hb with rfl|hb
    ·exact(Array.getElem?_eq_some_iff.1 e2).1
    ·exact E7 eu b hb
   ·exact ih bG b hb
end plain
section
variable {P:Program}{U:World}{O:List Nat}{X:Nat->Prop}{B:Nat->Value}{st:ai}{tm:Array Value}{w:World}{D:Oper}
theorem oA{ks:List Nat}{b:Nat}:b∈cz B ks <-> ∃o,o∈ks/\b∈bl (B o):=by simp[cz]
theorem LO(S:ak U O X B st tm w):∀{ks:List Nat},ks.Nodup->(∀o,o∈ks->b2 st.sites o)->(cz B ks).Nodup:=by
 intro ks;induction ks with
 |nil=>intro _ _;exact List.nodup_nil
 |cons o ks ih=>
  intro hn hl;rw[List.nodup_cons] at hn;have:=ih hn.2 fun H br=>hl H (List.mem_cons_of_mem _ br)
  simp only[cz,List.flatMap_cons] at this ⊢;refine List.nodup_append.2 ⟨S.QZ (hl o List.mem_cons_self),this,fun b hb c hc e=>?_⟩
  subst e;obtain⟨H,h1,h2⟩:=oA.1 hc;have:=S.dp o H b (hl o List.mem_cons_self) (hl H (List.mem_cons_of_mem _ h1)) hb h2;subst this;exact hn.1 h1
structure ald(U:World)(O:List Nat)(X:Nat->Prop)(B:Nat->Value)(st:ai)(tm:Array Value)(w:World)(a:kE)(vs:List Value):Prop where
 bL:dJ st.sites a.eQ
 lb:∀o,o∈a.f'->b2 st.sites o
 ow:fa st.sites a.gone
 arg:∀av,fj U O X B st tm w a.eQ a.f' av->i' w av a.as vs (cz B (keys a.gone))
 du:dD a.as vs=cz B (keys a.boxes)
 ec:∀o s,(o,s)∈a.boxes->(o,.dead s)∈a.gone/\∃b,B o=.pointer (some ⟨b,0,none⟩)
 kR:iB B a.rows (e0 a.as vs)
 rg:∀o s,some (o,s)∈a.rows->(o,.dead s)∈a.gone
theorem Mc{us:List (Nat×Site)}{sites:List (Nat×Site)}(aL:dJ sites us){o:Nat}(h:b2 (ba sites us) o):b2 sites o:=by
 obtain⟨Y,h1,h2⟩:=h;rcases mB aL o with h|⟨s,t,xs,aF,bo⟩
 ·exact⟨Y,h▸h1,h2⟩
 ·rw[bo] at h1;cases h1;cases h2
theorem ad9(S:ak U O X B st tm w){g:FuncId}{aM:bb}(hY:a_ P g aM){a:kE}{vs:List Value}(A:ald U O X B st tm w a vs){d:Nat}(Z:cd st D.dst=true)
  (cP:(execOp (Act.eval ⟨tm,[]⟩) D).run P w=(callFunc g vs.toArray).run P w):Holds (qi d st aM a) (cG P U O X st tm w D):=by
 intro y al hc;simp only[qi] at y al hc ⊢;simp only[Bool.and_eq_true] at hc;obtain⟨⟨⟨⟨⟨c1,c2⟩,c3⟩,eG⟩,kg⟩,c6,Yk⟩:=hc;rw[pR] at c1 c3 c6;rw[NR] at c2 eG Yk;have sX:∀o,o∈keys a.gone->b2 st.sites o:=fun o bn=>by
  obtain⟨s,M⟩:=pW bn;obtain⟨Y,h1,h2,_⟩:=A.ow o s M;exact⟨Y,h1,h2⟩
 have ND:∀o,o∈keys a.gone->o∉keys a.eQ:=fun o h1 h2=>c2 o (List.mem_append.2 (.inl h2)) h1
 have arf:∃X':Nat->Prop,∀b,X' b <-> (au X B (ba st.sites a.eQ) b/\b∉cz B (keys a.gone)/\∀o,o∈a.f'->b∉bl (B o)):=⟨_,fun b=>Iff.rfl⟩
 obtain⟨X',oi⟩:=arf;have dd:fj U O X B st tm w a.eQ a.f' (fun b=>X' b\/b∈cz B (keys a.gone)):=by
  refine⟨⟨S,A.bL⟩,fun b hb=>?_,fun o bn b hb hx=>?_⟩
  ·rcases hb with hb|hb
   ·exact((oi b).1 hb).1
   ·obtain⟨o,h1,h2⟩:=oA.1 hb;obtain⟨Y,ab,aF⟩:=sX o h1;exact .inr ⟨o,⟨Y,by rw[lN (ND o h1)];exact ab,aF⟩,h2⟩
  ·rcases hx with hx|hx
   ·exact((oi b).1 hx).2.2 o bn (fY hb)
   ·obtain⟨H,h1,h2⟩:=oA.1 hx;have:=S.dp o H b (A.lb o bn) (sX H h1) (fY hb) h2;subst this;exact c2 o (List.mem_append.2 (.inr bn)) h1
 have qE:(cz B (keys a.gone)).Nodup:=LO S c1 sX;have E8:∀b,b∈cz B (keys a.gone)->¬X b/\(b∈O\/U.heap.size<=b):=fun b hb=>by
  obtain⟨o,h1,h2⟩:=oA.1 hb;exact S.cg o b (sX o h1) h2
 have Xl:∀b,X b->X' b:=fun b hb=>(oi b).2 ⟨.inl hb,fun h=>(E8 b h).1 hb,fun o bn h=>(S.cg o b (A.lb o bn) h).1 hb⟩
 have hG:iL w (cz B (keys a.gone)) X':=by
  obtain⟨g1,g2⟩:=S.kV;refine⟨g1,fun b hb h=>?_,fun b hb h=>?_,fun b hb=>(g2 b hb).2⟩
  ·obtain⟨o,h1,h2⟩:=oA.1 h;exact(g2 b hb).1 (.inr ⟨o,sX o h1,h2⟩)
  ·rcases((oi b).1 h).1 with h|⟨o,h1,h2⟩
   ·exact(g2 b hb).1 (.inl h)
   ·exact(g2 b hb).1 (.inr ⟨o,Mc A.bL h1,h2⟩)
 have E:=hY a.as y al w X' vs (cz B (keys a.gone)) (A.arg _ dd) qE (fun b hb hx=>((oi b).1 hx).2.1 hb) (fun b hb=>dd.lt (.inl hb)) hG
 intro K Q bO;have core:∀v w',(∃dM dv rv,Fr (cz B (keys a.gone)) w w'/\oZ w' (fun b=>X' b\/b∈dM++dv) (dD a.as vs) ((aM a.as).ec y) (e0 a.as vs) ((aM a.as).eW y) dM/\kv w' (fun b=>X' b\/b∈dM++dv) ((aM a.as).fc y) rv dv/\
   v=nG rv/\(dM++dv).Nodup/\∀b,b∈dM++dv->¬X' b/\(b∈cz B (keys a.gone)\/w.heap.size<=b))->K ⟨cB tm D.dst v,[]⟩ w':=by
  rintro v w' ⟨dM,dv,rv,aL,et,hA,rfl,dm,hm⟩;obtain⟨sl,fB⟩:∃sl,(sU ((aM a.as).fc y)||sT ((aM a.as).ec y)||oJ ((aM a.as).eW y))=sl:=⟨_,rfl⟩;rw[fB] at kg bO;obtain⟨cZ,C4⟩:∃cZ,(bif sl then a.eQ else [])=cZ:=⟨_,rfl⟩
  rw[C4] at bO;have UC:dJ st.sites cZ:=by rw[<-C4];cases sl;exact .nil;exact A.bL
  have aiq:∀o,o∈keys cZ->o∈keys a.eQ:=by rw[<-C4];cases sl;intro o h;simp[keys] at h;exact fun o h=>h
  have c':ak U O X B {st with sites:=ba st.sites cZ} tm w:=S.AI UC
  have C6:fa (ba st.sites cZ) a.gone:=fun o s M=>by
   obtain⟨Y,h1,h2,ab⟩:=A.ow o s M;exact⟨Y,by rw[lN (fun h=>ND o (E1 M) (aiq o h))];exact h1,h2,ab⟩
  have gC:=c'.aip C6 c1;have jn:=gC.jump (w':=w') (fun b hb a'=>aL.block b a' (fun h=>hb (.inr h))) aL.size
   ⟨aL.os.trans S.frame.os,aL.tape.trans S.frame.tape,aL.output.trans S.frame.output,Nat.le_trans S.frame.size aL.size,fun b a' hb=>by
    rw[aL.block b (Nat.lt_of_lt_of_le a' S.frame.size) (fun h=>by rcases(E8 b h).2 with ah|ah;exact hb ah;omega)]
    exact S.frame.block b a' hb⟩
  have anM:∀b,b∈dM++dv->b<w'.heap.size:=fun b hb=>by
   rcases List.mem_append.1 hb with hb|hb
   ·obtain⟨d1,d2,e1,e2,b0⟩:=et;rw[e1] at hb;rcases List.mem_append.1 hb with hb|hb
    ·exact NH e2 b hb
    ·rcases b0 with⟨_,b0⟩|b0
     ·rw[b0] at hb;simp at hb
     ·exact E7 b0 b hb
   ·exact NI hA b hb
  have nx:ak U O (fun b=>X b\/b∈dM++(dv++[])) B {st with sites:=ba (ba st.sites cZ) a.gone} tm w':=jn.shrink fun b hb=>by
   rcases hb with hb|hb
   ·exact .inl (.inl hb)
   ·rw[List.append_nil] at hb;rcases(hm b hb).2 with h|h
    ·exact .inl (.inr h)
    ·exact .inr ⟨h,anM b hb⟩
  obtain⟨av,Uz,akS,akR⟩:∃av:Nat->Prop,oZ w' av (dD a.as vs) ((aM a.as).ec y) (e0 a.as vs) ((aM a.as).eW y) dM/\kv w' av ((aM a.as).fc y) rv dv/\
    ∀c,au (fun b=>X b\/b∈dM++(dv++[])) B (ba (ba st.sites cZ) a.gone) c->av c:=by
   cases sl with
   |false=>
    rw[Bool.or_eq_false_iff,Bool.or_eq_false_iff] at fB;obtain⟨d1,d2,e1,e2,b0⟩:=et;exact⟨_,⟨d1,d2,e1,ZB fB.1.2 e2,b0.imp id (DI fB.2)⟩,ZC fB.1.1 hA,fun c hc=>hc⟩
   |true=>
    refine⟨_,et,hA,fun c hc=>?_⟩
    rcases hc with(hc|hc)|⟨o,⟨Y,h1,h2⟩,ab⟩
    ·exact .inl (Xl c hc)
    ·rw[List.append_nil] at hc;exact .inr hc
    ·refine .inl ((oi c).2 ?_);have bn:o∉keys a.gone:=fun h=>by
      obtain⟨s,M⟩:=pW h;rw[ym c1 M] at h1;obtain⟨_,_,_,e⟩:=A.ow o s M;cases h1;rw[e] at h2;cases h2
     rw[lN bn] at h1;have akV:a.eQ=cZ:=C4;rw[<-akV] at h1;have live:b2 st.sites o:=Mc A.bL ⟨Y,h1,h2⟩;refine⟨.inr ⟨o,⟨Y,h1,h2⟩,ab⟩,fun h=>?_,fun H br h=>?_⟩
     ·obtain⟨H,ax,an⟩:=oA.1 h;have:=S.dp o H c live (sX H ax) ab an;subst this;exact bn ax
     ·simp only[Bool.not_true,Bool.false_or,List.isEmpty_iff] at kg;rw[kg] at br;simp at br
  have ay:Left U O X B {st with sites:=ba (ba st.sites cZ) a.gone} av (dM++(dv++[])):=by
   refine⟨by simpa using dm,fun b hb=>?_,akR⟩
   rw[List.append_nil] at hb;obtain⟨h1,h2⟩:=hm b hb;refine⟨fun hx=>h1 (Xl b hx),?_⟩
   rcases h2 with h2|h2
   ·exact(E8 b h2).2
   ·exact .inr (Nat.le_trans S.frame.size h2)
  have wz:∀ks,jY st (ba (ba st.sites cZ) a.gone) ks:=fun ks m _ Y M=>by
   have h1:∀Y,look (ba st.sites cZ) m=some Y->Y.b9<a6 st m:=fun Y M=>by
    rcases mB UC m with h|⟨s,t,xs,aF,bo⟩
    ·rw[h] at M;exact jp M
    ·rw[bo] at M;cases M;rcases aF with aF|aF|aF<;>(have q:=jp aF;exact q)
   by_cases af:m∈keys a.gone
   ·obtain⟨s,eU⟩:=pW af;rw[ym c1 eU] at M;obtain⟨bF,e1,_,b0⟩:=C6 m s eU;rw[b0] at M;cases M;exact h1 bF e1
   ·rw[lN af] at M;exact h1 Y M
  rw[gW,gW] at c3;obtain⟨d12,d2,d3⟩:=List.nodup_append.1 c3;obtain⟨d1,arl,d4⟩:=List.nodup_append.1 d12;rw[A.du] at Uz;obtain⟨e1,e2,rfl,akQ,IP⟩:=Uz;simp only[List.append_assoc] at nx ay;obtain⟨jg,nw,yi⟩:=N' st a.boxes (st:={st with sites:=ba (ba st.sites cZ) a.gone}) nx (om.of fun o s M=>(A.ec o s M).2) akQ
   (fun o s M=>ym c1 (A.ec o s M).1) ay (wz _) d1
  obtain⟨gx,apF,lL⟩:∃gx,gf U O (fun b=>X b\/b∈e2++(dv++[])) (fun b=>X b\/b∈dv++[]) jg gx {st with sites:=ba (ba (ba st.sites cZ) a.gone) (fq st a.boxes ((aM a.as).ec y))} tm w' (e9 a.rows ((aM a.as).eW y))/\
    Left U O X gx {st with sites:=ba (ba (ba (ba st.sites cZ) a.gone) (fq st a.boxes ((aM a.as).ec y))) (e9 a.rows ((aM a.as).eW y))} av (dv++[]):=by
   rcases IP with⟨q1,q2⟩|IP
   ·have e:e9 a.rows ((aM a.as).eW y)=[]:=by rw[q1];exact Mp
    subst q2;rw[e];exact⟨jg,.nil nw.gQ fun b hb=>hb,yi⟩
   ·by_cases hne:e9 a.rows ((aM a.as).eW y)=[]
    ·rw[hne];have T:gf U O (fun b=>X b\/b∈e2++(dv++[])) (fun b=>X b\/b∈dv++[]) jg jg {st with sites:=ba (ba (ba st.sites cZ) a.gone) (fq st a.boxes ((aM a.as).ec y))} tm w' []:=.nil nw.gQ fun b hb=>hb.imp id fun h=>List.mem_append.2 (.inr h)
     exact⟨jg,T,yi.rest fun c hc=>T.le c hc⟩
    have X1:∀o s,some (o,s)∈a.rows->o∉keys (fq st a.boxes ((aM a.as).ec y)):=fun o s hm af=>Yk o (yp hm) af
    exact acS a.rows nw.gQ IP (A.kR.congr fun o s hm=>by rw[nw.same o (X1 o s hm)]) (fun o s hm=>by
     rw[lN (X1 o s hm)];exact ym c1 (A.rg o s hm)) c6 yi arl
  have cW:=nw.trans apF;obtain⟨gw,dT,jf,_⟩:=Oa st ((aM a.as).fc y) (2000000+d*10000) (st:={st with sites:=ba (ba (ba st.sites cZ) a.gone) (fq st a.boxes ((aM a.as).ec y)++e9 a.rows ((aM a.as).eW y))}) cW.gQ akS (by rw[i_];exact lL)
   (jY.step (wz _) (fun n h1 h2=>d3 n (by rw[gW] at h1;exact h1) n h2 rfl)) d2
  have Lc:ak U O X gw {st with sites:=ba st.sites (cZ++a.gone++(fq st a.boxes ((aM a.as).ec y)++e9 a.rows ((aM a.as).eW y))++(dY st (2000000+d*10000) ((aM a.as).fc y)).2)} tm w':=by
   have:=dT.gQ.shrink (X':=X) fun b hb=>.inl hb
   simpa only[i_] using this
  refine bO gw _ w' (ak.cM Lc Z (v:=R' (dY st (2000000+d*10000) ((aM a.as).fc y)).1) ?_);have Sw:o8 gw (ba st.sites (cZ++a.gone++(fq st a.boxes ((aM a.as).ec y)++e9 a.rows ((aM a.as).eW y))++(dY st (2000000+d*10000) ((aM a.as).fc y)).2)) w'
    (au X gw (ba st.sites (cZ++a.gone++(fq st a.boxes ((aM a.as).ec y)++e9 a.rows ((aM a.as).eW y))++(dY st (2000000+d*10000) ((aM a.as).fc y)).2))) (dY st (2000000+d*10000) ((aM a.as).fc y)).1 rv:=by
   have e:(fun b=>X b\/b∈([]:List Nat))=X:=by funext b;simp
   rw[e] at jf;simpa only[i_] using jf
  generalize(dY st (2000000+d*10000) ((aM a.as).fc y)).1=anO at Sw;match anO,rv,Sw with
  |[],[],h=>exact⟨[],rfl,rfl,fun j h=>by simp at h⟩
  |[l],[v],h=>exact h.2 0 (by simp) (by simp)
  |l::ea::aa,v::v2::cH,h=>exact⟨v::v2::cH,rfl,h.1,h.2⟩
 rcases E with⟨h1,h2⟩|⟨v,w',h1,h2⟩
 ·unfold Oper.wp;rw[cP,h1,Oper.upon_enter];refine h2.mono fun e w' he=>?_
  cases e with
  |returned v=>
   have:=core v w' he;cases dh:D.dst with
   |none=>rw[dh] at this;simpa[Act.put,cB] using this
   |some t=>rw[dh] at this;simpa[Act.put,cB] using this
  |panicked c=>exact he.elim
  |outgrown=>exact he.elim
 ·exact nD (cP.trans h1) (core v w' h2)
end
def HE(P:Program)(g:FuncId):Prop:=
 ∀(b:Nat) (p v:Value) (w:World),w.heap[b]? =some (.cells #[p,v] sr (0,0))->(p=.pointer none\/p=.pointer (some ⟨b,0,none⟩))->
  Enters P g #[.pointer (some ⟨b,0,none⟩)] w fun r w'=>r=.tuple #[]/\w'=w.setRow b #[.pointer (some ⟨b,0,none⟩),v]
def HY(P:Program)(g:FuncId):Prop:=
 ∀(b:Nat) (p v:Value) (T:TypeId) (xs:List Int) (w:World),w.heap[b]? =some (.cells #[p,v] T (0,0))->rowAt w true mq 1 v xs.length (xs.map (Value.int .u8))->
  Enters P g #[.pointer (some ⟨b,0,none⟩)] w fun r w'=>r=.string ⟨(strOf xs).toArray⟩/\w'.os=w.os/\w'.tape=w.tape/\w'.output=w.output/\w.heap.size<=w'.heap.size/\
   (∀c,c<w.heap.size->aW v≠some c->w'.heap[c]? =w.heap[c]?)/\∀c cur e bL,aW v=some c->w.heap[c]? =some (.cells cur e bL)->∃u3,w'.heap[c]? =some (.cells cur e u3)
section
variable {P:Program}{U:World}{O:List Nat}{X:Nat->Prop}{B:Nat->Value}{st:ai}{tm:Array Value}{w:World}{D:Oper}
theorem ak.adR(S:ak U O X B st tm w){o s:Nat}{t:aJ}{xs:List (den t)}(hl:look st.sites o=some (.row s t xs)){w':World}(h1:w'.os=w.os)(h2:w'.tape=w.tape)(ab:w'.output=w.output)(aF:w.heap.size<=w'.heap.size)
  (bo:∀c,c<w.heap.size->aW (B o)≠some c->w'.heap[c]? =w.heap[c]?) (dk:∀c cur e bL,aW (B o)=some c->w.heap[c]? =some (.cells cur e bL)->∃u3,w'.heap[c]? =some (.cells cur e u3)):
  ak U O X B {st with sites:=cf st.sites o (.da s t xs)} tm w':=by
 have cI:b2 st.sites o:=⟨_,hl,rfl⟩;have dz:∀H,b2 (cf st.sites o (.da s t xs)) H->b2 st.sites H/\H≠o:=by
  rintro H ⟨Y,h1,h2⟩;rw[cv] at h1;by_cases e:o=H
  ·subst e;simp at h1;subst h1;cases h2
  ·simp only[e,if_false] at h1;exact⟨⟨Y,h1,h2⟩,fun h=>e h.symm⟩
 have b':∀be,au X B (cf st.sites o (.da s t xs)) be->au X B st.sites be:=by
  rintro be (h|⟨H,h1,h2⟩)
  ·exact .inl h
  ·exact .inr ⟨H,(dz H h1).1,h2⟩
 have aL:=S.frame;refine S.o9 (fun H Y br=>?_) (fun be h hb=>bo be hb (fun ah=>h (.inr ⟨o,cI,fY ah⟩))) (fun be h _ ah=>h (b' be ah)) (fun go H Y br=>?_) (fun H aN be h1 h2=>S.dp H aN be (dz H h1).1 (dz aN h2).1)
  (fun H be h=>S.cg H be (dz H h).1) (fun H be h hb=>Nat.lt_of_lt_of_le (S.dX (dz H h).1 hb) aF)
  ⟨h1.trans aL.os,h2.trans aL.tape,ab.trans aL.output,Nat.le_trans aL.size aF,fun b hb hn=>by
   have M:=aL.size;rw[bo b (by omega) (fun ah=>by
    rcases(S.cg o b cI (fY ah)).2 with ah|ah
    ·exact hn ah
    ·omega)]
   exact aL.block b hb hn⟩ aF
 ·rw[cv];by_cases e:o=H
  ·subst e;rw[hl] at br;cases br;exact⟨.da s t xs,by simp,Nat.le_refl _,fun _=>rfl⟩
  ·exact⟨Y,by simp[e,br],Nat.le_refl _,fun _=>rfl⟩
 ·rw[cv] at br;by_cases e:o=H
  ·subst e;simp only[if_true,Option.some.injEq] at br;subst br;refine .inr ?_
   show Rd _ _ (.sl t xs) (bT (B o))/\w7 (bT (B o));obtain⟨bK,cs,ax,an⟩:=S.sites o _ hl;rw[(h6 ax).1];rcases ax.2 with⟨hn,h0⟩|⟨g,cap,cur,bL,hv,_,hg,hnc,_,_,ho⟩
   ·have:xs=[]:=List.eq_nil_of_length_eq_zero h0;subst this;rw[hn];exact⟨.nil t,.inl rfl⟩
   ·obtain⟨u3,lx⟩:=dk g cur bK bL (by rw[hv];rfl) hg
    rw[hv];refine⟨?_,.inr ⟨_,_,_,rfl⟩⟩;have hlen:cs.length=(flat t xs).length:=by rw[dU];exact ax.1
    refine .sl t xs _ cap cs xs.length rfl hnc (fun _=>?_) hlen (fun j u hu=>?_) (fun j g1 g2=>iq go (an j g1 g2))
    ·rintro(hx|⟨H,g1,g2⟩)
     ·exact(S.cg o g cI (fY (by rw[hv];rfl))).1 hx
     ·obtain⟨g3,g4⟩:=dz H g1;exact g4 (S.dp H o g g3 cI g2 (fY (by rw[hv];rfl)))
    ·rw[fZ,Nat.zero_add,cell_of_row w' g j cur bK u3 lx];rw[<-ho,List.getElem?_take] at hu;split at hu
     ·simpa using hu
     ·cases hu
  ·simp only[e,if_false] at br;refine .inl ⟨br,rfl,fun uv b hb=>bo b (S.dX ⟨_,br,uv⟩ hb) fun h=>e (S.dp o H b cI ⟨_,br,uv⟩ (fY h) hb)⟩
theorem y8{g:FuncId}{vs:List Value}{post:Value->World->Prop}(cP:(execOp (Act.eval ⟨tm,[]⟩) D).run P w=(callFunc g vs.toArray).run P w)(hY:Enters P g vs.toArray w post){K:Act->World->Prop}{Q:Exit->Act->World->Prop}
  (core:∀v w',post v w'->K ⟨cB tm D.dst v,[]⟩ w'):D.wp P ⟨tm,[]⟩ w K Q:=by
 rcases hY with⟨h1,h2⟩|⟨v,w',h1,h2⟩
 ·unfold Oper.wp;rw[cP,h1,Oper.upon_enter];refine h2.mono fun e w' he=>?_
  cases e with
  |returned v=>
   have:=core v w' he;cases dh:D.dst with
   |none=>rw[dh] at this;simpa[Act.put,cB] using this
   |some t=>rw[dh] at this;simpa[Act.put,cB] using this
  |panicked c=>exact he.elim
  |outgrown=>exact he.elim
 ·exact nD (cP.trans h1) (core v w' h2)
theorem ad6(S:ak U O X B st tm w){g:FuncId}(hY:HE P g){cQ:List aP}{vs:List Value}(hl:cQ.length=vs.length)
  (hv:∀i (h:i<cQ.length) (ah:i<vs.length),ce B st.sites w (au X B st.sites) (cQ[i]) (vs[i])) (Z:cd st D.dst=true) (cP:(execOp (Act.eval ⟨tm,[]⟩) D).run P w=(callFunc g vs.toArray).run P w):
  Holds (copyV st cQ) (cG P U O X st tm w D):=by
 unfold copyV;split
 ·rename_i o s;split
  ·rename_i ar l fr;have fr:look st.sites o=some (.box ar [.eS,l]):=fr;cases jF:ar.beq s with
   |false=>exact .fail
   |true=>
    have:=Nat.eq_of_beq_eq_true jF;subst this;refine Holds.fe ?_
    intro K Q bO;match vs,hl,hv,cP with
    |[sC],_,hv,cP=>
    obtain⟨sI,aoR,kM⟩:dx B st.sites w (au X B st.sites) (.ptr o ar 0) sC:=hv 0 (by simp) (by simp)
    have kM:=Ref.at kM fr rfl;obtain⟨b,T,cur,e1,e2,b0,eu,fI,lG⟩:=S.sites o _ fr;rw[e1] at kM;have kM:b=sI:=by cases kM;rfl
    subst kM;subst aoR;match cur,e2,b0,eu,fI,lG with
    |[p,v],e2,_,eu,fI,lG=>
     obtain⟨rfl,ag⟩:=fI rfl;have ag:p=.pointer none\/p=.pointer (some ⟨b,0,none⟩):=by simpa using ag
     refine y8 cP (hY b p v w e2 ag) ?_
     rintro r w' ⟨rfl,rfl⟩;have b3:ak U O X B {st with sites:=cf st.sites o (.box ar [.eS,l])} tm (w.setRow b #[.pointer (some ⟨b,0,none⟩),v]):=by
      refine S.write fr rfl rfl rfl (fY (by rw[e1];rfl)) e2 (fun M hw lx go=>⟨b,sr,[.pointer (some ⟨b,0,none⟩),v],e1,lx,rfl,fun u hu=>?_,fun _=>⟨rfl,.inr rfl⟩,fun j h ah=>?_⟩)
      ·rcases List.mem_cons.1 hu with rfl|hu
       ·rfl
       ·exact eu u (List.mem_cons_of_mem _ hu)
      ·match j,h,ah with
       |0,_,_=>trivial
       |1,_,_=>exact go (a:=bZ l) (lG 1 (by simp) (by simp))
     exact bO _ _ _ (ak.cM (us:=[(o,.box ar [.eS,l])]) b3 Z (v:=.jE []) ⟨[],rfl,rfl,fun j h=>by simp at h⟩)
  ·exact .fail
 ·exact .fail
theorem acQ{av:Nat->Prop}{xs:List Int}{cs:List Value}(h0:cs.length=xs.length)(h:∀j (h:j<(flat .u8 (xs:List (den .u8))).length) (ah:j<cs.length),Rd w av ((flat .u8 (xs:List (den .u8)))[j]) (cs[j])):cs=xs.map (Value.int .u8):=by
 refine List.ext_getElem (by rw[List.length_map];exact h0) fun j g1 g2=>?_
 have Xf:j<xs.length:=by simpa using g2
 have:=h j (by rw[dU];simpa[aC] using Xf) g1
 rw[List.getElem_map];generalize Z:(flat .u8 (xs:List (den .u8)))[j]'(by rw[dU];simpa[aC] using Xf)=d at this
 have og:d=.int .u8 xs[j]:=by
  rw[<-Z];simp only[td,List.getElem_map]
 subst og;generalize cs[j]=v at this;cases this;rfl
theorem _J(S:ak U O X B st tm w){g:FuncId}(hY:HY P g){cQ:List aP}{vs:List Value}(hl:cQ.length=vs.length)
  (hv:∀i (h:i<cQ.length) (ah:i<vs.length),ce B st.sites w (au X B st.sites) (cQ[i]) (vs[i])) (Z:cd st D.dst=true) (cP:(execOp (Act.eval ⟨tm,[]⟩) D).run P w=(callFunc g vs.toArray).run P w):
  Holds (s7 st cQ) (cG P U O X st tm w D):=by
 unfold s7;split
 ·rename_i o s;match vs,hl,hv,cP with
  |[sC],_,hv,cP=>
  have mi:dx B st.sites w (au X B st.sites) (.ptr o s 0) sC:=hv 0 (by simp) (by simp)
  split
  ·rename_i X6 mX;have fr:=ht mX;obtain⟨b,T,cur,bQ,rfl,hg,_,hc⟩:=S.box fr mi;refine Holds.ok ?_
   intro K Q bO;obtain⟨p,r1,rfl,_,hc⟩:=hc.inv;obtain⟨v,r2,rfl,xw,hc⟩:=hc.inv;have:r2=[]:=List.eq_nil_of_length_eq_zero hc.1;subst this;have xw:v=.slice none 0 0:=xw;subst xw;refine y8 cP (hY b p _ T [] w hg (q3 w true mq 1)) ?_
   rintro r w' ⟨rfl,ax,an,bG,ci,er,hX⟩;have c':=S.jump (w':=w') (fun c _ hc=>er c hc (by simp[aW])) ci ⟨ax.trans S.frame.os,an.trans S.frame.tape,bG.trans S.frame.output,Nat.le_trans S.frame.size ci,fun c hc hn=>by
    rw[er c (Nat.lt_of_lt_of_le hc S.frame.size) (by simp[aW])]
    exact S.frame.block c hc hn⟩
   have gC:ak U O X B {st with sites:=ba st.sites []} tm w':=c'.shrink fun b hb=>.inl hb
   exact bO _ _ _ (ak.cM (us:=[]) gC Z (v:=one (.str [])) (Rd.str _ _ rfl))
  ·rename_i X6 H u mX;have fr:=ht mX;obtain⟨b,T,cur,bQ,rfl,hg,_,hc⟩:=S.box fr mi;split
   ·rename_i bv xs cC;have cC:look st.sites H=some (.row bv .u8 xs):=cC;cases aob:bv.beq u with
    |false=>exact .fail
    |true=>
     have:=Nat.eq_of_beq_eq_true aob;subst this;refine Holds.fe ?_
     intro K Q bO;obtain⟨p,r1,rfl,_,hc⟩:=hc.inv;obtain⟨v,r2,rfl,xw,hc⟩:=hc.inv;have:r2=[]:=List.eq_nil_of_length_eq_zero hc.1;subst this;obtain⟨e,cs,h1,h2⟩:=S.sites H _ cC;have Uj:v=B H:=(Ref.at xw.2 cC rfl:v=bT (B H)).trans (h6 h1).1;have hlen:cs.length=xs.length:=by have:=h1.1;simpa[aC] using this
     have hcs:cs=List.map (Value.int .u8) xs:=acQ hlen h2;have gL:rowAt w true mq 1 v xs.length (List.map (Value.int .u8) xs):=by
      rw[<-hcs,Uj];refine⟨h1.1,?_⟩;rcases h1.2 with h|⟨cK,cap,uA,bL,q1,q2,dG⟩
      ·exact .inl h
      ·have:=q2.1 rfl;subst this;exact .inr ⟨cK,cap,uA,bL,q1,q2,dG⟩
     refine y8 cP (hY b p v T xs w hg gL) ?_
     rintro r w' ⟨rfl,ax,an,bG,ci,er,hX⟩;rw[Uj] at er hX;have gC:=S.adR cC ax an bG ci er hX;exact bO _ _ _ (ak.cM (us:=[(H,.da bv .u8 xs)]) gC Z (v:=one (.str (strOf xs))) (Rd.str _ _ (by simp)))
   ·exact .fail
  ·exact .fail
 ·exact .fail
end
def AN(P:Program)(g cK:FuncId):Prop:=
 ∀(a b:ByteArray) (w:World),Enters P g #[.string a,.string b] w fun v w'=>∃cW dT,v=.func (.func cK) #[] #[.pointer (some ⟨w.heap.size+1,0,none⟩),.pointer (some ⟨w.heap.size,0,none⟩),.pointer (some ⟨w.heap.size+2,0,none⟩)]/\
  w'=((w.alloc (.cells #[.string a] cW)).alloc (.cells #[.string b] cW)).alloc (.cells #[.int .i64 0] dT)
def BF(P:Program)(g:FuncId):Prop:=
 ∀(xs:List Int) (v:Value) (w:World) (av:Nat->Prop),Rd w av (.sl .u8 xs) v->Enters P g #[v] w fun v' w'=>∃u T,Rd w av (.sl .u8 (xs.take 2000)) u/\v'=.pointer (some ⟨w.heap.size,0,none⟩)/\w'=w.alloc (.cells #[u,.int .i64 0] T)
structure bg(P:Program)(C:Ctx):Prop extends CtxOk P C where
 b1:∀g S,C.b1 g=some S->a_ P g S
 Dj:P.follows .mixedOrders=true
 lC:∀g cK,C.lC g=some cK->AN P g cK
 op:∀g,C.op g=true->BF P g
 ij:∀g,C.ij g=true->HE P g
 bs:∀g,C.bs g=true->HY P g
section
variable {P:Program}{U:World}{O:List Nat}{X:Nat->Prop}{B:Nat->Value}{st:ai}{tm:Array Value}{w:World}{D:Oper}
theorem NV:∀{bP:List (Nat×Nat)} {cs:List (List aU)} {us:List (Nat×Site)} {bs:List Nat},l1 st bP=some (cs,us,bs)->dJ st.sites us/\∀o,o∈bs->b2 st.sites o:=by
 intro bP;induction bP with
 |nil=>intro cs us bs h;simp only[l1] at h;cases h;exact⟨.nil,fun o h=>by simp at h⟩
 |cons c bP ih=>
  obtain⟨o,s⟩:=c;intro cs us bs h;simp only[l1] at h;split at h
  ·rename_i cells mX;split at h
   ·rename_i ds u1 rest u2 aO eI l4;cases h;obtain⟨ax,an⟩:=ih l4;refine⟨(GQ eI).append ax,fun H br=>?_⟩
    rcases List.mem_cons.1 br with rfl|br
    ·exact⟨_,ht mX,rfl⟩
    ·exact an H br
   ·cases h
  ·cases h
theorem F8{l fG:aD}{us:List (Nat×Site)}{bs:List Nat}(h:nX st l=some (fG,us,bs)):dJ st.sites us/\∀o,o∈bs->b2 st.sites o:=by
 unfold nX at h;split at h
 ·cases h;exact⟨.nil,fun o h=>by simp at h⟩
 ·split at h
  ·rename_i hc;cases h;exact NV hc
  ·cases h
 ·split at h
  ·rename_i Z;cases h;exact⟨RB Z,fun o h=>by simp at h⟩
  ·cases h
theorem adJ:∀{aa dF:List aD} {us:List (Nat×Site)} {bs:List Nat},mM st aa=some (dF,us,bs)->dJ st.sites us/\∀o,o∈bs->b2 st.sites o:=by
 intro aa;induction aa with
 |nil=>intro dF us bs h;simp only[mM] at h;cases h;exact⟨.nil,fun o h=>by simp at h⟩
 |cons l aa ih=>
  intro dF us bs h;simp only[mM] at h;split at h
  ·rename_i a u1 bc as u2 aO h1 h2;cases h;obtain⟨ax,an⟩:=F8 h1;obtain⟨bG,ci⟩:=ih h2;refine⟨ax.append bG,fun o bn=>?_⟩
   rcases List.mem_append.1 bn with h|h
   ·exact an o h
   ·exact ci o h
  ·cases h
theorem abQ:∀{cQ:List aP} {a:kE},js st cQ=some a->dJ st.sites a.eQ/\∀o,o∈a.f'->b2 st.sites o:=by
 intro cQ;induction cQ with
 |nil=>intro a h;simp only[js] at h;cases h;exact⟨.nil,fun o h=>by simp at h⟩
 |cons sE cQ ih=>
  intro a h;unfold js at h;split at h
  ·cases ‹sE::cQ=[]›
  ·rename_i b5;cases b5;split at h
   ·rename_i hr;split at h
    ·cases h;have q:=ih hr;exact q
    ·cases h
   ·cases h
  ·rename_i b5;cases b5;split at h
   ·rename_i h1 hr;cases h;obtain⟨ax,an⟩:=F8 h1;obtain⟨bG,ci⟩:=ih hr;refine⟨ax.append bG,fun o bn=>?_⟩
    rcases List.mem_append.1 bn with h|h
    ·exact an o h
    ·exact ci o h
   ·cases h
  ·rename_i b5;cases b5;split at h
   ·rename_i h1 hr;cases h;obtain⟨ax,an⟩:=adJ h1;obtain⟨bG,ci⟩:=ih hr;refine⟨ax.append bG,fun o bn=>?_⟩
    rcases List.mem_append.1 bn with h|h
    ·exact an o h
    ·exact ci o h
   ·cases h
  ·cases h
theorem NL{l fG:aD}{gs us:List (Nat×Site)}{bs:List Nat}(h:mH st l=some (fG,gs,us,bs)):dJ st.sites us/\∀o,o∈bs->b2 st.sites o:=by
 unfold mH at h;split at h
 ·split at h
  ·cases h;exact⟨.nil,fun o h=>by simp at h⟩
  ·cases h
 ·cases h;exact⟨.nil,fun o h=>by simp at h⟩
 ·split at h
  ·rename_i hl;cases h;exact F8 hl
  ·cases h
theorem aan:∀{aa dF:List aD} {gs us:List (Nat×Site)} {bs:List Nat},mF st aa=some (dF,gs,us,bs)->dJ st.sites us/\∀o,o∈bs->b2 st.sites o:=by
 intro aa;induction aa with
 |nil=>intro dF gs us bs h;simp only[mF] at h;cases h;exact⟨.nil,fun o h=>by simp at h⟩
 |cons l aa ih=>
  intro dF gs us bs h;simp only[mF] at h;split at h
  ·rename_i h1 h2;cases h;obtain⟨ax,an⟩:=NL h1;obtain⟨bG,ci⟩:=ih h2;refine⟨ax.append bG,fun o bn=>?_⟩
   rcases List.mem_append.1 bn with h|h
   ·exact an o h
   ·exact ci o h
  ·cases h
theorem aab:∀{cQ:List aP} {a:kE},k0 st cQ=some a->dJ st.sites a.eQ/\∀o,o∈a.f'->b2 st.sites o:=by
 intro cQ;induction cQ with
 |nil=>intro a h;simp only[k0] at h;cases h;exact⟨.nil,fun o h=>by simp at h⟩
 |cons sE cQ ih=>
  intro a h;unfold k0 at h;split at h
  ·cases ‹sE::cQ=[]›
  ·rename_i b5;cases b5;split at h
   ·rename_i h1 hr;cases h;obtain⟨ax,an⟩:=NL h1;obtain⟨bG,ci⟩:=ih hr;refine⟨ax.append bG,fun o bn=>?_⟩
    rcases List.mem_append.1 bn with h|h
    ·exact an o h
    ·exact ci o h
   ·cases h
  ·rename_i b5;cases b5;split at h
   ·rename_i h1 hr;cases h;obtain⟨ax,an⟩:=aan h1;obtain⟨bG,ci⟩:=ih hr;refine⟨ax.append bG,fun o bn=>?_⟩
    rcases List.mem_append.1 bn with h|h
    ·exact an o h
    ·exact ci o h
   ·cases h
  ·cases h
theorem _'{b:Bool}{cQ:List aP}{a:kE}(h:s_ b st cQ=some a):dJ st.sites a.eQ/\∀o,o∈a.f'->b2 st.sites o:=by
 cases b
 ·exact abQ h
 ·exact aab h
theorem ag1(S:ak U O X B st tm w)(C:Ctx):∀(xs:List Operand) (cY:List TypeId),(gT C st xs cY).length=(xs.map (Act.eval ⟨tm,[]⟩)).length/\
  ∀i (h:i<(gT C st xs cY).length) (ah:i<(xs.map (Act.eval ⟨tm,[]⟩)).length),ce B st.sites w (au X B st.sites) ((gT C st xs cY)[i]) ((xs.map (Act.eval ⟨tm,[]⟩))[i]):=by
 intro xs;induction xs with
 |nil=>intro cY;cases cY<;>exact⟨rfl,fun i h=>by simp[gT] at h⟩
 |cons x xs ih=>
  intro cY;have key:∀(T:TypeId) (Kx:List TypeId),gT C st (x::xs) cY=aS C st T x::gT C st xs Kx->(gT C st (x::xs) cY).length=((x::xs).map (Act.eval ⟨tm,[]⟩)).length/\
    ∀i (h:i<(gT C st (x::xs) cY).length) (ah:i<((x::xs).map (Act.eval ⟨tm,[]⟩)).length),ce B st.sites w (au X B st.sites) ((gT C st (x::xs) cY)[i]) (((x::xs).map (Act.eval ⟨tm,[]⟩))[i]):=by
   intro T Kx e;obtain⟨ax,an⟩:=ih Kx;refine⟨by rw[e];simp[ax],fun i h ah=>?_⟩
   simp only[e];cases i with
   |zero=>exact cV S C T x
   |succ i=>
    simp only[List.getElem_cons_succ,List.map_cons];exact an i (by simpa[e] using h) (by simpa using ah)
  cases cY with
  |nil=>exact key 0 [] rfl
  |cons T cY=>exact key T cY rfl
theorem abb(S:ak U O X B st tm w){g cK:FuncId}(hY:AN P g cK){n:Nat}{cQ:List aP}{vs:List Value}(hl:cQ.length=vs.length)
  (hv:∀i (h:i<cQ.length) (ah:i<vs.length),ce B st.sites w (au X B st.sites) (cQ[i]) (vs[i])) (Z:cd st D.dst=true) (cP:(execOp (Act.eval ⟨tm,[]⟩) D).run P w=(callFunc g vs.toArray).run P w):
  Holds (to cK n st cQ) (cG P U O X st tm w D):=by
 unfold to;split
 ·rename_i s p;refine Holds.fe ?_
  intro K Q bO;match vs,hl,hv,cP with
  |[sC,vb],_,hv,cP=>
  obtain⟨a,aT,pw⟩:=gF (hv 0 (by simp) (by simp))
  obtain⟨b,hb,ch⟩:=gF (hv 1 (by simp) (by simp))
  simp only[List.getElem_cons_zero,List.getElem_cons_succ] at aT hb;subst aT hb;have core:∀v w',(∃cW dT,v=.func (.func cK) #[] #[.pointer (some ⟨w.heap.size+1,0,none⟩),.pointer (some ⟨w.heap.size,0,none⟩),.pointer (some ⟨w.heap.size+2,0,none⟩)]/\
    w'=((w.alloc (.cells #[.string a] cW)).alloc (.cells #[.string b] cW)).alloc (.cells #[.int .i64 0] dT))->K ⟨cB tm D.dst v,[]⟩ w':=by
   rintro v w' ⟨cW,dT,rfl,hw⟩;have hsz:w'.heap.size=w.heap.size+3:=by rw[hw];simp
   have hold:∀b,b<w.heap.size->w'.heap[b]? =w.heap[b]? :=fun b hb=>by
    rw[hw];rw[RowKit.Below.heap_alloc _ _ _ (by simp;omega),RowKit.Below.heap_alloc _ _ _ (by simp;omega),RowKit.Below.heap_alloc _ _ _ hb]
   have h0:w'.heap[w.heap.size]? =some (.cells #[.string a] cW):=by
    rw[hw,RowKit.Below.heap_alloc _ _ _ (by simp only[World.size_alloc];omega),RowKit.Below.heap_alloc _ _ _ (by simp only[World.size_alloc];omega)];exact World.alloc_heap_new w _
   have h1:w'.heap[w.heap.size+1]? =some (.cells #[.string b] cW):=by
    rw[hw,RowKit.Below.heap_alloc _ _ _ (by simp only[World.size_alloc];omega)]
    have:=World.alloc_heap_new (w.alloc (.cells #[.string a] cW)) (.cells #[.string b] cW);rwa[World.size_alloc] at this
   have h2:w'.heap[w.heap.size+2]? =some (.cells #[.int .i64 0] dT):=by
    rw[hw];have:=World.alloc_heap_new ((w.alloc (.cells #[.string a] cW)).alloc (.cells #[.string b] cW)) (.cells #[.int .i64 0] dT);rwa[World.size_alloc,World.size_alloc] at this
   have xJ:Fr O U w':=⟨by rw[hw];exact S.frame.os,by rw[hw];exact S.frame.tape,by rw[hw];exact S.frame.output,by have:=S.frame.size;omega,fun b hb hn=>by
    have:=S.frame.size;rw[hold b (by omega)];exact S.frame.block b hb hn⟩
   have jX:=S.frame.size;have c':=S.jump (w':=w') (fun b _ hb=>hold b hb) (by omega) xJ
   have mk:∀{B:Nat->Value} {sites:List (Nat×Site)} {av:Nat->Prop} {m k:Nat} {T:TypeId} {x:Value} {d:aU},B m=.pointer (some ⟨k,0,none⟩)->w'.heap[k]? =some (.cells #[x] T)->Rd w' av d x->
     io B sites w' av m (.box (a6 st m) [.d d]):=by
    intro B sites av m k T x d e1 e2 b0;refine⟨k,T,[x],e1,e2,rfl,fun u hu=>?_,(fun h=>by cases h),fun j h ah=>?_⟩
    ·rw[List.mem_singleton.1 hu];exact b0.ja
    ·match j,h,ah with
     |0,_,_=>exact b0
   obtain⟨Lm,_,_⟩:=c'.wH (X':=fun b=>(X b\/(w.heap.size<=b/\b<w'.heap.size))/\b≠w.heap.size+1) (n:=n) (bF:=.box (a6 st n) [.d (.str p)]) (nv:=.pointer (some ⟨w.heap.size+1,0,none⟩)) (fun b h=>h.1)
    (.inl fun Y h=>jp h) (fun b h=>by have h:=List.mem_singleton.1 h;simp only at h;subst h;exact⟨.inr ⟨by omega,by omega⟩,fun h=>h.2 rfl,.inr (by omega)⟩) (fun _ e _ _=>mk e h1 (.str _ _ ch))
   obtain⟨Ll,_,_⟩:=Lm.wH (X':=fun b=>((X b\/(w.heap.size<=b/\b<w'.heap.size))/\b≠w.heap.size+1)/\b≠w.heap.size) (n:=n+1) (bF:=.box (a6 st (n+1)) [.d (.str s)]) (nv:=.pointer (some ⟨w.heap.size,0,none⟩)) (fun b h=>h.1)
    (.inl fun Y h=>by
     have h:look (cf st.sites n _) (n+1)=some Y:=h;rw[cv,if_neg (by omega)] at h
     exact jp h) (fun b h=>by have h:=List.mem_singleton.1 h;simp only at h;subst h;exact⟨⟨.inr ⟨by omega,by omega⟩,by omega⟩,fun h=>h.2 rfl,.inr (by omega)⟩) (fun _ e _ _=>mk e h0 (.str _ _ pw))
   obtain⟨Lk,_,_⟩:=Ll.wH (X':=X) (n:=n+2) (bF:=.box (a6 st (n+2)) [.d (.int .i64 0)]) (nv:=.pointer (some ⟨w.heap.size+2,0,none⟩)) (fun b h=>by have:=S.old b h;exact⟨⟨.inl h,by omega⟩,by omega⟩)
    (.inl fun Y h=>by
     have h:look (cf (cf st.sites n _) (n+1) _) (n+2)=some Y:=h;rw[cv,if_neg (by omega),cv,if_neg (by omega)] at h
     exact jp h) (fun b h=>by have h:=List.mem_singleton.1 h;simp only at h;subst h;exact⟨⟨⟨.inr ⟨by omega,by omega⟩,by omega⟩,by omega⟩,fun h=>by have:=S.old _ h;omega,.inr (by omega)⟩) (fun _ e _ _=>mk e h2 (.int _ _))
   refine bO _ _ w' (ak.cM (us:=[(n,.box (a6 st n) [.d (.str p)]),(n+1,.box (a6 st (n+1)) [.d (.str s)]),(n+2,.box (a6 st (n+2)) [.d (.int .i64 0)])]) Lk Z (v:=bZ (.clo cK _)) ?_);refine⟨[.pointer (some ⟨w.heap.size+1,0,none⟩),.pointer (some ⟨w.heap.size,0,none⟩),.pointer (some ⟨w.heap.size+2,0,none⟩)],rfl,rfl,fun i hi iU=>?_⟩
   match i,hi,iU with
   |0,_,_=>exact⟨.box (a6 st n) [.d (.str p)],by simp[ba,cv],Nat.le_refl _,fun _=>by simp[bT]⟩
   |1,_,_=>exact⟨.box (a6 st (n+1)) [.d (.str s)],by simp[ba,cv],Nat.le_refl _,fun _=>by simp[bT]⟩
   |2,_,_=>exact⟨.box (a6 st (n+2)) [.d (.int .i64 0)],by simp[ba,cv],Nat.le_refl _,fun _=>by simp[bT]⟩
  rcases hY a b w with⟨h1,h2⟩|⟨v,w',h1,h2⟩
  ·unfold Oper.wp;rw[cP,h1,Oper.upon_enter];refine h2.mono fun e w' he=>?_
   cases e with
   |returned v=>
    have:=core v w' he;cases dh:D.dst with
    |none=>rw[dh] at this;simpa[Act.put,cB] using this
    |some t=>rw[dh] at this;simpa[Act.put,cB] using this
   |panicked c=>exact he.elim
   |outgrown=>exact he.elim
  ·exact nD (cP.trans h1) (core v w' h2)
 ·exact .fail
theorem adu(S:ak U O X B st tm w){g:FuncId}(hY:BF P g){n:Nat}{cQ:List aP}{vs:List Value}(hl:cQ.length=vs.length)
  (hv:∀i (h:i<cQ.length) (ah:i<vs.length),ce B st.sites w (au X B st.sites) (cQ[i]) (vs[i])) (Z:cd st D.dst=true) (cP:(execOp (Act.eval ⟨tm,[]⟩) D).run P w=(callFunc g vs.toArray).run P w):
  Holds (tU n st cQ) (cG P U O X st tm w D):=by
 unfold tU;split
 ·rename_i xs;refine Holds.fe ?_
  intro K Q bO;match vs,hl,hv,cP with
  |[sC],_,hv,cP=>
  have c5:Rd w (au X B st.sites) (.sl .u8 xs) sC:=hv 0 (by simp) (by simp)
  have core:∀v w',(∃u T,Rd w (au X B st.sites) (.sl .u8 (xs.take 2000)) u/\v=.pointer (some ⟨w.heap.size,0,none⟩)/\w'=w.alloc (.cells #[u,.int .i64 0] T))->K ⟨cB tm D.dst v,[]⟩ w':=by
   rintro v w' ⟨u,T,hu,rfl,hw⟩;have hsz:w'.heap.size=w.heap.size+1:=by rw[hw];simp
   have hold:∀b,b<w.heap.size->w'.heap[b]? =w.heap[b]? :=fun b hb=>by
    rw[hw,RowKit.Below.heap_alloc _ _ _ hb]
   have h0:w'.heap[w.heap.size]? =some (.cells #[u,.int .i64 0] T):=by rw[hw];exact World.alloc_heap_new w _
   have xJ:Fr O U w':=⟨by rw[hw];exact S.frame.os,by rw[hw];exact S.frame.tape,by rw[hw];exact S.frame.output,by have:=S.frame.size;omega,fun b hb hn=>by
    have:=S.frame.size;rw[hold b (by omega)];exact S.frame.block b hb hn⟩
   have jX:=S.frame.size;have c':=S.jump (w':=w') (fun b _ hb=>hold b hb) (by omega) xJ
   have gV:∀b,X b->b<w.heap.size:=S.old;have akA:∀b,au (fun b=>X b\/(w.heap.size<=b/\b<w'.heap.size)) B st.sites b->b<w'.heap.size:=fun b hb=>c'.lt hb
   have uL:ce B st.sites w' (au (fun b=>X b\/(w.heap.size<=b/\b<w'.heap.size)) B st.sites) (one (.sl .u8 (xs.take 2000))) u:=by
    have G:hd B B st.sites st.sites w w' (au X B st.sites) (au (fun b=>X b\/(w.heap.size<=b/\b<w'.heap.size)) B st.sites):=
     ⟨fun H s h=>⟨s,h,Nat.le_refl _,fun _=>rfl⟩,fun b _ ch=>hold b ch,fun b hb ch ah=>by
      rcases ah with(ah|ah)|ah
      ·exact hb (.inl ah)
      ·omega
      ·exact hb (.inr ah)⟩
    exact ce.goes (a:=one (.sl .u8 (xs.take 2000))) G (by omega) akA hu
   obtain⟨Lm,JG,as5⟩:=c'.wH (X':=X) (n:=n) (bF:=.box (a6 st n) [.d (.sl .u8 (xs.take 2000)),.d (.int .i64 0)]) (nv:=.pointer (some ⟨w.heap.size,0,none⟩)) (fun b h=>.inl h)
    (.inl fun Y h=>jp h) (fun b h=>by have h:=List.mem_singleton.1 h;simp only at h;subst h;exact⟨.inr ⟨by omega,by omega⟩,fun h=>by have:=gV _ h;omega,.inr (by omega)⟩) (fun M e go _=>by
     have r4:=go uL;refine⟨w.heap.size,T,[u,.int .i64 0],e,h0,rfl,fun x hx=>?_,(fun h=>by cases h),fun j h ah=>?_⟩
     ·rcases List.mem_cons.1 hx with rfl|hx
      ·exact Rd.ja hu
      ·rw[List.mem_singleton.1 hx];rfl
     ·match j,h,ah with
      |0,_,_=>exact r4
      |1,_,_=>exact Rd.int .i64 0)
   refine bO _ _ w' (ak.cM (us:=[(n,.box (a6 st n) [.d (.sl .u8 (xs.take 2000)),.d (.int .i64 0)])]) Lm Z (v:=bZ (.ptr n (a6 st n) 0)) ?_);exact⟨w.heap.size,rfl,.box (a6 st n) [.d (.sl .u8 (xs.take 2000)),.d (.int .i64 0)],by simp[ba,cv],Nat.le_refl _,fun _=>by simp[bT]⟩
  rcases hY xs sC w _ c5 with⟨h1,h2⟩|⟨v,w',h1,h2⟩
  ·unfold Oper.wp;rw[cP,h1,Oper.upon_enter];refine h2.mono fun e w' he=>?_
   cases e with
   |returned v=>
    have:=core v w' he;cases dh:D.dst with
    |none=>rw[dh] at this;simpa[Act.put,cB] using this
    |some t=>rw[dh] at this;simpa[Act.put,cB] using this
   |panicked c=>exact he.elim
   |outgrown=>exact he.elim
  ·exact nD (cP.trans h1) (core v w' h2)
 ·exact .fail
theorem Mg(S:ak U O X B st tm w){C:Ctx}(aG:bg P C){c:Go.Call}{f:Operand}(ap:D.op=.call c)(hf:c.callee=.value f)(Z:cd st D.dst=true)(d:Nat)(T:TypeId):
  Holds (mD C d st (aS C st T f) (gT C st c.args.toList c.argTypes.toList)) (cG P U O X st tm w D):=by
 have bx:=cV S C T f;obtain⟨e1,e2⟩:=ag1 S C c.args.toList c.argTypes.toList;have run:∀{g:FuncId} {fm:List Value},Act.eval ⟨tm,[]⟩ f=.func (.func g) #[] fm.toArray->
   (execOp (Act.eval ⟨tm,[]⟩) D).run P w=(callFunc g (c.args.toList.map (Act.eval ⟨tm,[]⟩)++fm).toArray).run P w:=by
  intro g fm hv;have sH:(#[]++c.args.map (Act.eval ⟨tm,[]⟩))++fm.toArray=(c.args.toList.map (Act.eval ⟨tm,[]⟩)++fm).toArray:=by apply Array.ext';simp
  unfold execOp;simp only[ap,resolve,hf,hv,Deferred.ofValue,Sem.run_bind,Sem.run_pure,Result.andThen_ok,invoke,sH]
 have go:∀{g:FuncId} {aM:bb} {a:kE} {cs:List (List aU)} {us:List (Nat×Site)} {bs:List Nat} {fm:List Value} {gb:Bool},C.b1 g=some aM->s_ gb st (gT C st c.args.toList c.argTypes.toList)=some a->
   Act.eval ⟨tm,[]⟩ f=.func (.func g) #[] fm.toArray->(dJ st.sites us/\∀o,o∈bs->b2 st.sites o)->
   (∀{cZ eK av},fj U O X B st tm w cZ eK av->(∀p,p∈us->p∈cZ)->(∀o,o∈bs->o∈eK)->k7 w av cs fm)->
   Holds (qi d st aM {a with as:=a.as++lX cs,eQ:=a.eQ++us,f':=a.f'++bs}) (cG P U O X st tm w D):=by
  intro g aM a cs us bs fm gb hg aT hv hz hcap;obtain⟨hS,z2⟩:=_' aT;have gS:dJ st.sites (a.eQ++us):=hS.append hz.1;have xU:fj U O X B st tm w (a.eQ++us) (a.f'++bs) (fun _=>False):=⟨⟨S,gS⟩,fun b h=>h.elim,fun _ _ _ _ h=>h⟩
  obtain⟨m1,m2,m3,m4,m5,X4⟩:=My xU aT e1 e2 (fun p ag=>List.mem_append.2 (.inl ag)) (fun p ag=>List.mem_append.2 (.inl ag))
  refine ad9 (a:={a with as:=a.as++lX cs,eQ:=a.eQ++us,f':=a.f'++bs}) S (aG.b1 g aM hg) (vs:=c.args.toList.map (Act.eval ⟨tm,[]⟩)++fm) ⟨gS,fun o bn=>?_,m2,fun av dd=>?_,?_,m4,?_,X4⟩ Z (run hv)
  ·rcases List.mem_append.1 bn with h|h
   ·exact z2 o h
   ·exact hz.2 o h
  ·obtain⟨n1,_,_,_,_,_⟩:=My dd aT e1 e2 (fun p ag=>List.mem_append.2 (.inl ag)) (fun p ag=>List.mem_append.2 (.inl ag))
   have n2:=aaA (hcap dd (fun p ag=>List.mem_append.2 (.inr ag)) (fun p ag=>List.mem_append.2 (.inr ag)))
   have:=n1.append n2;rwa[List.append_nil] at this
  ·show dD (a.as++lX cs) _=_;rw[LN m1.length,m3,aaC,List.append_nil]
  ·show iB B a.rows (e0 (a.as++lX cs) _);rw[Zp m1.length,_S,List.append_nil];exact m5
 unfold mD;split
 ·rename_i g bP Kc;rw[Kc] at bx;obtain⟨fm,h1,h2,ab⟩:=bx;split
  ·rename_i cK lo;split
   ·have hcv:fm=[]:=List.eq_nil_of_length_eq_zero (by simpa using h2)
    subst hcv;have r:=run h1;rw[List.append_nil] at r;exact abb S (aG.lC g cK lo) e1 e2 Z r
   ·exact .fail
  ·cases xB:C.op g with
   |true=>
    simp only[cond_true];split
    ·have hcv:fm=[]:=List.eq_nil_of_length_eq_zero (by simpa using h2)
     subst hcv;have r:=run h1;rw[List.append_nil] at r;exact adu S (aG.op g xB) e1 e2 Z r
    ·exact .fail
   |false=>
    simp only[cond_false];have Sg:bP=[]->(execOp (Act.eval ⟨tm,[]⟩) D).run P w=(callFunc g (c.args.toList.map (Act.eval ⟨tm,[]⟩)).toArray).run P w:=by
     rintro rfl;have hcv:fm=[]:=List.eq_nil_of_length_eq_zero (by simpa using h2)
     subst hcv;have r:=run h1;rwa[List.append_nil] at r
    cases xO:C.ij g with
    |true=>
     simp only[cond_true];split
     ·exact ad6 S (aG.ij g xO) e1 e2 Z (Sg rfl)
     ·exact .fail
    |false=>
     simp only[cond_false];cases dA:C.bs g with
     |true=>
      simp only[cond_true];split
      ·exact _J S (aG.bs g dA) e1 e2 Z (Sg rfl)
      ·exact .fail
     |false=>
      simp only[cond_false];split
      ·rename_i aM a cs us bs hg aT hc;exact go hg aT h1 (NV hc) (fun dd hu hb=>NU dd hc hu hb h2 ab)
      ·exact .fail
 ·rename_i g bP Kc;rw[Kc] at bx;obtain⟨fm,h1,_⟩:=k7.Sc bx;split
  ·rename_i aM a hg aT;have:=go (us:=[]) (bs:=[]) (cs:=bP) (gb:=false) hg aT h1 ⟨.nil,fun o h=>by simp at h⟩ (fun {cZ eK av} dd _ _=>by
    obtain⟨asD,ax,an⟩:=k7.Sc (dd.uF (bx:Rd w (au X B st.sites) (.fn g bP) _));rw[h1] at ax;simp only[Value.func.injEq,Fn.func.injEq,true_and] at ax;have e:=congrArg Array.toList ax;simp only at e;rw[e];exact an)
   simpa only[List.append_nil] using this
  ·exact .fail
 ·exact .fail
theorem aep(S:ak U O X B st tm w){C:Ctx}(aG:bg P C)(Z:cd st D.dst=true):Holds (step C st D) (cG P U O X st tm w D):=by
 unfold step;split
 ·rename_i x ap;exact Holds.ok (PD S (.inl ap) Z _)
 ·rename_i x ap;exact Holds.ok (PD S (.inr ap) Z _)
 ·rename_i c a b ap;split
  ·rename_i hc;exact Holds.ok (Pv S ap Z hc)
  ·rename_i hc;exact Holds.ok (Pv S ap Z hc)
  ·exact .fail
 ·rename_i elem ap;split
  ·rename_i o e t n dh aZ;exact acp S aG.toCtxOk aZ ap Z
  ·rename_i o dh _;split
   ·rename_i z hz;exact Holds.fe (aee S aG.toCtxOk ap dh hz Z)
   ·exact .fail
  ·exact .fail
 ·rename_i elem x ap;split
  ·rename_i o e t n dh aZ;exact afJ S aG.toCtxOk aZ ap Z
  ·rename_i o dh _;split
   ·rename_i a aT;cases dr:gX a.cells with
    |false=>exact .fail
    |true=>
     have bx:=cV S C elem x;rw[q4 aT] at bx;exact Holds.fe (ag8 S ap dh bx dr Z)
   ·exact .fail
  ·exact .fail
 ·rename_i t parts ap;split
  ·rename_i b1 n z eq aZ;exact aea S aG.toCtxOk aZ ap Z
  ·rename_i e ty n aZ;split
   ·rename_i z hz;exact acl S aG.toCtxOk aZ hz ap Z
   ·exact .fail
  ·exact .fail
 ·rename_i t len parts ap;split
  ·rename_i o e ty bytes dh aZ;cases hb:(parts.toList.length.beq len&&p2 0 parts.toList&&Nat.ble (len*aC ty) 1000) with
   |false=>exact .fail
   |true=>
    simp only[Bool.and_eq_true] at hb;obtain⟨⟨bc,aO⟩,ca⟩:=hb;simp only[cond_true];split
    ·rename_i as has;split
     ·rename_i xs us eC;have eC:nE ty st as=some (xs,us):=by
       cases ao:(C.eo&&ty.h5) with
       |false=>rw[ao] at eC;cases eC
       |true=>rw[ao] at eC;exact eC
      cases ao:(e8 (keys us)&&(look us o).isNone) with
      |false=>exact .fail
      |true=>
       simp only[Bool.and_eq_true] at ao;exact Holds.fe (YK S aG.toCtxOk aZ ap Z (Nat.eq_of_beq_eq_true bc) aO (Nat.le_of_ble_eq_true ca) has eC ((pR _).1 ao.1) (L8 ao.2))
     ·split
      ·rename_i xs us eC;exact Holds.fe (Y4 S aG.toCtxOk aZ ap dh Z (Nat.eq_of_beq_eq_true bc) aO (Nat.le_of_ble_eq_true ca) has eC)
      ·exact .fail
    ·exact .fail
  ·exact .fail
 ·rename_i t a ap;split
  ·rename_i e ty n aZ;exact adH S aG.toCtxOk aZ ap Z
  ·cases af:(C.tt t).known with
   |false=>exact .fail
   |true=>exact afq S aG.toCtxOk ap Z af
 ·rename_i t a x ap;split
  ·rename_i v hv;split
   ·rename_i e ty n aZ;exact aba S aG.toCtxOk aZ ap Z hv
   ·cases af:(C.tt t).known with
    |false=>exact .fail
    |true=>exact acU S aG.toCtxOk ap Z af hv
  ·exact .fail
 ·rename_i x ap;split
  ·rename_i hx;exact Holds.ok (DH S ap Z hx fun vv h=>by obtain⟨b,h,_⟩:=h;exact⟨_,h⟩)
  ·rename_i hx;exact Holds.ok (DH S ap Z hx fun vv h=>by obtain⟨b,D,h,_⟩:=h;exact⟨_,h⟩)
  ·rename_i hx;exact Holds.ok (DH S ap Z hx fun vv h=>by obtain⟨b,D,h,_⟩:=h;exact⟨_,h⟩)
  ·exact .fail
 ·rename_i op t x y oo ap;cases hn:A' y with
  |true=>exact acd S aG.toCtxOk ap Z hn
  |false=>exact afN S aG.toCtxOk ap Z
 ·rename_i op t x ap;split
  ·rename_i b hx;exact Holds.ok (ZS S ap Z hx)
  ·rename_i k n hx;exact Holds.ok (ZT S ap Z hx)
  ·rename_i k n hx;exact Holds.ok (ZR (T:=D.type) S ap Z hx)
  ·exact .fail
 ·rename_i src dst x ap;split
  ·rename_i o dh;exact ad7 S aG.toCtxOk ap dh Z
  ·exact .fail
 ·rename_i fn first captured ap
  split
  ·rename_i g;cases hf:first.toList.isEmpty with
   |false=>exact .fail
   |true=>
    simp only[cond_true];split
    ·rename_i bP hc;exact Holds.ok (_e S ap Z hf hc)
    ·exact .fail
  ·exact .fail
 ·rename_i t l c ap;split
  ·rename_i o e ty bytes kn n km m dh aZ hl hc;split
   ·rename_i z hz;unfold rJ;split
    ·rename_i ds us eI;have eI:sinks st z=some (ds,us):=by
      cases ao:(C.eo&&ty.h5) with
      |false=>rw[ao] at eI;cases eI
      |true=>rw[ao] at eI;exact eI
     split
     ·rename_i eF kH;cases ao:us.isEmpty with
      |false=>exact .fail
      |true=>exact Holds.eA fun r hr=>YX S aG.toCtxOk aZ ap Z hl hc hz eI ao kH r hr
     ·exact .fail
    ·split
     ·rename_i ds us eI;split
      ·rename_i eF kH;exact Holds.eA fun r hr=>Zu S aG.toCtxOk aZ ap dh Z hl hc hz eI kH r hr
      ·exact .fail
     ·exact .fail
   ·exact .fail
  ·exact .fail
 ·rename_i t x cp hi Di ap;split
  ·split
   ·rename_i e ty n aZ;exact abf S aG.toCtxOk aZ ap Z
   ·rename_i ti hn;cases hb:tB st (aS C st t x) with
    |true=>
     simp only[cond_true];split
     ·rename_i d dh;exact abe S aG.toCtxOk ap dh Z
     ·exact .fail
    |false=>exact acZ S aG.toCtxOk ap Z
  ·exact .fail
 ·rename_i s x f ap;split
  ·rename_i b1 n z eq aZ;split
   ·rename_i off KU hf;exact ZD S aG.toCtxOk aZ ap Z hf
   ·exact .fail
  ·exact .fail
 ·rename_i t x i ap;split
  ·rename_i e ty bytes k n aZ hi;exact ZA S aG.toCtxOk aZ hi ap Z
  ·rename_i e ty m k n aZ hi;exact YZ S aG.toCtxOk aZ hi ap Z
  ·exact .fail
 ·rename_i t x i ap;split
  ·rename_i s k n aZ hx hi;exact adN S aG.toCtxOk ap Z aZ hx hi
  ·rename_i e ty m k n aZ hi;exact ab7 S aG.toCtxOk aZ hi ap Z
  ·exact .fail
 ·rename_i t i ap;split
  ·rename_i as hx;split
   ·rename_i a aT;exact Holds.ok (aap S ap Z hx aT)
   ·exact .fail
  ·exact .fail
 ·rename_i c ap;split
  ·rename_i f hf;split
   ·exact Mg S aG ap hf Z _ _
   ·exact Mg S aG ap hf Z _ _
  ·rename_i b hb;obtain⟨callee,args,argTypes⟩:=c;simp only at hb ap ⊢;subst hb;split
   ·rename_i x t ky Iz;have e1:args=#[x]:=Array.ext' ky;have e2:argTypes=#[t]:=Array.ext' Iz;subst e1 e2;exact agN S aG.toCtxOk ap Z
   ·rename_i o s x t u dh ky Iz;have e1:args=#[s,x]:=Array.ext' ky;have e2:argTypes=#[t,u]:=Array.ext' Iz;subst e1 e2;split
    ·rename_i aZ eX;cases ao:wa st (aS C st u x) with
     |true=>exact aaG S aG.toCtxOk aZ eX ap dh Z
     |false=>exact aco S aG.toCtxOk aZ eX ap dh Z
    ·rename_i aZ eX;exact aaF S aG.toCtxOk aZ eX ap dh Z
    ·exact .fail
   ·rename_i x y ky;have e1:args=#[x,y]:=Array.ext' ky;subst e1;split
    ·rename_i hx al;exact Holds.ok (Nz (t':=true) S ap Z hx al)
    ·exact .fail
   ·rename_i x y z u v ky;have e1:args=#[x,y,z,u,v]:=Array.ext' ky;subst e1;split
    ·rename_i hx al hz hu hv;exact Holds.ok (afn S ap Z hx al hz hu hv)
    ·exact .fail
   ·rename_i x y ky;have e1:args=#[x,y]:=Array.ext' ky;subst e1;split
    ·rename_i hx al;exact Holds.ok (Nz (t':=false) S ap Z hx al)
    ·exact .fail
   ·exact .fail
  ·exact .fail
 ·exact aac S aG.toCtxOk Z
end
section
variable {st aj:ai}
theorem oD{o:Nat}(h:st.Y o=aj.Y o)(s:Nat):rowOf st o s=rowOf aj o s:=by unfold rowOf;rw[h]
theorem vm{o:Nat}(h:st.Y o=aj.Y o)(s:Nat):mI st o s=mI aj o s:=by unfold mI;rw[h]
theorem _v{o:Nat}(h:st.Y o=aj.Y o)(s:Nat):rC st o s=rC aj o s:=by unfold rC;rw[oD h,vm h]
theorem yn{o:Nat}(h:st.Y o=aj.Y o)(s:Nat):oX st o s=oX aj o s:=by unfold oX;rw[h]
theorem _T{o:Nat}(h:st.Y o=aj.Y o)(s:Nat):o' st o s=o' aj o s:=by unfold o';rw[oD h,yn h]
theorem Mk{o:Nat}(h:st.Y o=aj.Y o)(s:Nat):rD st o s=rD aj o s:=by unfold rD;rw[_v h,yn h]
theorem vp{o:Nat}(h:st.Y o=aj.Y o)(s:Nat):ga st o s=ga aj o s:=by unfold ga;rw[h]
theorem kZ{o:Nat}(h:st.Y o=aj.Y o):a6 st o=a6 aj o:=by unfold a6;rw[h]
abbrev cj(st aj:ai)(N:List Nat):Prop:=∀o,o∈N->st.Y o=aj.Y o
theorem cj.left{N kX:List Nat}(h:cj st aj (N++kX)):cj st aj N:=fun o bn=>h o (List.mem_append.2 (.inl bn))
theorem cj.right{N kX:List Nat}(h:cj st aj (N++kX)):cj st aj kX:=fun o bn=>h o (List.mem_append.2 (.inr bn))
theorem cj.head{n:Nat}{kX:List Nat}(h:cj st aj (n::kX)):st.Y n=aj.Y n:=h n List.mem_cons_self
theorem cj.tail{n:Nat}{kX:List Nat}(h:cj st aj (n::kX)):cj st aj kX:=fun o bn=>h o (List.mem_cons_of_mem _ bn)
theorem pV{N:List Nat}(h:cj st aj (eP st N)):cj st aj N:=by
 induction N with
 |nil=>intro o bn;cases bn
 |cons n N ih=>
  intro o bn;rcases List.mem_cons.1 bn with rfl|bn
  ·exact h.head
  ·exact ih h.tail.right o bn
theorem OZ{N:List Nat}(h:cj st aj (eP st N)){o:Nat}(bn:o∈N):cj st aj (yF st o):=by
 induction N with
 |nil=>cases bn
 |cons n N ih=>
  rcases List.mem_cons.1 bn with rfl|bn
  ·exact h.tail.left
  ·exact ih h.tail.right bn
theorem y9{N kX:List Nat}:eP st (N++kX)=eP st N++eP st kX:=by
 induction N with
 |nil=>rfl
 |cons n N ih=>simp[eP,ih]
theorem NS{l:aD}(h:cj st aj l.names):kd st l=kd aj l:=by
 cases l<;>try rfl
 case own o s=>simp only[kd,mZ];rw[oD (h.head) s,vm h.head s,h.head]
 case clo g bP=>cases bP<;>rfl
theorem yA{aa:List aD}(h:cj st aj (cS aa)):h_ st aa=h_ aj aa:=by
 induction aa with
 |nil=>rfl
 |cons l aa ih=>
  simp only[cS] at h;simp only[h_,NS h.left,ih h.right]
theorem _O{l:aD}(h:cj st aj l.names):sink st l=sink aj l:=by
 cases l<;>try rfl
 case own o s=>simp only[sink];rw[h.head]
 case d v=>cases v<;>rfl
theorem DE{aa:List aD}(h:cj st aj (cS aa)):sinks st aa=sinks aj aa:=by
 induction aa with
 |nil=>rfl
 |cons l aa ih=>
  simp only[cS] at h;simp only[sinks,_O h.left,ih h.right]
theorem DL{o s:Nat}{cells:List aD}(h:ga st o s=some cells):yF st o=cS cells:=by
 unfold ga at h;cases M:st.Y o with
 |none=>rw[M] at h;cases h
 |some x=>
  rw[M] at h;cases x with
  |box ar cs=>
   have h:(bif ar.beq s then some cs else none)=some cells:=h
   unfold yF;rw[M];cases hb:ar.beq s with
   |true=>simp only[hb,cond_true,Option.some.injEq] at h;subst h;rfl
   |false=>simp[hb] at h
  |row _ _ _=>cases h
  |da _ _ _=>cases h
  |deep _ _ _=>cases h
  |map _ _ _=>cases h
  |eB _ _=>cases h
  |tail _ _ _=>cases h
  |dead _=>cases h
theorem _f{agg:Bool}{n:Nat}{a:aP}(h:cj st aj a.names):tZ agg n st a=tZ agg n aj a:=by
 unfold tZ;split
 ·rename_i o s off;rw[vp (show st.Y o=aj.Y o from h o (by simp[aP.names,bH.cells,cS,aD.names]))]
 ·rfl
 ·rename_i o s u k off;rw[_T (show st.Y o=aj.Y o from h o (by simp[aP.names,bH.cells,cS,aD.names]))]
 ·rfl
theorem Zf{n:Nat}{a:aP}{v:bH}(h:cj st aj a.names)(hv:cj st aj (cS v.cells)):tl n st a v=tl n aj a v:=by
 unfold tl;congr 1
 split
 ·rename_i o s off;rw[vp (show st.Y o=aj.Y o from h o (by simp[aP.names,bH.cells,cS,aD.names]))]
 ·rename_i o s u k off;rw[show st.Y o=aj.Y o from h o (by simp[aP.names,bH.cells,cS,aD.names]),yA hv,DE hv]
 ·rfl
theorem YB{u:aJ}{x:aP}{i:Int}(h:cj st aj x.names):sR u st x i=sR u aj x i:=by
 unfold sR;split
 ·rfl
 ·rename_i o s;rw[Mk (show st.Y o=aj.Y o from h o (by simp[aP.names,bH.cells,cS,aD.names]))]
 ·rfl
theorem Zj{ti:cm}{x:aP}{cp hi:Option aP}(h:cj st aj x.names):tq ti st x cp hi=tq ti aj x cp hi:=by
 unfold tq;split
 ·rfl
 ·rfl
 ·rfl
 ·rename_i o s;simp only[mZ];rw[oD (show st.Y o=aj.Y o from h o (by simp[aP.names,bH.cells,cS,aD.names])),show st.Y o=aj.Y o from h o (by simp[aP.names,bH.cells,cS,aD.names])]
 ·rfl
theorem Zx{x:aP}(h:cj st aj x.names):tB st x=tB aj x:=by
 unfold tB;split
 ·rename_i o s;rw[yn (show st.Y o=aj.Y o from h o (by simp[aP.names,bH.cells,cS,aD.names]))]
 ·rfl
theorem Zk{ti:cm}{dst:Nat}{x:aP}{cp hi:Option aP}(h:cj st aj x.names)(Z:st.Y dst=aj.Y dst):tr ti dst st x cp hi=tr ti dst aj x cp hi:=by
 unfold tr;split
 ·rename_i o s;have e:∀v,a6 (st.df o (.dead v)) dst=a6 (aj.df o (.dead v)) dst:=fun v=>by
   apply kZ;rw[ai.lO,ai.lO,Z]
  rw[yn (show st.Y o=aj.Y o from h o (by simp[aP.names,bH.cells,cS,aD.names]))]
  simp only[e]
 ·rfl
theorem Zt{l:aD}(h:cj st aj l.names):qa st l=qa aj l:=by
 cases l<;>try rfl
 case own o s=>simp only[qa];rw[h.head]
theorem L6{l:aD}(h:cj st aj l.names):mapOf st l=mapOf aj l:=by
 cases l<;>try rfl
 case own o s=>simp only[mapOf];rw[h.head]
 case d v=>cases v<;>rfl
theorem aag{ti:cm}{x:aP}(h:cj st aj x.names):uq ti st x=uq ti aj x:=by
 unfold uq;split<;>try rfl
 rotate_left
 ·rename_i l;rw[L6 (l:=l) (fun o bn=>h o (by simp[aP.names,bH.cells,cS,bn]))]
 rename_i o s;rw[Mk (show st.Y o=aj.Y o from h o (by simp[aP.names,bH.cells,cS,aD.names]))]
theorem ZY{x:aP}(h:cj st aj x.names):tQ st x=tQ aj x:=by
 unfold tQ;split<;>try rfl
 rename_i o s;rw[oD (show st.Y o=aj.Y o from h o (by simp[aP.names,bH.cells,cS,aD.names]))]
theorem Ln{o dst s:Nat}(Z:st.Y dst=aj.Y dst):a6 (st.df o (.dead s)) dst=a6 (aj.df o (.dead s)) dst:=by
 apply kZ;rw[ai.lO,ai.lO,Z]
theorem LA{bytes:Nat}{t:aJ}{dst:Nat}{s:aP}{ys:List (den t)}(h:cj st aj s.names)(Z:st.Y dst=aj.Y dst):re bytes t dst st s ys=re bytes t dst aj s ys:=by
 unfold re;split
 ·simp only[kZ Z]
 ·rename_i o s;simp only[show st.Y o=aj.Y o from h o (by simp[aP.names,bH.cells,cS,aD.names]),Ln Z]
 ·rfl
theorem Y5{bytes:Nat}{t:aJ}{dst:Nat}{s x:aP}(h:cj st aj s.names)(hx:cj st aj x.names)(Z:st.Y dst=aj.Y dst):tg bytes t dst st s x=tg bytes t dst aj s x:=by
 unfold tg;rw[ZY hx];split
 ·rfl
 ·split
  ·split
   ·exact LA h Z
   ·rfl
  ·rfl
theorem Zy{x:aP}(h:cj st aj x.names):wa st x=wa aj x:=by
 unfold wa;split
 ·rename_i o s;rw[vm (show st.Y o=aj.Y o from h o (by simp[aP.names,bH.cells,cS,aD.names]))]
 ·rfl
theorem Y7{bytes:Nat}{t:aJ}{dst:Nat}{s x:aP}(h:cj st aj s.names)(hx:cj st aj x.names)(Z:st.Y dst=aj.Y dst):tj bytes t dst st s x=tj bytes t dst aj s x:=by
 have e2:∀H u o v,a6 ((st.df H (.dead u)).df o (.dead v)) dst=a6 ((aj.df H (.dead u)).df o (.dead v)) dst:=fun H u o v=>by
  apply kZ;rw[ai.lO,ai.lO,ai.lO,ai.lO,Z]
 unfold tj;split
 ·rename_i H u;rw[vm (show st.Y H=aj.Y H from hx H (by simp[aP.names,bH.cells,cS,aD.names]))]
  split
  ·split
   ·split
    ·simp only[Ln Z]
    ·rename_i _ o s;rw[vm (show st.Y o=aj.Y o from h o (by simp[aP.names,bH.cells,cS,aD.names]))]
     simp only[e2]
    ·rfl
   ·rfl
  ·rfl
 ·rfl
theorem Y6{bytes:Nat}{t:aJ}{dst:Nat}{s x:aP}(h:cj st aj s.names)(Z:st.Y dst=aj.Y dst):th bytes t dst st s x=th bytes t dst aj s x:=by
 unfold th;split
 ·split
  ·exact LA h Z
  ·rfl
 ·rfl
theorem Mx{o:Nat}{t:aJ}{n:Nat}{xs:List (den t)}(Z:st.Y o=aj.Y o):rI o st t n xs=rI o aj t n xs:=by
 unfold rI;rw[kZ Z]
theorem ZG{o:Nat}{t:aJ}{n:Nat}(Z:st.Y o=aj.Y o):tM o st t n=tM o aj t n:=by
 unfold tM;split<;>first|exact Mx Z|rfl
theorem aaD{o:Nat}{t:aJ}{n:Nat}{v:aP}(Z:st.Y o=aj.Y o):uB o st t n v=uB o aj t n v:=by
 unfold uB;split
 ·split<;>first|exact Mx Z|rfl
 ·rfl
theorem _g{t:aJ}{n:Nat}{a:aP}(h:cj st aj a.names):t_ st t n a=t_ aj t n a:=by
 unfold t_;split
 ·rename_i o s u;rw[oD (show st.Y o=aj.Y o from h o (by simp[aP.names,bH.cells,cS,aD.names]))]
 ·rfl
theorem Zg{t:aJ}{n:Nat}{a:aP}{v:bH}(h:cj st aj a.names):tn st t n a v=tn aj t n a v:=by
 unfold tn;split
 ·rename_i o s u aa;rw[show st.Y o=aj.Y o from h o (by simp[aP.names,bH.cells,cS,aD.names])]
 ·rfl
theorem YC{C:Ctx}{t:aJ}{n:Nat}{x:aP}{i:Int}(h:cj st aj x.names):sS C st t n x i=sS C aj t n x i:=by
 unfold sS;split
 ·rename_i o s u;rw[oD (show st.Y o=aj.Y o from h o (by simp[aP.names,bH.cells,cS,aD.names]))]
 ·rfl
 ·rfl
theorem Zl{t:aJ}{n:Nat}{x:aP}{cp hi:Option aP}(h:cj st aj x.names):ts st t n x cp hi=ts aj t n x cp hi:=by
 unfold ts;split
 ·rename_i o s u;simp only[mZ];rw[oD (show st.Y o=aj.Y o from h o (by simp[aP.names,bH.cells,cS,aD.names])),show st.Y o=aj.Y o from h o (by simp[aP.names,bH.cells,cS,aD.names])]
 ·rfl
theorem aaz{t:aJ}{as:List bH}(h:cj st aj (pX as)):l' t st as=l' t aj as:=by
 induction as with
 |nil=>rfl
 |cons a as ih=>
  simp only[pX] at h;simp only[l',yA h.left,ih h.right]
theorem Zm{t:aJ}{as:List bH}(h:cj st aj (pX as)):nE t st as=nE t aj as:=by
 induction as with
 |nil=>rfl
 |cons a as ih=>
  simp only[pX] at h;simp only[nE,DE h.left,ih h.right]
theorem _r{C:Ctx}{src dst:TypeId}{o:Nat}{x:aP}(h:cj st aj x.names)(Z:st.Y o=aj.Y o):uf C src dst o st x=uf C src dst o aj x:=by
 unfold uf;split<;>try rfl
 ·rename_i H s _ _;rw[oD (show st.Y H=aj.Y H from h H (by simp[aP.names,bH.cells,cS,aD.names]))]
 ·rw[kZ Z]
theorem LM{bP:List (Nat×Nat)}(h:cj st aj (eP st (keys bP))):l1 st bP=l1 aj bP:=by
 induction bP with
 |nil=>rfl
 |cons p bP ih=>
  obtain⟨o,s⟩:=p;simp only[keys,eP] at h;simp only[l1];rw[<-vp h.head,<-ih h.tail.right];cases hb:ga st o s with
  |none=>rfl
  |some cells=>
   have:=h.tail.left;rw[DL hb] at this;simp only[yA this]
theorem DT{l:aD}(h:cj st aj (eP st l.names)):nX st l=nX aj l:=by
 have Z:=NS (pV h);unfold nX;split
 ·rfl
 ·rename_i g c cs;simp only[aD.names] at h;rw[LM h]
 ·rw[Z]
theorem _h{aa:List aD}(h:cj st aj (eP st (cS aa))):mM st aa=mM aj aa:=by
 induction aa with
 |nil=>rfl
 |cons l aa ih=>
  simp only[cS,y9] at h;simp only[mM,DT h.left,ih h.right]
theorem Ma{l:aD}(h:cj st aj l.names):nO st l=nO aj l:=by
 unfold nO;split<;>try rfl
 rename_i o s;rw[show st.Y o=aj.Y o from h.head]
theorem aal{aa:List aD}(h:cj st aj (cS aa)):kC st aa=kC aj aa:=by
 induction aa with
 |nil=>rfl
 |cons l aa ih=>
  simp only[cS] at h;simp only[kC,Ma h.left,ih h.right]
def hy:List aP->List Nat
 |[]=>[]
 |v::vs=>v.names++hy vs
theorem LI{vs:List aP}(h:cj st aj (eP st (hy vs))):js st vs=js aj vs:=by
 induction vs with
 |nil=>rfl
 |cons v vs ih=>
  simp only[hy,y9] at h;have ih:=ih h.right;have h:=h.left;cases v with
  |jE as=>rfl
  |av a=>
   cases a with
   |agg aa=>
    simp only[js];rw[_h (by simpa[aP.names,bH.cells] using h),ih]
   |am l=>
    have hl:cj st aj (eP st l.names):=by simpa[aP.names,bH.cells,cS] using h
    unfold js;split
    ·rfl
    ·rename_i o s anc b5;cases b5;have hl:cj st aj (eP st [o]):=by simpa[aP.names,bH.cells,cS,aD.names] using h
     simp only[eP] at hl;rw[<-vp hl.head,<-ih];cases hb:ga st o s with
     |none=>rfl
     |some cells=>
      have:=hl.tail.left;rw[DL hb] at this;cases js st vs with
      |none=>rfl
      |some r=>simp only[aal this]
    ·rename_i fG anc _ b5;cases b5;rw[DT hl,ih]
    ·rename_i b5;cases b5
    ·rfl
theorem LL{l:aD}(h:cj st aj (eP st l.names)):mH st l=mH aj l:=by
 unfold mH;split
 ·rw[Ma (pV h)]
 ·rfl
 ·rw[DT h]
theorem Y2{aa:List aD}(h:cj st aj (eP st (cS aa))):mF st aa=mF aj aa:=by
 induction aa with
 |nil=>rfl
 |cons l aa ih=>
  simp only[cS,y9] at h;simp only[mF,LL h.left,ih h.right]
theorem _l{l:aD}(h:cj st aj l.names):l6 st l=l6 aj l:=by
 unfold l6;split<;>try rfl
 rename_i o s;rw[show st.Y o=aj.Y o from h.head]
theorem L1{aa dF:List aD}(h:cj st aj (cS aa)):o4 st aa dF=o4 aj aa dF:=by
 unfold o4;have:aa.map (l6 st)=aa.map (l6 aj):=by
  induction aa with
  |nil=>rfl
  |cons l aa ih=>
   simp only[cS] at h;simp only[List.map_cons,_l h.left,ih h.right]
 rw[this]
theorem YW{vs:List aP}(h:cj st aj (eP st (hy vs))):k0 st vs=k0 aj vs:=by
 induction vs with
 |nil=>rfl
 |cons v vs ih=>
  simp only[hy,y9] at h;have ih:=ih h.right;have h:=h.left;cases v with
  |jE as=>rfl
  |av a=>
   cases a with
   |agg aa=>
    have hl:cj st aj (eP st (cS aa)):=by simpa[aP.names,bH.cells] using h
    simp only[k0,Y2 hl,ih,L1 (pV hl)]
   |am l=>
    have hl:cj st aj (eP st l.names):=by simpa[aP.names,bH.cells,cS] using h
    have ic:cj st aj (cS [l]):=by simpa[cS] using pV hl
    simp only[k0,LL hl,ih,L1 ic]
theorem YV{b:Bool}{vs:List aP}(h:cj st aj (eP st (hy vs))):s_ b st vs=s_ b aj vs:=by
 cases b
 ·exact LI h
 ·exact YW h
theorem vn(hb:∀o,1000000<=o->st.Y o=aj.Y o){o:Nat}(h:1000000<=o):a6 st o=a6 aj o:=kZ (hb o h)
theorem DN(hb:∀o,1000000<=o->st.Y o=aj.Y o):∀{aa:List aD} {n:Nat},1000000<=n->take st n aa=take aj n aa:=by
 intro aa;induction aa with
 |nil=>intro n _;rfl
 |cons l aa ih=>
  intro n hn;cases l<;>simp only[take,ih (show 1000000<=n+1 by omega),vn hb hn]
theorem ZV(hb:∀o,1000000<=o->st.Y o=aj.Y o):∀{as:List bH} {n:Nat},1000000<=n->dY st n as=dY aj n as:=by
 intro as;induction as with
 |nil=>intro n _;rfl
 |cons a as ih=>
  intro n hn;cases a with
  |am l=>simp only[dY];rw[DN hb hn,ih (show 1000000<=n+100 by omega)]
  |agg aa=>simp only[dY];rw[DN hb hn,ih (show 1000000<=n+100 by omega)]
theorem ZU(hb:∀o,1000000<=o->st.Y o=aj.Y o):∀{bs:List (Nat×Nat)} {cJ:List (List aD)},fq st bs cJ=fq aj bs cJ:=by
 intro bs;induction bs with
 |nil=>intro cJ;cases cJ<;>rfl
 |cons p bs ih=>
  obtain⟨o,s⟩:=p;intro cJ;cases cJ with
  |nil=>rfl
  |cons cs cJ=>simp only[fq];rw[DN hb (by omega),ih]
theorem Mf(hb:∀o,1000000<=o->st.Y o=aj.Y o){dst:Nat}{S:bb}{a:kE}:qi dst st S a=qi dst aj S a:=by
 unfold qi;simp only[ZU hb,ZV hb (show 1000000<=2000000+dst*10000 by omega)]
theorem Zh{g:FuncId}{n:Nat}{vs:List aP}(hb:∀o,1000000<=o->st.Y o=aj.Y o)(hn:1000000<=n):to g n st vs=to g n aj vs:=by
 unfold to;rw[vn hb hn,vn hb (show 1000000<=n+1 by omega),vn hb (show 1000000<=n+2 by omega)]
theorem Z9{n:Nat}{vs:List aP}(hb:∀o,1000000<=o->st.Y o=aj.Y o)(hn:1000000<=n):tU n st vs=tU n aj vs:=by
 unfold tU;rw[vn hb hn]
theorem _q{vs:List aP}(h:cj st aj (eP st (hy vs))):copyV st vs=copyV aj vs:=by
 unfold copyV;split
 ·rename_i o s;rw[show st.Y o=aj.Y o from pV h o (by simp[hy,aP.names,bH.cells,cS,aD.names])]
 ·rfl
theorem YR{vs:List aP}(h:cj st aj (eP st (hy vs))):s7 st vs=s7 aj vs:=by
 unfold s7;split
 ·rename_i o s;have h0:o∈hy [aP.av (.am (.ptr o s 0))]:=by simp[hy,aP.names,bH.cells,cS,aD.names]
  rw[<-vp (pV h o h0)];split
  ·rfl
  ·rename_i X6 H u hb;have:=OZ h h0;rw[DL hb] at this;rw[show st.Y H=aj.Y H from this H (by simp[cS,aD.names])]
  ·rfl
 ·rfl
theorem Lt{C:Ctx}(hb:∀o,1000000<=o->st.Y o=aj.Y o){dst:Nat}{f:aP}{vs:List aP}(hf:cj st aj (eP st f.names))(h:cj st aj (eP st (hy vs))):mD C dst st f vs=mD C dst aj f vs:=by
 unfold mD;split
 ·rename_i g bP;have:cj st aj (eP st (keys bP)):=by simpa[aP.names,bH.cells,cS,aD.names] using hf
  simp only[YV h,LM this,Mf hb,Zh hb (show 1000000<=3000000+dst*10 by omega),Z9 hb (show 1000000<=4000000+dst by omega),_q h,YR h]
 ·simp only[LI h,Mf hb]
 ·rfl
theorem adV{C:Ctx}{x:Operand}{T:TypeId}(h:∀t,x=.tmp t->st.get t=aj.get t):aS C st T x=aS C aj T x:=by
 cases x with
 |tmp t=>exact h t rfl
 |_=>rfl
theorem Y3{ti:cm}{v:Value}:(vX ti v).names=[]:=by
 unfold vX;split<;>try rfl
 all_goals(split<;>rfl)
theorem zs{C:Ctx}{x:Operand}{T:TypeId}:∀{xs:List Operand},x∈xs->∀o,o∈(aS C st T x).names->o∈oQ st xs:=by
 intro xs;induction xs with
 |nil=>intro h;cases h
 |cons y xs ih=>
  intro h o bn;rcases List.mem_cons.1 h with rfl|h
  ·cases x with
   |tmp t=>simp only[oQ];exact List.mem_append.2 (.inl bn)
   |const v=>simp only[aS,Y3] at bn;cases bn
   |global g=>simp[aS,aP.names,bH.cells,cS,aD.names,bZ] at bn
   |func g=>simp[aS,aP.names,bH.cells,cS,aD.names,bZ,keys] at bn
  ·have:=ih h o bn;cases y<;>simp only[oQ]<;>first|exact List.mem_append.2 (.inr this)|exact this
theorem Z_{t:Nat}:∀{xs:List Operand},.tmp t∈xs->t∈pZ xs:=by
 intro xs;induction xs with
 |nil=>intro h;cases h
 |cons y xs ih=>
  intro h;rcases List.mem_cons.1 h with h|h
  ·subst h;simp only[pZ];exact List.mem_cons_self
  ·have:=ih h;cases y<;>simp only[pZ]<;>first|exact List.mem_cons_of_mem _ this|exact this
theorem MN{v:aP}{a:bH}(h:m6 v=some a):cS a.cells=v.names:=by
 cases v with
 |av b=>simp only[m6,Option.some.injEq] at h;subst h;rfl
 |jE _=>cases h
theorem Mi{vs:List aP}:∀{as:List bH},nQ vs=some as->∀o,o∈pX as->o∈hy vs:=by
 induction vs with
 |nil=>intro as h;simp only[nQ,Option.some.injEq] at h;subst h;intro o bn;cases bn
 |cons v vs ih=>
  intro as h o bn;simp only[nQ] at h;split at h
  ·rename_i a kf h1 h2;simp only[Option.some.injEq] at h;subst h;simp only[pX,List.mem_append] at bn;simp only[hy,List.mem_append];rcases bn with bn|bn
   ·exact .inl (by rw[MN h1] at bn;exact bn)
   ·exact .inr (ih h2 o bn)
  ·cases h
end
theorem _L{C:Ctx}{st aj:ai}{D:Oper}(M:∀t,t∈pZ (l3 D.op)->st.get t=aj.get t)(hn:cj st aj (HT C st D))(hb:Ba D.op=true->∀o,1000000<=o->st.Y o=aj.Y o):
  step C st D=step C aj D:=by
 have he:∀x,x∈l3 D.op->∀T,aS C st T x=aS C aj T x:=fun x hx T=>adV fun t aA=>M t (Z_ (aA▸hx))
 have Ux:looks D.op=true->cj st aj (eP st (oQ st (l3 D.op))):=fun h=>by have:=hn.left.left;rw[h] at this;exact this
 have Uo:looks D.op=true->∀x,x∈l3 D.op->∀T,cj st aj (aS C st T x).names:=fun hl x hx T o bn=>pV (Ux hl) o (zs hx o bn)
 have Rw:looks D.op=true->∀N:List Nat,(∀o,o∈N->o∈oQ st (l3 D.op))->cj st aj (eP st N):=by
  intro hl N;have xN:=Ux hl;induction N with
  |nil=>intro _ o bn;cases bn
  |cons n N ih=>
   intro h o bn;simp only[eP,List.mem_cons,List.mem_append] at bn;rcases bn with rfl|bn|bn
   ·exact pV xN o (h o List.mem_cons_self)
   ·exact OZ xN (h n List.mem_cons_self) o bn
   ·exact ih (fun H br=>h H (List.mem_cons_of_mem _ br)) o bn
 have Z:∀d,D.dst=some d->st.Y d=aj.Y d:=fun d h=>hn.left.right d (by simp[h])
 have hz:cj st aj (HF C D.op):=hn.right;obtain⟨dst,op,type,pos,after,guard⟩:=D;simp only at he Uo Rw Z hb hz;cases op<;>(try have fv:=Uo rfl)<;>(try have l5:=Rw rfl)<;>(try simp only[l3,List.mem_cons,List.not_mem_nil,or_false,forall_eq_or_imp,forall_eq] at he)<;>
  (try simp only[l3,List.mem_cons,List.not_mem_nil,or_false,forall_eq_or_imp,forall_eq] at fv)<;>simp only[step]<;>try rfl
 case move x=>rw[he]
 case assign x=>rw[he]
 case makeMap t r=>
  simp only[lV];cases dst with
  |none=>rfl
  |some o=>
   have e:=kZ (Z o rfl);cases C.tt t<;>try rfl
   cases r with
   |none=>simp only[e]
   |some x=>simp only[he x (by simp[l3]),e]
 case lookup t m k c=>
  simp only[lV];rw[he.1,he.2];have h1:=fv.1 t;rw[he.1] at h1;generalize aS C aj t m=XY at h1 ⊢;split
  ·rename_i ty l n _ _;have hl:cj st aj l.names:=fun o bn=>h1 o (by simp[aP.names,bH.cells,cS,bn])
   rw[L6 hl,Zt hl];cases mapOf aj l with
   |some _=>rfl
   |none=>
    cases ty<;>try rfl
    cases qa aj l with
    |none=>rfl
    |some p=>
     cases dst with
     |none=>rfl
     |some d=>simp only[kZ (Z d rfl)]
  ·rfl
 case mapUpdate t m k x=>
  simp only[lV,lV.tz];rw[he.1,he.2.1,he.2.2];have h1:=fv.1 t;rw[he.1] at h1;have h2:=fv.2.2 0;rw[he.2.2] at h2;generalize aS C aj t m=XY at h1 ⊢;generalize aS C aj 0 x=aqT at h2 ⊢;split
  ·rename_i o s n d _ _;rw[show st.Y o=aj.Y o from h1 o (by simp[aP.names,bH.cells,cS,aD.names])]
  ·rename_i o s n H u _ _;rw[show st.Y o=aj.Y o from h1 o (by simp[aP.names,bH.cells,cS,aD.names]),show st.Y H=aj.Y H from h2 H (by simp[aP.names,bH.cells,cS,aD.names])]
  ·rfl
 case insert t m k x=>
  simp only[lV,lV.tz];rw[he.1,he.2.1,he.2.2];have h1:=fv.1 t;rw[he.1] at h1;have h2:=fv.2.2 0;rw[he.2.2] at h2;generalize aS C aj t m=XY at h1 ⊢;generalize aS C aj 0 x=aqT at h2 ⊢;split
  ·rename_i o s n d _ _;rw[show st.Y o=aj.Y o from h1 o (by simp[aP.names,bH.cells,cS,aD.names])]
  ·rename_i o s n H u _ _;rw[show st.Y o=aj.Y o from h1 o (by simp[aP.names,bH.cells,cS,aD.names]),show st.Y H=aj.Y H from h2 H (by simp[aP.names,bH.cells,cS,aD.names])]
  ·rfl
 case pick c a b=>rw[he.1,he.2.1,he.2.2]
 case alloc elem=>
  cases dst with
  |none=>rfl
  |some o=>
   have e:=kZ (Z o rfl);cases aZ:C.tt elem with
   |arr _ t n=>exact ZG (Z o rfl)
   |_=>simp only[e]
 case box elem x=>
  rw[he];cases dst with
  |none=>rfl
  |some o=>
   have e:=kZ (Z o rfl);cases aZ:C.tt elem with
   |arr _ t n=>exact aaD (Z o rfl)
   |_=>simp only[e]
 case build t F=>
  have go:∀(b1:List (Nat×Nat)) (r:List (Nat×Operand)) (z:List aD),(∀x,x∈r.map (·.2)->∀T,aS C st T x=aS C aj T x)->step.nK C st b1 z r=step.nK C aj b1 z r:=by
    intro b1 r;induction r with
    |nil=>intro z _;rfl
    |cons p r ih=>
     obtain⟨i,x⟩:=p;intro z h;simp only[step.nK];rw[h x (by simp)]
     split
     ·rw[ih _ fun x hx=>h x (by simp only[List.map_cons,List.mem_cons];exact .inr hx)]
     ·rfl
  split
  ·exact go _ _ _ he
  ·split
   ·exact go _ _ _ he
   ·rfl
  ·rfl
 case buildSlice t len F=>
  cases dst with
  |none=>rfl
  |some o=>
   cases h2:C.tt t<;>try rfl
   rename_i e ty bytes;simp only;have h1:some o=some o:=rfl;have em:(F.toList.map fun p=>aS C st e p.2)=F.toList.map fun p=>aS C aj e p.2:=by
    apply List.map_congr_left;intro p ag;exact he _ (List.mem_map.2 ⟨p,ag,rfl⟩) e
   have iS:cj st aj (hy (F.toList.map fun p=>aS C st e p.2)):=by
    have:∀l:List (Nat×Operand),(∀p,p∈l->p∈F.toList)->cj st aj (hy (l.map fun p=>aS C st e p.2)):=by
     intro l;induction l with
     |nil=>intro _ o bn;cases bn
     |cons p l ih=>
      intro h o bn;simp only[List.map_cons,hy,List.mem_append] at bn;rcases bn with bn|bn
      ·exact fv _ (List.mem_map.2 ⟨p,h p List.mem_cons_self,rfl⟩) e o bn
      ·exact ih (fun q ao=>h q (List.mem_cons_of_mem _ ao)) o bn
    exact this _ fun _ h=>h
   rw[<-em,kZ (Z o h1)];congr 1
   split
   ·rename_i as has;rw[aaz fun H br=>iS H (Mi has H br),Zm fun H br=>iS H (Mi has H br)]
   ·rfl
 case load t a=>
  rw[<-he];split
  ·exact _g (fv _)
  ·rw[_f (fv _)]
 case store t a x=>
  rw[<-he.1,<-he.2];split
  ·rename_i v hv;split
   ·exact Zg (fv.1 _)
   ·rw[Zf (fv.1 _) (by rw[MN hv];exact fv.2 _)]
  ·rfl
 case nilCheck x=>rw[he]
 case makeInterface t x=>simp only[lV];rw[he]
 case binOp op t x y ty=>rw[he.1,he.2]
 case unOp op t x=>rw[he]
 case convert src att x=>
  cases dst with
  |none=>rfl
  |some o=>simp only;rw[<-he,_r (fv _) (Z o rfl)]
 case makeFunc fn first captured=>
  split
  ·rename_i g;have go:∀(r:List Operand),(∀x,x∈r->∀T,aS C st T x=aS C aj T x)->step.o6 C st r=step.o6 C aj r:=by
    intro r;induction r with
    |nil=>intro _;rfl
    |cons x r ih=>
     intro h;simp only[step.o6];rw[h x (by simp),ih fun x hx=>h x (List.mem_cons_of_mem _ hx)]
   rw[go _ he]
  ·rfl
 case makeSlice t l c=>
  rw[<-he.1,<-he.2];cases dst with
  |none=>rfl
  |some o=>
   cases h2:C.tt t<;>try rfl
   rename_i e ty bytes;simp only[HF,h2] at hz;have e1:=kZ (Z o rfl);have e2:∀z n m,(C.tt e).zero=some z->rJ C.eo bytes o st ty n m z=rJ C.eo bytes o aj ty n m z:=fun z n m hzz=>by
    simp only[hzz] at hz;unfold rJ;rw[yA hz,DE hz,e1]
   generalize aS C st 0 l=u7;generalize aS C st 0 c=lB;have eu:∀n m:Int,(match(C.tt e).zero with
      |some z=>rJ C.eo bytes o st ty n m z
      |none=>.fail)=(match(C.tt e).zero with
      |some z=>rJ C.eo bytes o aj ty n m z
      |none=>.fail):=by
    intro n m;cases hzz:(C.tt e).zero with
    |none=>rfl
    |some z=>exact e2 z n m hzz
   rcases u7 with(cx|_)|_<;>try rfl
   cases cx<;>try rfl
   rename_i d1;cases d1<;>try rfl
   rcases lB with(ea|_)|_<;>try rfl
   cases ea<;>try rfl
   rename_i d2;cases d2<;>try rfl
   exact eu _ _
 case slice t x cp hi Di=>
  cases Di with
  |some _=>rfl
  |none=>
   simp only;have e1:cp.map (aS C st 0)=cp.map (aS C aj 0):=by
    cases cp with
    |none=>rfl
    |some y=>simp only[Option.map_some];rw[he.2 y (by simp)]
   have e2:hi.map (aS C st 0)=hi.map (aS C aj 0):=by
    cases hi with
    |none=>rfl
    |some y=>simp only[Option.map_some];rw[he.2 y (by simp)]
   rw[<-he.1,e1,e2];rw[Zx (fv.1 t)];split
   ·exact Zl (fv.1 _)
   ·cases tB aj (aS C st t x) with
    |true=>
     cases dst with
     |none=>rfl
     |some d=>exact Zk (fv.1 _) (Z d rfl)
    |false=>exact Zj (fv.1 _)
 case fieldAddr s x f=>rw[he]
 case indexAddr t x i=>
  rw[<-he.1,<-he.2];split
  ·rw[YB (fv.1 _)]
  ·rw[YC (fv.1 _)]
  ·rfl
 case index t x i=>rw[he.1,he.2]
 case extract t i=>rw[he]
 case call c=>
  obtain⟨apy,args,Jv⟩:=c;simp only;cases apy with
  |invoke r m=>rfl
  |value f=>
   simp only[l3,List.mem_append,List.mem_cons,List.not_mem_nil,or_false] at l5;simp only[Ba,forall_const] at hb;simp only[List.mem_append,List.mem_cons,List.not_mem_nil,or_false] at he;have em:∀(xs:List Operand) (cY:List TypeId),(∀x,x∈xs->∀T,aS C st T x=aS C aj T x)->gT C st xs cY=gT C aj xs cY:=by
    intro xs;induction xs with
    |nil=>intro cY _;cases cY<;>rfl
    |cons x xs ih=>
     intro cY h;cases cY with
     |nil=>simp only[gT];rw[h x (by simp),ih [] fun y al=>h y (List.mem_cons_of_mem _ al)]
     |cons T cY=>simp only[gT];rw[h x (by simp),ih cY fun y al=>h y (List.mem_cons_of_mem _ al)]
   have K5:∀(xs ys:List Operand) (cY:List TypeId),(∀x,x∈xs->x∈ys)->∀o,o∈hy (gT C st xs cY)->o∈oQ st ys:=by
    intro xs ys;induction xs with
    |nil=>intro cY _ o bn;cases cY<;>cases bn
    |cons x xs ih=>
     intro cY h o bn;cases cY with
     |nil=>
      simp only[gT,hy,List.mem_append] at bn;rcases bn with bn|bn
      ·exact zs (h x List.mem_cons_self) o bn
      ·exact ih [] (fun y al=>h y (List.mem_cons_of_mem _ al)) o bn
     |cons T cY=>
      simp only[gT,hy,List.mem_append] at bn;rcases bn with bn|bn
      ·exact zs (h x List.mem_cons_self) o bn
      ·exact ih cY (fun y al=>h y (List.mem_cons_of_mem _ al)) o bn
   have h1:cj st aj (eP st (aS C st 0 f).names):=l5 _ fun o bn=>zs (List.mem_append.2 (.inl (by simp))) o bn
   have h2:cj st aj (eP st (hy (gT C st args.toList Jv.toList))):=l5 _ fun o bn=>K5 _ _ _ (fun x hx=>List.mem_append.2 (.inr hx)) o bn
   have ab:=he f (.inl rfl) 0;have aF:=em args.toList Jv.toList fun x hx=>he x (.inr hx)
   cases dst with
   |none=>show mD C 0 st _ _=mD C 0 aj _ _;rw[<-ab,<-aF];exact Lt hb h1 h2
   |some d=>show mD C d st _ _=mD C d aj _ _;rw[<-ab,<-aF];exact Lt hb h1 h2
  |builtin b=>
   simp only[List.nil_append] at he fv;generalize args.toList=xs at he fv;generalize Jv.toList=di;cases b<;>try rfl
   case append=>
    rcases dst with _|o
    ·rfl
    rcases xs with _|⟨s,_|⟨x,_|_⟩⟩<;>try rfl
    rcases di with _|⟨t,_|⟨u,_|_⟩⟩<;>try rfl
    have e1:=he s (by simp) t
    have e2:=he x (by simp) u
    dsimp only;cases C.tt t<;>try rfl
    cases C.tt u<;>try rfl
    all_goals dsimp only
    all_goals rw[<-e1,<-e2]
    all_goals first|(rw[Zy (fv x (by simp) _),Y7 (fv s (by simp) _) (fv x (by simp) _) (Z o rfl),Y5 (fv s (by simp) _) (fv x (by simp) _) (Z o rfl)];done)|exact Y6 (fv s (by simp) _) (Z o rfl)
   case len=>
    rcases xs with _|⟨s,_|⟨x,_|_⟩⟩<;>try rfl
    rcases di with _|⟨t,_|⟨u,_|_⟩⟩<;>try rfl
    have e1:=he s (by simp) t
    dsimp only;rw[<-e1];exact aag (fv s (by simp) _)
   case max=>
    rcases xs with _|⟨s,_|⟨x,_|⟨z,_|⟨u,_|⟨v,_|_⟩⟩⟩⟩⟩<;>try rfl
    ·have e1:=he s (by simp) type
     have e2:=he x (by simp) type
     dsimp only;rw[<-e1,<-e2]
    ·have e1:=he s (by simp) type
     have e2:=he x (by simp) type
     have b0:=he z (by simp) type
     have eu:=he u (by simp) type
     have fI:=he v (by simp) type
     dsimp only;rw[<-e1,<-e2,<-b0,<-eu,<-fI]
   case min=>
    rcases xs with _|⟨s,_|⟨x,_|_⟩⟩<;>try rfl
    have e1:=he s (by simp) type
    have e2:=he x (by simp) type
    dsimp only;rw[<-e1,<-e2]
section
variable {P:Program}{U:World}{O:List Nat}{X:Nat->Prop}{B:Nat->Value}{st:ai}{tm:Array Value}{w:World}{D:Oper}
structure rl(w:World)(av:Nat->Prop)(B:Nat->Value)(o:Nat)(t:aJ)(xs:List (den t))(k off:Nat)(x:den t)(u:aJ)(ys:List (den u))(e:TypeId)(v0 nv:Value)(n1 n2 c1 c2:List Value):Prop where
 va:B o=.tuple (v0::(n1++nv::n2)).toArray
 sF:(bl (B o)).Nodup
 row:rowAt w t.ei e (aC t) v0 xs.length (c1++nv::c2)
 len:c1.length=k*aC t+off
 d1:Deep w av (flat t (xs.take k)++(enc t x).take off) c1 n1
 mid:∃bK aa,(∀d,d∈flat u ys->d.plain=true)/\rowAt w u.ei bK (aC u) nv ys.length aa/\ck w av (flat u ys) aa
 d2:Deep w av ((enc t x).drop (off+1)++flat t (xs.drop (k+1))) c2 n2
theorem ak.agM(S:ak U O X B st tm w){o s k off:Nat}{t u:aJ}{xs:List (den t)}{x:den t}{ys:List (den u)}(hl:look st.sites o=some (.deep s t xs))(hx:xs[k]? =some x)(hu:(enc t x)[off]? =some (.sl u ys)):
  ∃e v0 nv n1 n2 c1 c2,rl w (au X B st.sites) B o t xs k off x u ys e v0 nv n1 n2 c1 c2:=by
 obtain⟨e,v0,aw,cs,h0,dm,cC,l5⟩:=S.sites o _ hl;have af:k<xs.length:=(List.getElem?_eq_some_iff.1 hx).1;have ap:off<(enc t x).length:=(List.getElem?_eq_some_iff.1 hu).1;rw[fz] at ap;obtain⟨d0,C0,pg⟩:=Rz (x:=x) ap;rw[hu] at C0;cases C0;have od:flat t xs=(flat t (xs.take k)++(enc t x).take off)++(.sl u ys::((enc t x).drop (off+1)++flat t (xs.drop (k+1)))):=by
  rw[Fh t hx];conv=>lhs;rw[pg]
  simp only[List.append_assoc,List.cons_append]
 rw[od] at l5;obtain⟨c1,Xj,n1,ib,rfl,rfl,d1,d23⟩:=l5.inv;have cx:c1.length=k*aC t+off:=by
  rw[d1.len,List.length_append,dU,List.length_take,List.length_take,fz,Nat.min_eq_left (Nat.le_of_lt af),Nat.min_eq_left (Nat.le_of_lt ap)]
 cases d23 with
 |row bv n5 bK aa ag h hr k'=>exact⟨e,v0,_,n1,_,c1,_,h0,dm,cC,cx,d1,⟨bK,aa,ag,h,hr⟩,k'⟩
 |leaf ag h k'=>cases ag
theorem rl.ak8{av:Nat->Prop}{o:Nat}{t:aJ}{xs:List (den t)}{k off:Nat}{x:den t}{u:aJ}{ys:List (den u)}{e:TypeId}{v0 nv:Value}{n1 n2 c1 c2:List Value}(N:rl w av B o t xs k off x u ys e v0 nv n1 n2 c1 c2):
  (∀b,aW nv=some b->b∈bl (B o))/\(∀b,aW v0=some b->aW nv≠some b)/\(∀n,n∈n1->∀b,aW n=some b->aW nv≠some b)/\∀n,n∈n2->∀b,aW n=some b->aW nv≠some b:=by
 have dm:=N.sF;rw[N.va] at dm;simp only[bl,List.flatMap_cons,List.flatMap_append] at dm;obtain⟨a1,a2,a3⟩:=List.nodup_append.1 dm;obtain⟨bc,aO,ca⟩:=List.nodup_append.1 a2;obtain⟨ata,as9,c3⟩:=List.nodup_append.1 aO;refine⟨fun b hb=>by rw[N.va];exact hC.2 (.inr ⟨nv,by simp,hb⟩),fun b hb hn=>?_,fun n hn b hb hv=>?_,fun n hn b hb hv=>?_⟩
 ·exact a3 b (by rw[hb];simp) b (List.mem_append.2 (.inr (List.mem_append.2 (.inl (by rw[hn];simp))))) rfl
 ·exact ca b (List.mem_flatMap.2 ⟨n,hn,by rw[hb];simp⟩) b (List.mem_append.2 (.inl (by rw[hv];simp))) rfl
 ·exact c3 b (by rw[hv];simp) b (List.mem_flatMap.2 ⟨n,hn,by rw[hb];simp⟩) rfl
theorem ME{C:Ctx}{D:Oper}{eo:Nat}{v:aP}(h:v_ C st D=some (eo,v)):∃x,D.op=.move x/\D.dst=some eo/\D.guard=none/\Nat.blt eo st.nt=true/\v=aS C st D.type x:=by
 unfold v_ at h;split at h
 ·rename_i x d ap Z hg;cases hb:Nat.blt d st.nt with
  |false=>rw[hb] at h;cases h
  |true=>
   rw[hb] at h;cases h;exact⟨x,ap,Z,hg,hb,rfl⟩
 ·cases h
theorem Ei{C:Ctx}{o1 fE o2:Oper}{q:rE}(h:tW C st o1 fE o2=some q):∃T a e ig bc c g x,o1.op=.load T a/\o1.dst=some q.d1/\o1.guard=none/\o2.op=.call c/\o2.guard=none/\C.tt T=.slice e ig bc/\aS C st T a=.av (.am (.eN q.o q.s q.t q.k q.off))/\
  st.Y q.o=some (.deep q.s q.t q.xs)/\c.callee=.value (.func g)/\c.args.toList=[.tmp q.d1,x]/\C.b1 g=some q.S/\aS C (st.pa q) 0 x=.av (.am (.d (.int q.i q.n)))/\Nat.blt q.d1 st.nt=true/\
  v_ C (st.set q.d1 (bZ .any)) fE=some (q.eo,q.v)/\q.eo≠q.d1:=by
 unfold tW at h;split at h
 ·rename_i T a d1 c CS gz hp ls qA;split at h
  ·rename_i o s u k off aT;split at h
   ·rename_i ar t xs g d2 x M hc ky;split at h
    ·rename_i eo v hm;split at h
     ·rename_i e ig bc i n S aZ hx hY;cases hb:(d2.beq d1&&ar.beq s&&decide (t=u)&&Nat.blt d1 st.nt&&!eo.beq d1) with
      |false=>rw[hb] at h;cases h
      |true=>
       rw[hb] at h;simp only[cond_true,Option.some.injEq] at h;simp only[Bool.and_eq_true,decide_eq_true_eq,Bool.not_eq_true'] at hb;obtain⟨⟨⟨⟨q1,q2⟩,dG⟩,mw⟩,u_⟩:=hb;have q1:=Nat.eq_of_beq_eq_true q1;have q2:=Nat.eq_of_beq_eq_true q2;subst q1 q2 dG h;exact⟨T,a,e,ig,bc,c,g,x,CS,gz,hp,ls,qA,aZ,aT,M,hc,ky,hY,hx,mw,hm,fun e=>by
        have e:eo=_:=e;subst e;rw[Nat.beq_refl] at u_;cases u_⟩
     ·cases h
    ·cases h
   ·cases h
  ·cases h
 ·cases h
theorem afm(S:ak U O X B st tm w){C:Ctx}{fE:Oper}{eo:Nat}{v:aP}(h:v_ C st fE=some (eo,v)){K:Act->World->Prop}{Q:Exit->Act->World->Prop}
  (bO:∀dE,ak U O X B (st.set eo v) dE w->(∀t,t≠eo->dE.getD t undef=tm.getD t undef)->K ⟨dE,[]⟩ w):fE.wp P ⟨tm,[]⟩ w K Q:=by
 obtain⟨x,ap,Z,hg,a',rfl⟩:=ME h;refine nD (vv:=Act.eval ⟨tm,[]⟩ x) ?_ (bO _ ?_ fun t aA=>?_)
 ·unfold execOp;simp only[ap,Sem.run_bind,Sem.run_pure]
 ·have nj:cd st fE.dst=true:=by rw[Z];exact a'
  have:=ak.cM (us:=[]) S nj (cV S C fE.type x);rw[Z] at this ⊢;exact this
 ·rw[Z];have:eo≠t:=fun e=>aA e.symm
  simp[cB,Array.getD_eq_getD_getElem?,Array.getElem?_setIfInBounds_ne this]
theorem adw(S:ak U O X B st tm w){C:Ctx}(aG:bg P C){o1 fE o2:Oper}{q:rE}(ao:tW C st o1 fE o2=some q){x:den q.t}(hx:q.xs[q.k]? =some x){u:aJ}{ys:List (den u)}(hu:(enc q.t x)[q.off]? =some (.sl u ys))
  {K:Act->World->Prop} {Q:Exit->Act->World->Prop}
  (bO:∀dE,ak U O X B (st.set q.d1 (bZ .any)) dE w->(∀t,t≠q.d1->dE.getD t undef=tm.getD t undef)->(∃e v0 n1 n2 c1 c2,rl w (au X B st.sites) B q.o q.t q.xs q.k q.off x u ys e v0 (dE.getD q.d1 undef) n1 n2 c1 c2)->K ⟨dE,[]⟩ w):o1.wp P ⟨tm,[]⟩ w K Q:=by
 obtain⟨T,a,gi,ig,bc,c,g,lB,CS,gz,hp,ls,qA,aZ,aT,M,hc,ky,hY,JR,a',ml,hne⟩:=Ei ao;have hl:look st.sites q.o=some (.deep q.s q.t q.xs):=M;obtain⟨e,v0,nv,n1,n2,c1,c2,N⟩:=S.agM hl hx hu;have bx:=cV S C T a;rw[aT] at bx;obtain⟨b,q0,hv,hr⟩:=bx;obtain⟨n,arm,bQ⟩:=Ref.at hr hl rfl;rw[N.va] at bQ;replace bQ:v0=.slice (some ⟨b,q0,none⟩) n arm:=bQ
 have pq:q0=0:=by
  rcases N.row.2 with⟨h,_⟩|⟨cK,cap,cur,bL,h1,_⟩
  ·rw[h] at bQ;cases bQ
  ·rw[h1] at bQ;cases bQ;rfl
 subst pq;rw[Nat.zero_add] at hv;have jc:w.cell? ⟨b,q.k*aC q.t+q.off,none⟩=some nv:=by
  rcases N.row.2 with⟨h,_⟩|⟨cK,cap,cur,bL,h1,_,h2,_,_,_,ab⟩
  ·rw[h] at bQ;cases bQ
  ·rw[h1] at bQ;cases bQ;rw[cell_of_row w b _ cur e bL h2];have:(cur.toList.take (q.xs.length*aC q.t))[q.k*aC q.t+q.off]? =some nv:=by
    rw[ab,List.getElem?_append_right (by rw[N.len];exact Nat.le_refl _),N.len,Nat.sub_self]
    rfl
   rw[List.getElem?_take] at this;split at this
   ·simpa using this
   ·cases this
 have bA:=aG.tt T;rw[aZ] at bA;have cP:=sN (P:=P) (w:=w) bA (by rintro h;cases h) ⟨b,q.k*aC q.t+q.off,none⟩ [nv] rfl (fun j y al=>by
  match j,al with
  |0,al=>
   simp only[List.getElem?_cons_zero,Option.some.injEq] at al;subst al;rw[fZ,Nat.add_zero];exact jc)
 have IB:(cB tm o1.dst nv).getD q.d1 undef=nv:=by
  rw[gz];have:q.d1<tm.size:=by rw[S.nt];exact Nat.le_of_ble_eq_true a'
  simp[cB,Array.getD_eq_getD_getElem?,this]
 refine nD (vv:=nv) ?_ (bO _ ?_ (fun t aA=>?_) ?_)
 ·unfold execOp;simp only[CS,Instr.loadAt,Instr.sureAddr,hv,Sem.run_bind,Sem.run_pure,Result.andThen_ok,cP];rfl
 ·have Z:cd st o1.dst=true:=by rw[gz];exact a'
  have:=ak.cM (us:=[]) (v:=bZ .any) (vv:=nv) S Z trivial;rw[gz] at this ⊢;exact this
 ·rw[gz];have:q.d1≠t:=fun e=>aA e.symm
  simp[cB,Array.getD_eq_getD_getElem?,Array.getElem?_setIfInBounds_ne this]
 ·rw[IB];exact⟨e,v0,n1,n2,c1,c2,N⟩
theorem adv{dE:Array Value}{C:Ctx}(aG:bg P C){o1 fE o2:Oper}{q:rE}(ao:tW C st o1 fE o2=some q)(S:ak U O X B (st.pa q) dE w){x:den q.t}(hx:q.xs[q.k]? =some x){u:aJ}{ys:List (den u)}(hu:(enc q.t x)[q.off]? =some (.sl u ys))
  {e:TypeId} {v0:Value} {n1 n2 c1 c2:List Value} (N:rl w (au X B st.sites) B q.o q.t q.xs q.k q.off x u ys e v0 (dE.getD q.d1 undef) n1 n2 c1 c2) {y:(q.S [.av (.am (.fresh u ys)),.av (.am (.d (.int q.i q.n)))]).L}
  (al:(q.S [.av (.am (.fresh u ys)),.av (.am (.d (.int q.i q.n)))]).comp=some y) {d:aU} {bv:aJ} {n5:List (den bv)} (h1:(q.S [.av (.am (.fresh u ys)),.av (.am (.d (.int q.i q.n)))]).fc y=[.am (.d d)]) (h2:(q.S [.av (.am (.fresh u ys)),.av (.am (.d (.int q.i q.n)))]).ec y=[])
  (ab:(q.S [.av (.am (.fresh u ys)),.av (.am (.d (.int q.i q.n)))]).eW y=[.fresh bv n5]) {dt:den q.t} (eC:dec q.t (bw (enc q.t x) q.off [.sl bv n5])=some dt) (od:d.h9=true) (fB:bv.h5=false) (Z:cd st o2.dst=true)
  {K:Act->World->Prop} {Q:Exit->Act->World->Prop}
  (bO:∀aE b6 w',ak U O X aE (((st.pa q).cM o2.dst (one d) [(q.o,.deep q.s q.t (q.xs.set q.k dt))])) b6 w'->K ⟨b6,[]⟩ w'):o2.wp P ⟨dE,[]⟩ w K Q:=by
 obtain⟨T,a,gi,ig,bc,c,g,lB,CS,gz,hp,ls,qA,aZ,aT,M,hc,ky,hY,JR,a',ml,hne⟩:=Ei ao;have hl:look (st.pa q).sites q.o=some (.deep q.s q.t q.xs):=M;obtain⟨nv,xD⟩:∃nv,dE.getD q.d1 undef=nv:=⟨_,rfl⟩;rw[xD] at N;have N:rl w (au X B (st.pa q).sites) B q.o q.t q.xs q.k q.off x u ys e v0 nv n1 n2 c1 c2:=N;generalize Cf:st.pa q=eh at S hl JR N bO;have nj:cd eh o2.dst=true:=by rw[<-Cf];exact Z
 obtain⟨ax,an,bG,ci⟩:=N.ak8;have fM:b2 eh.sites q.o:=⟨_,hl,rfl⟩;have af:q.k<q.xs.length:=(List.getElem?_eq_some_iff.1 hx).1;have ap:q.off<aC q.t:=by
  have:=(List.getElem?_eq_some_iff.1 hu).1;rwa[fz] at this
 have qo:=cV S C 0 lB;rw[JR] at qo;have hint:Act.eval ⟨dE,[]⟩ lB=.int q.i q.n:=by
  have qo:Rd w _ (.int q.i q.n) (Act.eval ⟨dE,[]⟩ lB):=qo;generalize Act.eval ⟨dE,[]⟩ lB=v at qo;cases qo;rfl
 have hvs:c.args.toList.map (Act.eval ⟨dE,[]⟩)=[nv,.int q.i q.n]:=by
  rw[ky];simp only[List.map_cons,List.map_nil,hint];have:Act.eval ⟨dE,[]⟩ (.tmp q.d1)=nv:=xD;rw[this]
 have cP:(execOp (Act.eval ⟨dE,[]⟩) o2).run P w=(callFunc g #[nv,.int q.i q.n]).run P w:=by
  have hf:Act.eval ⟨dE,[]⟩ (.func g)=.func (.func g) #[] #[]:=rfl;have sH:(#[]++c.args.map (Act.eval ⟨dE,[]⟩))++#[]=#[nv,.int q.i q.n]:=by
   apply Array.ext';simpa using hvs
  unfold execOp;simp only[ls,resolve,hc,hf,Deferred.ofValue,Sem.run_bind,Sem.run_pure,Result.andThen_ok,invoke,sH]
 obtain⟨bK,aa,qx,cC,c5⟩:=N.mid;obtain⟨cT,qE⟩:∃cT,(aW nv).toList=cT:=⟨_,rfl⟩;have Ub:∀b,b∈cT <-> aW nv=some b:=fun b=>by rw[<-qE];simp
 obtain⟨X',oi⟩:∃X':Nat->Prop,∀b,X' b <-> (au X B eh.sites b/\b∉cT):=⟨_,fun b=>Iff.rfl⟩
 have Qv:∀{av bX:Nat->Prop} {w:World} {t:aJ} {gB:List (den t)} {vs:List Value},(∀d,d∈flat t gB->d.plain=true)->ck w av (flat t gB) vs->ck w bX (flat t gB) vs:=fun ag hr=>⟨hr.1,fun j g1 g2=>by
  have mj:=ag _ (List.getElem_mem g1);refine vE ?_ (hr.2 j g1 g2);generalize(flat _ _)[j]=yd at mj ⊢;cases yd<;>first|rfl|cases mj⟩
 have afx:i' w (fun b=>X' b\/b∈cT) [.av (.am (.fresh u ys)),.av (.am (.d (.int q.i q.n)))] [nv,.int q.i q.n] cT:=
  ⟨cT,[],by simp,⟨qE.symm,bK,aa,cC,Qv qx c5⟩,[],[],rfl,⟨rfl,.int _ _⟩,rfl⟩
 have akU:∀b,X' b->b<w.heap.size:=fun b hb=>S.lt ((oi b).1 hb).1
 have hG:iL w cT X':=by
  obtain⟨g1,g2⟩:=S.kV;refine⟨g1,fun b hb h=>?_,fun b hb h=>(g2 b hb).1 ((oi b).1 h).1,fun b hb=>(g2 b hb).2⟩
  exact(g2 b hb).1 (.inr ⟨q.o,fM,ax b ((Ub b).1 h)⟩)
 have E:=aG.b1 g q.S hY _ y al w X' [nv,.int q.i q.n] cT afx (by rw[<-qE];cases aW nv<;>simp) (fun b hb hx=>((oi b).1 hx).2 hb) akU hG
 refine y8 (vs:=[nv,.int q.i q.n]) cP E ?_
 rintro v w' ⟨dM,dv,rv,aL,et,hA,rfl,asy,hm⟩;obtain⟨hS,z2,rfl,hb1,hb2⟩:=et;rw[h2] at hb1;rw[h1] at hA;rw[ab] at hb2;have oa:e0 [.av (.am (.fresh u ys)),.av (.am (.d (.int q.i q.n)))] [nv,.int q.i q.n]=[nv]:=by
  simp only[e0,bH.cells,gl,aD.rc,Bool.and_true,cond_false,cond_true,List.append_nil,Bool.true_and];exact EF (DG cC)
 rw[oa] at hb2;have hb2:gK w' (fun b=>X' b\/b∈hS++z2++dv) [.fresh bv n5] [nv] z2:=hb2.resolve_left fun h=>by cases h.1
 obtain⟨dB,db,hz,⟨xp,e2,anN,aiz,ako⟩,asU⟩:=hb2;match rv,hA with
 |[v1],⟨a1,a2,asB,j_,Kf⟩=>
 have j_:a1=[]/\Rd w' _ d v1:=j_;have aoL:aD.h5 (.d d)=false:=by cases d<;>first|rfl|cases od
 have se:∀av,Rd w' av d v1:=fun av=>vE aoL j_.2
 have BQ:enc q.t dt=(enc q.t x).take q.off++.sl bv n5::(enc q.t x).drop (q.off+1):=by rw[oW _ _ _ eC,Mt]
 have rM:flat q.t (q.xs.set q.k dt)=(flat q.t (q.xs.take q.k)++(enc q.t x).take q.off)++(.sl bv n5::((enc q.t x).drop (q.off+1)++flat q.t (q.xs.drop (q.k+1)))):=by
  rw[y7 q.t af,BQ];simp only[List.append_assoc,List.cons_append]
 have BM:∀b,b<w.heap.size->aW nv≠some b->w'.heap[b]? =w.heap[b]? :=fun b hb hn=>aL.block b hb fun h=>hn ((Ub b).1 h)
 have B9:∀b,b∈bl (B q.o)->b<w.heap.size:=fun b hb=>S.dX fM hb
 have xl:∀n,n∈n1\/n∈n2->∀b,aW n=some b->b∈bl (B q.o):=fun n hn b hb=>by
  rw[N.va];exact hC.2 (.inr ⟨n,by simp only[List.mem_append,List.mem_cons];exact hn.imp id .inr,hb⟩)
 have G:=S.uw (o:=q.o) (bF:=.deep q.s q.t (q.xs.set q.k dt)) (nv:=B q.o) (w':=w') (ks:=[]) (K:=[q.o]) .nil (fun H=>by simp[keys];intro e;subst e;exact fM)
  (fun b hb hne=>BM b hb fun h=>hne q.o (by simp) (ax b h)) aL.os aL.tape aL.output aL.size rfl (fun Y M=>by rw[hl] at M;cases M;exact .inr ⟨rfl,rfl⟩)
  (fun b hb=>⟨Nat.lt_of_lt_of_le (B9 b hb) aL.size,.inl ⟨q.o,by simp,hb⟩⟩) (fun {bp aE} ee go=>?_)
 ·have HO:(fun H=>if H=q.o then B q.o else B H)=B:=by funext H;by_cases e:H=q.o<;>simp[e]
  rw[HO] at G;exact bO B _ w' (ak.cM (us:=[(q.o,.deep q.s q.t (q.xs.set q.k dt))]) G nj (v:=one d) (se _))
 ·have kb:∀{d v},Rd w (au X B eh.sites) d v->Rd _ (au X aE bp) d v:=iq go;refine⟨e,v0,n1++nv::n2,c1++nv::c2,ee.trans N.va,by rw[ee];exact N.sF,?_,?_⟩
  ·rw[List.length_set];refine oG N.row fun b hb=>BM b (B9 b ?_) (an b hb)
   rw[N.va];exact hC.2 (.inl hb)
  ·rw[rM];refine(N.d1.map kb fun n hn b hb=>BM b (B9 b (xl n (.inl hn) b hb)) (bG n hn b hb)).cM (.row bv n5 e2 anN (DY fB) aiz (Qv (DY fB) ako) (N.d2.map kb fun n hn b hb=>BM b (B9 b (xl n (.inr hn) b hb)) (ci n hn b hb)))
end
def eO(r:Option Nat):Fence:={Fence.wide with round:=r}
abbrev gD(r:Option Nat)(P:Program)(c:Code)(Q:Exit->Act->World->Prop)(a:Act)(w:World):Prop:=c.wpIn (eO r) 0 P Q a w
theorem B1(r:Option Nat)(f:FuncId):(eO r).fn f:=trivial
theorem P8(r:Option Nat)(n:Nat):(eO r).room n:=fun _ h=>by simp[eO,Fence.wide] at h
theorem gD.any{r:Option Nat}{P:Program}{c:Code}{Q:Exit->Act->World->Prop}{a:Act}{w:World}(h:gD r P c Q a w)(n:Nat):c.wpIn (eO r) n P Q a w:=
 fun b k cs J1 hb _=>h b k cs J1 hb (P8 r _)
theorem gD.of{r:Option Nat}{P:Program}{c:Code}{Q:Exit->Act->World->Prop}{a:Act}{w:World}{n:Nat}(h:c.wpIn (eO r) n P Q a w):gD r P c Q a w:=
 fun b k cs J1 hb _=>h b k cs J1 hb (P8 r _)
theorem gD.wp{P:Program}{c:Code}{Q:Exit->Act->World->Prop}{a:Act}{w:World}(h:gD none P c Q a w):c.wp P Q a w:=(wpIn_wide (n:=0)).1 h
theorem aaB{r:Option Nat}{n:Nat}{P:Program}{f:FuncId}{args:Array Value}{w:World}{R:Ending->World->Prop}(h:Calls P f args w R):CallsIn (eO r) n P f args w R:=by
 cases r with
 |none=>exact callsIn_wide.2 h
 |some l=>exact CallsIn.inRound l (callsIn_wide.2 h)
theorem abm{r:Option Nat}{n:Nat}{P:Program}{row:String}{args:Array Value}{w:World}{R:Value->World->Prop}(h:Rows P row args w R):RowsIn (eO r) n P row args w R:=by
 intro c cs _;obtain⟨v,w',hr,M⟩:=h c cs;exact⟨v,w',hr,stepsIn_wide.2 M⟩
theorem vF(tm:Array Value)(ds:List Deferred)(dst:Option Nat)(v:Value):(⟨tm,ds⟩:Act).put dst v=⟨cB tm dst v,ds⟩:=by cases dst<;>rfl
theorem tV{P:Program}{D:Oper}{tm:Array Value}{w:World}{K:Act->World->Prop}(bO:∀a w,K a w->a.defers=[])(h:D.wp P ⟨tm,[]⟩ w K (fun _ _ _=>False))(r:Option Nat)(ds:List Deferred){Q:Exit->Act->World->Prop}:
  D.wpIn (eO r) 0 P ⟨tm,ds⟩ w (fun fJ w'=>∃v,fJ=⟨cB tm D.dst v,ds⟩/\K ⟨cB tm D.dst v,[]⟩ w') Q:=by
 refine⟨fun f _=>B1 r f,?_⟩
 have bx:(⟨tm,ds⟩:Act).eval=(⟨tm,[]⟩:Act).eval:=by funext x;cases x<;>rfl
 rw[bx];unfold Oper.wp at h;have Z:∀c,D.op≠.defer c:=by
  intro c ap;have:(execOp (Act.eval ⟨tm,[]⟩) D)=(do let d <-resolve (Act.eval ⟨tm,[]⟩) c D.type;pure (.defer d)):=by
   unfold execOp;simp only[ap]
  rw[this] at h;simp only[Sem.run_bind] at h;cases hr:(resolve (Act.eval ⟨tm,[]⟩) c D.type).run P w with
  |ok d w'=>
   rw[hr] at h;simp only[Result.andThen_ok,Sem.run_pure,Oper.upon] at h;have:=bO _ _ h;cases dh:D.dst<;>rw[dh] at this<;>simp[Act.put] at this
  |halt x w'=>
   rw[hr] at h;cases x<;>simp[Result.andThen,Oper.upon] at h
 rw[Oper.semAt_eq _ _ _ Z];generalize(execOp (Act.eval ⟨tm,[]⟩) D).run P w=fc at h;have ag:∀v,(⟨tm,ds⟩:Act).put D.dst v=⟨cB tm D.dst v,ds⟩:=vF tm ds D.dst;have ps:∀v,(⟨tm,[]⟩:Act).put D.dst v=⟨cB tm D.dst v,[]⟩:=vF tm [] D.dst;cases fc with
 |ok x w'=>
  cases x with
  |value v=>simp only[Oper.upon,Oper.uponIn,ps] at h ⊢;exact⟨v,ag v,h⟩
  |skip=>simp only[Oper.upon,Oper.uponIn,ps] at h ⊢;exact⟨undef,ag _,h⟩
  |defer d=>
   simp only[Oper.upon] at h;have:=bO _ _ h;cases dh:D.dst<;>rw[dh] at this<;>simp[Act.put] at this
  |enter f args=>
   simp only[Oper.upon,Oper.uponIn] at h ⊢;refine⟨fun h=>by simp[eO,Fence.wide] at h,(aaB h).mono fun e CA he=>?_⟩
   cases e with
   |returned v=>simp only[ps] at he;exact⟨v,ag v,he⟩
   |panicked c=>exact he.elim
   |outgrown=>obtain⟨a0,U,ao⟩:=he;exact ao.elim
  |row row args=>
   simp only[Oper.upon,Oper.uponIn] at h ⊢;refine⟨fun h=>by simp[eO,Fence.wide] at h,(abm h).mono fun v CA he=>?_⟩
   simp only[ps] at he;exact⟨v,ag v,he⟩
  |_=>simp only[Oper.upon] at h
 |halt x w'=>
  cases x<;>simp only[Oper.upon] at h
def iN:List Oper->List Nat
 |[]=>[]
 |D::r=>D.dst.toList++iN r
def h3:Nat:=1000000000
def cD:Code->List Nat
 |.region _ ops _=>iN ops.toList
 |.seq a b|.cond _ a b=>cD a++cD b
 |.block _ a|.loop a=>cD a
 |.rangeFunc _ F a b=>h3::(F.toList++(cD a++cD b))
 |_=>[]
def hF:Code->Bool
 |.seq a b|.cond _ a b=>hF a&&hF b
 |.block _ a|.loop a=>hF a
 |.rangeFunc _ _ _ _=>false
 |_=>true
def mark(aU:Nat):Deferred:={target:=.collected aU,args:=#[]}
structure ix(U:World)(O:List Nat)(X:Nat->Prop)(b_:World)(dL:List Nat)(c_:Nat->Prop):Prop where
 cN:∀w,Fr dL b_ w->Fr O U w
 cg:∀b,(b∈dL\/b_.heap.size<=b)->(b∈O\/U.heap.size<=b)
 x:∀b,X b->c_ b
structure Marks(U:World)(dP:List Nat)(b_:World)(dL:List Nat)(c_:Nat->Prop):Prop where
 nodup:dP.Nodup
 new:∀aU,aU∈dP->U.heap.size<=aU
 hq:∀aU,aU∈dP->b_.heap[aU]? =some (.deferred (some []))/\aU∉dL/\c_ aU
def At(U:World)(O:List Nat)(X:Nat->Prop)(ds:List Deferred)(eR:Array Value)(W:List Nat)(st:ai)(a:Act)(w:World):Prop:=
 ∃b_ dL c_ B dP,ix U O X b_ dL c_/\Marks U dP b_ dL c_/\(a.defers=dP.map mark++ds/\(h3∉W->dP=[]))/\ak b_ dL c_ B st a.tmps w/\∀t,t∉W->a.tmps.getD t undef=eR.getD t undef
def fs(U:World)(O:List Nat)(X:Nat->Prop)(ds:List Deferred)(eR:Array Value)(W:List Nat):Out->Exit->Act->World->Prop
 |.norm st,.normal,a,w=>At U O X ds eR W st a w
 |.exit id st,.exit jj,a,w=>id=jj/\At U O X ds eR W st a w
 |.ret st,.ret,a,w=>At U O X ds eR W st a w
 |_,_,_,_=>False
theorem ix.refl(U:World)(O:List Nat)(X:Nat->Prop):ix U O X U O X:=⟨fun _ h=>h,fun _ h=>h,fun _ h=>h⟩
theorem ix.trans{U b_ w2:World}{O dL e5:List Nat}{X c_ cO:Nat->Prop}(h:ix U O X b_ dL c_)(k:ix b_ dL c_ w2 e5 cO):ix U O X w2 e5 cO:=
 ⟨fun w hw=>h.cN w (k.cN w hw),fun b hb=>h.cg b (k.cg b hb),fun b hb=>k.x b (h.x b hb)⟩
theorem Marks.nil(U b_:World)(O:List Nat)(X:Nat->Prop):Marks U [] b_ O X:=⟨List.nodup_nil,fun _ h=>by simp at h,fun _ h=>by simp at h⟩
theorem Marks.lt{U b_:World}{O:List Nat}{X:Nat->Prop}{dP:List Nat}(h:Marks U dP b_ O X){aU:Nat}(eY:aU∈dP):aU<b_.heap.size:=by
 have:=(h.hq aU eY).1;exact(Array.getElem?_eq_some_iff.1 this).1
theorem Marks.trans{U b_ w2:World}{O dL e5:List Nat}{X c_ cO:Nat->Prop}{dP De:List Nat}(hb:ix U O X b_ dL c_)(h:Marks U dP b_ dL c_)(k:ix b_ dL c_ w2 e5 cO)(m:Marks b_ De w2 e5 cO):
  Marks U (De++dP) w2 e5 cO:=by
 have hf:Fr dL b_ w2:=k.cN w2 (Fr.refl _ _);refine⟨List.nodup_append.2 ⟨m.nodup,h.nodup,fun a aT b hb e=>?_⟩,fun aU eY=>?_,fun aU eY=>?_⟩
 ·subst e;have h1:=m.new a aT;have h2:=h.lt hb;omega
 ·rcases List.mem_append.1 eY with eY|eY
  ·have h1:=m.new aU eY;have h2:Fr O U b_:=hb.cN b_ (Fr.refl _ _);have:=h2.size;omega
  ·exact h.new aU eY
 ·rcases List.mem_append.1 eY with eY|eY
  ·exact m.hq aU eY
  ·obtain⟨h1,h2,ab⟩:=h.hq aU eY;have a':=h.lt eY;refine⟨(hf.block aU a' h2).trans h1,fun aF=>?_,k.x aU ab⟩
   rcases k.cg aU (.inl aF) with bo|bo
   ·exact h2 bo
   ·omega
section
variable {U:World}{O:List Nat}{X:Nat->Prop}{ds:List Deferred}{eR:Array Value}{W:List Nat}
theorem At.of{B:Nat->Value}{st:ai}{tm:Array Value}{w:World}(S:ak U O X B st tm w)(aA:∀t,t∉W->tm.getD t undef=eR.getD t undef):At U O X ds eR W st ⟨tm,ds⟩ w:=
 ⟨U,O,X,B,[],ix.refl _ _ _,Marks.nil _ _ _ _,⟨rfl,fun _=>rfl⟩,S,aA⟩
theorem At.mono{de:List Nat}(h:∀t,t∈W->t∈de){st:ai}{a:Act}{w:World}(k:At U O X ds eR W st a w):At U O X ds eR de st a w:=by
 obtain⟨b_,dL,c_,B,dP,h1,h2,ab,aF,bo⟩:=k;exact⟨b_,dL,c_,B,dP,h1,h2,⟨ab.1,fun hn=>ab.2 fun ah=>hn (h _ ah)⟩,aF,fun t aA=>bo t fun ah=>aA (h t ah)⟩
theorem fs.mono{de:List Nat}(h:∀t,t∈W->t∈de):∀{D:Out} {e:Exit} {a:Act} {w:World},fs U O X ds eR W D e a w->fs U O X ds eR de D e a w:=by
 intro D e a w k;cases D<;>cases e<;>first|exact At.mono h k|exact⟨k.1,At.mono h k.2⟩|exact k.elim
theorem At.trans{b_:World}{dL:List Nat}{c_:Nat->Prop}{dP:List Nat}{W1 jL:List Nat}{dE:Array Value}(hb:ix U O X b_ dL c_)(hm:Marks U dP b_ dL c_)(hr:h3∉W1->dP=[])(aA:∀t,t∉W1->dE.getD t undef=eR.getD t undef)
  {st:ai} {a:Act} {w:World} (k:At b_ dL c_ (dP.map mark++ds) dE jL st a w):At U O X ds eR (W1++jL) st a w:=by
 obtain⟨w2,e5,cO,B,De,h1,h2,ab,aF,bo⟩:=k;refine⟨w2,e5,cO,B,De++dP,hb.trans h1,hm.trans hb h1 h2,⟨by rw[ab.1,List.map_append,List.append_assoc],fun hn=>by
  simp only[List.mem_append,not_or] at hn;rw[ab.2 hn.2,hr hn.1];rfl⟩,aF,fun t JW=>?_⟩
 simp only[List.mem_append,not_or] at JW;rw[bo t JW.2,aA t JW.1]
theorem fs.trans{b_:World}{dL:List Nat}{c_:Nat->Prop}{dP:List Nat}{W1 jL:List Nat}{dE:Array Value}(hb:ix U O X b_ dL c_)(hm:Marks U dP b_ dL c_)(hr:h3∉W1->dP=[])(aA:∀t,t∉W1->dE.getD t undef=eR.getD t undef)
  {D:Out} {e:Exit} {a:Act} {w:World} (k:fs b_ dL c_ (dP.map mark++ds) dE jL D e a w):fs U O X ds eR (W1++jL) D e a w:=by
 cases D<;>cases e<;>first|exact At.trans hb hm hr aA k|exact⟨k.1,At.trans hb hm hr aA k.2⟩|exact k.elim
end
def bq(P:Program)(c:Code)(f:hR):Prop:=
 ∀r,r=none\/hF c=true->∀U O X st y,(f st).comp=some y->∀B tm w ds,ak U O X B st tm w->gD r P c (fs U O X ds tm (cD c) ((f st).out y)) ⟨tm,ds⟩ w
def gN(P:Program)(C:h'):Code->Nat->Prop
 |.seq a b,p=>(∀f,C.pm p=some f->bq P (.seq a b) f)/\gN P C a (2*p)/\gN P C b (2*p+1)
 |.cond c a b,p=>(∀f,C.pm p=some f->bq P (.cond c a b) f)/\gN P C a (2*p)/\gN P C b (2*p+1)
 |.block id a,p=>(∀f,C.pm p=some f->bq P (.block id a) f)/\gN P C a (2*p)
 |c,p=>∀f,C.pm p=some f->bq P c f
def gr:Code->Nat->List (Nat×Code)
 |.seq a b,p=>(p,.seq a b)::(gr a (2*p)++gr b (2*p+1))
 |.cond c a b,p=>(p,.cond c a b)::(gr a (2*p)++gr b (2*p+1))
 |.block id a,p=>(p,.block id a)::gr a (2*p)
 |c,p=>[(p,c)]
theorem Pz{P:Program}{C:h'}:∀(c:Code) (p:Nat),(∀q fW,(q,fW)∈gr c p->∀f,C.pm q=some f->bq P fW f)->gN P C c p:=by
 intro c;induction c with
 |seq a b m8 rV=>
  intro p h;simp only[gr] at h;exact⟨h p _ List.mem_cons_self,m8 _ fun q fW hm=>h q fW (List.mem_cons_of_mem _ (List.mem_append.2 (.inl hm))),rV _ fun q fW hm=>h q fW (List.mem_cons_of_mem _ (List.mem_append.2 (.inr hm)))⟩
 |cond D a b m8 rV=>
  intro p h;simp only[gr] at h;exact⟨h p _ List.mem_cons_self,m8 _ fun q fW hm=>h q fW (List.mem_cons_of_mem _ (List.mem_append.2 (.inl hm))),rV _ fun q fW hm=>h q fW (List.mem_cons_of_mem _ (List.mem_append.2 (.inr hm)))⟩
 |block id a m8=>
  intro p h;simp only[gr] at h;exact⟨h p _ List.mem_cons_self,m8 _ fun q fW hm=>h q fW (List.mem_cons_of_mem _ hm)⟩
 |_=>intro p h;exact h p _ (by simp[gr])
section
variable {P:Program}{U:World}{O:List Nat}{X:Nat->Prop}{B:Nat->Value}{st:ai}{tm:Array Value}{w:World}
theorem ak.mG(S:ak U O X B st tm w){t:Nat}{v:aP}(hv:ce B st.sites w (au X B st.sites) v (tm.getD t undef)):ak U O X B (st.set t v) tm w:=by
 refine⟨S.nt,fun u=>?_,S.sites,S.dp,S.cg,S.frame,S.old,S.fk⟩
 rw[ai.Gy];by_cases h:t=u
 ·subst h;simp only[if_true];exact hv
 ·simp only[h,if_false];exact S.cU u
variable {R:Type}{C:Ctx}{ops:Array Oper}
theorem Nv(S:ak U O X B st tm w)(aG:bg P C){D:Oper}{K:ai->Option R}{r:R}(h:k3 C st D K=some r){N:Act->World->Prop}{Q:Exit->Act->World->Prop}
  (bO:∀aj aE b6 w',K aj=some r->ak U O X aE aj b6 w'->N ⟨b6,[]⟩ w'):D.wp P ⟨tm,[]⟩ w N Q:=by
 unfold k3 at h;cases Z:cd st D.dst with
 |false=>simp[Z] at h
 |true=>
  simp only[Z,cond_true] at h;have M:=aep S aG Z;cases hc:(step C st D).comp with
  |none=>simp[hc] at h
  |some y=>
   simp only[hc,Option.bind_some] at h;cases af:(step C st D).su y with
   |false=>simp[af] at h
   |true=>
    simp only[af,cond_true] at h;exact M y hc af N Q fun aE b6 w' b3=>bO _ aE b6 w' h b3
theorem _Q{T e:TypeId}(h:P.underlying T=some (.slice e))(a:Option Addr)(n c:Nat)(neg:Bool):
  (binOp (if neg then .neq else .eql) T (.slice a n c) (.slice none 0 0)).run P w=.ok (.bool (if neg then !a.isNone else a.isNone)) w:=by
 have e:(Op.equal T (.slice a n c) (.slice none 0 0)).run P w=.ok a.isNone w:=by
  have key:∀d:Nat,(Op.equalIn (d+1) T (.slice a n c) (.slice none 0 0)).run P w=.ok a.isNone w:=fun d=>by cases a<;>simp[Op.equalIn,run_underlying h]
  exact key 9999
 cases neg
 ·show((do pure (.bool (<-Op.equal T (.slice a n c) (.slice none 0 0)))):Sem Value).run P w=_
  simp only[Sem.run_bind,e,Result.andThen_ok,Sem.run_pure];rfl
 ·show((do pure (.bool (!(<-Op.equal T (.slice a n c) (.slice none 0 0))))):Sem Value).run P w=_
  simp only[Sem.run_bind,e,Result.andThen_ok,Sem.run_pure];rfl
theorem Yy{op:BinOp}{T:TypeId}{x y:Operand}{a b:Option Addr}{n c fF fW:Nat}:(eqGuard op T x y (.slice a n c) (.slice b fF fW)).run P w=.ok () w:=by
 unfold eqGuard;cases op<;>rfl
theorem _7{D:Oper}{t:aJ}{xs:List (den t)}{neg:Bool}(h:Ha C st D=some (⟨t,xs⟩,neg)):∃T x oo e ty bytes,D.op=.binOp (if neg then .neq else .eql) T x (.const (.slice none 0 0)) oo/\C.tt T=.slice e ty bytes/\aS C st T x=.av (.am (.d (.sl t xs))):=by
 unfold Ha at h;split at h
 ·rename_i op T x oo ap;split at h
  ·rename_i e ty bytes aZ;split at h
   ·split at h
    ·rename_i bm ia hx;cases h;exact⟨T,x,oo,e,ty,bytes,ap,aZ,hx⟩
    ·cases h
   ·split at h
    ·rename_i bm ia hx;cases h;exact⟨T,x,oo,e,ty,bytes,ap,aZ,hx⟩
    ·cases h
   ·cases h
  ·cases h
 ·cases h
theorem YP{t:aJ}{xs:List (den t)}{a b:Option R}{r:R}(h:oK xs a b=some r):b=some r/\(xs=[]->a=some r):=by
 unfold oK at h;split at h
 ·rename_i xR;exact⟨h,fun he=>(xR he).trans h⟩
 ·cases h
theorem ac3(S:ak U O X B st tm w)(aG:bg P C){D:Oper}{K:ai->Option R}{r:R}(h:ww C st D K=some r){N:Act->World->Prop}{Q:Exit->Act->World->Prop}
  (bO:∀aj aE b6 w',K aj=some r->ak U O X aE aj b6 w'->N ⟨b6,[]⟩ w'):D.wp P ⟨tm,[]⟩ w N Q:=by
 unfold ww at h;split at h
 ·rename_i t xs neg hn;cases Z:cd st D.dst with
  |false=>simp[Z] at h
  |true=>
   simp only[Z,cond_true] at h;obtain⟨h2,h1⟩:=YP h;obtain⟨T,x,oo,e,ty,bytes,ap,aZ,hx⟩:=_7 hn;have M:=cV S C T x;rw[hx] at M;have bA:=aG.tt T;rw[aZ] at bA;have run:∀{a:Option Addr} {n c:Nat},Act.eval ⟨tm,[]⟩ x=.slice a n c->(execOp (Act.eval ⟨tm,[]⟩) D).run P w=.ok (.value (.bool (if neg then !a.isNone else a.isNone))) w:=by
    intro a n c hv;unfold execOp;have hc:Act.eval ⟨tm,[]⟩ (.const (.slice none 0 0))=.slice none 0 0:=rfl;simp only[ap,hv,hc,Sem.run_bind,Yy,_Q bA.1.1,Result.andThen_ok,Sem.run_pure]
   have fin:∀b:Bool,(execOp (Act.eval ⟨tm,[]⟩) D).run P w=.ok (.value (.bool b)) w->K (st.cM D.dst (one (.bool b)) [])=some r->D.wp P ⟨tm,[]⟩ w N Q:=by
    intro b hr af;refine nD hr (bO _ _ _ _ af (ak.cM (us:=[]) S Z ?_));exact Rd.bool b
   have M:Rd w (au X B st.sites) (.sl t xs) (Act.eval ⟨tm,[]⟩ x):=M;generalize je:Act.eval ⟨tm,[]⟩ x=v at M;cases M with
   |nil=>
    have:=run je;cases neg
    ·exact fin true this (h1 rfl)
    ·exact fin false this (h1 rfl)
   |sl t xs a cap cs n fw hcap hb hl hc hr=>
    have:=run je;cases neg
    ·exact fin false this h2
    ·exact fin true this h2
 ·exact Nv S aG h bO
theorem abg(S:ak U O X B st tm w){D:Oper}{K:ai->Option R}{r:R}(h:tu st D K=some r){N:Act->World->Prop}
  (bO:∀aj aE b6 w',K aj=some r->ak U O X aE aj b6 w'->N ⟨b6,[]⟩ w'):N ((⟨tm,[]⟩:Act).put D.dst undef) w:=by
 unfold tu at h;cases Z:cd st D.dst with
 |false=>simp[Z] at h
 |true=>
  simp only[Z,cond_true] at h;have:(⟨tm,[]⟩:Act).put D.dst undef=⟨cB tm D.dst undef,[]⟩:=by cases D.dst<;>rfl
  rw[this];exact bO _ _ _ _ h (ak.cM (us:=[]) S Z rfl)
theorem il{tm:Array Value}{dst:Option Nat}{v:Value}{t:Nat}(h:t∉dst.toList):(cB tm dst v).getD t undef=tm.getD t undef:=by
 cases dst with
 |none=>rfl
 |some d=>
  have:d≠t:=fun e=>h (by simp[e])
  simp[cB,Array.getD_eq_getD_getElem?,Array.getElem?_setIfInBounds_ne this]
variable {rn:Option Nat}{ds:List Deferred}
theorem EY(S:ak U O X B st tm w)(aG:bg P C){D:Oper}{K:ai->Option R}{r:R}(h:ww C st D K=some r){N:Act->World->Prop}{Q:Exit->Act->World->Prop}
  (bO:∀aj aE b6 w',K aj=some r->ak U O X aE aj b6 w'->(∀t,t∉D.dst.toList->b6.getD t undef=tm.getD t undef)->N ⟨b6,ds⟩ w'):D.wpIn (eO rn) 0 P ⟨tm,ds⟩ w N Q:=by
 refine Oper.wpIn_mono ?_ (tV (K:=fun a w=>a.defers=[]/\∃aj aE,K aj=some r/\ak U O X aE aj a.tmps w) (fun _ _ h=>h.1) (ac3 S aG h fun aj aE b6 w' af b3=>⟨rfl,aj,aE,af,b3⟩) rn ds)
 rintro a w' ⟨v,rfl,_,aj,aE,af,b3⟩;exact bO aj aE _ w' af b3 fun t aA=>il aA
theorem oH(S:ak U O X B st tm w)(aG:bg P C){D:Oper}{K:ai->Option R}{r:R}(h:k3 C st D K=some r){N:Act->World->Prop}{Q:Exit->Act->World->Prop}
  (bO:∀aj aE b6 w',K aj=some r->ak U O X aE aj b6 w'->(∀t,t∉D.dst.toList->b6.getD t undef=tm.getD t undef)->N ⟨b6,ds⟩ w'):D.wpIn (eO rn) 0 P ⟨tm,ds⟩ w N Q:=by
 refine Oper.wpIn_mono ?_ (tV (K:=fun a w=>a.defers=[]/\∃aj aE,K aj=some r/\ak U O X aE aj a.tmps w) (fun _ _ h=>h.1) (Nv S aG h fun aj aE b6 w' af b3=>⟨rfl,aj,aE,af,b3⟩) rn ds)
 rintro a w' ⟨v,rfl,_,aj,aE,af,b3⟩;exact bO aj aE _ w' af b3 fun t aA=>il aA
theorem yE(S:ak U O X B st tm w){D:Oper}{K:ai->Option R}{r:R}(h:tu st D K=some r){N:Act->World->Prop}
  (bO:∀aj aE b6 w',K aj=some r->ak U O X aE aj b6 w'->(∀t,t∉D.dst.toList->b6.getD t undef=tm.getD t undef)->N ⟨b6,ds⟩ w'):N ((⟨tm,ds⟩:Act).put D.dst undef) w:=by
 rw[vF];refine abg (N:=fun a w=>∀t0,a.tmps=t0->t0=cB tm D.dst undef->N ⟨t0,ds⟩ w) S h (fun aj aE b6 w' af b3 t0 e1 e2=>?_) (cB tm D.dst undef) (by rw[vF]) rfl
 subst e1;exact bO aj aE _ w' af b3 fun t aA=>by have e2:b6=cB tm D.dst undef:=e2;rw[e2];exact il aA
theorem Z3{D:Oper}{r:List Oper}{K:ai->Option R}{y:R}(h:nF C ops (D::r) st K=some y):vU C ops st D (fun aj=>nF C ops r aj K)=some y\/
  ∃fE o2 r2 q,r=fE::o2::r2/\tW C st D fE o2=some q/\PC st o2 q (fun aj=>nF C ops r2 aj K)=some y:=by
 match r,h with
 |[],h=>exact .inl h
 |[o2],h=>exact .inl h
 |fE::o2::r2,h=>
  simp only[nF] at h;split at h
  ·rename_i q ao;exact .inr ⟨fE,o2,r2,q,rfl,ao,h⟩
  ·exact .inl h
theorem abl(aG:bg P C){r:R}{W:List Nat}:∀(n k:Nat),ops.size=k+n->(∀D,D∈ops.toList.drop k->∀t,t∈D.dst.toList->t∈W)->∀(st:ai) (B:Nat->Value) (tm:Array Value) (w:World) (K:ai->Option R) (Q:Exit->Act->World->Prop),ak U O X B st tm w->
  nF C ops (ops.toList.drop k) st K=some r->(∀aj aE b6 w',K aj=some r->ak U O X aE aj b6 w'->(∀t,t∉W->b6.getD t undef=tm.getD t undef)->Q .normal ⟨b6,ds⟩ w')->wpOpsIn (eO rn) 0 P ops Q (List.range' k n) ⟨tm,ds⟩ w:=by
 intro n;induction n using Nat.strongRecOn with
 |ind n ih=>
 intro k af hW st B tm w K Q S h bO;match n,ih,af with
 |0,ih,af=>
  rw[List.drop_eq_nil_of_le (by simp;omega)] at h
  exact bO st B tm w h S fun _ _=>rfl
 |n+1,ih,af=>
  have a':k<ops.size:=by omega
  have ap:ops[k]? =some ops[k]:=Array.getElem?_eq_getElem a';have HR:ops.toList.drop k=ops[k]::ops.toList.drop (k+1):=by
   rw[List.drop_eq_getElem_cons (by simpa using a')];simp
  rw[HR] at h hW;rw[show List.range' k (n+1)=k::List.range' (k+1) n from rfl]
  simp only[wpOpsIn,ap];rcases Z3 h with h|⟨fE,o2,r2,q,sd,ao,h⟩
  rotate_left
  ·-- three at aso
   have j1:k+1<ops.size/\k+2<ops.size:=by
    have:=congrArg List.length sd;simp at this;omega
   have ls:ops[k+1]? =some (ops[k+1]'j1.1):=Array.getElem?_eq_getElem j1.1;have WT:ops[k+2]? =some (ops[k+2]'j1.2):=Array.getElem?_eq_getElem j1.2;have agW:ops.toList.drop (k+1)=(ops[k+1]'j1.1)::(ops[k+2]'j1.2)::ops.toList.drop (k+3):=by
    rw[List.drop_eq_getElem_cons (by simpa using j1.1),List.drop_eq_getElem_cons (by simpa using j1.2)];simp
   rw[agW] at sd hW;obtain⟨e1,J3⟩:=List.cons.inj sd;obtain⟨e2,b0⟩:=List.cons.inj J3;subst e1 e2 b0;obtain⟨fF,rfl⟩:∃fF,n=fF+2:=⟨n-2,by omega⟩
   have C3:=hW _ List.mem_cons_self;have W8:=hW _ (List.mem_cons_of_mem _ List.mem_cons_self);have UB:=hW _ (List.mem_cons_of_mem _ (List.mem_cons_of_mem _ List.mem_cons_self));have xT:=fun D ap=>hW D (List.mem_cons_of_mem _ (List.mem_cons_of_mem _ (List.mem_cons_of_mem _ ap)))
   generalize(ops[k+1]'j1.1)=fE at ao W8 ls;generalize(ops[k+2]'j1.2)=o2 at h ao UB WT;generalize ops[k]=D at ao C3 ⊢;obtain⟨_,_,_,_,_,_,_,_,_,gz,hp,_,qA,_,_,_,_,_,_,_,_,ml,hne⟩:=Ei ao;obtain⟨_,_,asY,aoE,_,_⟩:=ME ml;rw[if_pos (by simp[Region.wanted,hp])]
   obtain⟨x,hx,h⟩:=Option.bind_eq_some_iff.1 h;split at h
   ·rename_i u ys hu;obtain⟨y,al,h⟩:=Option.bind_eq_some_iff.1 h;unfold Si at h;split at h
    ·rename_i d bv n5 h1 h2 ab;split at h
     ·rename_i dt eC;cases hb:(d.h9&&!bv.h5&&cd st o2.dst) with
      |false=>rw[hb] at h;cases h
      |true=>
       rw[hb] at h;simp only[cond_true] at h;simp only[Bool.and_eq_true,Bool.not_eq_true'] at hb;obtain⟨⟨bc,aO⟩,ca⟩:=hb;refine Oper.wpIn_mono ?_ (tV (K:=fun a b_=>a.defers=[]/\b_=w/\ak U O X B (st.set q.d1 (bZ .any)) a.tmps w/\(∀t,t≠q.d1->a.tmps.getD t undef=tm.getD t undef)/\
        ∃e v0 n1 n2 c1 c2,rl w (au X B st.sites) B q.o q.t q.xs q.k q.off x u ys e v0 (a.tmps.getD q.d1 undef) n1 n2 c1 c2) (fun _ _ h=>h.1) (adw S aG ao hx hu fun dE q1 q2 dG=>⟨rfl,rfl,q1,q2,dG⟩) rn ds)
       rintro a b_ ⟨v,rfl,_,rfl,c',kept,e,v0,n1,n2,c1,c2,N⟩;rw[show List.range' (k+1) (fF+2)=(k+1)::(k+2)::List.range' (k+3) fF from rfl]
       simp only[wpOpsIn,ls,WT];rw[if_pos (by simp[Region.wanted,aoE])]
       refine Oper.wpIn_mono ?_ (tV (K:=fun a w2=>a.defers=[]/\w2=b_/\ak U O X B (st.pa q) a.tmps b_/\(∀t,t≠q.eo->a.tmps.getD t undef=(cB tm D.dst v).getD t undef)) (fun _ _ h=>h.1) (afm c' ml fun dE q1 q2=>⟨rfl,rfl,q1,q2⟩) rn ds)
       rintro a w2 ⟨v1,rfl,_,rfl,apS,ait⟩;rw[if_pos (by simp[Region.wanted,qA])]
       rw[<-ait q.d1 (fun e=>hne e.symm)] at N
       refine Oper.wpIn_mono ?_ (tV (K:=fun a b_=>a.defers=[]/\∃aE,ak U O X aE (((st.pa q).cM o2.dst (one d) [(q.o,.deep q.s q.t (q.xs.set q.k dt))])) a.tmps b_) (fun _ _ h=>h.1)
        (adv aG ao apS hx hu N al h1 h2 ab eC bc aO ca fun aE b6 w' b3=>⟨rfl,aE,b3⟩) rn ds)
       rintro a hU ⟨v2,rfl,_,aE,gC⟩;refine ih fF (by omega) (k+3) (by omega) xT _ aE _ hU K Q gC h fun rT gw n6 sB iT jn kL=>bO rT gw n6 sB iT jn fun t r6=>?_
       rw[kL t r6,il fun ah=>r6 (UB t ah),il fun ah=>r6 (W8 t ah)]
       exact il fun ah=>r6 (C3 t ah)
     ·cases h
    ·cases h
   ·cases h
  have C3:=hW _ List.mem_cons_self;have xT:=fun D ap=>hW D (List.mem_cons_of_mem _ ap)
  have next:∀aj aE b6 w',nF C ops (ops.toList.drop (k+1)) aj K=some r->ak U O X aE aj b6 w'->(∀t,t∉(ops[k]).dst.toList->b6.getD t undef=tm.getD t undef)->wpOpsIn (eO rn) 0 P ops Q (List.range' (k+1) n) ⟨b6,ds⟩ w':=
   fun aj aE b6 w' ah b3 aA=>ih n (by omega) (k+1) (by omega) xT aj aE b6 w' K Q b3 ah fun rT gw n6 w2 iT gC kL=>bO rT gw n6 w2 iT gC fun t r6=>(kL t r6).trans (aA t fun ah=>r6 (C3 t ah))
  generalize ops[k]=D at h next ⊢
  have pN:∀f,D.about P w (Act.eval ⟨tm,ds⟩)=some f->(eO rn).fn f:=fun f _=>B1 rn f
  unfold vU at h;cases hg:D.guard with
  |none=>
   simp only[hg] at h;rw[if_pos (by simp[Region.wanted,hg])]
   exact EY S aG h next
  |some KZ=>
   obtain⟨j,want⟩:=KZ;simp only[hg] at h;have hw:Region.wanted D (yielded ops tm)=(yielded ops tm j==some want):=by simp[Region.wanted,hg]
   cases hj:(ops[j]?).bind (·.dst) with
   |none=>simp[hj] at h
   |some t=>
    simp only[hj] at h;have jt:=S.cU t;split at h
    ·rename_i b hb;rw[hb] at jt;have hv:=jR jt;have al:yielded ops tm j=some b:=by
      have aA:t<tm.size:=by
       rcases Nat.lt_or_ge t tm.size with ah|ah
       ·exact ah
       ·simp[Array.getD,Nat.not_lt.2 ah,undef] at hv
      have:tm[t]? =some (.bool b):=by
       rw[Array.getElem?_eq_getElem aA];simpa[Array.getD,aA] using hv
      simp[yielded,hj,this]
     rw[al] at hw;have go:∀be,b=be->ak U O X B (st.set t (one (.bool be))) tm w:=fun be e=>S.mG (by rw[hv,e];exact .bool _)
     cases b<;>cases want<;>simp only[cond_true,cond_false,Bool.not_true,Bool.not_false] at h
     ·rw[if_pos (by rw[hw];rfl)];exact EY (go false rfl) aG h next
     ·rw[if_neg (by rw[hw];decide)];exact⟨pN,yE (go false rfl) h next⟩
     ·rw[if_neg (by rw[hw];decide)];exact⟨pN,yE (go true rfl) h next⟩
     ·rw[if_pos (by rw[hw];rfl)];exact EY (go true rfl) aG h next
    ·rename_i x hb;rw[hb] at jt;have hv:tm.getD t undef=.tuple x:=jt;have al:yielded ops tm j=none:=by
      simp only[yielded,hj,Option.bind_some];cases aA:tm[t]? with
      |none=>rfl
      |some v=>
       have:tm.getD t undef=v:=by simp[Array.getD_eq_getD_getElem?,aA]
       rw[this] at hv;rw[hv]
     rw[al] at hw;rw[if_neg (by rw[hw];simp)]
     exact⟨pN,yE S h next⟩
    ·cases h
end
abbrev pQ:=Nat⊕Nat
def dK(st:ai):pQ->aP⊕Option Site
 |.inl t=>.inl (st.get t)
 |.inr o=>.inr (st.Y o)
def oM{aK:Type}:List (Nat×aK)->Nat->Option aK
 |[],_=>none
 |(k,v)::r,n=>match oM r n with
  |some x=>some x
  |none=>bif k.beq n then some v else none
def Rec.wr(x:Rec):pQ->Option (aP⊕Option Site)
 |.inl t=>match x.D.dst with
  |some d=>bif d.beq t then some (.inl x.v) else none
  |none=>none
 |.inr o=>(oM x.us o).map fun s=>.inr (some s)
theorem aa2:∀(us:List (Nat×Site)) (st:ai) (o:Nat),(st.iu us).Y o=match oM us o with|some s=>some s|none=>st.Y o:=by
 intro us;induction us with
 |nil=>intro st o;rfl
 |cons p us ih=>
  obtain⟨k,s⟩:=p;intro st o;simp only[ai.iu,ih,oM];cases oM us o with
  |some x=>rfl
  |none=>
   simp only[ai.lO];by_cases h:k=o
   ·subst h;simp
   ·simp[h,j5 h]
theorem N9:∀(us:List (Nat×Site)) (st:ai) (t:Nat),(st.iu us).get t=st.get t:=by
 intro us;induction us with
 |nil=>intro st t;rfl
 |cons p us ih=>intro st t;simp only[ai.iu,ih,ai._m]
theorem O7:∀(us:List (Nat×Site)) (st:ai),(st.iu us).nt=st.nt:=by
 intro us;induction us with
 |nil=>intro st;rfl
 |cons p us ih=>intro st;simp only[ai.iu,ih,ai._6]
theorem Hw(st:ai)(d:Option Nat)(v:aP)(us:List (Nat×Site)):(st.cM d v us).nt=st.nt:=by
 cases d<;>simp only[ai.cM,ai.agL,O7]
theorem y_(st:ai)(x:Rec)(l:pQ):dK (st.cM x.D.dst x.v x.us) l=match x.wr l with|some u=>u|none=>dK st l:=by
 cases l with
 |inl t=>
  simp only[dK,Rec.wr];cases x.D.dst with
  |none=>simp only[ai.cM,N9]
  |some d=>
   simp only[ai.cM,ai.Gy,N9];by_cases h:d=t
   ·subst h;simp
   ·simp[h,j5 h]
 |inr o=>
  simp only[dK,Rec.wr];have:(st.cM x.D.dst x.v x.us).Y o=(st.iu x.us).Y o:=by cases x.D.dst<;>simp only[ai.cM,ai.ac0]
  rw[this,aa2];cases oM x.us o<;>rfl
def ez(ay:Nat->Bool):Nat->List Rec->ai->ai
 |_,[],st=>st
 |k,x::r,st=>ez ay (k+1) r (bif ay k then st.cM x.D.dst x.v x.us else st)
theorem Fl{ay:Nat->Bool}:∀{xs:List Rec} {k:Nat} {st:ai},(ez ay k xs st).nt=st.nt:=by
 intro xs;induction xs with
 |nil=>intro k st;rfl
 |cons x xs ih=>intro k st;simp only[ez,ih];cases ay k<;>simp[Hw]
theorem D0{ay L':Nat->Bool}:∀{xs:List Rec} {k:Nat} {st aj:ai} {l:pQ},dK st l=dK aj l->(∀j x,xs[j]? =some x->x.wr l≠none->ay (k+j)=L' (k+j))->dK (ez ay k xs st) l=dK (ez L' k xs aj) l:=by
 intro xs;induction xs with
 |nil=>intro k st aj l h _;exact h
 |cons x xs ih=>
  intro k st aj l h dd;simp only[ez];refine ih ?_ fun j y al hw=>?_
  ·cases hw:x.wr l with
   |none=>
    have e1:∀s:ai,dK (s.cM x.D.dst x.v x.us) l=dK s l:=fun s=>by rw[y_,hw]
    cases ay k<;>cases L' k<;>simp only[cond_true,cond_false,e1,h]
   |some u=>
    have:=dd 0 x rfl (by rw[hw];intro h;cases h)
    simp only[Nat.add_zero] at this;rw[this];cases L' k with
    |true=>simp only[cond_true,y_,hw]
    |false=>simp only[cond_false,h]
  ·have:=dd (j+1) y (by simpa using al) hw
   rw[show k+(j+1)=k+1+j from by omega] at this
   exact this
theorem D1{xs:List Rec}:∀{k:Nat} {st:ai} {ay:Nat->Bool},(∀j,k<=j->ay j=false)->ez ay k xs st=st:=by
 induction xs with
 |nil=>intro k st ay _;rfl
 |cons x xs ih=>
  intro k st ay h;simp only[ez,h k (Nat.le_refl _),cond_false];exact ih fun j hj=>h j (by omega)
theorem Mj{ay L':Nat->Bool}:∀{xs:List Rec} {k k':Nat} {st:ai},(∀j,j<xs.length->ay (k+j)=L' (k'+j))->ez ay k xs st=ez L' k' xs st:=by
 intro xs;induction xs with
 |nil=>intro k k' st _;rfl
 |cons x xs ih=>
  intro k k' st h;simp only[ez];have h0:=h 0 (by simp)
  simp only[Nat.add_zero] at h0;rw[h0];exact ih fun j hj=>by have:=h (j+1) (by simpa using hj);rw[show k+(j+1)=k+1+j from by omega,show k'+(j+1)=k'+1+j from by omega] at this;exact this
theorem aaE{ay:Nat->Bool}:∀{xs:List Rec} {k i:Nat} {st:ai} {l:pQ} {x:Rec} {u:aP⊕Option Site},xs[i]? =some x->ay (k+i)=true->x.wr l=some u->
  (∀j y,i<j->xs[j]? =some y->y.wr l≠none->ay (k+j)=false)->dK (ez ay k xs st) l=u:=by
 intro xs;induction xs with
 |nil=>intro k i st l x u h;cases h
 |cons y xs ih=>
  intro k i st l x u h dd hw hj;simp only[ez];cases i with
  |zero=>
   simp only[List.getElem?_cons_zero,Option.some.injEq] at h;subst h;simp only[Nat.add_zero] at dd;rw[dd];simp only[cond_true];have e:dK (st.cM y.D.dst y.v y.us) l=u:=by rw[y_,hw]
   rw[<-e];have e2:st.cM y.D.dst y.v y.us=ez (fun _=>false) (k+1) xs (st.cM y.D.dst y.v y.us):=(D1 fun _ _=>rfl).symm
   conv=>rhs;rw[e2]
   refine D0 rfl fun j z hz JS=>?_
   have:=hj (j+1) z (by omega) (by simpa using hz) JS
   rw[show k+(j+1)=k+1+j from by omega] at this
   exact this
  |succ i=>
   refine ih (by simpa using h) (by rw[show k+1+i=k+(i+1) from by omega];exact dd) hw fun j z hij hz JS=>?_
   have:=hj (j+1) z (by omega) (by simpa using hz) JS
   rw[show k+(j+1)=k+1+j from by omega] at this
   exact this
section
variable {P:Program}{ops:Array Oper}
def Cw(ops:Array Oper)(ay:Nat->Bool)(i:Nat):Prop:=∀D,ops[i]? =some D->∀e,e∈D.after.toList->Region.binds .any e=true->ay e.on=true
def BH(ops:Array Oper)(ay:Nat->Bool):Prop:=∀j,ay j=true->Cw ops ay j
def u6(ops:Array Oper)(k i:Nat):Prop:=∀ay,BH ops ay->Cw ops ay i->ay k=true
theorem PJ{aK:Type}{l:List (Nat×aK)}{n:Nat}{v:aK}(h:look l n=some v):(n,v)∈l:=by
 induction l with
 |nil=>cases h
 |cons p l ih=>
  obtain⟨m,u⟩:=p;simp only[look] at h;cases hb:m.beq n with
  |true=>
   simp only[hb,cond_true,Option.some.injEq] at h;rw[<-Nat.eq_of_beq_eq_true hb,h];exact List.mem_cons_self
  |false=>simp only[hb,cond_false] at h;exact List.mem_cons_of_mem _ (ih h)
theorem aeb{bV:List (Nat×Nat)}(aT:∀k b,(k,b)∈bV->∀m,Nat.testBit b m=true->u6 ops m k){i:Nat}:∀{es:List Edge} {m:Nat},Nat.testBit (k_ bV es) m=true->∀ay,BH ops ay->
  (∀e,e∈es->Region.binds .any e=true->ay e.on=true)->ay m=true:=by
 intro es;induction es with
 |nil=>intro m h;simp[k_] at h
 |cons e es ih=>
  intro m h ay hc hf;simp only[k_] at h;cases hb:Region.binds .any e with
  |false=>
   simp only[hb,cond_false] at h;exact ih h ay hc fun bK kO=>hf bK (List.mem_cons_of_mem _ kO)
  |true=>
   simp only[hb,cond_true] at h;have h0:=hf e List.mem_cons_self hb;split at h
   ·rename_i x hx;have h:Nat.testBit (2^e.on ||| (x ||| k_ bV es)) m=true:=h;rw[Nat.testBit_or,Nat.testBit_or,Nat.testBit_two_pow] at h;simp only[Bool.or_eq_true,decide_eq_true_eq] at h;rcases h with h|h|h
    ·subst h;exact h0
    ·have hm:(e.on,x)∈bV:=PJ hx;exact aT _ _ hm m h ay hc (hc _ h0)
    ·exact ih h ay hc fun bK kO=>hf bK (List.mem_cons_of_mem _ kO)
   ·exact ih h ay hc fun bK kO=>hf bK (List.mem_cons_of_mem _ kO)
structure uk(C:Ctx)(ops:Array Oper)(st:ai)(D:Oper)(x:Rec):Prop where
 hq:x.D=D
 guard:∀j want,D.guard=some (j,want)->∃t,(ops[j]?).bind (·.dst)=some t/\t∈x.lD/\((∃b,st.get t=one (.bool b)/\(x.go=(b==want)))\/((∃u,st.get t=bZ (.cL (.tuple u)))/\x.go=false))
 free:D.guard=none->x.go=true
 skip:x.go=false->x.v=AR/\x.us=[]
 run:x.go=true->∃y,(step C st D).comp=some y/\(step C st D).su y=true/\x.v=(step C st D).val y/\x.us=(step C st D).us y/\(∀t,t∈pZ (l3 D.op)->t∈x.lD)/\(∀o,o∈HT C st D->o∈x.rn)/\(Ba D.op=true->x.C8=true)
inductive lJ(C:Ctx)(ops:Array Oper):List Oper->Nat->List (Nat×Rec)->List (Nat×Nat)->ai->List Rec->ai->Prop where
 |nil {i bV bs st}:lJ C ops [] i bV bs st [] st
 |cons {D r i bV bs st x xs aj} (Z:cd st D.dst=true) (he:tf i D.after.toList=true) (hx:uk C ops st D x) (af:tx (k_ bs D.after.toList) x bV=true)
   (h:lJ C ops r (i+1) ((i,x)::bV) ((i,k_ bs D.after.toList)::bs) (st.cM D.dst x.v x.us) xs aj):lJ C ops (D::r) i bV bs st (x::xs) aj
theorem abZ{R:Type}{g:Bool}{v:aP}{K:aP->Option R}{r:R}(h:Is g v K=some r):K v=some r:=by
 unfold Is at h;cases g with
 |false=>exact h
 |true=>
  simp only[cond_true] at h;split at h
  ·rename_i b;cases b<;>exact h
  ·exact h
theorem _p{R:Type}{C:Ctx}{g:Bool}{st:ai}{D:Oper}{K:Rec->Option R}{r:R}(h:Ht C ops g st D K=some r):∃x,uk C ops st D x/\K x=some r:=by
 have run:∀gs,AL C g st D gs K=some r->(∀j want,D.guard=some (j,want)->∃t,(ops[j]?).bind (·.dst)=some t/\t∈gs/\∃b,st.get t=one (.bool b)/\(b==want)=true)->∃x,uk C ops st D x/\K x=some r:=by
  intro gs h hg;unfold AL at h;obtain⟨y,al,h⟩:=Option.bind_eq_some_iff.1 h;cases hc:(step C st D).su y with
  |false=>simp[hc] at h
  |true=>
   simp only[hc,cond_true] at h;refine⟨_,⟨rfl,fun j want hj=>?_,fun _=>rfl,fun h=>(by cases h),fun _=>⟨y,al,hc,rfl,rfl,fun t aA=>List.mem_append.2 (.inr aA),fun _ h=>h,fun h=>h⟩⟩,abZ h⟩
   obtain⟨t,h1,h2,b,ab,aF⟩:=hg j want hj;exact⟨t,h1,List.mem_append.2 (.inl h2),.inl ⟨b,ab,aF.symm⟩⟩
 have skip:∀gs,Fi D gs K=some r->(∃j want,D.guard=some (j,want)/\∃t,(ops[j]?).bind (·.dst)=some t/\t∈gs/\((∃b,st.get t=one (.bool b)/\(b==want)=false)\/∃u,st.get t=bZ (.cL (.tuple u))))->∃x,uk C ops st D x/\K x=some r:=by
  intro gs h hg;obtain⟨j,want,hj,t,h1,h2,ab⟩:=hg;refine⟨_,⟨rfl,fun X_ ar5 iA=>?_,fun h=>(by rw[hj] at h;cases h),fun _=>⟨rfl,rfl⟩,fun h=>(by cases h)⟩,h⟩
  rw[hj] at iA;cases iA;refine⟨t,h1,h2,?_⟩;rcases ab with⟨b,ab,aF⟩|ab
  ·exact .inl ⟨b,ab,aF.symm⟩
  ·exact .inr ⟨ab,rfl⟩
 unfold Ht at h;split at h
 ·rename_i hg;exact run [] h fun j want hj=>by rw[hg] at hj;cases hj
 ·rename_i j want hg;split at h
  ·rename_i t aA;split at h
   ·rename_i b hb;cases b<;>cases want<;>simp only[cond_true,cond_false,Bool.not_true,Bool.not_false] at h
    ·exact run [t] h fun X_ w' iA=>by rw[hg] at iA;cases iA;exact⟨t,aA,List.mem_singleton.2 rfl,false,hb,rfl⟩
    ·exact skip [t] h ⟨j,true,hg,t,aA,List.mem_singleton.2 rfl,.inl ⟨false,hb,rfl⟩⟩
    ·exact skip [t] h ⟨j,false,hg,t,aA,List.mem_singleton.2 rfl,.inl ⟨true,hb,rfl⟩⟩
    ·exact run [t] h fun X_ w' iA=>by rw[hg] at iA;cases iA;exact⟨t,aA,List.mem_singleton.2 rfl,true,hb,rfl⟩
   ·rename_i u hu;exact skip [t] h ⟨j,want,hg,t,aA,List.mem_singleton.2 rfl,.inr ⟨u,hu⟩⟩
   ·cases h
  ·cases h
theorem aci{R:Type}{C:Ctx}{K:ai->Option R}{r:R}:∀{os:List Oper} {i:Nat} {bV:List (Nat×Rec)} {bs:List (Nat×Nat)} {st:ai},BA C ops os i bV bs st K=some r->∃xs aj,lJ C ops os i bV bs st xs aj/\K aj=some r:=by
 intro os;induction os with
 |nil=>intro i bV bs st h;exact⟨[],st,.nil,h⟩
 |cons D os ih=>
  intro i bV bs st h;simp only[BA] at h;cases Z:cd st D.dst&&tf i D.after.toList with
  |false=>simp[Z] at h
  |true=>
   simp only[Z,cond_true] at h;obtain⟨x,hx,h⟩:=_p h;cases af:tx (k_ bs D.after.toList) x bV with
   |false=>simp[af] at h
   |true=>
    simp only[af,cond_true] at h;obtain⟨xs,aj,h1,h2⟩:=ih h;simp only[Bool.and_eq_true] at Z;exact⟨x::xs,aj,.cons Z.1 Z.2 hx af h1,h2⟩
theorem lJ.length{C:Ctx}{os:List Oper}{i:Nat}{bV:List (Nat×Rec)}{bs:List (Nat×Nat)}{st aj:ai}{xs:List Rec}(h:lJ C ops os i bV bs st xs aj):xs.length=os.length:=by
 induction h with
 |nil=>rfl
 |cons _ _ _ _ _ ih=>simp[ih]
theorem lJ.akZ{C:Ctx}{os:List Oper}{i:Nat}{bV:List (Nat×Rec)}{bs:List (Nat×Nat)}{st aj:ai}{xs:List Rec}(h:lJ C ops os i bV bs st xs aj):∀k,ez (fun _=>true) k xs st=aj:=by
 induction h with
 |nil=>intro k;rfl
 |cons _ _ hx _ _ ih=>intro k;simp only[ez,cond_true,hx.hq];exact ih _
theorem lJ.at_{C:Ctx}{os:List Oper}{i:Nat}{bV:List (Nat×Rec)}{bs:List (Nat×Nat)}{st aj:ai}{xs:List Rec}(h:lJ C ops os i bV bs st xs aj):∀j x,xs[j]? =some x->
  ∃D,os[j]? =some D/\cd st D.dst=true/\tf (i+j) D.after.toList=true/\uk C ops (ez (fun k=>decide (k<j)) 0 xs st) D x:=by
 induction h with
 |nil=>intro j x h;cases h
 |@cons D r i bV bs st x xs aj Z he hx af h ih=>
  intro j y al;cases j with
  |zero=>
   simp only[List.getElem?_cons_zero,Option.some.injEq] at al;subst al;refine⟨D,rfl,Z,he,?_⟩;rw[D1 fun j _=>by simp[Nat.blt]]
   exact hx
  |succ j=>
   obtain⟨cX,h1,h2,ab,aF⟩:=ih j y (by simpa using al)
   refine⟨cX,by simpa using h1,?_,by rw[show i+(j+1)=i+1+j from by omega];exact ab,?_⟩
   ·revert h2;cases cX.dst<;>simp[cd,Hw]
   ·simp only[ez];have gi:decide (0<j+1)=true:=by simp
    rw[gi,cond_true,hx.hq];rw[Mj (L':=fun k=>decide (k<j)) (k':=0) fun m _=>by simp only[decide_eq_decide];omega]
    exact aF
theorem abS{n:Nat}{l:List Nat}:gd n l=true <-> n∈l:=by
 induction l with
 |nil=>simp[gd]
 |cons m l ih=>
  simp only[gd,Bool.or_eq_true,ih,List.mem_cons];constructor
  ·rintro(h|h)
   ·exact .inl (Nat.eq_of_beq_eq_true h)
   ·exact .inr h
  ·rintro(h|h)
   ·exact .inl (by rw[h];exact Nat.beq_refl m)
   ·exact .inr h
theorem _5{xZ:Nat}{x:Rec}:∀{bV:List (Nat×Rec)},tx xZ x bV=true->∀k y,(k,y)∈bV->Nat.testBit xZ k=true\/mU y x=false:=by
 intro bV;induction bV with
 |nil=>intro _ k y h;cases h
 |cons p bV ih=>
  obtain⟨j,z⟩:=p;intro h k y hm;simp only[tx,Bool.and_eq_true,Bool.or_eq_true] at h;rcases List.mem_cons.1 hm with hm|hm
  ·cases hm;rcases h.1 with h1|h1
   ·exact .inl h1
   ·exact .inr (by simpa using h1)
  ·exact ih h.2 k y hm
theorem lJ.anx{C:Ctx}{os:List Oper}{i:Nat}{bV:List (Nat×Rec)}{bs:List (Nat×Nat)}{st aj:ai}{xs:List Rec}(h:lJ C ops os i bV bs st xs aj):∀(pre:List Rec),pre.length=i->(∀j,ops[i+j]? =os[j]?)->
  (∀k y,pre[k]? =some y->(k,y)∈bV)->(∀k b,(k,b)∈bs->∀m,Nat.testBit b m=true->u6 ops m k)->∀j x,xs[j]? =some x->∀k y,k<i+j->(pre++xs)[k]? =some y->u6 ops k (i+j)\/mU y x=false:=by
 induction h with
 |nil=>intro pre _ _ _ _ j x h;cases h
 |@cons D r i bV bs st x xs aj Z he hx af h ih=>
  intro pre hlen Un Um UA j y al k z aox hz;have Uy:∀m,Nat.testBit (k_ bs D.after.toList) m=true->u6 ops m i:=fun m hm ay hc hf=>by
   refine aeb UA (i:=i) hm ay hc fun e he hb=>hf D ?_ e he hb
   have:=Un 0;simpa using this
  cases j with
  |zero=>
   simp only[List.getElem?_cons_zero,Option.some.injEq] at al;subst al;simp only[Nat.add_zero] at aox ⊢;rw[List.getElem?_append_left (by omega)] at hz
   rcases _5 af k z (Um k z hz) with h1|h1
   ·exact .inl (Uy k h1)
   ·exact .inr h1
  |succ j=>
   have:=ih (pre++[x]) (by simp[hlen]) (fun j=>by have:=Un (j+1);rw[show i+1+j=i+(j+1) from by omega];simpa using this)
    (fun k y al=>?_) (fun k b hm m WU=>?_) j y (by simpa using al) k z (by omega) (by simpa using hz)
   ·rw[show i+(j+1)=i+1+j from by omega];exact this
   ·rcases Nat.lt_or_ge k pre.length with ah|ah
    ·rw[List.getElem?_append_left ah] at al;exact List.mem_cons_of_mem _ (Um k y al)
    ·rw[List.getElem?_append_right ah] at al;have h0:k-pre.length=0:=by
      rcases Nat.eq_zero_or_pos (k-pre.length) with h0|h0
      ·exact h0
      ·rw[List.getElem?_eq_none (by simp;omega)] at al;cases al
     rw[h0] at al;simp only[List.getElem?_cons_zero,Option.some.injEq] at al;subst al;have:k=i:=by omega
     subst this;exact List.mem_cons_self
   ·rcases List.mem_cons.1 hm with hm|hm
    ·cases hm;exact Uy m WU
    ·exact UA k b hm m WU
end
section
variable {P:Program}{U:World}{O:List Nat}{X:Nat->Prop}{B:Nat->Value}{st aj:ai}{tm:Array Value}{w:World}
theorem ak.same(S:ak U O X B st tm w)(hv:∀l,dK st l=dK aj l)(hn:st.nt=aj.nt):ak U O X B aj tm w:=by
 have M:∀o,look st.sites o=look aj.sites o:=fun o=>by have:=hv (.inr o);simpa[dK,ai.Y] using this
 have hg:∀t,st.get t=aj.get t:=fun t=>by have:=hv (.inl t);simpa[dK] using this
 have hl:∀o,b2 st.sites o <-> b2 aj.sites o:=fun o=>by unfold b2;rw[M]
 have aT:au X B aj.sites=au X B st.sites:=by
  funext b
  unfold au;simp only[hl]
 have G:hd B B st.sites aj.sites w w (au X B st.sites) (au X B aj.sites):=by
  rw[aT];exact⟨fun o Y h=>⟨Y,by rw[<-M];exact h,Nat.le_refl _,fun _=>rfl⟩,fun _ _ _=>rfl,fun _ h _=>h⟩
 have a':∀b,au X B aj.sites b->b<w.heap.size:=fun b hb=>S.lt (by rw[<-aT];exact hb)
 refine⟨S.nt.trans hn,fun t=>?_,fun o Y h=>?_,fun o H b h1 h2=>S.dp o H b ((hl o).2 h1) ((hl H).2 h2),fun o b h=>S.cg o b ((hl o).2 h),S.frame,S.old,S.fk⟩
 ·rw[<-hg];exact(S.cU t).goes G (Nat.le_refl _) a'
 ·exact(S.sites o Y (by rw[M];exact h)).goes G (Nat.le_refl _) a' rfl (fun _ _ _=>rfl)
theorem ak.drawn(S:ak U O X B st tm w)(n:Nat):ak U O X B st tm {w with drawn:=n}:=by
 have G:hd B B st.sites st.sites w {w with drawn:=n} (au X B st.sites) (au X B st.sites):=
  ⟨fun o Y h=>⟨Y,h,Nat.le_refl _,fun _=>rfl⟩,fun _ _ _=>rfl,fun _ h _=>h⟩
 refine⟨S.nt,fun t=>(S.cU t).goes G (Nat.le_refl _) fun b hb=>S.lt hb,fun o Y h=>(S.sites o Y h).goes G (Nat.le_refl _) (fun b hb=>S.lt hb) rfl (fun _ _ _=>rfl),S.dp,S.cg,⟨S.frame.os,S.frame.tape,S.frame.output,S.frame.size,S.frame.block⟩,S.old,S.fk⟩
theorem YY{aK:Type}:∀{us:List (Nat×aK)} {o:Nat} {s:aK},oM us o=some s->o∈keys us:=by
 intro us;induction us with
 |nil=>intro o s h;cases h
 |cons p us ih=>
  obtain⟨k,v⟩:=p;intro o s h;simp only[oM] at h;split at h
  ·rename_i x hx;exact List.mem_cons_of_mem _ (ih hx)
  ·cases hb:k.beq o with
   |true=>rw[<-Nat.eq_of_beq_eq_true hb];exact List.mem_cons_self
   |false=>simp[hb] at h
theorem Ej{n:Nat}{l:List Nat}:gd n l=true <-> n∈l:=abS
theorem sZ{l m:List Nat}{n:Nat}(h1:n∈l)(h2:n∈m):e' l m=false:=by
 induction l with
 |nil=>cases h1
 |cons k l ih=>
  simp only[e'];rcases List.mem_cons.1 h1 with rfl|h1
  ·rw[Ej.2 h2];rfl
  ·rw[ih h1,Bool.and_false]
theorem MR{l:List Nat}{n:Nat}(h1:n∈l)(h2:1000000<=n):wl l=true:=by
 induction l with
 |nil=>cases h1
 |cons k l ih=>
  simp only[wl,Bool.or_eq_true];rcases List.mem_cons.1 h1 with rfl|h1
  ·exact .inl (Nat.ble_eq_true_of_le h2)
  ·exact .inr (ih h1)
def Rec.at_(x:Rec):pQ->Prop
 |.inl t=>t∈x.lD
 |.inr o=>o∈x.rn\/(x.C8=true/\1000000<=o)
theorem AP{x:Rec}{t:Nat}(h:x.wr (.inl t)≠none):x.D.dst=some t:=by
 simp only[Rec.wr] at h;split at h
 ·rename_i d Z;cases hb:d.beq t with
  |true=>rw[Z,Nat.eq_of_beq_eq_true hb]
  |false=>simp[hb] at h
 ·exact absurd rfl h
theorem AO{x:Rec}{o:Nat}(h:x.wr (.inr o)≠none):o∈keys x.us:=by
 simp only[Rec.wr] at h;cases hl:oM x.us o with
 |none=>simp[hl] at h
 |some s=>exact YY hl
theorem afv{a b:Rec}{l:pQ}(h1:a.wr l≠none)(h2:b.at_ l):mU a b=true:=by
 unfold mU;cases l with
 |inl t=>
  have:=AP h1;have h2:t∈b.lD:=h2;simp[this,uo,Ej.2 h2]
 |inr o=>
  have:=AO h1;rcases h2 with h2|⟨h2,ab⟩
  ·have:e' (keys a.us) (b.rn++keys b.us)=false:=sZ this (List.mem_append.2 (.inl h2));simp[this]
  ·have:=MR this ab;simp[this,h2]
theorem afw{a b:Rec}{l:pQ}(h1:a.at_ l)(h2:b.wr l≠none):mU a b=true:=by
 unfold mU;cases l with
 |inl t=>
  have:=AP h2;have h1:t∈a.lD:=h1;simp[this,uo,Ej.2 h1]
 |inr o=>
  have:=AO h2;rcases h1 with h2|⟨h2,ab⟩
  ·have:e' (keys b.us) a.rn=false:=sZ this h2;simp[this]
  ·have:=MR this ab;simp[this,h2]
theorem afu{a b:Rec}{l:pQ}(h1:a.wr l≠none)(h2:b.wr l≠none):mU a b=true:=by
 unfold mU;cases l with
 |inl t=>
  have e1:=AP h1;have e2:=AP h2;simp[e1,e2,uo,gd]
 |inr o=>
  have e1:=AO h1;have e2:=AO h2;have:e' (keys a.us) (b.rn++keys b.us)=false:=sZ e1 (List.mem_append.2 (.inr e2));simp[this]
variable {C:Ctx}{ops:Array Oper}{rn:Option Nat}{ds:List Deferred}
def pj(ay:Nat->Bool)(i:Nat):Nat->Bool:=fun j=>ay j||decide (j=i)
theorem ach(aG:bg P C){xs:List Rec}{bz:ai}{i:Nat}{D:Oper}{x:Rec}(hx:xs[i]? =some x)(Z:cd bz D.dst=true)(hr:uk C ops (ez (fun k=>decide (k<i)) 0 xs bz) D x)
  (mT:∀j y,xs[j]? =some y->∀k z,k<j->xs[k]? =some z->u6 ops k j\/mU z y=false) {ay:Nat->Bool} (hc:BH ops ay) (hi:ay i=false) (hf:Cw ops ay i) (aop:ops[i]? =some D)
  (S:ak U O X B (ez ay 0 xs bz) tm w) {Q:Exit->Act->World->Prop} {K:Act->World->Prop} (bO:∀aE b6 w',ak U O X aE (ez (pj ay i) 0 xs bz) b6 w'->(∀t,t∉D.dst.toList->b6.getD t undef=tm.getD t undef)->K ⟨b6,ds⟩ w'):wpOpIn (eO rn) 0 P ops Q i K ⟨tm,ds⟩ w:=by
 have Jz:∀l,x.at_ l->dK (ez (fun k=>decide (k<i)) 0 xs bz) l=dK (ez ay 0 xs bz) l:=fun l hl=>by
  refine(D0 rfl fun j y al hw=>?_).symm
  simp only[Nat.zero_add];rcases Nat.lt_trichotomy j i with h|h|h
  ·rcases mT i x hx j y h al with h1|h1
   ·rw[h1 ay hc hf];simp[h]
   ·rw[afv hw hl] at h1;cases h1
  ·subst h;rw[hi];simp
  ·have:ay j=false:=by
    cases so:ay j with
    |false=>rfl
    |true=>
     rcases mT j y al i x h hx with h1|h1
     ·have:=h1 ay hc (hc j so);rw[hi] at this;cases this
     ·rw[afw hl hw] at h1;cases h1
   rw[this];simp;omega
 have S2:∀t,t∈x.lD->(ez (fun k=>decide (k<i)) 0 xs bz).get t=(ez ay 0 xs bz).get t:=fun t aA=>by
  have:=Jz (.inl t) aA;simpa[dK] using this
 have BL:∀l,dK ((ez ay 0 xs bz).cM x.D.dst x.v x.us) l=dK (ez (pj ay i) 0 xs bz) l:=fun l=>by
  rw[y_];cases hw:x.wr l with
  |none=>
   simp only;refine D0 rfl fun j y al JT=>?_
   simp only[Nat.zero_add,pj];by_cases h:j=i
   ·subst h;rw[hx] at al;cases al;exact absurd hw JT
   ·simp[h]
  |some u=>
   simp only;refine(aaE hx (by simp[pj]) hw fun j y hij al JT=>?_).symm
   simp only[Nat.zero_add,pj];have:ay j=false:=by
    cases so:ay j with
    |false=>rfl
    |true=>
     rcases mT j y al i x hij hx with h1|h1
     ·have:=h1 ay hc (hc j so);rw[hi] at this;cases this
     ·rw[afu (by rw[hw];intro h;cases h) JT] at h1;cases h1
   rw[this];simp;omega
 have W6:cd (ez ay 0 xs bz) D.dst=true:=by revert Z;cases D.dst<;>simp[cd,Fl]
 have fin:∀aE b6 w',ak U O X aE ((ez ay 0 xs bz).cM x.D.dst x.v x.us) b6 w'->(∀t,t∉D.dst.toList->b6.getD t undef=tm.getD t undef)->K ⟨b6,ds⟩ w':=fun aE b6 w' b3=>bO aE b6 w' (b3.same BL (by rw[Hw,Fl,Fl]))
 unfold wpOpIn;rw[aop];simp only;have BN:Region.wanted D (yielded ops tm)=x.go:=by
  cases hg:D.guard with
  |none=>rw[hr.free hg];simp[Region.wanted,hg]
  |some KZ=>
   obtain⟨j,want⟩:=KZ;obtain⟨t,h1,h2,ab⟩:=hr.guard j want hg;rw[show Region.wanted D (yielded ops tm)=(yielded ops tm j==some want) by simp[Region.wanted,hg]]
   have jt:=S.cU t;rw[<-S2 t h2] at jt;rcases ab with⟨b,ab,aF⟩|⟨⟨u,ab⟩,aF⟩
   ·rw[ab] at jt;have hv:=jR jt;have al:yielded ops tm j=some b:=by
     have aA:t<tm.size:=by
      rcases Nat.lt_or_ge t tm.size with ah|ah
      ·exact ah
      ·simp[Array.getD,Nat.not_lt.2 ah,undef] at hv
     have:tm[t]? =some (.bool b):=by
      rw[Array.getElem?_eq_getElem aA];simpa[Array.getD,aA] using hv
     simp[yielded,h1,this]
    rw[al,aF];cases b<;>cases want<;>rfl
   ·rw[ab] at jt;have hv:tm.getD t undef=.tuple u:=jt;have al:yielded ops tm j=none:=by
     simp only[yielded,h1,Option.bind_some];cases aA:tm[t]? with
     |none=>rfl
     |some v=>
      have:tm.getD t undef=v:=by simp[Array.getD_eq_getD_getElem?,aA]
      rw[this] at hv;rw[hv]
    rw[al,aF];rfl
 cases uW:x.go with
 |false=>
  rw[uW] at BN;rw[if_neg (by rw[BN];decide)]
  obtain⟨e1,e2⟩:=hr.skip uW;refine⟨fun f _=>B1 rn f,yE (R:=ai) (r:=(ez ay 0 xs bz).cM D.dst AR []) S (K:=some) (by simp[tu,W6]) fun eh gx dE b_ h1 c'=>?_⟩
  cases h1;refine fin gx dE b_ ?_
  rw[hr.hq,e1,e2];exact c'
 |true=>
  rw[uW] at BN;rw[if_pos BN];obtain⟨y,g1,g2,g3,g4,g5,g6,g7⟩:=hr.run uW;have dr:step C (ez (fun k=>decide (k<i)) 0 xs bz) D=step C (ez ay 0 xs bz) D:=by
   refine _L (fun t aA=>S2 t (g5 t aA)) (fun o bn=>?_) fun aiH o bn=>?_
   ·have:=Jz (.inr o) (.inl (g6 o bn));simpa[dK] using this
   ·have:=Jz (.inr o) (.inr ⟨g7 aiH,bn⟩);simpa[dK] using this
  revert y
  rw[dr];intro y g1 g2 g3 g4;refine oH (R:=ai) (r:=(ez ay 0 xs bz).cM D.dst x.v x.us) S aG (K:=some) ?_ fun eh gx dE b_ h1 c'=>?_
  ·unfold k3;rw[W6,cond_true,g1];simp only[Option.bind_some,g2,cond_true,g3,g4]
  ·cases h1;refine fin gx dE b_ ?_
   rw[hr.hq];exact c'
def xe(listed:Array Bool):Nat:=listed.toList.count false
def g_(listed:Array Bool):Nat->Bool:=fun j=>listed.getD j false
theorem ael{listed:Array Bool}{i:Nat}(h:listed.getD i true=false):xe (listed.setIfInBounds i true)+1=xe listed:=by
 unfold xe;have a':i<listed.size:=by
  rcases Nat.lt_or_ge i listed.size with ah|ah
  ·exact ah
  ·simp[Array.getD,Nat.not_lt.2 ah] at h
 have hv:listed.toList[i]'(by simpa using a')=false:=by simpa[Array.getD,a'] using h
 rw[Array.toList_setIfInBounds,List.count_set (by simpa using a')]
 rw[hv];have:0<listed.toList.count false:=List.count_pos_iff.2 (by rw[<-hv];exact List.getElem_mem _)
 have e1:(if(false==false)=true then 1 else 0)=1:=rfl
 have e2:(if(true==false)=true then 1 else 0)=0:=rfl
 rw[e1,e2];omega
theorem NQ{D:Oper}{t:Nat}:∀{l:List Oper},D∈l->t∈D.dst.toList->t∈iN l:=by
 intro l;induction l with
 |nil=>intro h;cases h
 |cons p l ih=>
  intro h aA;simp only[iN,List.mem_append];rcases List.mem_cons.1 h with rfl|h
  ·exact .inl aA
  ·exact .inr (ih h aA)
theorem ad0(aG:bg P C){bz CE:ai}{xs:List Rec}(aZ:lJ C ops ops.toList 0 [] [] bz xs CE){Q:Exit->Act->World->Prop}{eR:Array Value}(Dk:∀B tm w,ak U O X B CE tm w->(∀t,t∉iN ops.toList->tm.getD t undef=eR.getD t undef)->Q .normal ⟨tm,ds⟩ w):
  ∀(qp:Nat) (listed:Array Bool) (B:Nat->Value) (tm:Array Value) (w:World),listed.size=ops.size->xe listed<=qp->BH ops (g_ listed)->ak U O X B (ez (g_ listed) 0 xs bz) tm w->
   (∀t,t∉iN ops.toList->tm.getD t undef=eR.getD t undef)->wpAnyIn (eO rn) 0 P .any ops Q qp listed ⟨tm,ds⟩ w:=by
 have hlen:xs.length=ops.size:=by rw[aZ.length];simp
 have mT:∀j y,xs[j]? =some y->∀k z,k<j->xs[k]? =some z->u6 ops k j\/mU z y=false:=fun j y al k z af hz=>by
  have:=aZ.anx [] rfl (fun j=>by simp) (fun k y h=>by simp at h) (fun k b h=>by simp at h) j y al k z (by omega) (by simpa using hz)
  simpa using this
 have all:∀listed:Array Bool,listed.size=ops.size->(∀j,j<ops.size->g_ listed j=true)->∀B tm w,ak U O X B (ez (g_ listed) 0 xs bz) tm w->(∀t,t∉iN ops.toList->tm.getD t undef=eR.getD t undef)->Q .normal ⟨tm,ds⟩ w:=fun listed M hl B tm w S aA=>by
  refine Dk B tm w ?_ aA;rw[<-aZ.akZ 0];rw[Mj (L':=g_ listed) (k':=0) fun j hj=>by simp only[Nat.zero_add];rw[hl j (by omega)]]
  exact S
 have done:∀listed:Array Bool,listed.size=ops.size->Region.ready .any ops listed=[]->∀j,j<ops.size->g_ listed j=true:=fun listed M hr j=>by
  induction j using Nat.strongRecOn with
  |_ j ih=>
   intro hj;cases so:g_ listed j with
   |true=>rfl
   |false=>
    exfalso
    have hx:xs[j]? =some (xs[j]'(by omega)):=List.getElem?_eq_getElem _
    obtain⟨D,h1,_,ab,_⟩:=aZ.at_ j _ hx;have h1:ops[j]? =some D:=by simpa using h1
    have hm:j∈Region.ready .any ops listed:=by
     rw[mem_ready];refine⟨?_,D,h1,fun e he hb=>?_⟩
     ·have a':j<listed.size:=by omega
      simpa[g_,Array.getD,a'] using so
     ·have:e.on<j:=by
       have kO:e∈D.after.toList:=by simpa using he
       clear he hr;revert ab
       simp only[Nat.zero_add];generalize D.after.toList=es at kO;induction es with
       |nil=>cases kO
       |cons bK es an0=>
        intro ab;simp only[tf,Bool.and_eq_true] at ab;rcases List.mem_cons.1 kO with rfl|kO
        ·rw[hb] at ab;simpa using ab.1
        ·exact an0 kO ab.2
      have:=ih e.on this (by omega)
      simpa[g_] using this
    rw[hr] at hm;cases hm
 intro qp;induction qp with
 |zero=>
  intro listed B tm w M hu hc S aA;have jz:∀j,j<ops.size->g_ listed j=true:=fun j hj=>by
   have h0:listed.toList.count false=0:=Nat.le_zero.1 hu;rw[List.count_eq_zero] at h0;cases so:g_ listed j with
   |true=>rfl
   |false=>
    exfalso
    have a':j<listed.size:=by omega
    apply h0;have:listed.toList[j]'(by simpa using a')=false:=by simpa[g_,Array.getD,a'] using so
    rw[<-this];exact List.getElem_mem _
  refine⟨?_,all listed M jz B tm w S aA⟩;rw[List.eq_nil_iff_forall_not_mem];intro j hj;rw[mem_ready] at hj;obtain⟨h1,D,h2,_⟩:=hj;have hj:j<ops.size:=(Array.getElem?_eq_some_iff.1 h2).1;have:=jz j hj;have a':j<listed.size:=by omega
  simp[g_,Array.getD,a'] at this h1;rw[h1] at this;cases this
 |succ qp ih=>
  intro listed B tm w M hu hc S aA;refine⟨fun hr=>all listed M (done listed M hr) B tm w S aA,fun i hi=>?_⟩
  have iU:=mem_ready.1 hi;obtain⟨h1,D,h2,ab⟩:=iU;have lw:i<ops.size:=(Array.getElem?_eq_some_iff.1 h2).1;have hx:xs[i]? =some (xs[i]'(by omega)):=List.getElem?_eq_getElem _
  obtain⟨cX,g1,g2,g3,g4⟩:=aZ.at_ i _ hx;have g1:ops[i]? =some cX:=by simpa using g1
  rw[h2] at g1;cases g1;have a':i<listed.size:=by omega
  have aoZ:g_ listed i=false:=by simpa[g_,Array.getD,a'] using h1
  have hf:Cw ops (g_ listed) i:=fun o2 ls e he hb=>by
   rw[h2] at ls;cases ls;have:=ab e (by simpa using he) hb
   simpa[g_] using this
  have rM:g_ (listed.setIfInBounds i true)=pj (g_ listed) i:=by
   funext j
   simp only[g_,pj];by_cases h:j=i
   ·subst h;simp[a']
   ·simp[h,Array.getElem?_setIfInBounds_ne (show i≠j from fun e=>h e.symm)]
  refine ach aG hx g2 g4 mT hc aoZ hf h2 S fun aE b6 w' b3 qv=>ih _ aE b6 w' (by simpa using M) (by have:=ael h1;omega) ?_ (by rw[rM];exact b3) fun t htn=>(qv t fun ah=>htn (NQ (l:=ops.toList) (by simpa using Array.mem_of_getElem? h2) ah)).trans (aA t htn)
  rw[rM];intro j hj o2 ls e he hb;simp only[pj,Bool.or_eq_true,decide_eq_true_eq] at hj;simp only[pj,Bool.or_eq_true,decide_eq_true_eq];rcases hj with hj|hj
  ·exact .inl (hc j hj o2 ls e he hb)
  ·subst hj;exact .inl (hf o2 ls e he hb)
theorem aca:∀l:List Nat,dJ st.sites (Bl st l):=by
 intro l;induction l with
 |nil=>exact .nil
 |cons t l ih=>
  refine dJ.append ?_ ih;unfold SF;split
  ·rename_i o s _;split
   ·rename_i ar t xs M;cases hb:ar.beq s with
    |false=>exact .nil
    |true=>
     intro H Y hm;simp only[cond_true,List.mem_singleton,Prod.mk.injEq] at hm;obtain⟨rfl,rfl⟩:=hm;exact⟨ar,t,xs,rfl,.inl M⟩
   ·exact .nil
  ·exact .nil
theorem aau(aG:bg P C)(hm:P.follows .mixedOrders=true){R:Type}{r:R}{K:ai->Option R}{id:Nat}{Q:Exit->Act->World->Prop}(S:ak U O X B st tm w)(h:P2 C ops st K=some r)
  (bO:∀aj aE b6 w',K aj=some r->ak U O X aE aj b6 w'->(∀t,t∉iN ops.toList->b6.getD t undef=tm.getD t undef)->Q .normal ⟨b6,ds⟩ w'):gD rn P (Code.region id ops true) Q ⟨tm,ds⟩ w:=by
 obtain⟨xs,CE,aZ,af⟩:=aci h;have S:ak U O X B (st.iu (Bl st (EW ops.toList ops.toList))) tm w:=by rw[ai.vK];exact S.AI (aca _)
 refine wpIn_region_any hm (ad0 aG aZ (fun B tm w S=>bO CE B tm w af S) _ _ B tm _ (by simp) ?_ ?_ ?_ (fun _ _=>rfl))
 ·unfold xe;simp
 ·intro j hj;simp only[g_] at hj;exfalso
  rw[Array.getD_eq_getD_getElem?,Array.getElem?_replicate] at hj;split at hj<;>cases hj
 ·rw[D1 fun j _=>by
   simp only[g_];rw[Array.getD_eq_getD_getElem?,Array.getElem?_replicate];split<;>rfl]
  exact S.drawn _
end
end Go.Jk
